import PyProof.Rows.All
import Wide.All
import OpenK.AllK
import Wide.FinOn
import HandS.ForMost
import HandS.ForExc
import HandS.IsInst
import HandS.Style
import HandS.Flow
import HandS.Wide
import HandS.Walk
import HandS.Defaults
import HandS.ExcInit
import HandS.EndBits
import HandS.Nested
import KE.KExcSuper
import HandS.ExcIs
import HandS.ExcField
import KE.KExcIs
import PySem.Challenge.RW_fourstones_k00_errors_keep_their_fields
set_option Elab.async false
set_option linter.all false
set_option maxRecDepth 100000
set_option maxHeartbeats 4000000
/-! Mini: mirrors of Python functions over abstract values, and what ties them to the text. -/
namespace Mi
open PySem PySem.Spec PyProof.Rows L2

/-- values; tuples, and lists and dicts that nobody changes, by what they hold; ref n: the n-th object of the memory -/
inductive Wv where
  | non | bl (b : Bool) | int (i : Int) | str (s : Str) | ty (n : String) | adr (a : Addr)
  | tup (xs : List Wv) | lst (xs : List Wv) | rdl (xs : List Wv) | dct (ks : List Key) (xs : List Wv) | dtt (ks : List (List Key)) (xs : List Wv)
  | ins (C : Str) (ns : List Str) (xs : List Wv) | exc (C : Str) (ns : List Str) (xs : List Wv) | ref (n : Nat)
/-- objects that change -/
inductive Ob where
  | lst (xs : List Wv)
  | ins (C : Str) (ns : List Str) (xs : List Wv)
abbrev Mem := List Ob
structure Xc where
  cls : Str
  fs : List (Str × Wv)
inductive R (α : Type) where
  | ok (a : α) (M : Mem) | exc (x : Xc) (M : Mem) | no
def R.bind {α β : Type} (r : R α) (k : α → Mem → R β) : R β := match r with
  | .ok a M => k a M
  | .exc x M => .exc x M
  | .no => .no
abbrev Ev := List (Option Wv)
abbrev Me := Ev → Mem → R Wv
abbrev Ma := Ev → Mem → R (List Wv)
abbrev Mt := Ev → Mem → R Bool

/-- the addresses of the memory's objects; those that are being made and belong to none -/
structure Rn where
  l : List Addr
  f : List Addr
def Rn.no (ρ : Rn) (a : Addr) : Prop := a ∉ ρ.l ∧ a ∉ ρ.f
def Rn.add (ρ : Rn) (p : Addr) : Rn := ⟨ρ.l ++ [p], ρ.f⟩
/-- the class of a name -/
def clsNm (c : Str) : Obj → Bool
  | ⟨_, _, .cls cd, _⟩ => cd.name == c
  | _ => false
def clsAt (K : PySem.W.Frag) (c : Str) : Option Addr := (K.find? fun p => clsNm c p.2).map (·.1)
/-- at a: an exception of the class at D, its dict at d, whatever else its object holds -/
def exg (a D d : Addr) : HO := .ext fun h => ∃ (o : Obj) (vs : Array Value), h.get? a = some o ∧ o.cls = .ref D ∧ o.dict = some d ∧ o.data = .fields vs
def KT (K : PySem.W.Frag) (a : Addr) (xs : List V) : Prop := ∃ (o : Obj) (its : Array Value) (n : Nat), K.lookup a = some o ∧ o.cls = .type "tuple" ∧ o.data = .seq its n ∧ its.size ≤ sizeLine ∧ Vals xs its.toList
def KL (K : PySem.W.Frag) (a : Addr) (xs : List V) : Prop := ∃ (o : Obj) (its : Array Value) (n : Nat), K.lookup a = some o ∧ o.cls = .type "list" ∧ o.dict = none ∧ o.data = .seq its n ∧ its.size ≤ sizeLine ∧ Vals xs its.toList
mutual
def RV (K : PySem.W.Frag) (ρ : Rn) (H : Hp) : Wv → V → Prop
  | .non, v => v = .non
  | .bl b, v => v = .bl b
  | .int i, v => v = .int i
  | .str s, v => v = .str s
  | .ty n, v => v = .ty n
  | .adr a, v => v = .ref a
  | .tup xs, v => ∃ a vs, v = .ref a ∧ ((H a = some (.tup vs) ∧ ρ.no a) ∨ KT K a vs) ∧ RVs K ρ H xs vs
  | .lst xs, v => ∃ a vs, v = .ref a ∧ (H a = some (.lst vs) ∧ ρ.no a) ∧ RVs K ρ H xs vs
  | .rdl xs, v => ∃ a vs, v = .ref a ∧ ((Rd H a (.lst vs) ∧ ρ.no a) ∨ KL K a vs) ∧ RVs K ρ H xs vs
  | .dct ks xs, v => ∃ a kvs, v = .ref a ∧ (H a = some (.dK kvs) ∧ ρ.no a) ∧ kvs.map (·.1) = ks ∧ RVs K ρ H xs (kvs.map (·.2))
  | .dtt ks xs, v => ∃ a kvs, v = .ref a ∧ (H a = some (.dT kvs) ∧ ρ.no a) ∧ kvs.map (·.1) = ks ∧ RVs K ρ H xs (kvs.map (·.2))
  | .ins C ns xs, v => ∃ D a dx fs, clsAt K C = some D ∧ v = .ref a ∧ (H a = some (.ins D dx fs) ∧ ρ.no a) ∧ fs.map (·.1) = ns ∧ RVs K ρ H xs (fs.map (·.2))
  | .exc C ns xs, v => ∃ D a d fs, clsAt K C = some D ∧ v = .ref a ∧ (H a = some (exg a D d) ∧ ρ.no a) ∧ (H d = some (.xd fs) ∧ ρ.no d) ∧ fs.map (·.1) = ns ∧ RVs K ρ H xs (fs.map (·.2))
  | .ref n, v => ∃ a, v = .ref a ∧ ρ.l[n]? = some a
def RVs (K : PySem.W.Frag) (ρ : Rn) (H : Hp) : List Wv → List V → Prop
  | [], vs => vs = []
  | x :: xs, vs => ∃ v vr, vs = v :: vr ∧ RV K ρ H x v ∧ RVs K ρ H xs vr
end

structure Gr (ρ : Rn) (H : Hp) (ρ' : Rn) (H' : Hp) : Prop where
  pre : ∃ t, ρ'.l = ρ.l ++ t
  same : ρ'.f = ρ.f
  keep : ∀ a o, a ∉ ρ.l → H a = some o → H' a = some o
  new : ∀ a, a ∈ ρ'.l → a ∈ ρ.l ∨ H a = none
theorem Gr.refl (ρ : Rn) (H : Hp) : Gr ρ H ρ H := ⟨⟨[], by simp⟩, rfl, fun _ _ _ h => h, fun _ h => .inl h⟩
theorem Gr.outl {ρ ρ' : Rn} {H H' : Hp} (g : Gr ρ H ρ' H') {a : Addr} {o : HO} (h : a ∉ ρ.l) (e : H a = some o) : a ∉ ρ'.l := fun z => by
  rcases g.new a z with q | q
  · exact h q
  · rw [e] at q; cases q
theorem Gr.out {ρ ρ' : Rn} {H H' : Hp} (g : Gr ρ H ρ' H') {a : Addr} {o : HO} (h : ρ.no a) (e : H a = some o) : ρ'.no a := ⟨g.outl h.1 e, by rw [g.same]; exact h.2⟩
theorem Gr.trans {ρ ρ1 ρ2 : Rn} {H H1 H2 : Hp} (a : Gr ρ H ρ1 H1) (b : Gr ρ1 H1 ρ2 H2) : Gr ρ H ρ2 H2 := by
  refine ⟨?_, b.same.trans a.same, fun x o h e => b.keep x o (a.outl h e) (a.keep x o h e), fun x h => ?_⟩
  · obtain ⟨t, e1⟩ := a.pre
    obtain ⟨u, e2⟩ := b.pre
    exact ⟨t ++ u, by rw [e2, e1, List.append_assoc]⟩
  · rcases b.new x h with q | q
    · exact a.new x q
    · by_cases hx : x ∈ ρ.l
      · exact .inl hx
      · refine .inr ?_
        cases e : H x with
        | none => rfl
        | some o => rw [a.keep x o hx e] at q; cases q
theorem Gr.ix {ρ ρ' : Rn} {H H' : Hp} (g : Gr ρ H ρ' H') {n : Nat} {a : Addr} (h : ρ.l[n]? = some a) : ρ'.l[n]? = some a := by
  obtain ⟨t, e⟩ := g.pre
  rw [e, List.getElem?_append_left (List.getElem?_eq_some_iff.mp h).1]
  exact h
theorem Gr.rd {ρ ρ' : Rn} {H H' : Hp} (g : Gr ρ H ρ' H') {a : Addr} {u : HO} (h : Rd H a u ∧ ρ.no a) : Rd H' a u ∧ ρ'.no a := by
  obtain ⟨h | ⟨o, h⟩, n⟩ := h
  · exact ⟨.inl (g.keep _ _ n.1 h), g.out n h⟩
  · exact ⟨.inr ⟨o, g.keep _ _ n.1 h⟩, g.out n h⟩
theorem Gr.at {ρ ρ' : Rn} {H H' : Hp} (g : Gr ρ H ρ' H') {a : Addr} {u : HO} (h : H a = some u ∧ ρ.no a) : H' a = some u ∧ ρ'.no a := ⟨g.keep _ _ h.2.1 h.1, g.out h.2 h.1⟩
/-- a new object, not of the memory -/
theorem Gr.fresh {ρ : Rn} {H : Hp} {p : Addr} {o : HO} (h : H p = none) : Gr ρ H ρ (upd H p o) :=
  ⟨⟨[], by simp⟩, rfl, fun a u _ e => by rw [upd_ne (ne_of_none e h)]; exact e, fun _ h => .inl h⟩

/-- what is known of values stands -/
structure Mv (ρ : Rn) (H : Hp) (ρ' : Rn) (H' : Hp) : Prop where
  go : ∀ a u, H a = some u ∧ ρ.no a → H' a = some u ∧ ρ'.no a
  ix : ∀ (n : Nat) (a : Addr), ρ.l[n]? = some a → ρ'.l[n]? = some a
theorem Gr.mv {ρ ρ' : Rn} {H H' : Hp} (g : Gr ρ H ρ' H') : Mv ρ H ρ' H' := ⟨fun _ _ h => g.at h, fun _ _ h => g.ix h⟩
theorem Mv.refl {ρ : Rn} {H : Hp} : Mv ρ H ρ H := ⟨fun _ _ h => h, fun _ _ h => h⟩
theorem Mv.trans {ρ ρ1 ρ2 : Rn} {H H1 H2 : Hp} (a : Mv ρ H ρ1 H1) (b : Mv ρ1 H1 ρ2 H2) : Mv ρ H ρ2 H2 := ⟨fun x u h => b.go x u (a.go x u h), fun n x h => b.ix n x (a.ix n x h)⟩
theorem Mv.rd {ρ ρ' : Rn} {H H' : Hp} (g : Mv ρ H ρ' H') {a : Addr} {u : HO} (h : Rd H a u ∧ ρ.no a) : Rd H' a u ∧ ρ'.no a := by
  obtain ⟨h | ⟨o, h⟩, n⟩ := h
  · exact (g.go _ _ ⟨h, n⟩).imp .inl id
  · exact (g.go _ _ ⟨h, n⟩).imp (fun z => .inr ⟨o, z⟩) id
section
variable {K : PySem.W.Frag} {ρ ρ' : Rn} {H H' : Hp}
mutual
theorem RV.move (g : Mv ρ H ρ' H') : ∀ (w : Wv) {v : V}, RV K ρ H w v → RV K ρ' H' w v
  | .non, _, h => h
  | .bl _, _, h => h
  | .int _, _, h => h
  | .str _, _, h => h
  | .ty _, _, h => h
  | .adr _, _, h => h
  | .tup xs, _, ⟨a, vs, e, h, r⟩ => ⟨a, vs, e, h.imp (g.go _ _) id, RVs.move g xs r⟩
  | .lst xs, _, ⟨a, vs, e, h, r⟩ => ⟨a, vs, e, g.go _ _ h, RVs.move g xs r⟩
  | .rdl xs, _, ⟨a, vs, e, h, r⟩ => ⟨a, vs, e, h.imp g.rd id, RVs.move g xs r⟩
  | .dct ks xs, _, ⟨a, kvs, e, h, ek, r⟩ => ⟨a, kvs, e, g.go _ _ h, ek, RVs.move g xs r⟩
  | .dtt ks xs, _, ⟨a, kvs, e, h, ek, r⟩ => ⟨a, kvs, e, g.go _ _ h, ek, RVs.move g xs r⟩
  | .ins C ks xs, _, ⟨D, a, dx, kvs, c, e, h, ek, r⟩ => ⟨D, a, dx, kvs, c, e, g.go _ _ h, ek, RVs.move g xs r⟩
  | .exc C ks xs, _, ⟨D, a, d, kvs, c, e, h, h2, ek, r⟩ => ⟨D, a, d, kvs, c, e, g.go _ _ h, g.go _ _ h2, ek, RVs.move g xs r⟩
  | .ref n, _, ⟨a, e, h⟩ => ⟨a, e, g.ix _ _ h⟩
theorem RVs.move (g : Mv ρ H ρ' H') : ∀ (ws : List Wv) {vs : List V}, RVs K ρ H ws vs → RVs K ρ' H' ws vs
  | [], _, h => h
  | x :: xs, _, ⟨v, vr, e, h, r⟩ => ⟨v, vr, e, RV.move g x h, RVs.move g xs r⟩
end
theorem RV.mono (g : Gr ρ H ρ' H') (w : Wv) {v : V} (h : RV K ρ H w v) : RV K ρ' H' w v := RV.move g.mv w h
theorem RVs.mono (g : Gr ρ H ρ' H') (ws : List Wv) {vs : List V} (h : RVs K ρ H ws vs) : RVs K ρ' H' ws vs := RVs.move g.mv ws h
theorem RVs.length : ∀ {ws : List Wv} {vs : List V}, RVs K ρ H ws vs → ws.length = vs.length
  | [], _, h => by cases h; rfl
  | x :: xs, _, ⟨v, vr, e, h, r⟩ => by subst e; simp [RVs.length r]
theorem RVs.get : ∀ {ws : List Wv} {vs : List V} {i : Nat} {w : Wv}, RVs K ρ H ws vs → ws[i]? = some w → ∃ v, vs[i]? = some v ∧ RV K ρ H w v
  | [], _, _, _, _, h => by simp at h
  | x :: xs, _, 0, w, ⟨v, vr, e, h, r⟩, q => by subst e; simp at q; subst q; exact ⟨v, rfl, h⟩
  | x :: xs, _, i + 1, w, ⟨v, vr, e, h, r⟩, q => by
    subst e
    obtain ⟨u, h1, h2⟩ := RVs.get (i := i) r (by simpa using q)
    exact ⟨u, by simpa using h1, h2⟩
theorem RVs.set : ∀ {ws : List Wv} {vs : List V} {i : Nat} {w : Wv} {v : V}, RVs K ρ H ws vs → RV K ρ H w v → RVs K ρ H (ws.set i w) (vs.set i v)
  | [], _, _, _, _, h, _ => by cases h; exact rfl
  | x :: xs, _, 0, w, u, ⟨v, vr, e, h, r⟩, q => by subst e; exact ⟨u, vr, rfl, q, r⟩
  | x :: xs, _, i + 1, w, u, ⟨v, vr, e, h, r⟩, q => by subst e; exact ⟨v, vr.set i u, rfl, h, RVs.set r q⟩
theorem RVs.append : ∀ {ws us : List Wv} {vs zs : List V}, RVs K ρ H ws vs → RVs K ρ H us zs → RVs K ρ H (ws ++ us) (vs ++ zs)
  | [], _, _, _, h, q => by cases h; exact q
  | x :: xs, us, _, zs, ⟨v, vr, e, h, r⟩, q => by subst e; exact ⟨v, vr ++ zs, rfl, h, RVs.append r q⟩
theorem RVs.take : ∀ (n : Nat) {ws : List Wv} {vs : List V}, RVs K ρ H ws vs → RVs K ρ H (ws.take n) (vs.take n)
  | 0, _, _, _ => rfl
  | n + 1, [], _, h => by cases h; exact rfl
  | n + 1, x :: xs, _, ⟨v, vr, e, h, r⟩ => by subst e; exact ⟨v, vr.take n, rfl, h, RVs.take n r⟩
theorem RVs.drop : ∀ (n : Nat) {ws : List Wv} {vs : List V}, RVs K ρ H ws vs → RVs K ρ H (ws.drop n) (vs.drop n)
  | 0, _, _, h => h
  | n + 1, [], _, h => by cases h; exact rfl
  | n + 1, x :: xs, _, ⟨v, vr, e, h, r⟩ => by subst e; exact RVs.drop n r
end

def RO (K : PySem.W.Frag) (ρ : Rn) (H : Hp) (a : Addr) : Ob → Prop
  | .lst ws => ∃ vs, H a = some (.lst vs) ∧ RVs K ρ H ws vs
  | .ins C ns xs => ∃ D dx fs, clsAt K C = some D ∧ H a = some (.ins D dx fs) ∧ fs.map (·.1) = ns ∧ RVs K ρ H xs (fs.map (·.2))
structure Rl (K : PySem.W.Frag) (ρ : Rn) (M : Mem) (H : Hp) : Prop where
  nd : ρ.l.Nodup
  len : ρ.l.length = M.length
  ob : ∀ (n : Nat) (o : Ob), M[n]? = some o → ∃ a, ρ.l[n]? = some a ∧ RO K ρ H a o
  fs : ∀ a, a ∈ ρ.f → a ∉ ρ.l ∧ ∃ u, H a = some u
def RE (K : PySem.W.Frag) (ρ : Rn) (H : Hp) (env : Ev) (σ : L2.St) : Prop :=
  env.length = σ.length ∧ ∀ (i : Nat) (w : Wv), env[i]? = some (some w) → ∃ v, σ[i]? = some (some v) ∧ RV K ρ H w v
theorem RE.move {K : PySem.W.Frag} {ρ ρ' : Rn} {H H' : Hp} {env : Ev} {σ : L2.St} (g : Mv ρ H ρ' H') (r : RE K ρ H env σ) : RE K ρ' H' env σ :=
  ⟨r.1, fun i w e => let ⟨v, h1, h2⟩ := r.2 i w e; ⟨v, h1, RV.move g w h2⟩⟩
theorem RE.mono {K : PySem.W.Frag} {ρ ρ' : Rn} {H H' : Hp} {env : Ev} {σ : L2.St} (g : Gr ρ H ρ' H') (r : RE K ρ H env σ) : RE K ρ' H' env σ :=
  ⟨r.1, fun i w e => let ⟨v, h1, h2⟩ := r.2 i w e; ⟨v, h1, RV.mono g w h2⟩⟩
theorem RE.set {K : PySem.W.Frag} {ρ : Rn} {H : Hp} {env : Ev} {σ : L2.St} (r : RE K ρ H env σ) {j : Nat} {w : Wv} {v : V} (h : RV K ρ H w v) : RE K ρ H (env.set j (some w)) (σ.set j (some v)) := by
  refine ⟨by rw [List.length_set, List.length_set]; exact r.1, fun i u e => ?_⟩
  by_cases hj : j = i
  · subst hj
    have hlt : j < env.length := by
      have := (List.getElem?_eq_some_iff.mp e).1
      simpa using this
    rw [List.getElem?_set_self hlt] at e
    cases e
    exact ⟨v, by rw [List.getElem?_set_self (by rw [← r.1]; exact hlt)], h⟩
  · rw [List.getElem?_set_ne hj] at e ⊢
    exact r.2 i u e

/-- fields -/
def RF (K : PySem.W.Frag) (ρ : Rn) (H : Hp) (fs : List (Str × Wv)) (vs : List (Str × V)) : Prop := vs.map (·.1) = fs.map (·.1) ∧ RVs K ρ H (fs.map (·.2)) (vs.map (·.2))
def Fin {α : Type} (K : PySem.W.Frag) (ρ : Rn) (H : Hp) (P : α → Mem → Rn → Hp → Prop) (E : XK) : R α → Prop
  | .ok a M' => ∀ ρ' H', Gr ρ H ρ' H' → Rl K ρ' M' H' → P a M' ρ' H'
  | .exc x M' => ∀ D ρ' H' d vs, clsAt K x.cls = some D → Gr ρ H ρ' H' → Rl K ρ' M' H' → H' d = some (.xd vs) → ρ'.no d → RF K ρ' H' x.fs vs → E (.ref D) (some d) H'
  | .no => False
section
variable {α β : Type} {K : PySem.W.Frag} {ρ ρ1 : Rn} {H H1 : Hp} {P P' : α → Mem → Rn → Hp → Prop} {E : XK} {r : R α}
theorem Fin.from (g : Gr ρ H ρ1 H1) (h : Fin K ρ H P E r) : Fin K ρ1 H1 P E r := by
  cases r with
  | ok a M => exact fun ρ' H' g' rl => h ρ' H' (g.trans g') rl
  | exc x M => exact fun D ρ' H' d vs c g' => h D ρ' H' d vs c (g.trans g')
  | no => exact h
theorem Fin.imp (h : Fin K ρ H P E r) (k : ∀ a M ρ' H', Gr ρ H ρ' H' → Rl K ρ' M H' → P a M ρ' H' → P' a M ρ' H') : Fin K ρ H P' E r := by
  cases r with
  | ok a M => exact fun ρ' H' g rl => k a M ρ' H' g rl (h ρ' H' g rl)
  | exc x M => exact h
  | no => exact h
theorem Fin.bind {Pb : β → Mem → Rn → Hp → Prop} {k : α → Mem → R β} (h : Fin K ρ H Pb E (r.bind k)) : Fin K ρ H (fun a M ρ' H' => Fin K ρ' H' Pb E (k a M)) E r := by
  cases r with
  | ok a M => exact fun ρ' H' g rl => Fin.from g h
  | exc x M => exact h
  | no => exact h
theorem Fin.here {a : α} {M : Mem} (h : Fin K ρ H P E (.ok a M)) (rl : Rl K ρ M H) : P a M ρ H := h ρ H (Gr.refl ρ H) rl
end
/-- a value comes -/
def PV (K : PySem.W.Frag) (Q : VK) : Wv → Mem → Rn → Hp → Prop := fun w _ ρ H => ∀ v, RV K ρ H w v → Q v H
def PB (Q : Bool → Hp → Prop) : Bool → Mem → Rn → Hp → Prop := fun b _ _ H => Q b H
def PVs (K : PySem.W.Frag) (Q : List V → Hp → Prop) : List Wv → Mem → Rn → Hp → Prop := fun ws _ ρ H => ∀ vs, RVs K ρ H ws vs → Q vs H
/-- the readings by a mirror -/
def te (K : PySem.W.Frag) (E : XK) (m : Me) : TE := fun σ H Q => ∃ ρ M env, Rl K ρ M H ∧ RE K ρ H env σ ∧ Fin K ρ H (PV K Q) E (m env M)
def ta (K : PySem.W.Frag) (E : XK) (m : Ma) : TA := fun σ H Q => ∃ ρ M env, Rl K ρ M H ∧ RE K ρ H env σ ∧ Fin K ρ H (PVs K Q) E (m env M)
def tt (K : PySem.W.Frag) (E : XK) (m : Mt) : TT := fun σ H Q => ∃ ρ M env, Rl K ρ M H ∧ RE K ρ H env σ ∧ Fin K ρ H (PB Q) E (m env M)
/-- a wish on a pair of values, with the memory -/
def r2 (K : PySem.W.Frag) (E : XK) (f : Wv → Wv → Mem → R Wv) : R2 := fun x y H Q => ∃ ρ M wx wy, Rl K ρ M H ∧ RV K ρ H wx x ∧ RV K ρ H wy y ∧ Fin K ρ H (PV K Q) E (f wx wy M)
def r1 (K : PySem.W.Frag) (E : XK) (f : Wv → Mem → R Wv) : V → Hp → VK → Prop := fun x H Q => ∃ ρ M wx, Rl K ρ M H ∧ RV K ρ H wx x ∧ Fin K ρ H (PV K Q) E (f wx M)
def rc (K : PySem.W.Frag) (E : XK) (f : List Wv → Mem → R Wv) : List V → Hp → VK → Prop := fun xs H Q => ∃ ρ M ws, Rl K ρ M H ∧ RVs K ρ H ws xs ∧ Fin K ρ H (PV K Q) E (f ws M)

theorem PE.imp {X : Cx} {e : Expr} {t t' : TE} (h : PE X e t) (k : ∀ σ H Q, t' σ H Q → t σ H Q) : PE X e t' := ⟨fun pins s σ H Q I q => h.run pins s σ H Q I (k σ H Q q)⟩
theorem PT.imp {X : Cx} {e : Expr} {t t' : TT} (h : PT X e t) (k : ∀ σ H Q, t' σ H Q → t σ H Q) : PT X e t' := ⟨fun pins s σ H Q I q => h.run pins s σ H Q I (k σ H Q q)⟩
theorem PW.imp {X : Cx} {e : Expr} {t t' : TT} (h : PW X e t) (k : ∀ σ H Q, t' σ H Q → t σ H Q) : PW X e t' := ⟨fun wh pins s σ H Q I q => h.run wh pins s σ H Q I (k σ H Q q)⟩
theorem PA.imp {X : Cx} {e : List Expr} {t t' : TA} (h : PA X e t) (k : ∀ σ H Q, t' σ H Q → t σ H Q) : PA X e t' := ⟨fun pos pins s σ H Q I q => h.run pos pins s σ H Q I (k σ H Q q)⟩
theorem PS.imp {X : Cx} {e : Stmt} {t t' : TS} (h : PS X e t) (k : ∀ D σ H, t' D σ H → t D σ H) : PS X e t' := ⟨fun pins s σ H D I q => h.run pins s σ H D I (k D σ H q)⟩
theorem PSs.imp {X : Cx} {e : List Stmt} {t t' : TS} (h : PSs X e t) (k : ∀ D σ H, t' D σ H → t D σ H) : PSs X e t' := ⟨fun pins s σ H D I q => h.run pins s σ H D I (k D σ H q)⟩

/-! ### composition -/
section
variable {K : PySem.W.Frag} {E : XK} {σ : L2.St} {H : Hp}
/-- one value, then what follows -/
theorem te_then {m : Me} {β : Type} {k : Wv → Mem → R β} {P : β → Mem → Rn → Hp → Prop} {ρ : Rn} {M : Mem} {env : Ev} (rl : Rl K ρ M H) (re : RE K ρ H env σ) (h : Fin K ρ H P E ((m env M).bind k)) {Q : VK}
    (q : ∀ w M1 ρ1 H1 v, Gr ρ H ρ1 H1 → Rl K ρ1 M1 H1 → RE K ρ1 H1 env σ → RV K ρ1 H1 w v → Fin K ρ1 H1 P E (k w M1) → Q v H1) : te K E m σ H Q :=
  ⟨ρ, M, env, rl, re, h.bind.imp fun w M1 ρ1 H1 g rl1 f v rv => q w M1 ρ1 H1 v g rl1 (re.mono g) rv f⟩
theorem ta_then {m : Ma} {β : Type} {k : List Wv → Mem → R β} {P : β → Mem → Rn → Hp → Prop} {ρ : Rn} {M : Mem} {env : Ev} (rl : Rl K ρ M H) (re : RE K ρ H env σ) (h : Fin K ρ H P E ((m env M).bind k)) {Q : List V → Hp → Prop}
    (q : ∀ ws M1 ρ1 H1 vs, Gr ρ H ρ1 H1 → Rl K ρ1 M1 H1 → RE K ρ1 H1 env σ → RVs K ρ1 H1 ws vs → Fin K ρ1 H1 P E (k ws M1) → Q vs H1) : ta K E m σ H Q :=
  ⟨ρ, M, env, rl, re, h.bind.imp fun w M1 ρ1 H1 g rl1 f v rv => q w M1 ρ1 H1 v g rl1 (re.mono g) rv f⟩
theorem tt_then {m : Mt} {β : Type} {k : Bool → Mem → R β} {P : β → Mem → Rn → Hp → Prop} {ρ : Rn} {M : Mem} {env : Ev} (rl : Rl K ρ M H) (re : RE K ρ H env σ) (h : Fin K ρ H P E ((m env M).bind k)) {Q : Bool → Hp → Prop}
    (q : ∀ b M1 ρ1 H1, Gr ρ H ρ1 H1 → Rl K ρ1 M1 H1 → RE K ρ1 H1 env σ → Fin K ρ1 H1 P E (k b M1) → Q b H1) : tt K E m σ H Q :=
  ⟨ρ, M, env, rl, re, h.bind.imp fun w M1 ρ1 H1 g rl1 f => q w M1 ρ1 H1 g rl1 (re.mono g) f⟩
end

/-! ### names, constants -/
def mVar (i : Nat) : Me := fun env M => match env[i]? with
  | some (some w) => .ok w M
  | _ => .no
def mC (w : Wv) : Me := fun _ M => .ok w M
section
variable {X : Cx} {E : XK}
theorem e_var {i : Nat} {e : Expr} (h : PE X e (tVar i)) : PE X e (te X.K E (mVar i)) := PE.imp h fun σ H Q ⟨ρ, M, env, rl, re, f⟩ => by
  unfold mVar at f
  cases q : env[i]? with
  | none => rw [q] at f; exact f.elim
  | some o =>
    cases o with
    | none => rw [q] at f; exact f.elim
    | some w =>
      rw [q] at f
      obtain ⟨v, h1, h2⟩ := re.2 i w q
      exact ⟨v, h1, f.here rl v h2⟩
theorem e_const {e : Expr} {v : V} (w : Wv) (h : PE X e (tC v)) (r : ∀ ρ H, RV X.K ρ H w v) : PE X e (te X.K E (mC w)) := PE.imp h fun σ H Q ⟨ρ, M, env, rl, re, f⟩ => f.here rl v (r ρ H)
theorem e_int {i : Int} {j pos} : PE X (.Constant (.int i) j pos) (te X.K E (mC (.int i))) := e_const _ pe_int fun _ _ => rfl
theorem e_bl {b : Bool} {j pos} : PE X (.Constant (.bool b) j pos) (te X.K E (mC (.bl b))) := e_const _ pe_bl fun _ _ => rfl
theorem e_non {j pos} : PE X (.Constant .none j pos) (te X.K E (mC .non)) := e_const _ pe_non fun _ _ => rfl
theorem e_str {s : Str} {j pos} : PE X (.Constant (.str s) j pos) (te X.K E (mC (.str s))) := e_const _ pe_str fun _ _ => rfl

/-! ### operators -/
def mBin (f : Wv → Wv → Mem → R Wv) (a b : Me) : Me := fun env M => (a env M).bind fun x M1 => (b env M1).bind fun y M2 => f x y M2
def mUn (f : Wv → Mem → R Wv) (a : Me) : Me := fun env M => (a env M).bind f
variable {a b : Expr} {ma mb : Me} {pos : Pos}
theorem te_two {K : PySem.W.Frag} {f : Wv → Wv → Mem → R Wv} {σ : L2.St} {H : Hp} {Q : VK} (h : te K E (mBin f ma mb) σ H Q) : tOp (r2 K E f) (te K E ma) (te K E mb) σ H Q := by
  obtain ⟨ρ, M, env, rl, re, h⟩ := h
  refine te_then rl re h fun x M1 ρ1 H1 v g1 rl1 re1 rv1 h1 => ?_
  refine te_then rl1 re1 h1 fun y M2 ρ2 H2 u g2 rl2 re2 rv2 h2 => ?_
  exact ⟨ρ2, M2, x, y, rl2, RV.mono g2 x rv1, rv2, h2⟩
theorem e_bin {op : Operator} {f : Wv → Wv → Mem → R Wv} (ho : OpR X (binaryOp op) (r2 X.K E f)) (ha : PE X a (te X.K E ma)) (hb : PE X b (te X.K E mb)) : PE X (.BinOp a op b pos) (te X.K E (mBin f ma mb)) :=
  PE.imp (pe_op ho ha hb) fun _ _ _ h => te_two h
theorem e_un {op : UnaryOp} {f : Wv → Mem → R Wv} (ho : UnR X (unaryOp op) (r1 X.K E f)) (ha : PE X a (te X.K E ma)) : PE X (.UnaryOp op a pos) (te X.K E (mUn f ma)) :=
  PE.imp (pe_un ho ha) fun _ _ _ ⟨ρ, M, env, rl, re, h⟩ => te_then rl re h fun x M1 ρ1 H1 v g1 rl1 re1 rv1 h1 => ⟨ρ1, M1, x, rl1, rv1, h1⟩
end
end Mi

namespace Mi
open PySem PySem.Spec PyProof.Rows L2

/-! ### new objects -/
section
variable {K : PySem.W.Frag} {ρ : Rn} {M : Mem} {H : Hp} {p : Addr} {o : HO}
theorem Rl.there (rl : Rl K ρ M H) {a : Addr} (h : a ∈ ρ.l) : ∃ u, H a = some u := by
  obtain ⟨n, hn⟩ := List.getElem?_of_mem h
  have hlt : n < M.length := by rw [← rl.len]; exact (List.getElem?_eq_some_iff.mp hn).1
  obtain ⟨b, h1, h2⟩ := rl.ob n _ (List.getElem?_eq_getElem hlt)
  have e : b = a := Option.some.inj (h1.symm.trans hn)
  subst e
  cases q : M[n] with
  | lst ws =>
    rw [q] at h2
    obtain ⟨vs, h3, _⟩ := h2
    exact ⟨_, h3⟩
  | ins C ns ws =>
    rw [q] at h2
    obtain ⟨D, dx, fs, _, h3, _⟩ := h2
    exact ⟨_, h3⟩
theorem Rl.out (rl : Rl K ρ M H) (h : H p = none) : ρ.no p := by
  refine ⟨fun z => ?_, fun z => ?_⟩
  · obtain ⟨u, e⟩ := rl.there z
    rw [h] at e
    cases e
  · obtain ⟨_, u, e⟩ := rl.fs p z
    rw [h] at e
    cases e
theorem RO.mono {ρ' : Rn} {H' : Hp} (g : Gr ρ H ρ' H') {a : Addr} (ha : H' a = H a) {b : Ob} (h : RO K ρ H a b) : RO K ρ' H' a b := by
  cases b with
  | lst ws =>
    obtain ⟨vs, h1, h2⟩ := h
    exact ⟨vs, by rw [ha]; exact h1, RVs.mono g ws h2⟩
  | ins C ns ws =>
    obtain ⟨D, dx, fs, c, h1, e, h2⟩ := h
    exact ⟨D, dx, fs, c, by rw [ha]; exact h1, e, RVs.mono g ws h2⟩
theorem Rl.upd (rl : Rl K ρ M H) (h : H p = none) : Rl K ρ M (upd H p o) := by
  refine ⟨rl.nd, rl.len, fun n b e => ?_, fun a ha => ?_⟩
  · obtain ⟨a, h1, h2⟩ := rl.ob n b e
    refine ⟨a, h1, RO.mono (Gr.fresh h) (upd_ne fun z => ?_) h2⟩
    subst z
    exact (rl.out h).1 (List.mem_of_getElem? h1)
  · obtain ⟨h1, u, h2⟩ := rl.fs a ha
    exact ⟨h1, u, by rw [upd_ne (ne_of_none h2 h)]; exact h2⟩
theorem Gr.mk1 (h : H p = none) : Gr ρ H (ρ.add p) (upd H p o) :=
  ⟨⟨[p], rfl⟩, rfl, fun a u _ e => by rw [upd_ne (ne_of_none e h)]; exact e, fun a z => by
    rcases List.mem_append.mp z with z | z
    · exact .inl z
    · rw [List.mem_singleton.mp z]; exact .inr h⟩
/-- the new object is of the memory -/
theorem Rl.new (rl : Rl K ρ M H) (h : H p = none) {b : Ob} (hb : RO K (ρ.add p) (L2.upd H p o) p b) : Rl K (ρ.add p) (M ++ [b]) (L2.upd H p o) := by
  refine ⟨?_, by simp [Rn.add, rl.len], fun n c e => ?_, fun a ha => ?_⟩
  · show (ρ.l ++ [p]).Nodup
    rw [List.nodup_append]
    refine ⟨rl.nd, by simp, fun x hx y hy z => ?_⟩
    rw [List.mem_singleton.mp hy] at z
    rw [z] at hx
    exact (rl.out h).1 hx
  · by_cases hn : n < M.length
    · rw [List.getElem?_append_left hn] at e
      obtain ⟨a, h1, h2⟩ := rl.ob n c e
      refine ⟨a, by show (ρ.l ++ [p])[n]? = _; rw [List.getElem?_append_left (by rw [rl.len]; exact hn)]; exact h1, RO.mono (Gr.mk1 h) (upd_ne fun z => ?_) h2⟩
      subst z
      exact (rl.out h).1 (List.mem_of_getElem? h1)
    · have hlt := (List.getElem?_eq_some_iff.mp e).1
      rw [List.length_append, List.length_singleton] at hlt
      have hn' : n = M.length := by omega
      subst hn'
      rw [List.getElem?_append_right (Nat.le_refl _), Nat.sub_self] at e
      have e' : b = c := by simpa using e
      subst e'
      refine ⟨p, ?_, hb⟩
      show (ρ.l ++ [p])[M.length]? = _
      rw [← rl.len, List.getElem?_append_right (Nat.le_refl _), Nat.sub_self]
      rfl
  · obtain ⟨h1, u, h2⟩ := rl.fs a ha
    have ne := ne_of_none h2 h
    refine ⟨fun z => ?_, u, by rw [upd_ne ne]; exact h2⟩
    rcases List.mem_append.mp z with z | z
    · exact h1 z
    · exact ne (List.mem_singleton.mp z)
theorem nodup_at : ∀ {l : List Addr} {i j : Nat} {a : Addr}, l.Nodup → l[i]? = some a → l[j]? = some a → i = j
  | [], _, _, _, _, h, _ => by simp at h
  | x :: xs, 0, 0, _, _, _, _ => rfl
  | x :: xs, 0, j + 1, a, n, h, k => by
    simp at h k
    subst h
    exact absurd (List.mem_of_getElem? k) (List.nodup_cons.mp n).1
  | x :: xs, i + 1, 0, a, n, h, k => by
    simp at h k
    subst k
    exact absurd (List.mem_of_getElem? h) (List.nodup_cons.mp n).1
  | x :: xs, i + 1, j + 1, a, n, h, k => by
    simp at h k
    rw [nodup_at (List.nodup_cons.mp n).2 h k]
/-- an object of the memory is changed -/
theorem Gr.write {n : Nat} (hp : ρ.l[n]? = some p) : Gr ρ H ρ (L2.upd H p o) :=
  ⟨⟨[], by simp⟩, rfl, fun a u ha e => by
    rw [upd_ne]
    · exact e
    · rintro rfl
      exact ha (List.mem_of_getElem? hp), fun _ h => .inl h⟩
theorem Rl.write (rl : Rl K ρ M H) {n : Nat} (hp : ρ.l[n]? = some p) {b : Ob} (hb : RO K ρ (L2.upd H p o) p b) : Rl K ρ (M.set n b) (L2.upd H p o) := by
  refine ⟨rl.nd, by simp [rl.len], fun m c e => ?_, fun a ha => ?_⟩
  · by_cases hm : n = m
    · subst hm
      have hlt : n < M.length := by rw [← rl.len]; exact (List.getElem?_eq_some_iff.mp hp).1
      rw [List.getElem?_set_self hlt] at e
      cases e
      exact ⟨p, hp, hb⟩
    · rw [List.getElem?_set_ne hm] at e
      obtain ⟨a, h1, h2⟩ := rl.ob m c e
      refine ⟨a, h1, RO.mono (Gr.write hp) (upd_ne fun z => ?_) h2⟩
      subst z
      exact hm (nodup_at rl.nd hp h1)
  · obtain ⟨h1, u, h2⟩ := rl.fs a ha
    refine ⟨h1, u, ?_⟩
    rw [upd_ne]
    · exact h2
    · rintro rfl
      exact h1 (List.mem_of_getElem? hp)
end

/-! ### sizes -/
def lim : Nat := 100000
theorem lim_le {n : Nat} (h : n ≤ lim) : n ≤ sizeLine := Nat.le_trans h (by decide)
theorem lim_lt {n : Nat} (h : n < lim) : n < sizeLine := Nat.lt_of_lt_of_le h (by decide)

/-! ### a value that is handed on -/
section
variable {K : PySem.W.Frag} {E : XK} {ρ : Rn} {M : Mem} {H : Hp} {Q : VK} {w : Wv}
theorem fin_val (h : Fin K ρ H (PV K Q) E (.ok w M)) (rl : Rl K ρ M H) {v : V} (r : RV K ρ H w v) : Q v H := h.here rl v r
theorem fin_lst {ws : List Wv} {vs : List V} (h : Fin K ρ H (PV K Q) E (.ok (.lst ws) M)) (rl : Rl K ρ M H) (r : RVs K ρ H ws vs) {p : Addr} (hp : H p = none) : Q (.ref p) (upd H p (.lst vs)) :=
  h ρ _ (Gr.fresh hp) (rl.upd hp) _ ⟨p, vs, rfl, ⟨upd_same, rl.out hp⟩, RVs.mono (Gr.fresh hp) ws r⟩
theorem fin_tup {ws : List Wv} {vs : List V} (h : Fin K ρ H (PV K Q) E (.ok (.tup ws) M)) (rl : Rl K ρ M H) (r : RVs K ρ H ws vs) {p : Addr} (hp : H p = none) : Q (.ref p) (upd H p (.tup vs)) :=
  h ρ _ (Gr.fresh hp) (rl.upd hp) _ ⟨p, vs, rfl, .inl ⟨upd_same, rl.out hp⟩, RVs.mono (Gr.fresh hp) ws r⟩
theorem fin_new {ws : List Wv} {vs : List V} (h : Fin K ρ H (PV K Q) E (.ok (.ref M.length) (M ++ [.lst ws]))) (rl : Rl K ρ M H) (r : RVs K ρ H ws vs) {p : Addr} (hp : H p = none) : Q (.ref p) (upd H p (.lst vs)) :=
  h (ρ.add p) _ (Gr.mk1 hp) (rl.new hp ⟨vs, upd_same, RVs.mono (Gr.mk1 hp) ws r⟩) _ ⟨p, rfl, by show (ρ.l ++ [p])[M.length]? = _; rw [← rl.len, List.getElem?_append_right (Nat.le_refl _), Nat.sub_self]; rfl⟩
theorem sq_l {a : Addr} {vs : List V} (h : (Rd H a (.lst vs) ∧ ρ.no a) ∨ KL K a vs) : SqL K H a vs := h.imp (·.1) id
theorem sq_t {a : Addr} {vs : List V} (h : (H a = some (.tup vs) ∧ ρ.no a) ∨ KT K a vs) : SqT K H a vs := h.imp (fun z => .inl z.1) id
end

/-! ### ints and others by operators -/
def mulOk (i j : Int) : Bool := decide (i.natAbs < 2 ^ 64) || decide (j.natAbs < 2 ^ 64) || decide (i.natAbs.log2 + j.natAbs.log2 < 1000000)
def addW : Wv → Wv → Mem → R Wv
  | .int i, .int j, M => .ok (.int (i + j)) M
  | .str a, .str b, M => if a.length + b.length ≤ lim then .ok (.str (a ++ b)) M else .no
  | .lst xs, .lst ys, M => if xs.length + ys.length ≤ lim then .ok (.lst (xs ++ ys)) M else .no
  | .tup xs, .tup ys, M => if 0 < xs.length ∧ 0 < ys.length ∧ xs.length + ys.length ≤ lim then .ok (.tup (xs ++ ys)) M else .no
  | _, _, _ => .no
def subW : Wv → Wv → Mem → R Wv
  | .int i, .int j, M => .ok (.int (i - j)) M
  | _, _, _ => .no
def mulW : Wv → Wv → Mem → R Wv
  | .int i, .int j, M => if mulOk i j then .ok (.int (i * j)) M else .no
  | .lst xs, .int k, M => if 0 ≤ k ∧ k < 1000 ∧ xs.length * k.toNat ≤ lim then .ok (.lst (List.replicate k.toNat xs).flatten) M else .no
  | _, _, _ => .no
def divW : Wv → Wv → Mem → R Wv
  | .int i, .int j, M => if 0 < j ∧ j < 1073741824 then .ok (.int (i / j)) M else .no
  | _, _, _ => .no
def modW : Wv → Wv → Mem → R Wv
  | .int i, .int j, M => if 0 < j then .ok (.int (i % j)) M else .no
  | _, _, _ => .no
def powW : Wv → Wv → Mem → R Wv
  | .int i, .int j, M => if 0 ≤ j ∧ j ≤ 1000000 ∧ i.natAbs < 2 ^ 64 then .ok (.int (i ^ j.toNat)) M else .no
  | _, _, _ => .no
def shlW : Wv → Wv → Mem → R Wv
  | .int i, .int j, M => if 0 ≤ j ∧ j ≤ 1000000 ∧ i.natAbs < 2 ^ 64 then .ok (.int (i * 2 ^ j.toNat)) M else .no
  | _, _, _ => .no
def negW : Wv → Mem → R Wv
  | .int i, M => .ok (.int (-i)) M
  | _, _ => .no
def cmpW (p : Int → Int → Bool) : Wv → Wv → Mem → R Bool
  | .int i, .int j, M => .ok (p i j) M
  | _, _, _ => .no
/-- a comparison's wish -/
def rb (K : PySem.W.Frag) (E : XK) (f : Wv → Wv → Mem → R Bool) : R2 := fun x y H Q => ∃ ρ M wx wy, Rl K ρ M H ∧ RV K ρ H wx x ∧ RV K ρ H wy y ∧ Fin K ρ H (PB fun b H' => Q (.bl b) H') E (f wx wy M)
theorem pick {β : Type} {α : Prop} {P : R β} {K : PySem.W.Frag} {E : XK} {ρ : Rn} {H : Hp} {Q : β → Mem → Rn → Hp → Prop} [Decidable α] (h : Fin K ρ H Q E (if α then P else .no)) : α ∧ Fin K ρ H Q E P := by
  by_cases ha : α
  · rw [if_pos ha] at h; exact ⟨ha, h⟩
  · rw [if_neg ha] at h; exact h.elim

section
variable {X : Cx} {E : XK}
theorem OpR.imp {f : Value → Value → Sem Value} {r r' : R2} (h : OpR X f r) (k : ∀ x y H Q, r' x y H Q → r x y H Q) : OpR X f r' := fun pins s σ H x y v u Q I rx ry q => h pins s σ H x y v u Q I rx ry (k x y H Q q)
theorem OpR.two {f : Value → Value → Sem Value} {r r' : R2} (h : OpR X f r) (h' : OpR X f r') : OpR X f (fun x y H Q => r x y H Q ∨ r' x y H Q) := fun pins s σ H x y v u Q I rx ry q =>
  q.elim (h pins s σ H x y v u Q I rx ry) (h' pins s σ H x y v u Q I rx ry)
theorem UnR.imp {f : Value → Sem Value} {r r' : V → Hp → VK → Prop} (h : UnR X f r) (k : ∀ x H Q, r' x H Q → r x H Q) : UnR X f r' := fun pins s σ H x v Q I rx q => h pins s σ H x v Q I rx (k x H Q q)
theorem CallR.imp {f : Value} {r r' : List V → Hp → VK → Prop} (h : CallR X f r) (k : ∀ xs H Q, r' xs H Q → r xs H Q) : CallR X f r' := fun pins s σ H xs us Q I rx q => h pins s σ H xs us Q I rx (k xs H Q q)

theorem o_add : OpR X (binaryOp .Add) (r2 X.K E addW) := by
  refine OpR.imp (OpR.two op_add (OpR.two op_add_str (OpR.two op_cat op_catT))) fun x y H Q ⟨ρ, M, wx, wy, rl, rx, ry, h⟩ => ?_
  cases wx <;> cases wy <;> first | exact h.elim | skip
  · exact .inl ⟨_, _, rx, ry, fin_val h rl rfl⟩
  · obtain ⟨h0, h⟩ := pick h
    exact .inr (.inl ⟨_, _, rx, ry, lim_le h0, fin_val h rl rfl⟩)
  · rename_i xs ys
    obtain ⟨⟨n1, n2, h0⟩, h⟩ := pick h
    obtain ⟨a, vs, rfl, ha, r1⟩ := rx
    obtain ⟨b, us, rfl, hb, r2⟩ := ry
    have l1 := r1.length
    have l2 := r2.length
    refine .inr (.inr (.inr ⟨a, b, vs, us, rfl, rfl, sq_t ha, sq_t hb, ?_, ?_, ?_, ?_⟩))
    · rintro rfl; rw [List.length_nil] at l1; omega
    · rw [← l1, ← l2]; exact lim_le h0
    · rintro rfl; rw [List.length_nil] at l2; omega
    · exact fun _ p hp => fin_tup h rl (r1.append r2) hp
  · obtain ⟨h0, h⟩ := pick h
    obtain ⟨a, vs, rfl, ha, r1⟩ := rx
    obtain ⟨b, us, rfl, hb, r2⟩ := ry
    exact .inr (.inr (.inl ⟨a, b, vs, us, rfl, rfl, ha.1, hb.1, by rw [← r1.length, ← r2.length]; exact lim_le h0, fun p hp => fin_lst h rl (r1.append r2) hp⟩))
theorem o_sub : OpR X (binaryOp .Sub) (r2 X.K E subW) := by
  refine OpR.imp op_sub fun x y H Q ⟨ρ, M, wx, wy, rl, rx, ry, h⟩ => ?_
  cases wx <;> cases wy <;> first | exact h.elim | skip
  exact ⟨_, _, rx, ry, fin_val h rl rfl⟩
theorem flatten_rep {K : PySem.W.Frag} {ρ : Rn} {H : Hp} {ws : List Wv} {vs : List V} (r : RVs K ρ H ws vs) : ∀ n, RVs K ρ H (List.replicate n ws).flatten (List.replicate n vs).flatten
  | 0 => rfl
  | n + 1 => by
    rw [List.replicate_succ, List.replicate_succ, List.flatten_cons, List.flatten_cons]
    exact r.append (flatten_rep r n)
theorem o_mul : OpR X (binaryOp .Mult) (r2 X.K E mulW) := by
  refine OpR.imp (OpR.two op_mul (OpR.two op_mulW op_rep)) fun x y H Q ⟨ρ, M, wx, wy, rl, rx, ry, h⟩ => ?_
  cases wx <;> cases wy <;> first | exact h.elim | skip
  · obtain ⟨h0, h⟩ := pick h
    unfold mulOk at h0
    rw [Bool.or_eq_true, Bool.or_eq_true, decide_eq_true_eq, decide_eq_true_eq, decide_eq_true_eq] at h0
    rcases h0 with (h0 | h0) | h0
    · exact .inl ⟨_, _, rx, ry, .inl (by omega), fin_val h rl rfl⟩
    · exact .inl ⟨_, _, rx, ry, .inr (by omega), fin_val h rl rfl⟩
    · exact .inr (.inl ⟨_, _, rx, ry, h0, fin_val h rl rfl⟩)
  · obtain ⟨⟨h0, h1, h2⟩, h⟩ := pick h
    obtain ⟨a, vs, rfl, ha, r1⟩ := rx
    exact .inr (.inr ⟨a, _, vs, rfl, ry, ha.1, by omega, by omega, by rw [← r1.length]; exact lim_le h2, fun p hp => fin_lst h rl (flatten_rep r1 _) hp⟩)
theorem o_div : OpR X (binaryOp .FloorDiv) (r2 X.K E divW) := by
  refine OpR.imp op_fdiv fun x y H Q ⟨ρ, M, wx, wy, rl, rx, ry, h⟩ => ?_
  cases wx <;> cases wy <;> first | exact h.elim | skip
  obtain ⟨h0, h⟩ := pick h
  exact ⟨_, _, rx, ry, h0, fin_val h rl rfl⟩
theorem o_mod : OpR X (binaryOp .Mod) (r2 X.K E modW) := by
  refine OpR.imp op_mod fun x y H Q ⟨ρ, M, wx, wy, rl, rx, ry, h⟩ => ?_
  cases wx <;> cases wy <;> first | exact h.elim | skip
  obtain ⟨h0, h⟩ := pick h
  exact ⟨_, _, rx, ry, h0, fin_val h rl rfl⟩
theorem o_pow : OpR X (binaryOp .Pow) (r2 X.K E powW) := by
  refine OpR.imp op_pow fun x y H Q ⟨ρ, M, wx, wy, rl, rx, ry, h⟩ => ?_
  cases wx <;> cases wy <;> first | exact h.elim | skip
  obtain ⟨h0, h⟩ := pick h
  exact ⟨_, _, rx, ry, h0, fin_val h rl rfl⟩
theorem o_shl : OpR X (binaryOp .LShift) (r2 X.K E shlW) := by
  refine OpR.imp op_shl fun x y H Q ⟨ρ, M, wx, wy, rl, rx, ry, h⟩ => ?_
  cases wx <;> cases wy <;> first | exact h.elim | skip
  obtain ⟨h0, h⟩ := pick h
  exact ⟨_, _, rx, ry, h0, fin_val h rl rfl⟩
theorem o_neg : UnR X (unaryOp .USub) (r1 X.K E negW) := by
  refine UnR.imp un_neg fun x H Q ⟨ρ, M, wx, rl, rx, h⟩ => ?_
  cases wx <;> first | exact h.elim | skip
  exact ⟨_, rx, fin_val h rl rfl⟩
theorem o_cmp {op : CmpOp} {p : Int → Int → Bool} (ho : OpR X (compareOp op) (rI0 fun i j => .bl (p i j))) : OpR X (compareOp op) (rb X.K E (cmpW p)) := by
  refine OpR.imp ho fun x y H Q ⟨ρ, M, wx, wy, rl, rx, ry, h⟩ => ?_
  cases wx <;> cases wy <;> first | exact h.elim | skip
  exact ⟨_, _, rx, ry, h.here rl⟩
abbrev ltW := cmpW fun i j => decide (i < j)
abbrev leW := cmpW fun i j => decide (i ≤ j)
abbrev gtW := cmpW fun i j => decide (j < i)
abbrev geW := cmpW fun i j => decide (j ≤ i)
theorem o_lt : OpR X (compareOp .Lt) (rb X.K E ltW) := o_cmp op_lt
theorem o_le : OpR X (compareOp .LtE) (rb X.K E leW) := o_cmp op_le
theorem o_gt : OpR X (compareOp .Gt) (rb X.K E gtW) := o_cmp op_gt
theorem o_ge : OpR X (compareOp .GtE) (rb X.K E geW) := o_cmp op_ge
end

/-! ### == of data -/
mutual
def toD : Wv → Option PyData
  | .non => some .none
  | .bl b => some (.bool b)
  | .int i => some (.int i)
  | .str s => some (.str s)
  | .tup xs => (toDs xs).map .tuple
  | .lst xs => (toDs xs).map .list
  | .rdl xs => (toDs xs).map .list
  | _ => none
def toDs : List Wv → Option (List PyData)
  | [] => some []
  | x :: xs => match toD x, toDs xs with
    | some d, some ds => some (d :: ds)
    | _, _ => none
end
/-- .. a list of the memory too -/
def toDM (M : Mem) : Wv → Option PyData
  | .ref n => match M[n]? with
    | some (.lst xs) => (toDs xs).map .list
    | _ => none
  | w => toD w
section
variable {K : PySem.W.Frag} {ρ : Rn} {H : Hp}
mutual
theorem dp_of : ∀ (w : Wv) {d : PyData} {v : V}, toD w = some d → RV K ρ H w v → Dp K H v d
  | .non, _, _, e, r => by cases e; cases r; exact .non
  | .bl b, _, _, e, r => by cases e; cases r; exact .bl b
  | .int i, _, _, e, r => by cases e; cases r; exact .int i
  | .str s, _, _, e, r => by cases e; cases r; exact .str s
  | .tup xs, _, _, e, r => by
    obtain ⟨ds, e1, rfl⟩ := Option.map_eq_some_iff.mp (show (toDs xs).map PyData.tuple = some _ from e)
    obtain ⟨a, vs, rfl, h, r⟩ := r
    exact .tup (sq_t h) (dps_of xs e1 r)
  | .lst xs, _, _, e, r => by
    obtain ⟨ds, e1, rfl⟩ := Option.map_eq_some_iff.mp (show (toDs xs).map PyData.list = some _ from e)
    obtain ⟨a, vs, rfl, h, r⟩ := r
    exact .lst (SqL.of h.1) (dps_of xs e1 r)
  | .rdl xs, _, _, e, r => by
    obtain ⟨ds, e1, rfl⟩ := Option.map_eq_some_iff.mp (show (toDs xs).map PyData.list = some _ from e)
    obtain ⟨a, vs, rfl, h, r⟩ := r
    exact .lst (sq_l h) (dps_of xs e1 r)
  | .ty _, _, _, e, _ => by cases e
  | .adr _, _, _, e, _ => by cases e
  | .dct _ _, _, _, e, _ => by cases e
  | .ref _, _, _, e, _ => by cases e
theorem dps_of : ∀ (ws : List Wv) {ds : List PyData} {vs : List V}, toDs ws = some ds → RVs K ρ H ws vs → DpAll K H vs ds
  | [], _, _, e, r => by cases e; cases r; exact .nil
  | x :: xs, _, _, e, r => by
    obtain ⟨v, vr, rfl, h, r⟩ := r
    have e : (match toD x, toDs xs with | some d, some ds => some (d :: ds) | _, _ => none) = some _ := e
    cases q1 : toD x with
    | none => rw [q1] at e; cases e
    | some d =>
      cases q2 : toDs xs with
      | none => rw [q1, q2] at e; cases e
      | some ds =>
        rw [q1, q2] at e
        cases e
        exact .cons (dp_of x q1 h) (dps_of xs q2 r)
end
theorem dpM_of {M : Mem} (rl : Rl K ρ M H) (w : Wv) {d : PyData} {v : V} (e : toDM M w = some d) (r : RV K ρ H w v) : Dp K H v d := by
  cases w with
  | ref n =>
    obtain ⟨a, rfl, ha⟩ := r
    have e : (match M[n]? with | some (Ob.lst xs) => (toDs xs).map PyData.list | _ => none) = some d := e
    cases q : M[n]? with
    | none => rw [q] at e; cases e
    | some o =>
      obtain ⟨b, h1, h2⟩ := rl.ob n o q
      have eb : b = a := Option.some.inj (h1.symm.trans ha)
      subst eb
      cases o with
      | lst xs =>
        rw [q] at e
        obtain ⟨ds, e1, rfl⟩ := Option.map_eq_some_iff.mp e
        obtain ⟨vs, h3, r⟩ := h2
        exact .lst (SqL.of h3) (dps_of xs e1 r)
      | ins C ns xs => rw [q] at e; cases e
  | _ => exact dp_of _ e r
end
/-- a list of some items is not the empty one, whatever the items are -/
def eqNil : Wv → Wv → Mem → R Bool
  | .lst (_ :: _), .lst [], M => .ok false M
  | _, _, _ => .no
def eqW (neg : Bool) (x y : Wv) (M : Mem) : R Bool := match toDM M x, toDM M y with
  | some d, some e => if SeqAt.shaped d && SeqAt.shaped e then .ok (neg ^^ PyData.eqv d e) M else .no
  | _, _ => if neg then .no else eqNil x y M
section
variable {X : Cx} {E : XK}
theorem op_eq_len (hu : X.A.units + 64 < cLine) : OpR X (compareOp .Eq) (fun x y H Q => ∃ a b xs ys, x = .ref a ∧ y = .ref b ∧ SqL X.K H a xs ∧ SqL X.K H b ys ∧ xs.length ≠ ys.length ∧ Q (.bl false) H) := by
  intro pins s σ H x y v u Q I rx ry h
  obtain ⟨a, b, xs, ys, rfl, rfl, ha, hb, hl, q⟩ := h
  cases (show v = Value.ref a from rx)
  cases (show u = Value.ref b from ry)
  obtain ⟨us, r1, p1, _⟩ := I.list ha
  obtain ⟨ws, r2, p2, _⟩ := I.list hb
  refine PySem.EqBoolInt.of_rc (SeqAt.RcAt.lists_lengths p1.isList p2.isList ?_ (by omega)) ⟨.bl false, H, I, rfl, q⟩
  rw [List.size_toArray, List.size_toArray, ← r1.length, ← r2.length]
  simpa using hl
theorem eqNil_run (hu : X.A.units + 64 < cLine) {pins : List (Addr × Obj)} {σ : L2.St} {H : Hp} {s : Shared} {x y : V} {v u : Value} {Q : VK} {ρ : Rn} {M : Mem} {wx wy : Wv} (I : Inv X pins σ H s) (qx : RelV x v) (qy : RelV y u) (rl : Rl X.K ρ M H) (rx : RV X.K ρ H wx x) (ry : RV X.K ρ H wy y)
    (h : Fin X.K ρ H (PB fun b H' => Q (.bl b) H') E (eqNil wx wy M)) : wpAny (model X.prog X.w) X.A (compareOp .Eq v u) (EP X pins σ Q) X.xe s := by
  unfold eqNil at h
  split at h
  · obtain ⟨a, vs, rfl, ⟨ha, _⟩, r1⟩ := rx
    obtain ⟨b, ws, rfl, ⟨hb, _⟩, r2⟩ := ry
    obtain ⟨_, _, rfl, _⟩ := r1
    cases (show ws = [] from r2)
    exact op_eq_len hu pins s σ H _ _ v u Q I qx qy ⟨a, b, _, _, rfl, rfl, SqL.of ha, SqL.of hb, (by simp), h.here rl⟩
  · exact h.elim
theorem o_eq (hu : X.A.units + 64 < cLine) : OpR X (compareOp .Eq) (rb X.K E (eqW false)) := by
  intro pins s σ H x y v u Q I qx qy ⟨ρ, M, wx, wy, rl, rx, ry, h⟩
  unfold eqW at h
  cases q1 : toDM M wx with
  | none => rw [q1] at h; exact eqNil_run hu I qx qy rl rx ry h
  | some d =>
    cases q2 : toDM M wy with
    | none => rw [q1, q2] at h; exact eqNil_run hu I qx qy rl rx ry h
    | some e =>
      rw [q1, q2] at h
      obtain ⟨h0, h⟩ := pick h
      rw [Bool.and_eq_true] at h0
      exact op_eqD hu pins s σ H x y v u Q I qx qy ⟨d, e, dpM_of rl wx q1 rx, dpM_of rl wy q2 ry, h0.1, h0.2, (by have q := h.here rl; simpa [PB] using q)⟩
theorem o_ne (hu : X.A.units + 64 < cLine) : OpR X (compareOp .NotEq) (rb X.K E (eqW true)) := by
  refine OpR.imp (op_neD hu) fun x y H Q ⟨ρ, M, wx, wy, rl, rx, ry, h⟩ => ?_
  unfold eqW at h
  cases q1 : toDM M wx with
  | none => rw [q1] at h; exact h.elim
  | some d =>
    cases q2 : toDM M wy with
    | none => rw [q1, q2] at h; exact h.elim
    | some e =>
      rw [q1, q2] at h
      obtain ⟨h0, h⟩ := pick h
      rw [Bool.and_eq_true] at h0
      exact ⟨d, e, dpM_of rl wx q1 rx, dpM_of rl wy q2 ry, h0.1, h0.2, (by have q := h.here rl; simpa [PB] using q)⟩
/-! ### is -/
def isNonW : Wv → Bool
  | .non => true
  | _ => false
def isNW (neg : Bool) : Wv → Wv → Mem → R Bool
  | x, .non, M => .ok (neg ^^ isNonW x) M
  | _, _, _ => .no
theorem non_iff {K : PySem.W.Frag} {ρ : Rn} {H : Hp} {w : Wv} {v : V} (r : RV K ρ H w v) : decide (v = .non) = isNonW w := by
  cases w with
  | non => cases r; rfl
  | bl b => cases r; rfl
  | int b => cases r; rfl
  | str b => cases r; rfl
  | ty b => cases r; rfl
  | adr b => cases r; rfl
  | tup b => obtain ⟨a, vs, rfl, _⟩ := r; rfl
  | lst b => obtain ⟨a, vs, rfl, _⟩ := r; rfl
  | rdl b => obtain ⟨a, vs, rfl, _⟩ := r; rfl
  | dct b c => obtain ⟨a, vs, rfl, _⟩ := r; rfl
  | dtt b c => obtain ⟨a, vs, rfl, _⟩ := r; rfl
  | ins C b c => obtain ⟨_, a, dx, vs, _, rfl, _⟩ := r; rfl
  | exc C b c => obtain ⟨_, a, dx, vs, _, rfl, _⟩ := r; rfl
  | ref b => obtain ⟨a, rfl, _⟩ := r; rfl
theorem o_isN : OpR X (compareOp .Is) (rb X.K E (isNW false)) := by
  refine OpR.imp op_isN fun x y H Q ⟨ρ, M, wx, wy, rl, rx, ry, h⟩ => ?_
  cases wy <;> first | exact h.elim | skip
  exact ⟨ry, by rw [non_iff rx]; have q := h.here rl; simpa [PB] using q⟩
theorem o_notN : OpR X (compareOp .IsNot) (rb X.K E (isNW true)) := by
  refine OpR.imp op_notN fun x y H Q ⟨ρ, M, wx, wy, rl, rx, ry, h⟩ => ?_
  cases wy <;> first | exact h.elim | skip
  exact ⟨ry, by rw [non_iff rx]; have q := h.here rl; simpa [PB] using q⟩
end
end Mi

namespace Mi
open PySem PySem.Spec PyProof.Rows L2

/-! ### arguments, displays -/
def maN : Ma := fun _ M => .ok [] M
def maC (a : Me) (r : Ma) : Ma := fun env M => (a env M).bind fun x M1 => (r env M1).bind fun xs M2 => .ok (x :: xs) M2
def mTup (a : Ma) : Me := fun env M => (a env M).bind fun ws M1 => if ws.length ≤ lim then .ok (.tup ws) M1 else .no
def mLst (a : Ma) : Me := fun env M => (a env M).bind fun ws M1 => if ws.length ≤ lim then .ok (.lst ws) M1 else .no
/-- a list that will be changed -/
def mNew (a : Ma) : Me := fun env M => (a env M).bind fun ws M1 => if ws.length ≤ lim then .ok (.ref M1.length) (M1 ++ [.lst ws]) else .no
section
variable {X : Cx} {E : XK} {e : Expr} {es : List Expr} {me : Me} {ma : Ma} {pos : Pos}
theorem a_nil : PA X [] (ta X.K E maN) := PA.imp pa_nil fun σ H Q ⟨ρ, M, env, rl, re, f⟩ => f.here rl [] rfl
theorem a_cons (h : PE X e (te X.K E me)) (hr : PA X es (ta X.K E ma)) (hs : starEach (e :: es) X.env = (false, eval e X.env) :: starEach es X.env := by rfl) : PA X (e :: es) (ta X.K E (maC me ma)) :=
  PA.imp (pa_cons h hr hs) fun σ H Q ⟨ρ, M, env, rl, re, f⟩ =>
    te_then rl re f fun x M1 ρ1 H1 v g1 rl1 re1 rv1 f1 => ta_then rl1 re1 f1 fun xs M2 ρ2 H2 vs g2 rl2 re2 rv2 f2 => f2.here rl2 (v :: vs) ⟨v, vs, rfl, RV.mono g2 x rv1, rv2⟩
theorem e_tup {k : Nat} (h : PA X es (ta X.K E ma)) : PE X (.Tuple es k pos) (te X.K E (mTup ma)) := PE.imp (pe_tup h) fun σ H Q ⟨ρ, M, env, rl, re, f⟩ =>
  ta_then rl re f fun ws M1 ρ1 H1 vs g1 rl1 re1 rv1 f1 => by
    obtain ⟨h0, f1⟩ := pick f1
    exact ⟨by rw [← rv1.length]; exact lim_le h0, fun p hp => fin_tup f1 rl1 rv1 hp⟩
theorem e_lst (h : PA X es (ta X.K E ma)) : PE X (.List es pos) (te X.K E (mLst ma)) := PE.imp (pe_lst h) fun σ H Q ⟨ρ, M, env, rl, re, f⟩ =>
  ta_then rl re f fun ws M1 ρ1 H1 vs g1 rl1 re1 rv1 f1 => by
    obtain ⟨h0, f1⟩ := pick f1
    exact ⟨by rw [← rv1.length]; exact lim_le h0, fun p hp => fin_lst f1 rl1 rv1 hp⟩
theorem e_new (h : PA X es (ta X.K E ma)) : PE X (.List es pos) (te X.K E (mNew ma)) := PE.imp (pe_lst h) fun σ H Q ⟨ρ, M, env, rl, re, f⟩ =>
  ta_then rl re f fun ws M1 ρ1 H1 vs g1 rl1 re1 rv1 f1 => by
    obtain ⟨h0, f1⟩ := pick f1
    exact ⟨by rw [← rv1.length]; exact lim_le h0, fun p hp => fin_new f1 rl1 rv1 hp⟩
end

/-! ### places -/
section
variable {K : PySem.W.Frag} {ρ : Rn} {H : Hp}
theorem RVs.at {ws : List Wv} {vs : List V} {i : Int} {w : Wv} (r : RVs K ρ H ws vs) (h : atI ws i = some w) : ∃ v, atI vs i = some v ∧ RV K ρ H w v := by
  unfold atI at h ⊢
  rw [← r.length]
  cases e : ixN ws.length i with
  | none => rw [e] at h; cases h
  | some j =>
    rw [e] at h
    exact r.get (i := j) h
theorem Rl.lst {M : Mem} (rl : Rl K ρ M H) {n : Nat} {ws : List Wv} (e : M[n]? = some (.lst ws)) {v : V} (r : RV K ρ H (.ref n) v) : ∃ a vs, v = .ref a ∧ ρ.l[n]? = some a ∧ H a = some (.lst vs) ∧ RVs K ρ H ws vs := by
  obtain ⟨a, rfl, ha⟩ := r
  obtain ⟨b, h1, vs, h2, h3⟩ := rl.ob n _ e
  have eb : b = a := Option.some.inj (h1.symm.trans ha)
  subst eb
  exact ⟨b, vs, rfl, h1, h2, h3⟩
end
/-- the items of a list or tuple -/
inductive Sq where
  | l (xs : List Wv) | t (xs : List Wv)
def Sq.xs : Sq → List Wv
  | .l xs => xs
  | .t xs => xs
def sqOf (M : Mem) : Wv → Option Sq
  | .tup xs => some (.t xs)
  | .lst xs => some (.l xs)
  | .rdl xs => some (.l xs)
  | .ref n => match M[n]? with
    | some (.lst xs) => some (.l xs)
    | _ => none
  | _ => none
theorem sq_l_of {K : PySem.W.Frag} {ρ : Rn} {H : Hp} {M : Mem} (rl : Rl K ρ M H) {w : Wv} {v : V} {xs : List Wv} (e : sqOf M w = some (.l xs)) (r : RV K ρ H w v) : ∃ a vs, v = .ref a ∧ SqL K H a vs ∧ RVs K ρ H xs vs := by
  cases w with
  | lst ys => cases e; obtain ⟨a, vs, rfl, h, r⟩ := r; exact ⟨a, vs, rfl, SqL.of h.1, r⟩
  | rdl ys => cases e; obtain ⟨a, vs, rfl, h, r⟩ := r; exact ⟨a, vs, rfl, sq_l h, r⟩
  | ref n =>
    have e : (match M[n]? with | some (Ob.lst xs) => some (Sq.l xs) | _ => none) = some (.l xs) := e
    cases q : M[n]? with
    | none => rw [q] at e; cases e
    | some o =>
      cases o with
      | lst ys =>
        rw [q] at e
        cases e
        obtain ⟨a, vs, rfl, _, h2, h3⟩ := rl.lst q r
        exact ⟨a, vs, rfl, SqL.of h2, h3⟩
      | ins C ns ys => rw [q] at e; cases e
  | _ => cases e
theorem sq_t_of {K : PySem.W.Frag} {ρ : Rn} {H : Hp} {M : Mem} {w : Wv} {v : V} {xs : List Wv} (e : sqOf M w = some (.t xs)) (r : RV K ρ H w v) : ∃ a vs, v = .ref a ∧ SqT K H a vs ∧ RVs K ρ H xs vs := by
  cases w with
  | tup ys => cases e; obtain ⟨a, vs, rfl, h, r⟩ := r; exact ⟨a, vs, rfl, sq_t h, r⟩
  | ref n =>
    have e : (match M[n]? with | some (Ob.lst xs) => some (Sq.l xs) | _ => none) = some (.t xs) := e
    cases q : M[n]? with
    | none => rw [q] at e; cases e
    | some o => cases o <;> (rw [q] at e; cases e)
  | _ => cases e
def ixW (x y : Wv) (M : Mem) : R Wv := match y with
  | .int i => match x with
    | .str z => if z.length ≤ lim then (match atI z.cps.toList i with | some c => .ok (.str ⟨#[c]⟩) M | none => .no) else .no
    | x => match sqOf M x with
      | some s => match atI s.xs i with
        | some w => .ok w M
        | none => .no
      | none => .no
  | _ => .no
def setW (o i v : Wv) (M : Mem) : R Unit := match o, i with
  | .ref n, .int k => match M[n]? with
    | some (.lst xs) => match ixN xs.length k with
      | some j => .ok () (M.set n (.lst (xs.set j v)))
      | none => .no
    | _ => .no
  | _, _ => .no
section
variable {X : Cx} {E : XK} {a b : Expr} {ma mb : Me} {pos : Pos}
theorem IxR.imp {r r' : R2} (h : IxR X r) (k : ∀ x y H Q, r' x y H Q → r x y H Q) : IxR X r' := fun value slice pins s σ H x y v u Q I rx ry q hs => h value slice pins s σ H x y v u Q I rx ry (k x y H Q q) hs
theorem x_ix : IxR X (r2 X.K E ixW) := by
  refine IxR.imp ix_seq fun x y H Q ⟨ρ, M, wx, wy, rl, rx, ry, h⟩ => ?_
  cases wy with
  | int i =>
    cases ry
    by_cases hs : ∃ z, wx = .str z
    · obtain ⟨z, rfl⟩ := hs
      cases rx
      have h : Fin X.K ρ H (PV X.K Q) E (if z.length ≤ lim then (match atI z.cps.toList i with | some c => R.ok (Wv.str ⟨#[c]⟩) M | none => .no) else .no) := h
      obtain ⟨h0, h⟩ := pick h
      cases q : atI z.cps.toList i with
      | none => rw [q] at h; exact h.elim
      | some c =>
        rw [q] at h
        exact .inr (.inr ⟨z, i, c, rfl, rfl, lim_le h0, q, fin_val h rl rfl⟩)
    · have h' : Fin X.K ρ H (PV X.K Q) E (match sqOf M wx with | some s => (match atI s.xs i with | some w => R.ok w M | none => .no) | none => .no) := by
        cases wx with
        | str z => exact absurd ⟨z, rfl⟩ hs
        | _ => exact h
      cases q : sqOf M wx with
      | none => rw [q] at h'; exact h'.elim
      | some s =>
        rw [q] at h'
        have h' : Fin X.K ρ H (PV X.K Q) E (match atI s.xs i with | some w => R.ok w M | none => .no) := h'
        cases q2 : atI s.xs i with
        | none => rw [q2] at h'; exact h'.elim
        | some w =>
          rw [q2] at h'
          have h2 : Fin X.K ρ H (PV X.K Q) E (R.ok w M) := h'
          clear h' h
          cases s with
          | l xs =>
            obtain ⟨a, vs, rfl, h1, hr⟩ := sq_l_of rl q rx
            obtain ⟨v, h3, h4⟩ := hr.at q2
            exact .inl ⟨a, vs, i, v, rfl, rfl, h1, h3, fin_val h2 rl h4⟩
          | t xs =>
            obtain ⟨a, vs, rfl, h1, hr⟩ := sq_t_of q rx
            obtain ⟨v, h3, h4⟩ := hr.at q2
            exact .inr (.inl ⟨a, vs, i, v, rfl, rfl, h1, h3, fin_val h2 rl h4⟩)
  | _ => exact h.elim
theorem e_ix (ha : PE X a (te X.K E ma)) (hb : PE X b (te X.K E mb)) (hs : PlainIx b := by exact fun _ _ => rfl) : PE X (.Subscript a b pos) (te X.K E (mBin ixW ma mb)) := PE.imp (pe_ix x_ix ha hb hs) fun _ _ _ h => te_two h

/-! ### slices of lists -/
def cutW (xs : List Wv) (lo hi : Option Int) : List Wv := (xs.drop (HT.sIx xs.length 0 lo)).take (HT.sIx xs.length xs.length hi - HT.sIx xs.length 0 lo)
theorem RVs.cut {K : PySem.W.Frag} {ρ : Rn} {H : Hp} {ws : List Wv} {vs : List V} (r : RVs K ρ H ws vs) (lo hi : Option Int) : RVs K ρ H (cutW ws lo hi) (cutV vs lo hi) := by
  unfold cutW cutV
  rw [← r.length]
  exact RVs.take _ (RVs.drop _ r)
def optI : Wv → Option (Option Int)
  | .int i => some (some i)
  | _ => none
/-- xs[lo:hi] of a list; a bound that is left out: mNoB -/
abbrev Mo := Ev → Mem → R (Option Int)
def moN : Mo := fun _ M => .ok none M
def moS (a : Me) : Mo := fun env M => (a env M).bind fun w M1 => match w with
  | .int i => .ok (some i) M1
  | _ => .no
def mSl (a : Me) (lo hi : Mo) : Me := fun env M => (a env M).bind fun x M1 => (lo env M1).bind fun l M2 => (hi env M2).bind fun u M3 => match sqOf M3 x with
  | some (.l xs) => .ok (.lst (cutW xs l u)) M3
  | _ => .no
def PO' (o : Option Int) : Option Int → Mem → Rn → Hp → Prop := fun _ _ _ _ => True
def to (K : PySem.W.Frag) (E : XK) (m : Mo) : TO := fun σ H Q => ∃ ρ M env, Rl K ρ M H ∧ RE K ρ H env σ ∧ Fin K ρ H (fun o _ _ H' => Q o H') E (m env M)
theorem PO.imp {e : Option Expr} {t t' : TO} (h : PO X e t) (k : ∀ σ H Q, t' σ H Q → t σ H Q) : PO X e t' := ⟨fun pins s σ H Q I q => h.run pins s σ H Q I (k σ H Q q)⟩
theorem o_none : PO X none (to X.K E moN) := PO.imp po_none fun σ H Q ⟨ρ, M, env, rl, re, f⟩ => f.here rl
theorem o_some (h : PE X a (te X.K E ma)) : PO X (some a) (to X.K E (moS ma)) := PO.imp (po_some h) fun σ H Q ⟨ρ, M, env, rl, re, f⟩ =>
  te_then rl re f fun w M1 ρ1 H1 v g1 rl1 re1 rv1 f1 => by
    cases w with
    | int i => exact ⟨i, rv1, f1.here rl1⟩
    | _ => exact f1.elim
variable {lo hi : Option Expr} {ml mh : Mo} {p2 : Pos}
theorem e_sl (ha : PE X a (te X.K E ma)) (hl : PO X lo (to X.K E ml)) (hh : PO X hi (to X.K E mh)) : PE X (.Subscript a (.Slice lo hi none p2) pos) (te X.K E (mSl ma ml mh)) :=
  PE.imp (pe_slice sl_list ha hl hh) fun σ H Q ⟨ρ, M, env, rl, re, f⟩ => by
    refine te_then rl re f fun x M1 ρ1 H1 v g1 rl1 re1 rv1 f1 => ?_
    refine ⟨ρ1, M1, env, rl1, re1, f1.bind.imp fun l M2 ρ2 H2 g2 rl2 f2 => ?_⟩
    refine ⟨ρ2, M2, env, rl2, re1.mono g2, f2.bind.imp fun u M3 ρ3 H3 g3 rl3 f3 => ?_⟩
    have rv3 := RV.mono g3 x (RV.mono g2 x rv1)
    cases q : sqOf M3 x with
    | none => rw [q] at f3; exact f3.elim
    | some s =>
      cases s with
      | t xs => rw [q] at f3; exact f3.elim
      | l xs =>
        rw [q] at f3
        obtain ⟨a, vs, rfl, h1, h2⟩ := sq_l_of rl3 q rv3
        exact ⟨a, vs, rfl, h1, fun p hp => fin_lst f3 rl3 (h2.cut l u) hp⟩
end

/-! ### truth -/
def truW (M : Mem) : Wv → Option Bool
  | .non => some false
  | .bl b => some b
  | .int i => some (i != 0)
  | .str s => if s.length ≤ lim then some ((s.length : Int) != 0) else none
  | .dct ks _ => some (!ks.isEmpty)
  | w => (sqOf M w).map fun s => !s.xs.isEmpty
theorem isE {K : PySem.W.Frag} {ρ : Rn} {H : Hp} {ws : List Wv} {vs : List V} (r : RVs K ρ H ws vs) : ws.isEmpty = vs.isEmpty := by
  have := r.length
  cases ws <;> cases vs <;> simp at this ⊢
theorem tru_of {K : PySem.W.Frag} {ρ : Rn} {H : Hp} {M : Mem} (rl : Rl K ρ M H) {w : Wv} {v : V} {b : Bool} (e : truW M w = some b) (r : RV K ρ H w v) : TruV K v H b := by
  have seq : ∀ {s : Sq}, sqOf M w = some s → b = !s.xs.isEmpty → TruV K v H b := fun {s} q eb => by
    cases s with
    | l xs =>
      obtain ⟨a, vs, rfl, h1, h2⟩ := sq_l_of rl q r
      exact .inl ⟨vs, h1, by rw [eb, ← isE h2]; rfl⟩
    | t xs =>
      obtain ⟨a, vs, rfl, h1, h2⟩ := sq_t_of q r
      exact .inr (.inl ⟨vs, h1, by rw [eb, ← isE h2]; rfl⟩)
  cases w with
  | non => cases r; cases e; exact rfl
  | bl c => cases r; cases e; exact rfl
  | int i => cases r; cases e; exact rfl
  | str s =>
    cases r
    have e : (if s.length ≤ lim then some ((s.length : Int) != 0) else none) = some b := e
    by_cases h : s.length ≤ lim
    · rw [if_pos h] at e; cases e; exact ⟨lim_le h, rfl⟩
    · rw [if_neg h] at e; cases e
  | dct ks xs =>
    cases e
    obtain ⟨a, kvs, rfl, h, ek, r⟩ := r
    refine .inr (.inr ⟨kvs, h.1, ?_⟩)
    subst ek
    cases kvs <;> rfl
  | tup xs => obtain ⟨s, q, eb⟩ := Option.map_eq_some_iff.mp (show (sqOf M (.tup xs)).map (fun s => !s.xs.isEmpty) = some b from e); exact seq q eb.symm
  | lst xs => obtain ⟨s, q, eb⟩ := Option.map_eq_some_iff.mp (show (sqOf M (.lst xs)).map (fun s => !s.xs.isEmpty) = some b from e); exact seq q eb.symm
  | rdl xs => obtain ⟨s, q, eb⟩ := Option.map_eq_some_iff.mp (show (sqOf M (.rdl xs)).map (fun s => !s.xs.isEmpty) = some b from e); exact seq q eb.symm
  | ref xs => obtain ⟨s, q, eb⟩ := Option.map_eq_some_iff.mp (show (sqOf M (.ref xs)).map (fun s => !s.xs.isEmpty) = some b from e); exact seq q eb.symm
  | ty n => cases e
  | adr n => cases e
  | dtt ks xs => cases e
  | ins C ns xs => cases e
  | exc C ns xs => cases e
def asT (w : Wv) (M : Mem) : R Bool := match truW M w with
  | some b => .ok b M
  | none => .no
def mtE (a : Me) : Mt := fun env M => (a env M).bind asT
def mtNot (t : Mt) : Mt := fun env M => (t env M).bind fun b M1 => .ok (!b) M1
def mtAnd (t u : Mt) : Mt := fun env M => (t env M).bind fun b M1 => if b = true then u env M1 else .ok false M1
def mtOr (t u : Mt) : Mt := fun env M => (t env M).bind fun b M1 => if b = true then .ok true M1 else u env M1
def mAnd (a b : Me) : Me := fun env M => (a env M).bind fun w M1 => (asT w M1).bind fun c M2 => if c = true then b env M2 else .ok w M2
def mOr (a b : Me) : Me := fun env M => (a env M).bind fun w M1 => (asT w M1).bind fun c M2 => if c = true then .ok w M2 else b env M2
def mNot (a : Me) : Me := fun env M => (a env M).bind fun w M1 => (asT w M1).bind fun c M2 => .ok (.bl (!c)) M2
def mIf (t : Mt) (a b : Me) : Me := fun env M => (t env M).bind fun c M1 => if c = true then a env M1 else b env M1
section
variable {X : Cx} {E : XK} {a b c : Expr} {rest : List Expr} {ma mb : Me} {mt mu : Mt} {pos : Pos}
theorem fin_asT {K : PySem.W.Frag} {ρ : Rn} {H : Hp} {M : Mem} {w : Wv} {v : V} {P : Bool → Mem → Rn → Hp → Prop} (rl : Rl K ρ M H) (r : RV K ρ H w v) (f : Fin K ρ H P E (asT w M)) : ∃ k, TruV K v H k ∧ P k M ρ H := by
  unfold asT at f
  cases q : truW M w with
  | none => rw [q] at f; exact f.elim
  | some k => rw [q] at f; exact ⟨k, tru_of rl q r, f.here rl⟩
theorem t_val (ha : PE X a (te X.K E ma)) (he : ∀ whole, isTrue a X.env whole = (do let v ← whole; standAt a.pos; holding [v] (truthy v)) := by intro _; rfl) : PT X a (tt X.K E (mtE ma)) :=
  PT.imp (pt_truth ha he) fun σ H Q ⟨ρ, M, env, rl, re, f⟩ => te_then rl re f fun w M1 ρ1 H1 v g1 rl1 re1 rv1 f1 => fin_asT rl1 rv1 f1
/-! ### comparisons -/
def mCmp (f : Wv → Wv → Mem → R Bool) (a b : Me) : Me := fun env M => (a env M).bind fun x M1 => (b env M1).bind fun y M2 => (f x y M2).bind fun c M3 => .ok (.bl c) M3
def mtCmp (f : Wv → Wv → Mem → R Bool) (a b : Me) : Mt := fun env M => (a env M).bind fun x M1 => (b env M1).bind fun y M2 => f x y M2
theorem e_cmp {op : CmpOp} {f : Wv → Wv → Mem → R Bool} (ho : OpR X (compareOp op) (rb X.K E f)) (ha : PE X a (te X.K E ma)) (hb : PE X b (te X.K E mb)) (h1 : behindInMarks op b = false := by first | exact nomark _ | rfl) : PE X (.Compare a [op] [b] pos) (te X.K E (mCmp f ma mb)) :=
  PE.imp (pe_cmpR ho ha hb h1) fun _ _ _ ⟨ρ, M, env, rl, re, h⟩ =>
    te_then rl re h fun x M1 ρ1 H1 v g1 rl1 re1 rv1 h1 => te_then rl1 re1 h1 fun y M2 ρ2 H2 u g2 rl2 re2 rv2 h2 =>
      ⟨ρ2, M2, x, y, rl2, RV.mono g2 x rv1, rv2, h2.bind.imp fun c M3 ρ3 H3 g3 rl3 f3 => fin_val f3 rl3 rfl⟩
theorem t_cmp {op : CmpOp} {f : Wv → Wv → Mem → R Bool} (ho : OpR X (compareOp op) (rb X.K E f)) (ha : PE X a (te X.K E ma)) (hb : PE X b (te X.K E mb)) (h1 : behindInMarks op b = false := by first | exact nomark _ | rfl) : PT X (.Compare a [op] [b] pos) (tt X.K E (mtCmp f ma mb)) :=
  PT.imp (pt_cmpR ho ha hb h1) fun _ _ _ ⟨ρ, M, env, rl, re, h⟩ =>
    te_then rl re h fun x M1 ρ1 H1 v g1 rl1 re1 rv1 h1 => te_then rl1 re1 h1 fun y M2 ρ2 H2 u g2 rl2 re2 rv2 h2 =>
      ⟨ρ2, M2, x, y, rl2, RV.mono g2 x rv1, rv2, h2.imp fun c M3 ρ3 H3 g3 rl3 f3 => ⟨c, rfl, f3⟩⟩
theorem t_not (h : PT X a (tt X.K E mt)) : PT X (.UnaryOp .Not a pos) (tt X.K E (mtNot mt)) :=
  PT.imp (pt_not h) fun _ _ _ ⟨ρ, M, env, rl, re, f⟩ => tt_then rl re f fun b M1 ρ1 H1 g1 rl1 re1 f1 => f1.here rl1
/-- and, or in a test -/
theorem w_one {op} (h : PT X a (tt X.K E mt)) : op = .And ∨ op = .Or → PW X (.BoolOp op [a] pos) (tt X.K E mt)
  | .inl e => by subst e; exact pw_and1 h
  | .inr e => by subst e; exact pw_or1 h
theorem w_and (h : PT X a (tt X.K E mt)) (h2 : PW X (.BoolOp .And (b :: rest) pos) (tt X.K E mu)) : PW X (.BoolOp .And (a :: b :: rest) pos) (tt X.K E (mtAnd mt mu)) :=
  PW.imp (pw_and h h2) fun _ _ _ ⟨ρ, M, env, rl, re, f⟩ => tt_then rl re f fun b M1 ρ1 H1 g1 rl1 re1 f1 => by
    cases b with
    | true => exact ⟨ρ1, M1, env, rl1, re1, f1⟩
    | false => exact f1.here rl1
theorem w_or (h : PT X a (tt X.K E mt)) (h2 : PW X (.BoolOp .Or (b :: rest) pos) (tt X.K E mu)) : PW X (.BoolOp .Or (a :: b :: rest) pos) (tt X.K E (mtOr mt mu)) :=
  PW.imp (pw_or h h2) fun _ _ _ ⟨ρ, M, env, rl, re, f⟩ => tt_then rl re f fun b M1 ρ1 H1 g1 rl1 re1 f1 => by
    cases b with
    | true => exact f1.here rl1
    | false => exact ⟨ρ1, M1, env, rl1, re1, f1⟩
theorem t_w (h : PW X a (tt X.K E mt)) : PT X a (tt X.K E mt) := h.pt
/-- and, or, not as values -/
theorem e_one {op} (h : PE X a (te X.K E ma)) : PE X (.BoolOp op [a] pos) (te X.K E ma) := pe_one h
theorem e_and (h : PE X a (te X.K E ma)) (h2 : PE X (.BoolOp .And (b :: rest) pos) (te X.K E mb)) : PE X (.BoolOp .And (a :: b :: rest) pos) (te X.K E (mAnd ma mb)) :=
  PE.imp (pe_andT h h2) fun _ _ _ ⟨ρ, M, env, rl, re, f⟩ => te_then rl re f fun w M1 ρ1 H1 v g1 rl1 re1 rv1 f1 => by
    obtain ⟨k, h1, h2⟩ := fin_asT rl1 rv1 f1.bind
    refine ⟨k, h1, ?_⟩
    cases k with
    | true => exact ⟨ρ1, M1, env, rl1, re1, h2⟩
    | false => exact fin_val h2 rl1 rv1
theorem e_or (h : PE X a (te X.K E ma)) (h2 : PE X (.BoolOp .Or (b :: rest) pos) (te X.K E mb)) : PE X (.BoolOp .Or (a :: b :: rest) pos) (te X.K E (mOr ma mb)) :=
  PE.imp (pe_orT h h2) fun _ _ _ ⟨ρ, M, env, rl, re, f⟩ => te_then rl re f fun w M1 ρ1 H1 v g1 rl1 re1 rv1 f1 => by
    obtain ⟨k, h1, h2⟩ := fin_asT rl1 rv1 f1.bind
    refine ⟨k, h1, ?_⟩
    cases k with
    | false => exact ⟨ρ1, M1, env, rl1, re1, h2⟩
    | true => exact fin_val h2 rl1 rv1
theorem e_not (h : PE X a (te X.K E ma)) : PE X (.UnaryOp .Not a pos) (te X.K E (mNot ma)) :=
  PE.imp (pe_notT h) fun _ _ _ ⟨ρ, M, env, rl, re, f⟩ => te_then rl re f fun w M1 ρ1 H1 v g1 rl1 re1 rv1 f1 => by
    obtain ⟨k, h1, h2⟩ := fin_asT rl1 rv1 f1.bind
    exact ⟨k, h1, fin_val h2 rl1 rfl⟩
theorem e_if (hc : PT X c (tt X.K E mt)) (ha : PE X a (te X.K E ma)) (hb : PE X b (te X.K E mb)) : PE X (.IfExp c a b pos) (te X.K E (mIf mt ma mb)) :=
  PE.imp (pe_ifExp hc ha hb) fun _ _ _ ⟨ρ, M, env, rl, re, f⟩ => tt_then rl re f fun b M1 ρ1 H1 g1 rl1 re1 f1 => by
    cases b with
    | true => exact ⟨ρ1, M1, env, rl1, re1, f1⟩
    | false => exact ⟨ρ1, M1, env, rl1, re1, f1⟩
end
end Mi

namespace Mi
open PySem PySem.Spec PyProof.Rows L2

/-! ### built-ins by their names -/
def mCall (f : List Wv → Mem → R Wv) (a : Ma) : Me := fun env M => (a env M).bind f
section
variable {X : Cx} {E : XK} {e : Expr} {es : List Expr} {ma : Ma} {me : Me} {x : Str} {p pos : Pos} {nm T : String}
theorem e_bi {f : List Wv → Mem → R Wv} (hc : CallR X (.builtin nm) (rc X.K E f)) (hm : X.mg x = none) (hv : bootBuiltins x = some (.builtin nm)) (ha : PA X (e :: es) (ta X.K E ma)) (hg : Gl X x := by rfl) (hn : x ≠ "__name__" := by decide) (hdb : (x == ("__debug__" : Str)) = false := by decide)
    (he : starEach (e :: es) X.env = (false, eval e X.env) :: starEach es X.env := by rfl) (hpl : (backTo pos (starEach es X.env)).any (·.1) = false := by rfl) : PE X (.Call (.Name x p) (e :: es) [] pos) (te X.K E (mCall f ma)) :=
  PE.imp (pe_callB hc hg hm hv ha hn hdb he hpl) fun _ _ _ ⟨ρ, M, env, rl, re, h⟩ => ta_then rl re h fun ws M1 ρ1 H1 vs g1 rl1 re1 rv1 h1 => ⟨ρ1, M1, ws, rl1, rv1, h1⟩
theorem e_ty {f : List Wv → Mem → R Wv} (hc : CallR X (.type T) (rc X.K E f)) (hm : X.mg x = none) (hv : bootBuiltins x = some (.type T)) (ha : PA X (e :: es) (ta X.K E ma)) (hg : Gl X x := by rfl) (hn : x ≠ "__name__" := by decide) (hdb : (x == ("__debug__" : Str)) = false := by decide)
    (he : starEach (e :: es) X.env = (false, eval e X.env) :: starEach es X.env := by rfl) (hpl : (backTo pos (starEach es X.env)).any (·.1) = false := by rfl) : PE X (.Call (.Name x p) (e :: es) [] pos) (te X.K E (mCall f ma)) :=
  PE.imp (pe_callTy hc hg hm hv ha hn hdb he hpl) fun _ _ _ ⟨ρ, M, env, rl, re, h⟩ => ta_then rl re h fun ws M1 ρ1 H1 vs g1 rl1 re1 rv1 h1 => ⟨ρ1, M1, ws, rl1, rv1, h1⟩
/-- a constant of the module -/
theorem e_glob {v : V} {u : Value} (w : Wv) (hm : X.mg x = some u) (r : RelV v u) (rv : ∀ ρ H, RV X.K ρ H w v) (hg : Gl X x := by rfl) (hd : (x == ("__debug__" : Str)) = false := by decide) : PE X (.Name x pos) (te X.K E (mC w)) :=
  e_const w (pe_glob hg hm r hd) rv
theorem e_gint {i : Int} (hm : ∃ t, X.mg x = some (.int i t)) (hg : Gl X x := by rfl) (hd : (x == ("__debug__" : Str)) = false := by decide) : PE X (.Name x pos) (te X.K E (mC (.int i))) := let ⟨t, hm⟩ := hm; e_glob (v := .int i) _ hm ⟨t, rfl⟩ (fun _ _ => rfl) hg hd
theorem e_gstr {s : Str} (hm : ∃ t, X.mg x = some (.str s t)) (hg : Gl X x := by rfl) (hd : (x == ("__debug__" : Str)) = false := by decide) : PE X (.Name x pos) (te X.K E (mC (.str s))) := let ⟨t, hm⟩ := hm; e_glob (v := .str s) _ hm ⟨t, rfl⟩ (fun _ _ => rfl) hg hd

/-! len, abs, int, tuple, list, all -/
def un1 (f : Wv → Mem → R Wv) : List Wv → Mem → R Wv
  | [x], M => f x M
  | _, _ => .no
theorem rvs1 {K : PySem.W.Frag} {ρ : Rn} {H : Hp} {w : Wv} {vs : List V} (r : RVs K ρ H [w] vs) : ∃ v, vs = [v] ∧ RV K ρ H w v := by
  obtain ⟨v, vr, rfl, h, r⟩ := r
  cases r
  exact ⟨v, rfl, h⟩
theorem un1_in {K : PySem.W.Frag} {f : Wv → Mem → R Wv} {xs : List V} {H : Hp} {Q : VK} (h : rc K E (un1 f) xs H Q) : ∃ v ρ M w, xs = [v] ∧ Rl K ρ M H ∧ RV K ρ H w v ∧ Fin K ρ H (PV K Q) E (f w M) := by
  obtain ⟨ρ, M, ws, rl, rv, h⟩ := h
  match ws, rv, h with
  | [], _, h => exact h.elim
  | _ :: _ :: _, _, h => exact h.elim
  | [w], rv, h =>
    obtain ⟨v, rfl, r⟩ := rvs1 rv
    exact ⟨v, ρ, M, w, rfl, rl, r, h⟩
/-- a list or tuple: what is made of its items -/
def onSq (g : Sq → Mem → R Wv) (x : Wv) (M : Mem) : R Wv := match sqOf M x with
  | some s => g s M
  | none => .no
theorem onSq_in {K : PySem.W.Frag} {ρ : Rn} {M : Mem} {H : Hp} {Q : VK} {g : Sq → Mem → R Wv} {w : Wv} {v : V} (rl : Rl K ρ M H) (r : RV K ρ H w v) (h : Fin K ρ H (PV K Q) E (onSq g w M)) :
    ∃ s a vs, sqOf M w = some s ∧ v = .ref a ∧ RVs K ρ H s.xs vs ∧ Fin K ρ H (PV K Q) E (g s M) ∧ ((∃ xs, s = .l xs ∧ SqL K H a vs) ∨ (∃ xs, s = .t xs ∧ SqT K H a vs)) := by
  have h : Fin K ρ H (PV K Q) E (match sqOf M w with | some s => g s M | none => .no) := h
  cases q : sqOf M w with
  | none => rw [q] at h; exact h.elim
  | some s =>
    rw [q] at h
    have h2 : Fin K ρ H (PV K Q) E (g s M) := h
    cases s with
    | l xs =>
      obtain ⟨a, vs, rfl, h3, h4⟩ := sq_l_of rl q r
      exact ⟨_, a, vs, rfl, rfl, h4, h2, .inl ⟨xs, rfl, h3⟩⟩
    | t xs =>
      obtain ⟨a, vs, rfl, h3, h4⟩ := sq_t_of q r
      exact ⟨_, a, vs, rfl, rfl, h4, h2, .inr ⟨xs, rfl, h3⟩⟩
def len1 : Wv → Mem → R Wv
  | .str s, M => if s.length ≤ lim then .ok (.int s.length) M else .no
  | x, M => onSq (fun s M => .ok (.int s.xs.length) M) x M
abbrev lenW := un1 len1
theorem c_len : CallR X (.builtin "len") (rc X.K E lenW) := by
  refine CallR.imp (CallR.or call_len_seq call_len_str) fun xs H Q hh => ?_
  obtain ⟨v, ρ, M, w, rfl, rl, r, h⟩ := un1_in hh
  clear hh
  by_cases hs : ∃ z, w = .str z
  · obtain ⟨z, rfl⟩ := hs
    cases r
    obtain ⟨h0, h⟩ := pick h
    exact .inr ⟨z, rfl, lim_le h0, fin_val h rl rfl⟩
  · have h' : Fin X.K ρ H (PV X.K Q) E (onSq (fun s M => .ok (.int s.xs.length) M) w M) := by
      cases w with
      | str z => exact absurd ⟨z, rfl⟩ hs
      | _ => exact h
    obtain ⟨s, a, vs, q, rfl, h4, h2, h3⟩ := onSq_in rl r h'
    refine .inl ⟨a, vs, rfl, h3.imp (fun ⟨_, _, z⟩ => z) (fun ⟨_, _, z⟩ => z), fin_val h2 rl (by rw [← h4.length]; rfl)⟩
def abs1 : Wv → Mem → R Wv
  | .int i, M => .ok (.int (if i < 0 then -i else i)) M
  | _, _ => .no
abbrev absW := un1 abs1
theorem c_abs : CallR X (.builtin "abs") (rc X.K E absW) := by
  refine CallR.imp call_abs fun xs H Q hh => ?_
  obtain ⟨v, ρ, M, w, rfl, rl, r, h⟩ := un1_in hh
  clear hh
  cases w <;> first | exact h.elim | skip
  cases r
  exact ⟨_, rfl, fin_val h rl rfl⟩
def int1 : Wv → Mem → R Wv
  | .int i, M => .ok (.int i) M
  | .bl b, M => .ok (.int (if b then 1 else 0)) M
  | _, _ => .no
abbrev intW := un1 int1
theorem c_int : CallR X (.type "int") (rc X.K E intW) := by
  refine CallR.imp call_int1 fun xs H Q hh => ?_
  obtain ⟨v, ρ, M, w, rfl, rl, r, h⟩ := un1_in hh
  clear hh
  cases w <;> first | exact h.elim | skip
  · cases r; exact .inr ⟨_, rfl, fin_val h rl rfl⟩
  · cases r; exact .inl ⟨_, rfl, fin_val h rl rfl⟩
abbrev tupW := un1 (onSq fun s M => .ok (.tup s.xs) M)
theorem sq_tup {M : Mem} {w : Wv} {xs : List Wv} (q : sqOf M w = some (.t xs)) : w = .tup xs := by
  cases w with
  | tup ys => cases q; rfl
  | ref n =>
    have q' : (match M[n]? with | some (Ob.lst xs) => some (Sq.l xs) | _ => none) = some (.t xs) := q
    cases q3 : M[n]? with
    | none => rw [q3] at q'; cases q'
    | some o => cases o <;> (rw [q3] at q'; cases q')
  | _ => cases q
theorem c_tup : CallR X (.type "tuple") (rc X.K E tupW) := by
  refine CallR.imp call_tuple_of fun xs H Q hh => ?_
  obtain ⟨v, ρ, M, w, rfl, rl, r, h⟩ := un1_in hh
  clear hh
  obtain ⟨s, a, vs, q, rfl, h4, h2, h3⟩ := onSq_in rl r h
  rcases h3 with ⟨xs, rfl, h3⟩ | ⟨xs, rfl, h3⟩
  · exact ⟨a, vs, rfl, .inl ⟨h3, fun l hl => fin_tup h2 rl h4 hl⟩⟩
  · obtain rfl := sq_tup q
    exact ⟨a, vs, rfl, .inr ⟨h3, fin_val h2 rl r⟩⟩
abbrev lstW := un1 (onSq fun s M => .ok (.lst s.xs) M)
theorem c_lst : CallR X (.type "list") (rc X.K E lstW) := by
  refine CallR.imp call_list_of fun xs H Q hh => ?_
  obtain ⟨v, ρ, M, w, rfl, rl, r, h⟩ := un1_in hh
  clear hh
  obtain ⟨s, a, vs, q, rfl, h4, h2, h3⟩ := onSq_in rl r h
  exact ⟨a, vs, rfl, h3.imp (fun ⟨_, _, z⟩ => z) (fun ⟨_, _, z⟩ => z), fun l hl => fin_lst h2 rl h4 hl⟩
def bools : List Wv → Option (List Bool)
  | [] => some []
  | .bl b :: xs => (bools xs).map (b :: ·)
  | _ => none
theorem bools_of {K : PySem.W.Frag} {ρ : Rn} {H : Hp} : ∀ {ws : List Wv} {bs : List Bool} {vs : List V}, bools ws = some bs → RVs K ρ H ws vs → vs = bs.map V.bl
  | [], _, _, e, r => by cases e; cases r; rfl
  | w :: ws, _, _, e, r => by
    cases w with
    | bl b =>
      obtain ⟨cs, e1, rfl⟩ := Option.map_eq_some_iff.mp (show (bools ws).map (b :: ·) = some _ from e)
      obtain ⟨v, vr, rfl, h, r⟩ := r
      cases h
      rw [bools_of e1 r, List.map_cons]
    | _ => cases e
def all1 (any : Bool) (s : Sq) (M : Mem) : R Wv := match s with
  | .l xs => match bools xs with
    | some bs => .ok (.bl (if any then bs.any id else bs.all id)) M
    | none => .no
  | _ => .no
abbrev allW (any : Bool) := un1 (onSq (all1 any))
theorem all_in {K : PySem.W.Frag} {H : Hp} {Q : VK} {any : Bool} {xs : List V} (h : rc K E (allW any) xs H Q) :
    ∃ (a : Addr) (bs : List Bool), xs = [V.ref a] ∧ SqL K H a (bs.map V.bl) ∧ Q (.bl (if any then bs.any id else bs.all id)) H := by
  obtain ⟨v, ρ, M, w, rfl, rl, r, h⟩ := un1_in h
  obtain ⟨s, a, vs, q, rfl, h4, h2, h3⟩ := onSq_in rl r h
  rcases h3 with ⟨xs, rfl, h3⟩ | ⟨xs, rfl, h3⟩
  · have h : Fin K ρ H (PV K Q) E (match bools xs with | some bs => R.ok (Wv.bl (if any then bs.any id else bs.all id)) M | none => .no) := h2
    cases q2 : bools xs with
    | none => rw [q2] at h; exact h.elim
    | some bs =>
      rw [q2] at h
      have e := bools_of q2 h4
      subst e
      exact ⟨a, bs, rfl, h3, fin_val h rl rfl⟩
  · exact h2.elim
theorem c_all (hc : X.calm = true) : CallR X (.builtin "all") (rc X.K E (allW false)) := CallR.imp (cr_all hc) fun xs H Q h => all_in h
theorem c_any (hc : X.calm = true) : CallR X (.builtin "any") (rc X.K E (allW true)) := CallR.imp (cr_any hc) fun xs H Q h => all_in h

/-! is True, is not False: a value of any kind beside a bool -/
def blIs (b : Bool) : Wv → Bool
  | .bl a => a == b
  | _ => false
def blIsV (b : Bool) : V → Bool
  | .bl a => a == b
  | _ => false
def isBlW (neg : Bool) : Wv → Wv → Mem → R Bool
  | x, .bl b, M => .ok (neg ^^ blIs b x) M
  | _, _, _ => .no
theorem plain_bl {v : V} {u : Value} {b : Bool} (r : RelV v u) : plainIs u (.bool b) = true ∧ (u == Value.bool b) = blIsV b v := by
  cases v with
  | non => cases r; exact ⟨rfl, rfl⟩
  | bl a => cases r; cases a <;> cases b <;> exact ⟨rfl, rfl⟩
  | int _ => obtain ⟨t, rfl⟩ := r; exact ⟨rfl, rfl⟩
  | str _ => obtain ⟨t, rfl⟩ := r; exact ⟨rfl, rfl⟩
  | byt _ => obtain ⟨t, rfl⟩ := r; exact ⟨rfl, rfl⟩
  | flt _ => obtain ⟨t, rfl⟩ := r; exact ⟨rfl, rfl⟩
  | ref _ => cases r; exact ⟨rfl, rfl⟩
  | ty _ => cases r; exact ⟨rfl, rfl⟩
theorem isbl_v {K : PySem.W.Frag} {ρ : Rn} {H : Hp} {w : Wv} {v : V} {b : Bool} (r : RV K ρ H w v) : blIsV b v = blIs b w := by
  cases w with
  | non => cases r; rfl
  | bl b => cases r; rfl
  | int b => cases r; rfl
  | str b => cases r; rfl
  | ty b => cases r; rfl
  | adr b => cases r; rfl
  | tup b => obtain ⟨a, vs, rfl, _⟩ := r; rfl
  | lst b => obtain ⟨a, vs, rfl, _⟩ := r; rfl
  | rdl b => obtain ⟨a, vs, rfl, _⟩ := r; rfl
  | dct b c => obtain ⟨a, vs, rfl, _⟩ := r; rfl
  | dtt b c => obtain ⟨a, vs, rfl, _⟩ := r; rfl
  | ins C b c => obtain ⟨_, a, dx, vs, _, rfl, _⟩ := r; rfl
  | exc C b c => obtain ⟨_, a, dx, vs, _, rfl, _⟩ := r; rfl
  | ref b => obtain ⟨a, rfl, _⟩ := r; rfl
theorem o_isBl : OpR X (compareOp .Is) (rb X.K E (isBlW false)) := by
  intro pins s σ H x y v u Q I rx ry ⟨ρ, M, wx, wy, rl, rvx, rvy, h⟩
  cases wy <;> first | exact h.elim | skip
  rename_i b
  cases rvy
  obtain rfl : u = Value.bool b := ry
  obtain ⟨hp, e⟩ := plain_bl (b := b) rx
  refine wpAny_is_plain hp ⟨.bl (blIs b wx), H, I, ?_, ?_⟩
  · rw [e, isbl_v rvx]; exact rfl
  · have q := h.here rl
    simpa [PB] using q
theorem o_notBl : OpR X (compareOp .IsNot) (rb X.K E (isBlW true)) := by
  intro pins s σ H x y v u Q I rx ry ⟨ρ, M, wx, wy, rl, rvx, rvy, h⟩
  cases wy <;> first | exact h.elim | skip
  rename_i b
  cases rvy
  obtain rfl : u = Value.bool b := ry
  obtain ⟨hp, e⟩ := plain_bl (b := b) rx
  refine wpAny_isNot_plain hp ⟨.bl (!blIs b wx), H, I, ?_, ?_⟩
  · rw [e, isbl_v rvx]; exact rfl
  · have q := h.here rl
    simpa [PB] using q
end

/-! ### isinstance -/
inductive Ty where
  | non | bl | int | str | tup | lst | dct
def Ty.name : Ty → String
  | .non => "NoneType" | .bl => "bool" | .int => "int" | .str => "str" | .tup => "tuple" | .lst => "list" | .dct => "dict"
def Ty.sub : Ty → Ty → Bool
  | .non, .non => true | .bl, .bl => true | .bl, .int => true | .int, .int => true | .str, .str => true | .tup, .tup => true | .lst, .lst => true | .dct, .dct => true
  | _, _ => false
theorem kit_sub {K : PySem.W.Frag} (a b : Ty) : PySem.W.kitOne K (.type a.name) (.type b.name) = some (a.sub b) := kit_ty (by cases a <;> cases b <;> decide +kernel)
theorem kit_subs {K : PySem.W.Frag} (a : Ty) : ∀ bs : List Ty, PySem.W.kitAny K (.type a.name) (bs.map fun b => Value.type b.name) = some (bs.any a.sub)
  | [] => rfl
  | b :: bs => by
    refine kitAny_cons (kit_sub a b) (fun e => ?_) fun e => ?_
    · rw [List.any_cons, e, Bool.false_or]; exact kit_subs a bs
    · rw [List.any_cons, e, Bool.true_or]
def tyOf (M : Mem) : Wv → Option Ty
  | .non => some .non
  | .bl _ => some .bl
  | .int _ => some .int
  | .str _ => some .str
  | .tup _ => some .tup
  | .lst _ => some .lst
  | .dct _ _ => some .dct
  | .ref n => match M[n]? with
    | some (.lst _) => some .lst
    | _ => none
  | _ => none
theorem tyx_of {K : PySem.W.Frag} {ρ : Rn} {H : Hp} {M : Mem} (rl : Rl K ρ M H) {w : Wv} {v : V} {t : Ty} (e : tyOf M w = some t) (r : RV K ρ H w v) : TyX K H v (.type t.name) := by
  cases w with
  | non => cases e; cases r; exact .base .non
  | bl b => cases e; cases r; exact .base (.bl b)
  | int b => cases e; cases r; exact .base (.int b)
  | str b => cases e; cases r; exact .base (.str b)
  | tup xs =>
    cases e
    obtain ⟨a, vs, rfl, h, _⟩ := r
    rcases h with h | ⟨o, its, n, h1, h2, _⟩
    · exact .base (.tup h.1)
    · exact .kTuple h1 h2
  | lst xs => cases e; obtain ⟨a, vs, rfl, h, _⟩ := r; exact .base (.lst h.1)
  | dct ks xs => cases e; obtain ⟨a, vs, rfl, h, _⟩ := r; exact .base (.dK h.1)
  | ref n =>
    have e : (match M[n]? with | some (Ob.lst _) => some Ty.lst | _ => none) = some t := e
    cases q : M[n]? with
    | none => rw [q] at e; cases e
    | some o =>
      cases o with
      | lst xs =>
        rw [q] at e
        cases e
        obtain ⟨a, vs, rfl, _, h2, _⟩ := rl.lst q r
        exact .base (.lst h2)
      | ins C ns xs => rw [q] at e; cases e
  | _ => cases e
def isW (ts : List Ty) (x : Wv) (M : Mem) : R Wv := match tyOf M x with
  | some t => .ok (.bl (ts.any t.sub)) M
  | none => .no
section
variable {X : Cx} {E : XK} {a : Expr} {ma : Me} {x : Str} {p pos p1 p2 p3 : Pos} {es : List Expr} {k : Nat}
/-- the built-in class T as an argument -/
structure IsTy (X : Cx) (e : Expr) (t : Ty) : Prop where
  pe : PE X e (tC (.ty t.name))
  st : ∀ es, starEach (e :: es) X.env = (false, eval e X.env) :: starEach es X.env
theorem isTy {t : Ty} (hg : Gl X x) (hm : X.mg x = none) (hv : bootBuiltins x = some (.type t.name)) (hn : x ≠ "__name__" := by decide) (hdb : (x == ("__debug__" : Str)) = false := by decide) : IsTy X (.Name x pos) t :=
  ⟨pe_bltn hg hm hv rfl hn hdb, fun _ => rfl⟩
inductive IsTys (X : Cx) : List Expr → List Ty → Prop
  | nil : IsTys X [] []
  | cons {e : Expr} {es : List Expr} {t : Ty} {ts : List Ty} (h : IsTy X e t) (r : IsTys X es ts) : IsTys X (e :: es) (t :: ts)
def tCs (vs : List V) : TA := fun _ H Q => Q vs H
theorem IsTys.pa : ∀ {es : List Expr} {ts : List Ty}, IsTys X es ts → PA X es (tCs (ts.map fun t => V.ty t.name))
  | _, _, .nil => PA.imp pa_nil fun _ _ _ h => h
  | _, _, .cons h r => PA.imp (pa_cons h.pe r.pa (h.st _)) fun _ _ _ q => q
theorem IsTys.cls (ts : List Ty) : Paired ClsV (ts.map fun t => V.ty t.name) (ts.map fun t => Value.type t.name) := by
  induction ts with
  | nil => exact .nil
  | cons t ts ih => exact .cons (.ty _) ih
theorem fin_is {K : PySem.W.Frag} {ρ : Rn} {M : Mem} {H : Hp} {Q : VK} {ts : List Ty} {w : Wv} (h : Fin K ρ H (PV K Q) E (isW ts w M)) : ∃ t, tyOf M w = some t ∧ Fin K ρ H (PV K Q) E (.ok (.bl (ts.any t.sub)) M) := by
  unfold isW at h
  cases q : tyOf M w with
  | none => rw [q] at h; exact h.elim
  | some t => rw [q] at h; exact ⟨t, rfl, h⟩
/-- isinstance(a, T) -/
theorem e_is {b : Expr} {t : Ty} (hm : X.mg "isinstance" = none) (ha : PE X a (te X.K E ma)) (hb : IsTy X b t) (hg : Gl X "isinstance" := by rfl) (hs : starEach (a :: [b]) X.env = (false, eval a X.env) :: starEach [b] X.env := by rfl) (hpl : (backTo pos (starEach [b] X.env)).any (·.1) = false := by rfl) :
    PE X (.Call (.Name "isinstance" p) [a, b] [] pos) (te X.K E (mUn (isW [t]) ma)) :=
  PE.imp (pe_callB call_isi hg hm PyProof.Rows.boot_isinstance (pa_cons ha (pa_cons hb.pe pa_nil (hb.st _)) hs) (by decide) (by decide) hs hpl) fun σ H Q ⟨ρ, M, env, rl, re, f⟩ => by
    refine te_then rl re f fun w M1 ρ1 H1 v g1 rl1 re1 rv1 f1 => ?_
    obtain ⟨u, e, f1⟩ := fin_is f1
    exact ⟨v, .ty t.name, .type u.name, .type t.name, _, rfl, .ty _, tyx_of rl1 e rv1, kit_sub u t, fin_val f1 rl1 (by simp [RV])⟩
/-- isinstance(a, (T, U, ..)) -/
theorem e_ist {ts : List Ty} (hm : X.mg "isinstance" = none) (ha : PE X a (te X.K E ma)) (hb : IsTys X es ts) (hg : Gl X "isinstance" := by rfl) (hlen : ts.length ≤ lim := by decide) (hs : starEach (a :: [.Tuple es k p1]) X.env = (false, eval a X.env) :: starEach [.Tuple es k p1] X.env := by rfl)
    (hpl : (backTo pos (starEach [.Tuple es k p1] X.env)).any (·.1) = false := by rfl) : PE X (.Call (.Name "isinstance" p) [a, .Tuple es k p1] [] pos) (te X.K E (mUn (isW ts) ma)) :=
  PE.imp (pe_callB call_isiT hg hm PyProof.Rows.boot_isinstance (pa_cons ha (pa_cons (pe_tup hb.pa) pa_nil) hs) (by decide) (by decide) hs hpl) fun σ H Q ⟨ρ, M, env, rl, re, f⟩ => by
    refine te_then rl re f fun w M1 ρ1 H1 v g1 rl1 re1 rv1 f1 => ?_
    obtain ⟨u, e, f1⟩ := fin_is f1
    refine ⟨by rw [List.length_map]; exact lim_le hlen, fun q hq => ?_⟩
    have g2 : Gr ρ1 H1 ρ1 (upd H1 q (.tup (ts.map fun t => V.ty t.name))) := Gr.fresh hq
    exact ⟨v, q, _, .type u.name, _, _, rfl, upd_same, IsTys.cls ts, tyx_of (rl1.upd hq) e (RV.mono g2 w rv1), kit_subs u ts, f1 ρ1 _ g2 (rl1.upd hq) _ rfl⟩
end
end Mi

namespace Mi
open PySem PySem.Spec PyProof.Rows L2

/-! ### repr of data -/
def reprOk (d : PyData) : Bool := d.showable && !d.hasDict && decide (d.shown.length ≤ lim) && decide (d.depth ≤ 60)
def repr1 (w : Wv) (M : Mem) : R Wv := match toDM M w with
  | some d => if reprOk d then .ok (.str d.shown) M else .no
  | none => .no
abbrev reprW := un1 repr1
section
variable {X : Cx} {E : XK}
theorem c_repr (hg : X.A.guards = some []) (hu : X.A.units + 64 < cLine) : CallR X (.builtin "repr") (rc X.K E reprW) := by
  intro pins s σ H xs us Q I r hh
  obtain ⟨v, ρ, M, w, rfl, rl, rv, h⟩ := un1_in hh
  clear hh
  obtain ⟨u, rfl, ru⟩ := vals1 r
  unfold repr1 at h
  cases q : toDM M w with
  | none => rw [q] at h; exact h.elim
  | some d =>
    rw [q] at h
    obtain ⟨h0, h⟩ := pick h
    unfold reprOk at h0
    rw [Bool.and_eq_true, Bool.and_eq_true, Bool.and_eq_true] at h0
    obtain ⟨⟨⟨h1, h2⟩, h3⟩, h4⟩ := h0
    have h3 := of_decide_eq_true h3
    have h4 := of_decide_eq_true h4
    have hz := lim_le h3
    have fin : Q (.str d.shown) H := fin_val h rl rfl
    have D := dpM_of rl w q rv
    obtain ⟨as, rd⟩ := Dp.reads I d v u D ru
    cases D with
    | non => cases ru; exact PySem.P.repr_of_none ⟨.str _, H, I.tok _, ⟨_, rfl⟩, fin⟩
    | bl b => cases ru; exact PySem.P.repr_of_bool ⟨.str _, H, I.tok _, ⟨_, rfl⟩, fin⟩
    | int i =>
      obtain ⟨t, rfl⟩ := ru
      exact PySem.P.repr_of_int (of_decide_eq_true h1) ⟨.str _, H, I.tok _, ⟨_, rfl⟩, fin⟩
    | str x =>
      obtain ⟨t, rfl⟩ := ru
      exact PySem.P.repr_of_str ⟨.str _, H, I.tok _, ⟨_, rfl⟩, fin⟩ hz
    | lst _ _ =>
      cases ru
      exact repr_of_reads' rd h1 (fun z => absurd z (by simp at h2; simp [h2])) hg (by omega) (fun _ _ e => e) (fun h' u' tk hk => ⟨.str _, H, I.kept hk, ⟨_, rfl⟩, fin⟩) hz
    | tup _ _ =>
      cases ru
      exact repr_of_reads' rd h1 (fun z => absurd z (by simp at h2; simp [h2])) hg (by omega) (fun _ _ e => e) (fun h' u' tk hk => ⟨.str _, H, I.kept hk, ⟨_, rfl⟩, fin⟩) hz
end

/-! ### statements -/
inductive Fl where
  | nx (env : Ev) | ret (w : Wv) | bk (env : Ev) | ct (env : Ev)
abbrev Ms := Ev → Mem → R Fl
def PF (K : PySem.W.Frag) (D : Ends) : Fl → Mem → Rn → Hp → Prop
  | .nx env, _, ρ, H => ∀ σ, RE K ρ H env σ → D.nx σ H
  | .ret w, _, ρ, H => ∀ v, RV K ρ H w v → D.rt v H
  | .bk env, _, ρ, H => ∀ σ, RE K ρ H env σ → D.bk σ H
  | .ct env, _, ρ, H => ∀ σ, RE K ρ H env σ → D.ct σ H
def ts (K : PySem.W.Frag) (E : XK) (m : Ms) : TS := fun D σ H => ∃ ρ M env, Rl K ρ M H ∧ RE K ρ H env σ ∧ Fin K ρ H (PF K D) E (m env M)
def sNil : Ms := fun env M => .ok (.nx env) M
def andThen (fl : Fl) (k : Ev → Mem → R Fl) (M : Mem) : R Fl := match fl with
  | .nx env => k env M
  | fl => .ok fl M
def sSeq (a b : Ms) : Ms := fun env M => (a env M).bind fun fl M1 => andThen fl b M1
def sSet (i : Nat) (a : Me) : Ms := fun env M => (a env M).bind fun w M1 => .ok (.nx (env.set i (some w))) M1
def sRet (a : Me) : Ms := fun env M => (a env M).bind fun w M1 => .ok (.ret w) M1
def sRetN : Ms := fun _ M => .ok (.ret .non) M
def sIf (t : Mt) (a b : Ms) : Ms := fun env M => (t env M).bind fun c M1 => if c = true then a env M1 else b env M1
def sExp (a : Me) : Ms := fun env M => (a env M).bind fun _ M1 => .ok (.nx env) M1
def sBrk : Ms := fun env M => .ok (.bk env) M
def sCnt : Ms := fun env M => .ok (.ct env) M
def sPut (a o i : Me) : Ms := fun env M => (a env M).bind fun w M1 => (o env M1).bind fun ov M2 => (i env M2).bind fun iv M3 => (setW ov iv w M3).bind fun _ M4 => .ok (.nx env) M4
def sPar2 (i j : Nat) (a : Ma) : Ms := fun env M => (a env M).bind fun ws M1 => match ws with
  | [u, v] => .ok (.nx ((env.set i (some u)).set j (some v))) M1
  | _ => .no
def sPar3 (i j l : Nat) (a : Ma) : Ms := fun env M => (a env M).bind fun ws M1 => match ws with
  | [u, v, w] => .ok (.nx (((env.set i (some u)).set j (some v)).set l (some w))) M1
  | _ => .no
section
variable {X : Cx} {E : XK} {e o i' : Expr} {st : Stmt} {rest : List Stmt} {me mo mi : Me} {ma : Ma} {mt : Mt} {m1 m2 : Ms} {pos : Pos} {i j l : Nat} {x y z : Str}
theorem s_nil : PSs X [] (ts X.K E sNil) := PSs.imp pss_nil fun D σ H ⟨ρ, M, env, rl, re, f⟩ => f.here rl σ re
theorem pf_then {K : PySem.W.Frag} {ρ : Rn} {M : Mem} {H : Hp} {D : Ends} {k : Ms} {fl : Fl} (rl : Rl K ρ M H) (f : Fin K ρ H (PF K D) E (andThen fl k M)) : PF K { D with nx := ts K E k D } fl M ρ H := by
  cases fl with
  | nx env => exact fun σ re => ⟨ρ, M, env, rl, re, f⟩
  | ret w => exact f.here rl
  | bk env => exact f.here rl
  | ct env => exact f.here rl
theorem s_cons (h1 : PS X st (ts X.K E m1)) (h2 : PSs X rest (ts X.K E m2)) : PSs X (st :: rest) (ts X.K E (sSeq m1 m2)) := PSs.imp (pss_cons h1 h2) fun D σ H ⟨ρ, M, env, rl, re, f⟩ =>
  ⟨ρ, M, env, rl, re, f.bind.imp fun fl M1 ρ1 H1 g1 rl1 f1 => pf_then rl1 f1⟩
theorem s_one (h1 : PS X st (ts X.K E m1)) : PSs X [st] (ts X.K E m1) := pss_one h1
theorem s_set {pos' : Pos} (hN : X.N.Nodup) (he : PE X e (te X.K E me)) (hi : X.N[i]? = some x := by rfl) (hx : Loc X.env.scope x := by first | exact Or.inl rfl | exact Or.inr rfl) (hs : swapsWith e (some (.Name x pos')) pos.line X.env = pure false := by rfl) (hf : X.fn x = true ∨ X.env.scope.names.lookup x = some .local := by first | exact .inl rfl | exact .inr rfl) :
    PS X (.Assign [.Name x pos'] e pos) (ts X.K E (sSet i me)) := PS.imp (ps_set (i := i) hN hi hx he hs hf) fun D σ H ⟨ρ, M, env, rl, re, f⟩ =>
  te_then rl re f fun w M1 ρ1 H1 v g1 rl1 re1 rv1 f1 => f1.here rl1 _ (re1.set rv1)
theorem s_ret (he : PE X e (te X.K E me)) : PS X (.Return (some e) pos) (ts X.K E (sRet me)) := PS.imp (ps_ret he) fun D σ H ⟨ρ, M, env, rl, re, f⟩ =>
  te_then rl re f fun w M1 ρ1 H1 v g1 rl1 re1 rv1 f1 => f1.here rl1 v rv1
theorem s_retN : PS X (.Return none pos) (ts X.K E sRetN) := PS.imp ps_retN fun D σ H ⟨ρ, M, env, rl, re, f⟩ => f.here rl .non rfl
theorem s_if {a b : List Stmt} (hc : PT X e (tt X.K E mt)) (ha : PSs X a (ts X.K E m1)) (hb : PSs X b (ts X.K E m2)) : PS X (.If e a b pos) (ts X.K E (sIf mt m1 m2)) := PS.imp (ps_if hc ha hb) fun D σ H ⟨ρ, M, env, rl, re, f⟩ =>
  tt_then rl re f fun b M1 ρ1 H1 g1 rl1 re1 f1 => by
    cases b with
    | true => exact ⟨ρ1, M1, env, rl1, re1, f1⟩
    | false => exact ⟨ρ1, M1, env, rl1, re1, f1⟩
theorem s_expr (he : PE X e (te X.K E me)) (hs : swapsWith e none pos.line X.env = pure false := by rfl) : PS X (.Expr e pos) (ts X.K E (sExp me)) := PS.imp (ps_expr he hs) fun D σ H ⟨ρ, M, env, rl, re, f⟩ =>
  te_then rl re f fun w M1 ρ1 H1 v g1 rl1 re1 rv1 f1 => f1.here rl1 _ re1
theorem s_brk : PS X (.Break pos) (ts X.K E sBrk) := PS.imp ps_break fun D σ H ⟨ρ, M, env, rl, re, f⟩ => f.here rl σ re
theorem s_cnt : PS X (.Continue pos) (ts X.K E sCnt) := PS.imp ps_continue fun D σ H ⟨ρ, M, env, rl, re, f⟩ => f.here rl σ re
theorem s_pass : PS X (.Pass pos) (ts X.K E sNil) := PS.imp ps_pass fun D σ H ⟨ρ, M, env, rl, re, f⟩ => f.here rl σ re
theorem set_in {K : PySem.W.Frag} {ρ : Rn} {M : Mem} {H : Hp} {wo wi w : Wv} {o i v : V} {P : Unit → Mem → Rn → Hp → Prop} {Q : Hp → Prop} (rl : Rl K ρ M H) (ro : RV K ρ H wo o) (ri : RV K ρ H wi i) (rv : RV K ρ H w v) (f : Fin K ρ H P E (setW wo wi w M))
    (q : ∀ M1 H1, Gr ρ H ρ H1 → Rl K ρ M1 H1 → P () M1 ρ H1 → Q H1) : rSetL o i v H Q := by
  cases wo <;> cases wi <;> first | exact f.elim | skip
  rename_i k n
  cases ri
  cases e : M[k]? with
  | none =>
    have f : Fin K ρ H P E (match M[k]? with | some (Ob.lst xs) => (match ixN xs.length n with | some j => R.ok () (M.set k (.lst (xs.set j w))) | none => .no) | _ => .no) := f
    rw [e] at f; exact f.elim
  | some ob =>
    have f : Fin K ρ H P E (match M[k]? with | some (Ob.lst xs) => (match ixN xs.length n with | some j => R.ok () (M.set k (.lst (xs.set j w))) | none => .no) | _ => .no) := f
    rw [e] at f
    cases ob with
    | lst xs =>
      have f : Fin K ρ H P E (match ixN xs.length n with | some j => R.ok () (M.set k (.lst (xs.set j w))) | none => .no) := f
      obtain ⟨a, vs, rfl, ha, h1, h2⟩ := rl.lst e ro
      cases ej : ixN xs.length n with
      | none => rw [ej] at f; exact f.elim
      | some j =>
        rw [ej] at f
        have gg : Gr ρ H ρ (upd H a (.lst (vs.set j v))) := Gr.write ha
        have rl2 : Rl K ρ (M.set k (.lst (xs.set j w))) (upd H a (.lst (vs.set j v))) := rl.write ha ⟨_, upd_same, RVs.set (RVs.mono gg xs h2) (RV.mono gg w rv)⟩
        exact ⟨a, vs, n, j, rfl, rfl, h1, by rw [← h2.length]; exact ej, q _ _ gg rl2 (f ρ _ gg rl2)⟩
    | ins C ns xs => exact f.elim
theorem s_put {p2 : Pos} (he : PE X e (te X.K E me)) (ho : PE X o (te X.K E mo)) (hi : PE X i' (te X.K E mi)) (hs : swapsWithSole [.Subscript o i' p2] e pos.line X.env = pure false := by rfl) (hw : swappedStores [.Subscript o i' p2] e X.env = pure none := by rfl)
    (h1 : (assignEach [.Subscript o i' p2] X.env).map (·.2) = [assign (.Subscript o i' p2) X.env] := by rfl)
    (ha : ∀ v, assign (.Subscript o i' p2) X.env v = (do
      let ov ← holding [v] (eval o X.env)
      let iv ← holding [v, ov] (eval i' X.env)
      standAt p2
      holding [v, ov, iv] (setItem ov iv v)
      release [v, ov, iv] []) := by intro _; rfl) : PS X (.Assign [.Subscript o i' p2] e pos) (ts X.K E (sPut me mo mi)) :=
  PS.imp (ps_asg he (pg_sub ho hi set_list ha) hs hw h1) fun D σ H ⟨ρ, M, env, rl, re, f⟩ => by
    refine te_then rl re f fun w M1 ρ1 H1 v g1 rl1 re1 rv1 f1 => ?_
    refine te_then rl1 re1 f1 fun wo M2 ρ2 H2 ov g2 rl2 re2 rv2 f2 => ?_
    refine te_then rl2 re2 f2 fun wi M3 ρ3 H3 iv g3 rl3 re3 rv3 f3 => ?_
    exact set_in rl3 (RV.mono g3 wo rv2) rv3 (RV.mono g3 w (RV.mono g2 w rv1)) f3.bind fun M4 H4 g4 rl4 f4 => f4.here rl4 _ (re3.mono g4)
theorem s_par2 {a b : Expr} {px py pt : Pos} {kt k2 pt2} (hc : X.calm = true) (hN : X.N.Nodup) (ha : PA X [a, b] (ta X.K E ma)) (hi : X.N[i]? = some x := by rfl) (hj : X.N[j]? = some y := by rfl) (hij : i ≠ j := by decide)
    (hx : X.env.scope.names.lookup x = some .local := by rfl) (hy : X.env.scope.names.lookup y = some .local := by rfl) (hw : swappedStores [.Tuple [.Name x px, .Name y py] kt pt] (.Tuple [a, b] k2 pt2) X.env = pure (some [x, y]) := by rfl)
    (hs : swapsWithSole [.Tuple [.Name x px, .Name y py] kt pt] (.Tuple [a, b] k2 pt2) pos.line X.env = pure false := by rfl) : PS X (.Assign [.Tuple [.Name x px, .Name y py] kt pt] (.Tuple [a, b] k2 pt2) pos) (ts X.K E (sPar2 i j ma)) :=
  PS.imp (ps_par hc hN hi hj hij hx hy ha hw hs) fun D σ H ⟨ρ, M, env, rl, re, f⟩ => ta_then rl re f fun ws M1 ρ1 H1 vs g1 rl1 re1 rv1 f1 => by
    match ws, rv1, f1 with
    | [], _, f1 => exact f1.elim
    | [_], _, f1 => exact f1.elim
    | _ :: _ :: _ :: _, _, f1 => exact f1.elim
    | [u, v], rv, f1 =>
      obtain ⟨v1, _, rfl, r1, v2, _, rfl, r2, rfl⟩ := rv
      exact ⟨v1, v2, rfl, f1.here rl1 _ ((re1.set r1).set r2)⟩
theorem s_par3 {a b c : Expr} {px py pz pt : Pos} {kt k2 pt2} (hc : X.calm = true) (hN : X.N.Nodup) (ha : PA X [a, b, c] (ta X.K E ma)) (hi : X.N[i]? = some x := by rfl) (hj : X.N[j]? = some y := by rfl) (hl : X.N[l]? = some z := by rfl) (hij : i ≠ j := by decide) (hil : i ≠ l := by decide) (hjl : j ≠ l := by decide)
    (hx : X.env.scope.names.lookup x = some .local := by rfl) (hy : X.env.scope.names.lookup y = some .local := by rfl) (hz : X.env.scope.names.lookup z = some .local := by rfl)
    (hw : swappedStores [.Tuple [.Name x px, .Name y py, .Name z pz] kt pt] (.Tuple [a, b, c] k2 pt2) X.env = pure (some [x, y, z]) := by rfl)
    (hs : swapsWithSole [.Tuple [.Name x px, .Name y py, .Name z pz] kt pt] (.Tuple [a, b, c] k2 pt2) pos.line X.env = pure false := by rfl) :
    PS X (.Assign [.Tuple [.Name x px, .Name y py, .Name z pz] kt pt] (.Tuple [a, b, c] k2 pt2) pos) (ts X.K E (sPar3 i j l ma)) :=
  PS.imp (ps_par3 hc hN hi hj hl hij hil hjl hx hy hz ha hw hs) fun D σ H ⟨ρ, M, env, rl, re, f⟩ => ta_then rl re f fun ws M1 ρ1 H1 vs g1 rl1 re1 rv1 f1 => by
    match ws, rv1, f1 with
    | [], _, f1 => exact f1.elim
    | [_], _, f1 => exact f1.elim
    | [_, _], _, f1 => exact f1.elim
    | _ :: _ :: _ :: _ :: _, _, f1 => exact f1.elim
    | [u, v, w], rv, f1 =>
      obtain ⟨v1, _, rfl, r1, v2, _, rfl, r2, v3, _, rfl, r3, rfl⟩ := rv
      exact ⟨v1, v2, v3, rfl, f1.here rl1 _ (((re1.set r1).set r2).set r3)⟩
end

abbrev WE1 (E : XK) : WX := fun cls d _ H => E cls d H
/-! ### functions; nothing is being shown meanwhile (guards) -/
structure FnG (P : Program) (w : World) (K : PySem.W.Frag) (mg : Str → Option Value) (base : Heap) (k : Nat) (f : Addr) (fd : FuncData) (ps : List Str) (m : List Wv → Mem → R Wv) : Prop where
  go : ∀ (A : Around) (outer : List Env) (s : Shared) (H : Hp) (as : Args) (us : List Value) (vs : List V) (ws : List Wv) (ρ : Rn) (M : Mem) (Q : VK) (E : XK), Room k A → A.guards = some [] → Env0 P w K mg base A outer s H → BindsTo s fd as (ps.zip us) → Vals vs us →
    vs.length = ps.length → Rl K ρ M H → RVs K ρ H ws vs → Fin K ρ H (PV K Q) E (m ws M) → codeAny (model P w) A (.call (.ref f) as) (CR (L2.CX P w) outer P w H s Q E) s
theorem FnG.up {P : Program} {w : World} {K : PySem.W.Frag} {mg : Str → Option Value} {base : Heap} {j k : Nat} {f : Addr} {fd : FuncData} {ps : List Str} {m : List Wv → Mem → R Wv} (F : FnG P w K mg base j f fd ps m) (h : j ≤ k) : FnG P w K mg base k f fd ps m :=
  ⟨fun A outer s H as us vs ws ρ M Q E hr => F.go A outer s H as us vs ws ρ M Q E (hr.mono h)⟩
def evStart (n : Nat) (ws : List Wv) : Ev := ws.map some ++ List.replicate (n - ws.length) none
def mFn (n : Nat) (b : Ms) : List Wv → Mem → R Wv := fun ws M => (b (evStart n ws) M).bind fun fl M1 => match fl with
  | .nx _ => .ok .non M1
  | .ret w => .ok w M1
  | _ => .no
theorem re_start {K : PySem.W.Frag} {ρ : Rn} {H : Hp} {N : List Str} {ws : List Wv} {vs : List V} (r : RVs K ρ H ws vs) : RE K ρ H (evStart N.length ws) (L2.start N vs) := by
  unfold evStart L2.start
  refine ⟨by simp [r.length], fun i w e => ?_⟩
  have hl := r.length
  by_cases hi : i < ws.length
  · rw [List.getElem?_append_left (by simpa using hi), List.getElem?_map] at e
    obtain ⟨u, h1, h2⟩ := Option.map_eq_some_iff.mp e
    cases h2
    obtain ⟨v, h3, h4⟩ := r.get h1
    exact ⟨v, by rw [List.getElem?_append_left (by simpa [← hl] using hi), List.getElem?_map, h3]; rfl, h4⟩
  · rw [List.getElem?_append_right (by simpa using hi)] at e
    have := List.mem_of_getElem? e
    simp at this
section
variable {P : Program} {w : World} {K : PySem.W.Frag} {mg : Str → Option Value} {base : Heap}
theorem FnG.of {x qual : Str} {st : Stmt} {f : Addr} {fd : FuncData} {N ps : List Str} {k : Nat} {b : Ms} (F : Fun K x qual st f fd) (S : FnScope N ps (defScope st))
    (body : ∀ (cdv : Value) (A : Around) (outer : List Env) (s : Shared) (H : Hp) (E : XK), Room k (A.deeper (envOfC qual (defScope st) s.heap.objs.size f cdv)) → A.guards = some [] →
      Passes (L2.CX P w) (cxOf (L2.CX P w) P w K mg base N qual (defScope st) f cdv A outer s H E) E → Takes (cxOf (L2.CX P w) P w K mg base N qual (defScope st) f cdv A outer s H E) (WE1 E) →
      PSs (cxOf (L2.CX P w) P w K mg base N qual (defScope st) f cdv A outer s H E) (defBody st) (ts K E b)) : FnG P w K mg base (k + 1) f fd ps (mFn N.length b) := by
  obtain ⟨oc, od, kV, doc, pm, an, cdv, ct, osl, rfl, lk, hcd⟩ := F.ex
  refine ⟨fun A outer s H as us vs ws ρ M Q E hr hgd e0 hb r hl rl rv fin => ?_⟩
  have KX : K.In s.heap := e0.mod.kin.keeps fun c o q => (e0.bs c o q).1
  have noL : s.heap.NoLimit := e0.mod.nolimit.keeps fun c o q => (e0.bs c o q).1
  have kinds : ∀ y ∈ ps.zip us, (defScope st).names.lookup y.1 = some .local ∨ ((defScope st).names.lookup y.1 = some .cell ∧ ((cellsFrom (s.heap.objs.size + 1) (defScope st).names []).lookup y.1).isSome = true) := by
    rintro ⟨n, v⟩ hy
    refine (S.par n (List.of_mem_zip hy).1).imp id fun q => ?_
    exact ⟨q, PySem.W.cellsFrom_some _ _ _ (.inl q)⟩
  refine codeAny_call_function hr.depth (KX _ _ lk) rfl S.co S.gen rfl (PySem.W.codeRec_of KX hcd) (hb _ _ _ _ (wpAny_newFunctionEnv_cells S.kind kinds fun env he s1 inC => ?_))
  subst he
  refine ⟨noL.keeps inC.toInCall.keep, codeAny_func ?_⟩
  have I : Inv (cxOf (L2.CX P w) P w K mg base N qual (defScope st) f cdv A outer s H E) [] (L2.start N vs) H s1 := inv_start S hr.hd e0 hl r inC
  have hx : Passes (L2.CX P w) (cxOf (L2.CX P w) P w K mg base N qual (defScope st) f cdv A outer s H E) E := passes_call (takes_of rfl rfl rfl rfl) fun _ _ _ _ z => z
  have tk : Takes (cxOf (L2.CX P w) P w K mg base N qual (defScope st) f cdv A outer s H E) (WE1 E) := takes_of rfl rfl rfl rfl
  have ht := body cdv A outer s H E (hr.deeper _) hgd hx tk
  have hw : ts K E b { nx := fun _ H' => Q .non H', rt := Q } (L2.start N vs) H := by
    refine ⟨ρ, M, evStart N.length ws, rl, re_start rv, fin.bind.imp fun fl M1 ρ1 H1 g1 rl1 f1 => ?_⟩
    cases fl with
    | nx env => exact fun σ _ => f1.here rl1 .non rfl
    | ret v => exact f1.here rl1
    | bk env => exact f1.elim
    | ct env => exact f1.elim
  refine wpAny_mono (ht.run [] s1 (L2.start N vs) H _ I hw) (fun fl s' hs => ?_) fun _ _ z => z
  cases fl with
  | ret u =>
    obtain ⟨v, σ', H', J, rv', q⟩ := hs
    exact ⟨v, H', J.os, J.bare, J.base, J.hok, rv', q⟩
  | next =>
    obtain ⟨σ', H', J, q⟩ := hs
    exact ⟨V.non, H', J.os, J.bare, J.base, J.hok, rfl, q⟩
  | brk => obtain ⟨_, _, _, q⟩ := hs; exact q.elim
  | cont => obtain ⟨_, _, _, q⟩ := hs; exact q.elim
end
section
variable {X : Cx} {E : XK} {k : Nat} {f : Addr} {fd : FuncData} {ps ks : List Str} {m : List Wv → Mem → R Wv} {x : Str} {p pos : Pos} {e : Expr} {es : List Expr} {ma mk : Ma} {kws : List Keyword}
theorem callG (F : FnG X.prog X.w X.K X.mg X.base k f fd ps m) (hr : Room k X.A) (hgd : X.A.guards = some []) (hx : Passes (L2.CX X.prog X.w) X E) {pins : List (Addr × Obj)} {σ : L2.St} {H : Hp} {s : Shared} {Q : VK} {kw : List (Str × Value)} {us us' : List Value} {vs : List V} {ws : List Wv} {ρ : Rn} {M : Mem}
    (I : Inv X pins σ H s) (hb : BindsTo s fd ⟨us, kw⟩ (ps.zip us')) (r : Vals vs us') (hl : vs.length = ps.length) (rl : Rl X.K ρ M H) (rv : RVs X.K ρ H ws vs) (fin : Fin X.K ρ H (PV X.K Q) E (m ws M)) : wpAny (model X.prog X.w) X.A (call (.ref f) us kw) (EP X pins σ Q) X.xe s := by
  refine wpAny_call (codeAny_mono (F.go X.A X.stack s H ⟨us, kw⟩ us' vs ws ρ M Q E hr hgd I.env0 hb r hl rl rv fin) fun res s' hq => ?_)
  cases res with
  | error er => exact hx pins σ H s er s' I hq
  | ok fl =>
    cases fl with
    | ret u => exact I.after hq
    | next => exact hq.elim
    | brk => exact hq.elim
    | cont => exact hq.elim
/-- f(e, ..); n the number of arguments -/
def mApp (n : Nat) (f : List Wv → Mem → R Wv) (a : Ma) : Me := fun env M => (a env M).bind fun ws M1 => if ws.length = n then f ws M1 else .no
theorem e_call (F : FnG X.prog X.w X.K X.mg X.base k f fd ps m) (hr : Room k X.A) (hgd : X.A.guards = some []) (hx : Passes (L2.CX X.prog X.w) X E) (hm : X.mg x = some (.ref f)) (hk : PySem.W.keepIn X.K (.ref f) = true) (hb : Binds X.K fd ps []) (ha : PA X (e :: es) (ta X.K E ma))
    (hg : Gl X x := by rfl) (hdb : (x == ("__debug__" : Str)) = false := by decide) (he : starEach (e :: es) X.env = (false, eval e X.env) :: starEach es X.env := by rfl) (hpl : (backTo pos (starEach es X.env)).any (·.1) = false := by rfl) {n : Nat} (hn : ps.length = n := by rfl) :
    PE X (.Call (.Name x p) (e :: es) [] pos) (te X.K E (mApp n m ma)) := by
  subst hn
  refine ⟨fun pins s σ H Q I ⟨ρ, M, env, rl, re, h⟩ => wpAny_Call_Name_kw (ld_glob I hg hm ?_ hdb)⟩
  refine PySem.W.callWith_K (h₀ := X.base) I.ok.mod.kin hk (thn (ha.run pos pins s σ H (fun vs H1 => ∃ ρ1 M1 ws, Rl X.K ρ1 M1 H1 ∧ RVs X.K ρ1 H1 ws vs ∧ ws.length = ps.length ∧ Fin X.K ρ1 H1 (PV X.K Q) E (m ws M1)) I
    (ta_then rl re h fun ws M1 ρ1 H1 vs g1 rl1 re1 rv1 f1 => by obtain ⟨h0, f1⟩ := pick f1; exact ⟨ρ1, M1, ws, rl1, rv1, h0, f1⟩)) fun us s1 ⟨vs, H1, I1, r, ρ1, M1, ws, rl1, rv1, hl, f1⟩ => ⟨I1.kIn, ?_⟩) he hpl
  have h1 : vs.length = ps.length := by rw [← rv1.length]; exact hl
  have h2 := hb s1 us I1.kIn (by rw [List.append_nil, ← r.length]; exact h1)
  rw [List.append_nil] at h2
  exact callG F hr hgd hx I1 h2 r h1 rl1 rv1 f1
end
end Mi

namespace Mi
open PySem PySem.Spec PyProof.Rows L2

/-! ### keywords -/
def pick' {α : Type} (p : List Nat) (l : List α) : List α := p.filterMap fun i => l[i]?
theorem pick_vals : ∀ (p : List Nat) {vs : List V} {us : List Value}, Vals vs us → Vals (pick' p vs) (pick' p us)
  | [], _, _, _ => .nil
  | i :: p, vs, us, r => by
    unfold pick'
    rw [List.filterMap_cons, List.filterMap_cons]
    cases e : vs[i]? with
    | none => rw [r.none_of e]; exact pick_vals p r
    | some v =>
      obtain ⟨u, h1, h2⟩ := r.get e
      rw [h1]
      exact .cons h2 (pick_vals p r)
theorem pick_rvs {K : PySem.W.Frag} {ρ : Rn} {H : Hp} : ∀ (p : List Nat) {ws : List Wv} {vs : List V}, RVs K ρ H ws vs → RVs K ρ H (pick' p ws) (pick' p vs)
  | [], _, _, _ => rfl
  | i :: p, ws, vs, r => by
    unfold pick'
    rw [List.filterMap_cons, List.filterMap_cons]
    cases e : ws[i]? with
    | none =>
      have : vs[i]? = none := by
        rw [List.getElem?_eq_none_iff] at e ⊢
        rw [← r.length]; exact e
      rw [this]; exact pick_rvs p r
    | some w =>
      obtain ⟨v, h1, h2⟩ := r.get e
      rw [h1]
      exact ⟨v, _, rfl, h2, pick_rvs p r⟩
/-- a call with n written values, the keywords ks; perm: where each parameter's value stands among them -/
structure BK (fd : FuncData) (ps : List Str) (n : Nat) (ks : List Str) (perm : List Nat) : Prop where
  to : ∀ (s : Shared) (us ws : List Value), us.length = n → ws.length = ks.length → BindsTo s fd ⟨us, ks.zip ws⟩ (ps.zip (pick' perm (us ++ ws)))
theorem BK.of {K : PySem.W.Frag} {x qual : Str} {st : Stmt} {f : Addr} {fd : FuncData} {ps ks : List Str} {n : Nat} {perm : List Nat} (F : Fun K x qual st f fd)
    (h : ∀ (kV doc pm : Value) (an : Option Addr) (cdv ct : Value) (us ws : List Value), us.length = n → ws.length = ks.length → bindArgs (PySem.W.fnOf x qual (defArgs st) (defBody st) (defScope st) .none kV doc pm an cdv ct) ⟨us, ks.zip ws⟩ = pure (ps.zip (pick' perm (us ++ ws)))) : BK fd ps n ks perm := by
  obtain ⟨oc, od, kV, doc, pm, an, cdv, ct, osl, rfl, lk, hcd⟩ := F.ex
  exact ⟨fun s us ws h1 h2 => .of_eq (h kV doc pm an cdv ct us ws h1 h2)⟩
def mAppK (n j l : Nat) (perm : List Nat) (f : List Wv → Mem → R Wv) (a k : Ma) : Me := fun env M => (a env M).bind fun us M1 => (k env M1).bind fun ws M2 =>
  if us.length = j ∧ ws.length = l ∧ (pick' perm (us ++ ws)).length = n then f (pick' perm (us ++ ws)) M2 else .no
section
variable {X : Cx} {E : XK} {k n : Nat} {f : Addr} {fd : FuncData} {ps ks : List Str} {perm : List Nat} {m : List Wv → Mem → R Wv} {x : Str} {p pos kpos : Pos} {e : Expr} {es : List Expr} {ma mk : Ma} {me : Me} {kws : List Keyword} {nm : Option Str}
theorem k_nil : PK X [] (ta X.K E maN) := ⟨fun pos pins s σ H Q I ⟨ρ, M, env, rl, re, f⟩ => pk_nil.run pos pins s σ H Q I (f.here rl [] rfl)⟩
theorem k_cons (h : PE X e (te X.K E me)) (hr : PK X kws (ta X.K E ma)) : PK X (⟨nm, e, kpos⟩ :: kws) (ta X.K E (maC me ma)) := ⟨fun pos pins s σ H Q I ⟨ρ, M, env, rl, re, f⟩ =>
  (pk_cons h hr).run pos pins s σ H Q I (te_then rl re f fun x M1 ρ1 H1 v g1 rl1 re1 rv1 f1 => ta_then rl1 re1 f1 fun xs M2 ρ2 H2 vs g2 rl2 re2 rv2 f2 => f2.here rl2 (v :: vs) ⟨v, vs, rfl, RV.mono g2 x rv1, rv2⟩)⟩
/-- f(k = v, ..) -/
theorem e_callK0 (F : FnG X.prog X.w X.K X.mg X.base k f fd ps m) (hr : Room k X.A) (hgd : X.A.guards = some []) (hx : Passes (L2.CX X.prog X.w) X E) (hm : X.mg x = some (.ref f)) (hk : PySem.W.keepIn X.K (.ref f) = true) (hb : BK fd ps 0 ks perm) (hkw : PK X kws (ta X.K E mk))
    (hall : (backToKw pos (keywordEach kws X.env)).all (·.1.isSome) = true := by rfl) (hks : (backToKw pos (keywordEach kws X.env)).filterMap (·.1) = ks := by rfl)
    (hg : Gl X x := by rfl) (hdb : (x == ("__debug__" : Str)) = false := by decide) (hpl : ((backTo pos (starEach [] X.env)).any (·.1) || (backToKw pos (keywordEach kws X.env)).any (·.1.isNone)) = false := by rfl) {j l : Nat} (hj : ps.length = j := by rfl) (hl : ks.length = l := by rfl) :
    PE X (.Call (.Name x p) [] kws pos) (te X.K E (mAppK j 0 l perm m maN mk)) := by
  subst hj hl
  refine ⟨fun pins s σ H Q I ⟨ρ, M, env, rl, re, h⟩ => wpAny_Call_Name_kw (ld_glob I hg hm ?_ hdb)⟩
  have h : Fin X.K ρ H (PV X.K Q) E ((mk env M).bind fun ws M2 => if ([] : List Wv).length = 0 ∧ ws.length = ks.length ∧ (pick' perm ws).length = ps.length then m (pick' perm ws) M2 else .no) := h
  refine PySem.W.callWith_KW0 (h₀ := X.base) I.ok.mod.kin hk hall (thn (hkw.run pos pins s σ H (fun vs H1 => ∃ ρ1 M1 ws, Rl X.K ρ1 M1 H1 ∧ RVs X.K ρ1 H1 ws vs ∧ ws.length = ks.length ∧ (pick' perm ws).length = ps.length ∧ Fin X.K ρ1 H1 (PV X.K Q) E (m (pick' perm ws) M1)) I
    (ta_then rl re h fun ws M1 ρ1 H1 vs g1 rl1 re1 rv1 f1 => by obtain ⟨⟨_, h0, h2⟩, f1⟩ := pick f1; exact ⟨ρ1, M1, ws, rl1, rv1, h0, h2, f1⟩)) fun us s1 ⟨vs, H1, I1, r, ρ1, M1, ws, rl1, rv1, hl, hl2, f1⟩ => ⟨I1.kIn, ?_⟩) hpl
  have h1 : us.length = ks.length := by rw [← r.length, ← rv1.length]; exact hl
  have h2 := hb.to s1 [] us rfl h1
  rw [hks]
  exact callG F hr hgd hx I1 h2 (pick_vals perm r) (by rw [← (pick_rvs perm rv1).length]; exact hl2) rl1 (pick_rvs perm rv1) f1
/-- f(e, .., k = v, ..) -/
theorem e_callK (F : FnG X.prog X.w X.K X.mg X.base k f fd ps m) (hr : Room k X.A) (hgd : X.A.guards = some []) (hx : Passes (L2.CX X.prog X.w) X E) (hm : X.mg x = some (.ref f)) (hk : PySem.W.keepIn X.K (.ref f) = true) (hb : BK fd ps n ks perm) (ha : PA X (e :: es) (ta X.K E ma)) (hkw : PK X kws (ta X.K E mk))
    (hall : (backToKw pos (keywordEach kws X.env)).all (·.1.isSome) = true := by rfl) (hks : (backToKw pos (keywordEach kws X.env)).filterMap (·.1) = ks := by rfl)
    (hg : Gl X x := by rfl) (hdb : (x == ("__debug__" : Str)) = false := by decide) (he : starEach (e :: es) X.env = (false, eval e X.env) :: starEach es X.env := by rfl)
    (hpl : ((backTo pos (starEach (e :: es) X.env)).any (·.1) || (backToKw pos (keywordEach kws X.env)).any (·.1.isNone)) = false := by rfl) {j l : Nat} (hj : ps.length = j := by rfl) (hl : ks.length = l := by rfl) :
    PE X (.Call (.Name x p) (e :: es) kws pos) (te X.K E (mAppK j n l perm m ma mk)) := by
  subst hj hl
  refine ⟨fun pins s σ H Q I ⟨ρ, M, env, rl, re, h⟩ => wpAny_Call_Name_kw (ld_glob I hg hm ?_ hdb)⟩
  refine PySem.W.callWith_KW (h₀ := X.base) I.ok.mod.kin hk hall (thn (ha.run pos pins s σ H (fun us H1 => ∃ ρ1 M1 wu, Rl X.K ρ1 M1 H1 ∧ RVs X.K ρ1 H1 wu us ∧ RE X.K ρ1 H1 env σ ∧ Fin X.K ρ1 H1 (PV X.K Q) E ((mk env M1).bind fun ws M2 => if wu.length = n ∧ ws.length = ks.length ∧ (pick' perm (wu ++ ws)).length = ps.length then m (pick' perm (wu ++ ws)) M2 else .no)) I
    (ta_then rl re h fun wu M1 ρ1 H1 vs g1 rl1 re1 rv1 f1 => ⟨ρ1, M1, wu, rl1, rv1, re1, f1⟩)) fun us s1 ⟨vs, H1, I1, r, ρ1, M1, wu, rl1, rv1, re1, f1⟩ => ?_) hpl he
  refine thn (hkw.run pos pins s1 σ H1 (fun zs H2 => ∃ ρ2 M2 ws, Rl X.K ρ2 M2 H2 ∧ RVs X.K ρ2 H2 (wu ++ ws) (vs ++ zs) ∧ wu.length = n ∧ ws.length = ks.length ∧ (pick' perm (wu ++ ws)).length = ps.length ∧ RVs X.K ρ2 H2 ws zs ∧ Fin X.K ρ2 H2 (PV X.K Q) E (m (pick' perm (wu ++ ws)) M2)) I1
    (ta_then rl1 re1 f1 fun ws M2 ρ2 H2 zs g2 rl2 re2 rv2 f2 => by obtain ⟨⟨h0, h1, h2⟩, f2⟩ := pick f2; exact ⟨ρ2, M2, ws, rl2, (RVs.mono g2 wu rv1).append rv2, h0, h1, h2, rv2, f2⟩)) fun zu s2 ⟨zs, H2, I2, rz, ρ2, M2, ws, rl2, rv2, h0, h1, h2, rvz, f2⟩ => ⟨I2.kIn, ?_⟩
  have q0 : us.length = n := by rw [← r.length, ← rv1.length]; exact h0
  have q1 : zu.length = ks.length := by rw [← rz.length, ← rvz.length]; exact h1
  have hbb := hb.to s2 us zu q0 q1
  rw [hks]
  exact callG F hr hgd hx I2 hbb (pick_vals perm (r.append rz)) (by rw [← (pick_rvs perm rv2).length]; exact h2) rl2 (pick_rvs perm rv2) f2
end

/-! ### targets of loops -/
inductive Tg where
  | nm (i : Nat) | tp (is : List Nat)
def setAll {α : Type} (e : List (Option α)) : List Nat → List α → List (Option α)
  | i :: is, w :: ws => setAll (e.set i (some w)) is ws
  | _, _ => e
def Tg.set : Tg → Wv → Ev → Mem → R Ev
  | .nm i, w, env, M => .ok (env.set i (some w)) M
  | .tp is, w, env, M => match sqOf M w with
    | some (.t xs) => if xs.length = is.length then .ok (setAll env is xs) M else .no
    | _ => .no
def Tg.slots : Tg → List Nat
  | .nm i => [i]
  | .tp is => is
/-- what HandS reads of such a target -/
def tgR (K : PySem.W.Frag) : Tg → TG
  | .nm i => gName i
  | .tp is => fun v σ H Q => ∃ a vs, v = .ref a ∧ SqT K H a vs ∧ vs.length = is.length ∧ Q (setAll σ is vs) H
theorem re_all {K : PySem.W.Frag} {ρ : Rn} {H : Hp} : ∀ (is : List Nat) {ws : List Wv} {vs : List V} {env : Ev} {σ : L2.St}, RE K ρ H env σ → RVs K ρ H ws vs → RE K ρ H (setAll env is ws) (setAll σ is vs)
  | [], _, _, _, _, re, _ => re
  | i :: is, [], _, _, _, re, r => by cases r; exact re
  | i :: is, w :: ws, _, _, _, re, ⟨v, vr, e, h, r⟩ => by subst e; exact re_all is (re.set h) r
section
variable {X : Cx} {pos : Pos}
theorem g_nm {i : Nat} {x : Str} (hN : X.N.Nodup) (hi : X.N[i]? = some x := by rfl) (hx : Loc X.env.scope x := by first | exact Or.inl rfl | exact Or.inr rfl) (hf : X.fn x = true ∨ X.env.scope.names.lookup x = some .local := by first | exact .inl rfl | exact .inr rfl) : PG X (.Name x pos) (tgR X.K (.nm i)) := pg_name hN hi hx hf
/-- several names -/
def gAll (is : List Nat) : TGs := fun vs σ H Q => vs.length = is.length ∧ Q (setAll σ is vs) H
theorem PGs.imp {e : List Expr} {t t' : TGs} (h : PGs X e t) (k : ∀ vs σ H Q, t' vs σ H Q → t vs σ H Q) : PGs X e t' := ⟨fun pins s σ H vs us Q I r q => h.run pins s σ H vs us Q I r (k vs σ H Q q)⟩
theorem PG.imp {e : Expr} {t t' : TG} (h : PG X e t) (k : ∀ vs σ H Q, t' vs σ H Q → t vs σ H Q) : PG X e t' := ⟨fun pins s σ H vs us Q I r q => h.run pins s σ H vs us Q I r (k vs σ H Q q)⟩
theorem gs_nil : PGs X [] (gAll []) := PGs.imp pgs_nil fun vs σ H Q ⟨h, q⟩ => ⟨List.length_eq_zero_iff.mp h, by cases vs <;> exact q⟩
theorem gs_cons {i : Nat} {is : List Nat} {e : Expr} {es : List Expr} (h1 : PG X e (tgR X.K (.nm i))) (h2 : PGs X es (gAll is)) (hs : (assignEach (e :: es) X.env).map (·.2) = assign e X.env :: (assignEach es X.env).map (·.2) := by rfl) : PGs X (e :: es) (gAll (i :: is)) :=
  PGs.imp (pgs_cons h1 h2 hs) fun vs σ H Q ⟨h, q⟩ => by
    cases vs with
    | nil => cases h
    | cons v vs => exact ⟨v, vs, rfl, Nat.succ.inj h, q⟩
theorem g_tp {is : List Nat} {es : List Expr} {k : Nat} (hc : X.calm = true) (h : PGs X es (gAll is)) (hn : (assignEach es X.env).length = is.length := by rfl) (hst : (assignEach es X.env).findIdx? (·.1) = none := by rfl) : PG X (.Tuple es k pos) (tgR X.K (.tp is)) :=
  PG.imp (pg_tup hc h hn hst) fun v σ H Q ⟨a, vs, e, h1, h2, q⟩ => ⟨a, vs, e, h1, h2, h2, q⟩
end
theorem tg_in {K : PySem.W.Frag} {E : XK} {T : Tg} {ρ : Rn} {M : Mem} {H : Hp} {env : Ev} {σ : L2.St} {w : Wv} {v : V} {β : Type} {k : Ev → Mem → R β} {P : β → Mem → Rn → Hp → Prop} {Q : L2.St → Hp → Prop} (rl : Rl K ρ M H) (re : RE K ρ H env σ) (rv : RV K ρ H w v) (f : Fin K ρ H P E ((T.set w env M).bind k))
    (q : ∀ env1 σ1, RE K ρ H env1 σ1 → Fin K ρ H P E (k env1 M) → (∀ vs, (∀ i ∈ T.slots, i ∈ vs) → wipe σ1 vs = wipe σ vs) → Q σ1 H) : tgR K T v σ H Q := by
  have ws : ∀ (is : List Nat) (us : List V) (σ : L2.St) (vs : List Nat), (∀ i ∈ is, i ∈ vs) → wipe (setAll σ is us) vs = wipe σ vs := by
    have one : ∀ (vs : List Nat) (σ : L2.St) (i : Nat) (u : V), i ∈ vs → wipe (σ.set i (some u)) vs = wipe σ vs := by
      intro vs
      induction vs with
      | nil => intro σ i u h; cases h
      | cons x xs ih =>
        intro σ i u h
        unfold wipe
        by_cases hx : i ∈ xs
        · rw [ih σ i u hx]
        · have e : i = x := (List.mem_cons.mp h).resolve_right hx
          subst e
          have gen : ∀ (ys : List Nat) (τ : L2.St), (wipe (τ.set i (some u)) ys).set i none = (wipe τ ys).set i none := by
            intro ys
            induction ys with
            | nil => intro τ; simp [wipe]
            | cons y ys ih2 =>
              intro τ
              unfold wipe
              by_cases hy : y = i
              · subst hy; rw [List.set_set, List.set_set]; exact ih2 τ
              · rw [List.set_comm _ _ hy, List.set_comm _ _ hy, ih2 τ]
          exact gen xs σ
    intro is
    induction is with
    | nil => intro us σ vs _; cases us <;> rfl
    | cons i is ih =>
      intro us σ vs h
      cases us with
      | nil => rfl
      | cons u us =>
        show wipe (setAll (σ.set i (some u)) is us) vs = _
        rw [ih us _ vs fun j hj => h j (List.mem_cons_of_mem _ hj), one vs σ i u (h i List.mem_cons_self)]
  cases T with
  | nm i => exact q _ _ (re.set rv) f fun vs h => ws [i] [v] σ vs h
  | tp is =>
    have f : Fin K ρ H P E ((match sqOf M w with | some (.t xs) => (if xs.length = is.length then R.ok (setAll env is xs) M else .no) | _ => .no : R Ev).bind k) := f
    cases e : sqOf M w with
    | none => rw [e] at f; exact f.elim
    | some s =>
      cases s with
      | l xs => rw [e] at f; exact f.elim
      | t xs =>
        rw [e] at f
        have f : Fin K ρ H P E ((if xs.length = is.length then R.ok (setAll env is xs) M else .no : R Ev).bind k) := f
        by_cases hl : xs.length = is.length
        · rw [if_pos hl] at f
          obtain ⟨a, vs, rfl, h1, h2⟩ := sq_t_of e rv
          exact ⟨a, vs, rfl, h1, by rw [← h2.length]; exact hl, q _ _ (re_all is re h2) f fun vs' h => ws is vs σ vs' h⟩
        · rw [if_neg hl] at f; exact f.elim

/-! ### what loops walk -/
/-- the iterator J gives just ws, whatever else happens -/
structure ItOk (K : PySem.W.Frag) (J : It) (ws : List Wv) (ρ : Rn) (H : Hp) : Prop where
  go : ∀ ρ' H', Mv ρ H ρ' H' → ∀ i, i < ws.length → J.go i H'
  yld : ∀ ρ' H', Mv ρ H ρ' H' → ∀ (i : Nat) x H2 w, ws[i]? = some w → J.yld i H' x H2 → Gr ρ' H' ρ' H2 ∧ ∀ M, Rl K ρ' M H' → Rl K ρ' M H2 ∧ RV K ρ' H2 w x
  stop : ∀ ρ' H', Mv ρ H ρ' H' → J.stop ws.length H'
abbrev Mi' := Ev → Mem → R (List Wv)
def ti (K : PySem.W.Frag) (E : XK) (m : Mi') : TI := fun σ H R => ∃ ρ M env, Rl K ρ M H ∧ RE K ρ H env σ ∧ Fin K ρ H (fun ws _ ρ' H' => ∀ J, ItOk K J ws ρ' H' → R J H') E (m env M)
theorem PI.imp {X : Cx} {tg e : Expr} {t t' : TI} (h : PI X tg e t) (k : ∀ σ H R, t' σ H R → t σ H R) : PI X tg e t' := ⟨fun pins s σ H R I q => h.run pins s σ H R I (k σ H R q)⟩
section
variable {X : Cx} {E : XK} {tg l a b : Expr} {ml ma mb : Me} {p pos : Pos}
/-- a list or tuple that nobody changes -/
def mSeqI (a : Me) : Mi' := fun env M => (a env M).bind fun w M1 => match w with
  | .lst xs => .ok xs M1
  | .rdl xs => .ok xs M1
  | .tup xs => .ok xs M1
  | _ => .no
def iSeq (K : PySem.W.Frag) (tl : TE) : TI := fun σ H R => tl σ H fun x H1 => ∃ a, x = .ref a ∧ (((∃ xs, SqL K H1 a xs) ∧ R (Itl K a) H1) ∨ ((∃ xs, SqT K H1 a xs) ∧ R (Itt K a) H1))
theorem pi_seq {tl : TE} (hl : PE X l tl) : PI X tg l (iSeq X.K tl) := by
  refine ⟨fun pins s σ H R I h => thn (hl.run pins s σ H _ I h) fun v s1 ⟨x, H1, I1, rx, a, ex, q⟩ => ?_⟩
  subst ex
  cases rx
  have new : ∀ b ∈ [s1.heap.objs.size], FpOk X pins H1 b := fun b hb => by
    rw [List.mem_singleton.mp hb]
    exact I1.fpOk (Nat.le_refl _) (I1.hok.fresh (Nat.le_refl _))
  rcases q with ⟨⟨xs, hq⟩, q⟩ | ⟨⟨xs, hq⟩, q⟩
  · obtain ⟨its, _, pl, _⟩ := I1.list hq
    exact wpAny_pyIter_list pl.isList ⟨_, [s1.heap.objs.size], _, _, H1, rfl, I1.kept (t' := s1.toks) fun b o z => Heap.get?_push_of_some _ z, turn_list a _, ⟨_, Heap.get?_push_size _ rfl, rfl, rfl⟩, new, q⟩
  · obtain ⟨its, _, pl, _⟩ := I1.tuple hq
    exact wpAny_pyIter_tuple pl ⟨_, [s1.heap.objs.size], _, _, H1, rfl, I1.kept (t' := s1.toks) fun b o z => Heap.get?_push_of_some _ z, turn_tuple a _, ⟨_, Heap.get?_push_size _ rfl, rfl, rfl⟩, new, q⟩
theorem it_l {K : PySem.W.Frag} {ρ : Rn} {H : Hp} {a : Addr} {vs : List V} {ws : List Wv} (h : ∀ ρ' H', Mv ρ H ρ' H' → SqL K H' a vs) (r : RVs K ρ H ws vs) : ItOk K (Itl K a) ws ρ H :=
  ⟨fun ρ' H' g i hi => walk_list.goes i H' (by rw [← r.length]; exact hi) (h ρ' H' g), fun ρ' H' g i x H2 w hw y => by
    obtain ⟨rfl, hx⟩ := walk_list.yields i H' x H2 (by rw [← r.length]; exact (List.getElem?_eq_some_iff.mp hw).1) (h ρ' H' g) y
    obtain ⟨v, h1, h2⟩ := (RVs.move g ws r).get hw
    have e : x = v := Option.some.inj (hx.symm.trans h1)
    subst e
    exact ⟨Gr.refl _ _, fun _ z => ⟨z, h2⟩⟩, fun ρ' H' g => by rw [r.length]; exact walk_list.stops H' (h ρ' H' g)⟩
theorem it_t {K : PySem.W.Frag} {ρ : Rn} {H : Hp} {a : Addr} {vs : List V} {ws : List Wv} (h : ∀ ρ' H', Mv ρ H ρ' H' → SqT K H' a vs) (r : RVs K ρ H ws vs) : ItOk K (Itt K a) ws ρ H :=
  ⟨fun ρ' H' g i hi => walk_tup.goes i H' (by rw [← r.length]; exact hi) (h ρ' H' g), fun ρ' H' g i x H2 w hw y => by
    obtain ⟨rfl, hx⟩ := walk_tup.yields i H' x H2 (by rw [← r.length]; exact (List.getElem?_eq_some_iff.mp hw).1) (h ρ' H' g) y
    obtain ⟨v, h1, h2⟩ := (RVs.move g ws r).get hw
    have e : x = v := Option.some.inj (hx.symm.trans h1)
    subst e
    exact ⟨Gr.refl _ _, fun _ z => ⟨z, h2⟩⟩, fun ρ' H' g => by rw [r.length]; exact walk_tup.stops H' (h ρ' H' g)⟩
theorem i_seq (hl : PE X l (te X.K E ml)) : PI X tg l (ti X.K E (mSeqI ml)) := PI.imp (pi_seq hl) fun σ H R ⟨ρ, M, env, rl, re, f⟩ => te_then rl re f fun w M1 ρ1 H1 v g1 rl1 re1 rv1 f1 => by
  cases w with
  | lst xs =>
    obtain ⟨a, vs, rfl, h, r⟩ := rv1
    exact ⟨a, rfl, .inl ⟨⟨vs, SqL.of h.1⟩, f1.here rl1 _ (it_l (fun ρ' H' g => SqL.of (g.go _ _ h).1) r)⟩⟩
  | rdl xs =>
    obtain ⟨a, vs, rfl, h, r⟩ := rv1
    exact ⟨a, rfl, .inl ⟨⟨vs, sq_l h⟩, f1.here rl1 _ (it_l (fun ρ' H' g => sq_l (h.imp g.rd id)) r)⟩⟩
  | tup xs =>
    obtain ⟨a, vs, rfl, h, r⟩ := rv1
    exact ⟨a, rfl, .inr ⟨⟨vs, sq_t h⟩, f1.here rl1 _ (it_t (fun ρ' H' g => sq_t (h.imp (g.go _ _) id)) r)⟩⟩
  | _ => exact f1.elim
/-- range -/
def rng (lo : Int) (n : Nat) : List Wv := (List.range n).map fun i => Wv.int (lo + (i : Nat))
def mRng1 (a : Me) : Mi' := fun env M => (a env M).bind fun w M1 => match w with
  | .int j => if -1000000 ≤ j ∧ j ≤ 1000000 then .ok (rng 0 j.toNat) M1 else .no
  | _ => .no
def mRng2 (a b : Me) : Mi' := fun env M => (a env M).bind fun u M1 => (b env M1).bind fun w M2 => match u, w with
  | .int i, .int j => if -1000000 ≤ i ∧ i ≤ 1000000 ∧ -1000000 ≤ j ∧ j ≤ 1000000 then .ok (rng i (j - i).toNat) M2 else .no
  | _, _ => .no
theorem it_r {K : PySem.W.Frag} {ρ : Rn} {H : Hp} {lo : Int} {n : Nat} : ItOk K (Itr lo n) (rng lo n) ρ H := by
  have hl : (rng lo n).length = n := by simp [rng]
  refine ⟨fun ρ' H' g i hi => by rw [hl] at hi; exact hi, fun ρ' H' g i x H2 w hw y => ?_, fun ρ' H' g => by rw [hl]; exact Nat.le_refl _⟩
  obtain ⟨rfl, rfl⟩ := y
  have e : Wv.int (lo + (i : Nat)) = w := by
    unfold rng at hw
    rw [List.getElem?_map] at hw
    obtain ⟨j, h1, h2⟩ := Option.map_eq_some_iff.mp hw
    obtain ⟨h3, h4⟩ := List.getElem?_eq_some_iff.mp h1
    rw [List.getElem_range] at h4
    subst h4
    exact h2
  subst e
  exact ⟨Gr.refl _ _, fun _ z => ⟨z, rfl⟩⟩
theorem i_rng1 (hm : X.mg "range" = none) (ha : PE X a (te X.K E ma)) (hg : Gl X "range" := by rfl) (hs : starEach [a] X.env = [(false, eval a X.env)] := by rfl) : PI X tg (.Call (.Name "range" p) [a] [] pos) (ti X.K E (mRng1 ma)) :=
  PI.imp (pi_range1 hg hm (pa_cons ha pa_nil hs) hs) fun σ H R ⟨ρ, M, env, rl, re, f⟩ => te_then rl re f fun w M1 ρ1 H1 v g1 rl1 re1 rv1 f1 => by
    cases w with
    | int j =>
      obtain ⟨h0, f1⟩ := pick f1
      cases rv1
      exact ⟨j, rfl, by omega, by omega, f1.here rl1 _ it_r⟩
    | _ => exact f1.elim
theorem i_rng2 (hm : X.mg "range" = none) (ha : PE X a (te X.K E ma)) (hb : PE X b (te X.K E mb)) (hg : Gl X "range" := by rfl) (hs : starEach [a, b] X.env = [(false, eval a X.env), (false, eval b X.env)] := by rfl) (hs2 : starEach [b] X.env = [(false, eval b X.env)] := by rfl) : PI X tg (.Call (.Name "range" p) [a, b] [] pos) (ti X.K E (mRng2 ma mb)) :=
  PI.imp (pi_range2 hg hm (pa_cons ha (pa_cons hb pa_nil hs2) (hs.trans (by rw [hs2]))) hs hs2) fun σ H R ⟨ρ, M, env, rl, re, f⟩ => te_then rl re f fun u M1 ρ1 H1 x g1 rl1 re1 rv1 f1 => te_then rl1 re1 f1 fun w M2 ρ2 H2 y g2 rl2 re2 rv2 f2 => by
    cases u <;> cases w <;> first | exact f2.elim | skip
    obtain ⟨h0, f2⟩ := pick f2
    cases rv1
    cases rv2
    exact ⟨_, _, rfl, ⟨by omega, by omega, by omega, by omega⟩, f2.here rl2 _ it_r⟩
end

/-! ### for, while -/
def forW (T : Tg) (b : Ms) : List Wv → Ms
  | [], env, M => .ok (.nx env) M
  | w :: ws, env, M => (T.set w env M).bind fun env1 M1 => (b env1 M1).bind fun fl M2 => match fl with
    | .nx env2 => forW T b ws env2 M2
    | .ct env2 => forW T b ws env2 M2
    | .bk env2 => .ok (.nx env2) M2
    | .ret v => .ok (.ret v) M2
def sFor (T : Tg) (m : Mi') (b : Ms) : Ms := fun env M => (m env M).bind fun ws M1 => forW T b ws env M1
def whileW (t : Mt) (b : Ms) : Nat → Ms
  | 0, _, _ => .no
  | n + 1, env, M => (t env M).bind fun c M1 => if c = true then (b env M1).bind fun fl M2 => match fl with
      | .nx env2 => whileW t b n env2 M2
      | .ct env2 => whileW t b n env2 M2
      | .bk env2 => .ok (.nx env2) M2
      | .ret v => .ok (.ret v) M2
    else .ok (.nx env) M1
section
variable {X : Cx} {E : XK} {tg iter c : Expr} {body : List Stmt} {T : Tg} {mi : Mi'} {b : Ms} {t : Mt} {pos : Pos}
theorem s_for (hp : PassesOwn (model X.prog X.w) X.A X.env X.xe) (hc : X.calm = true) (hi : PI X tg iter (ti X.K E mi)) (hg : PG X tg (tgR X.K T)) (hb : PSs X body (ts X.K E b)) (hs : ∀ x, foldedSetIterable iter X.env x = pure x := by intro _; rfl) :
    PS X (.For tg iter body [] pos) (ts X.K E (sFor T mi b)) := PS.imp (ps_for hp hc hi hg hb hs) fun D σ H ⟨ρ, M, env, rl, re, f⟩ => by
  refine ⟨ρ, M, env, rl, re, f.bind.imp fun ws M1 ρ1 H1 g1 rl1 f1 J hJ => ?_⟩
  refine ⟨fun i m σ' H' => m = ws.length - i ∧ i ≤ ws.length ∧ ∃ ρ' M' env', Gr ρ1 H1 ρ' H' ∧ Rl X.K ρ' M' H' ∧ RE X.K ρ' H' env' σ' ∧ Fin X.K ρ' H' (PF X.K D) E (forW T b (ws.drop i) env' M'), ⟨ws.length, by simp, Nat.zero_le _, ρ1, M1, env, Gr.refl _ _, rl1, re.mono g1, f1⟩, ?_⟩
  rintro i m σ' H' ⟨rfl, hi, ρ', M', env', g', rl', re', f'⟩
  by_cases hlt : i < ws.length
  · refine .inr ⟨hJ.go ρ' H' g'.mv i hlt, fun σ2 H2 => ∃ ρ2 M2 env2, Gr ρ1 H1 ρ2 H2 ∧ Rl X.K ρ2 M2 H2 ∧ RE X.K ρ2 H2 env2 σ2 ∧ Fin X.K ρ2 H2 (PF X.K D) E (forW T b (ws.drop (i + 1)) env2 M2), fun σ2 H2 z => ⟨ws.length - (i + 1), by omega, rfl, hlt, z⟩, fun x H2 y => ?_⟩
    obtain ⟨g2, k2⟩ := hJ.yld ρ' H' g'.mv i x H2 ws[i] (List.getElem?_eq_getElem hlt) y
    obtain ⟨k2, rv2⟩ := k2 M' rl'
    rw [List.drop_eq_getElem_cons hlt] at f'
    refine tg_in k2 (re'.mono g2) rv2 (Fin.from g2 f') fun env3 σ3 re3 f3 _ => ?_
    refine ⟨ρ', M', env3, k2, re3, f3.bind.imp fun fl M4 ρ4 H4 g4 rl4 f4 => ?_⟩
    cases fl with
    | nx env4 => exact fun σ4 re4 => ⟨ρ4, M4, env4, (g'.trans g2).trans g4, rl4, re4, f4⟩
    | ct env4 => exact fun σ4 re4 => ⟨ρ4, M4, env4, (g'.trans g2).trans g4, rl4, re4, f4⟩
    | bk env4 => exact fun σ4 re4 => f4.here rl4 σ4 re4
    | ret w => exact f4.here rl4
  · have e : i = ws.length := by omega
    subst e
    rw [List.drop_length] at f'
    exact .inl ⟨hJ.stop ρ' H' g'.mv, f'.here rl' σ' re'⟩
theorem s_while (n : Nat) (hp : PassesOwn (model X.prog X.w) X.A X.env X.xe) (hc : PT X c (tt X.K E t)) (hb : PSs X body (ts X.K E b)) : PS X (.While c body [] pos) (ts X.K E (whileW t b n)) := PS.imp (ps_while hp hc hb) fun D σ H h => by
  refine ⟨fun m σ H => ts X.K E (whileW t b m) D σ H, ⟨n, h⟩, fun m σ H ⟨ρ, M, env, rl, re, f⟩ => ?_⟩
  cases m with
  | zero => exact f.elim
  | succ m =>
    refine tt_then rl re f fun c M1 ρ1 H1 g1 rl1 re1 f1 => ?_
    cases c with
    | false => exact f1.here rl1 _ re1
    | true =>
      refine ⟨fun σ' H' => ts X.K E (whileW t b m) D σ' H', fun σ' H' z => ⟨m, Nat.lt_succ_self _, z⟩, ?_⟩
      refine ⟨ρ1, M1, env, rl1, re1, f1.bind.imp fun fl M2 ρ2 H2 g2 rl2 f2 => ?_⟩
      cases fl with
      | nx env2 => exact fun σ2 re2 => ⟨ρ2, M2, env2, rl2, re2, f2⟩
      | ct env2 => exact fun σ2 re2 => ⟨ρ2, M2, env2, rl2, re2, f2⟩
      | bk env2 => exact fun σ2 re2 => f2.here rl2 σ2 re2
      | ret w => exact f2.here rl2
end
end Mi

namespace Mi
open PySem PySem.Spec PyProof.Rows L2

/-! ### comprehensions: the new list is locked while it is made -/
def Rn.lock (ρ : Rn) (D : Addr) : Rn := ⟨ρ.l, D :: ρ.f⟩
section
variable {K : PySem.W.Frag} {ρ ρ' : Rn} {M : Mem} {H H' : Hp} {D : Addr} {o : HO}
theorem RO.move (g : Mv ρ H ρ' H') {a : Addr} (ha : H' a = H a) {b : Ob} (h : RO K ρ H a b) : RO K ρ' H' a b := by
  cases b with
  | lst ws =>
    obtain ⟨vs, h1, h2⟩ := h
    exact ⟨vs, by rw [ha]; exact h1, RVs.move g ws h2⟩
  | ins C ns ws =>
    obtain ⟨D, dx, fs, c, h1, e, h2⟩ := h
    exact ⟨D, dx, fs, c, by rw [ha]; exact h1, e, RVs.move g ws h2⟩
theorem mv_lock (h : H D = none) : Mv ρ H (ρ.lock D) (upd H D o) := ⟨fun a u ⟨h1, h2⟩ => by
  have ne := ne_of_none h1 h
  refine ⟨by rw [upd_ne ne]; exact h1, h2.1, fun z => ?_⟩
  rcases List.mem_cons.mp z with z | z
  · exact ne z
  · exact h2.2 z, fun _ _ h => h⟩
theorem mv_turn (hD : D ∈ ρ.f) : Mv ρ H ρ (upd H D o) := ⟨fun a u ⟨h1, h2⟩ => ⟨by rw [upd_ne (fun z => h2.2 (by rw [z]; exact hD))]; exact h1, h2⟩, fun _ _ h => h⟩
theorem rl_lock (rl : Rl K ρ M H) (h : H D = none) : Rl K (ρ.lock D) M (upd H D o) := by
  refine ⟨rl.nd, rl.len, fun n b e => ?_, fun a ha => ?_⟩
  · obtain ⟨a, h1, h2⟩ := rl.ob n b e
    refine ⟨a, h1, RO.move (mv_lock h) (upd_ne fun z => ?_) h2⟩
    subst z
    exact (rl.out h).1 (List.mem_of_getElem? h1)
  · rcases List.mem_cons.mp ha with z | z
    · subst z
      exact ⟨(rl.out h).1, _, upd_same⟩
    · obtain ⟨h1, u, h2⟩ := rl.fs a z
      exact ⟨h1, u, by rw [upd_ne (ne_of_none h2 h)]; exact h2⟩
theorem rl_turn (rl : Rl K ρ M H) (hD : D ∈ ρ.f) : Rl K ρ M (upd H D o) := by
  refine ⟨rl.nd, rl.len, fun n b e => ?_, fun a ha => ?_⟩
  · obtain ⟨a, h1, h2⟩ := rl.ob n b e
    refine ⟨a, h1, RO.move (mv_turn hD) (upd_ne fun z => ?_) h2⟩
    subst z
    exact (rl.fs a hD).1 (List.mem_of_getElem? h1)
  · obtain ⟨h1, u, h2⟩ := rl.fs a ha
    by_cases z : a = D
    · subst z
      exact ⟨h1, _, upd_same⟩
    · exact ⟨h1, u, by rw [upd_ne z]; exact h2⟩
end
def noX {α : Type} (r : R α) : R α := match r with
  | .ok a M => .ok a M
  | _ => .no
def wipeE (e : Ev) : List Nat → Ev
  | [] => e
  | v :: vs => (wipeE e vs).set v none
theorem re_wipe {K : PySem.W.Frag} {ρ : Rn} {H : Hp} {env : Ev} {σ : L2.St} (r : RE K ρ H env σ) : ∀ vs, RE K ρ H (wipeE env vs) (wipe σ vs)
  | [] => r
  | v :: vs => by
    have ih := re_wipe r vs
    refine ⟨by unfold wipeE wipe; rw [List.length_set, List.length_set]; exact ih.1, fun i w e => ?_⟩
    unfold wipeE at e
    unfold wipe
    by_cases hv : v = i
    · subst hv
      rw [List.getElem?_set] at e
      split at e
      · split at e <;> cases e
      · rename_i q; exact absurd rfl q
    · rw [List.getElem?_set_ne hv] at e ⊢
      exact ih.2 i w e
def lcW (T : Tg) (t : Mt) (e : Me) (env : Ev) : List Wv → List Wv → Mem → R Wv
  | [], acc, M => .ok (.lst acc) M
  | w :: ws, acc, M => (noX (T.set w env M)).bind fun env1 M1 => (noX (t env1 M1)).bind fun c M2 =>
    if c = true then (noX (e env1 M2)).bind fun x M3 => if acc.length < lim then lcW T t e env ws (acc ++ [x]) M3 else .no
    else lcW T t e env ws acc M2
def mLc (vs : List Nat) (T : Tg) (m : Mi') (t : Mt) (e : Me) : Me := fun env M => (m env M).bind fun ws M1 => lcW T t e (wipeE env vs) ws [] M1
def mtYes : Mt := fun _ M => .ok true M
theorem fin_noX {α β : Type} {K : PySem.W.Frag} {ρ ρ' : Rn} {H H' : Hp} {P : β → Mem → Rn → Hp → Prop} {E E' : XK} {r : R α} {k : α → Mem → R β} (h : Fin K ρ H P E ((noX r).bind k)) : Fin K ρ' H' (fun a M _ _ => Fin K ρ H P E (k a M)) E' r := by
  cases r with
  | ok a M => exact fun _ _ _ _ => h
  | exc x M => exact h.elim
  | no => exact h.elim
/-- from a state with the lock to the one without -/
structure Lk (D : Addr) (ρ : Rn) (H : Hp) (ρ' : Rn) (H' : Hp) : Prop where
  f : ρ'.f = D :: ρ.f
  pre : ∃ t, ρ'.l = ρ.l ++ t
  keep : ∀ a o, a ∉ ρ.l → H a = some o → H' a = some o
  new : ∀ a, a ∈ ρ'.l → a ∈ ρ.l ∨ H a = none
theorem Lk.on {D : Addr} {ρ ρ1 ρ2 : Rn} {H H1 H2 : Hp} (a : Lk D ρ H ρ1 H1) (b : Gr ρ1 H1 ρ2 H2) : Lk D ρ H ρ2 H2 := by
  have hl : ∀ x o, x ∉ ρ.l → H x = some o → x ∉ ρ1.l := fun x o h e z => (a.new x z).elim h fun q => by rw [e] at q; cases q
  refine ⟨b.same.trans a.f, ?_, fun x o h e => b.keep x o (hl x o h e) (a.keep x o h e), fun x h => ?_⟩
  · obtain ⟨t, e1⟩ := a.pre
    obtain ⟨u, e2⟩ := b.pre
    exact ⟨t ++ u, by rw [e2, e1, List.append_assoc]⟩
  · rcases b.new x h with q | q
    · exact a.new x q
    · by_cases hx : x ∈ ρ.l
      · exact .inl hx
      · refine .inr ?_
        cases e : H x with
        | none => rfl
        | some o => rw [a.keep x o hx e] at q; cases q
theorem Lk.turn {D : Addr} {ρ ρ1 : Rn} {H H1 : Hp} {o : HO} (hD : H D = none) (a : Lk D ρ H ρ1 H1) : Lk D ρ H ρ1 (upd H1 D o) :=
  ⟨a.f, a.pre, fun x u h e => by rw [upd_ne (ne_of_none e hD)]; exact a.keep x u h e, a.new⟩
theorem Lk.mv {D : Addr} {ρ ρ1 : Rn} {H H1 : Hp} (hD : H D = none) (a : Lk D ρ H ρ1 H1) : Mv ρ H ρ1 H1 := by
  refine ⟨fun x u ⟨h1, h2⟩ => ⟨a.keep x u h2.1 h1, fun z => ?_, fun z => ?_⟩, fun n x h => ?_⟩
  · rcases a.new x z with q | q
    · exact h2.1 q
    · rw [h1] at q; cases q
  · rw [a.f] at z
    rcases List.mem_cons.mp z with q | q
    · rw [q, hD] at h1; cases h1
    · exact h2.2 q
  · obtain ⟨t, e⟩ := a.pre
    rw [e, List.getElem?_append_left (List.getElem?_eq_some_iff.mp h).1]
    exact h
theorem Lk.off {D : Addr} {ρ ρ1 : Rn} {H H1 : Hp} (a : Lk D ρ H ρ1 H1) : Gr ρ H ⟨ρ1.l, ρ.f⟩ H1 := ⟨a.pre, rfl, a.keep, a.new⟩
section
variable {X : Cx} {E : XK} {elt tg iter : Expr} {ifs : List Expr} {scope : Scope} {own : List (Str × Nat)} {pos spos : Pos} {T : Tg} {mi : Mi'} {mt : Mt} {me : Me} {vs : List Nat}
theorem lc_in {K : PySem.W.Frag} {σ : L2.St} {H : Hp} {Q : VK} (hT : ∀ i ∈ T.slots, i ∈ vs) (h : te K E (mLc vs T mi mt me) σ H Q) : tLc (ti K E mi) (tgR K T) (tt K E0 mt) (te K E0 me) vs σ H Q := by
  obtain ⟨ρ, M, env, rl, re, f⟩ := h
  refine ⟨ρ, M, env, rl, re, f.bind.imp fun ws M1 ρ1 H1 g1 rl1 f1 J hJ D hD => ?_⟩
  refine ⟨fun i m H' => m = ws.length - i ∧ i ≤ ws.length ∧ ∃ ρ' M' acc us, Lk D ρ1 H1 ρ' H' ∧ Rl K ρ' M' H' ∧ H' D = some (.lst us) ∧ RVs K ρ' H' acc us ∧ RE K ρ' H' (wipeE env vs) (wipe σ vs) ∧ Fin K ρ1 H1 (PV K Q) E (lcW T mt me (wipeE env vs) (ws.drop i) acc M'),
    ⟨ws.length, by simp, Nat.zero_le _, ρ1.lock D, M1, [], [], ⟨rfl, ⟨[], by simp [Rn.lock]⟩, fun a o _ e => by rw [upd_ne (ne_of_none e hD)]; exact e, fun a z => .inl z⟩, rl_lock rl1 hD, upd_same, rfl, (re_wipe (re.mono g1) vs).move (mv_lock hD), f1⟩, ?_⟩
  rintro i m H' ⟨rfl, hi, ρ', M', acc, us, lk, rl', hu, rv', re', f'⟩
  have hDf : D ∈ ρ'.f := by rw [lk.f]; exact List.mem_cons_self
  by_cases hlt : i < ws.length
  · refine .inr ⟨hJ.go ρ' H' (lk.mv hD) i hlt, fun H2 => ∃ ρ2 M2 acc us, Lk D ρ1 H1 ρ2 H2 ∧ Rl K ρ2 M2 H2 ∧ H2 D = some (.lst us) ∧ RVs K ρ2 H2 acc us ∧ RE K ρ2 H2 (wipeE env vs) (wipe σ vs) ∧ Fin K ρ1 H1 (PV K Q) E (lcW T mt me (wipeE env vs) (ws.drop (i + 1)) acc M2),
      fun H2 z => ⟨ws.length - (i + 1), by omega, rfl, hlt, z⟩, fun x H2 y => ?_⟩
    obtain ⟨g2, k2⟩ := hJ.yld ρ' H' (lk.mv hD) i x H2 ws[i] (List.getElem?_eq_getElem hlt) y
    obtain ⟨k2, rv2⟩ := k2 M' rl'
    rw [List.drop_eq_getElem_cons hlt] at f'
    have wi : wipe (wipe σ vs) vs = wipe σ vs := by
      have one : ∀ (xs : List Nat) (τ : L2.St) (i : Nat), i ∈ xs → (wipe τ xs).set i none = wipe τ xs := by
        intro xs
        induction xs with
        | nil => intro τ i h; cases h
        | cons x xs ih =>
          intro τ i h
          unfold wipe
          by_cases hx : i = x
          · subst hx; rw [List.set_set]
          · rw [List.set_comm _ _ (Ne.symm hx), ih τ i ((List.mem_cons.mp h).resolve_left hx)]
      have sub : ∀ (xs : List Nat), (∀ i ∈ xs, i ∈ vs) → wipe (wipe σ vs) xs = wipe σ vs := by
        intro xs
        induction xs with
        | nil => intro _; rfl
        | cons x xs ih =>
          intro h
          show (wipe (wipe σ vs) xs).set x none = _
          rw [ih fun j hj => h j (List.mem_cons_of_mem _ hj)]
          exact one vs σ x (h x List.mem_cons_self)
      exact sub vs fun _ h => h
    refine tg_in (E := E0) (β := Ev) (P := fun env1 M2 _ _ => Fin K ρ1 H1 (PV K Q) E ((noX (mt env1 M2)).bind fun c M2 => if c = true then (noX (me env1 M2)).bind fun x M3 => if acc.length < lim then lcW T mt me (wipeE env vs) (ws.drop (i + 1)) (acc ++ [x]) M3 else .no else lcW T mt me (wipeE env vs) (ws.drop (i + 1)) acc M2)) (k := fun e M => .ok e M)
      k2 (re'.mono g2) rv2 ?_ fun env3 σ3 re3 f3 hw => ?_
    · have z := fin_noX (ρ' := ρ') (H' := H2) (E' := E0) f'
      have f' : Fin K ρ1 H1 (PV K Q) E ((noX (T.set ws[i] (wipeE env vs) M')).bind fun env1 M1 => (noX (mt env1 M1)).bind fun c M2 => if c = true then (noX (me env1 M2)).bind fun x M3 => if acc.length < lim then lcW T mt me (wipeE env vs) (ws.drop (i + 1)) (acc ++ [x]) M3 else .no else lcW T mt me (wipeE env vs) (ws.drop (i + 1)) acc M2) := f'
      cases q : T.set ws[i] (wipeE env vs) M' with
      | ok a M => rw [q] at z; exact fun ρ3 H3 g3 rl3 => z ρ3 H3 g3 rl3
      | exc a M => rw [q] at f'; exact f'.elim
      | no => rw [q] at f'; exact f'.elim
    have f3 := f3.here k2
    refine ⟨(hw vs hT).trans wi, ρ', M', env3, k2, re3, (fin_noX f3).imp fun c M4 ρ4 H4 g4 rl4 f4 => ?_⟩
    have gg := g2.trans g4
    have lk4 := lk.on gg
    have hu4 : H4 D = some (.lst us) := gg.keep D _ (rl'.fs D hDf).1 hu
    have rv4 := RVs.mono gg acc rv'
    have re4 := re'.mono gg
    cases c with
    | false => exact ⟨ρ4, M4, acc, us, lk4, rl4, hu4, rv4, re4, f4⟩
    | true =>
      have f4 : Fin K ρ1 H1 (PV K Q) E ((noX (me env3 M4)).bind fun x M3 => if acc.length < lim then lcW T mt me (wipeE env vs) (ws.drop (i + 1)) (acc ++ [x]) M3 else .no) := f4
      refine ⟨ρ4, M4, env3, rl4, re3.mono g4, (fin_noX f4).imp fun y M5 ρ5 H5 g5 rl5 f5 v rv5 => ?_⟩
      obtain ⟨h0, f5⟩ := pick f5
      have hDf4 : D ∈ ρ4.f := by rw [lk4.f]; exact List.mem_cons_self
      have hDf5 : D ∈ ρ5.f := by rw [g5.same]; exact hDf4
      have hu5 : H5 D = some (.lst us) := g5.keep D _ (rl4.fs D hDf4).1 hu4
      refine ⟨us, hu5, by rw [← rv4.length]; exact lim_lt h0, ρ5, M5, acc ++ [y], us ++ [v], (lk4.on g5).turn hD, rl_turn rl5 hDf5, upd_same, ?_, (re4.mono g5).move (mv_turn hDf5), f5⟩
      exact RVs.move (mv_turn hDf5) _ ((RVs.mono g5 acc rv4).append ⟨v, [], rfl, rv5, rfl⟩)
  · have e : i = ws.length := by omega
    subst e
    rw [List.drop_length] at f'
    refine .inl ⟨hJ.stop ρ' H' (lk.mv hD), ?_⟩
    have off : Mv ρ' H' ⟨ρ'.l, ρ1.f⟩ H' := ⟨fun a u ⟨h1, h2⟩ => ⟨h1, h2.1, fun z => h2.2 (by rw [lk.f]; exact List.mem_cons_of_mem _ z)⟩, fun _ _ h => h⟩
    have rl2 : Rl K ⟨ρ'.l, ρ1.f⟩ M' H' := by
      refine ⟨rl'.nd, rl'.len, fun n b e => ?_, fun a ha => rl'.fs a (by rw [lk.f]; exact List.mem_cons_of_mem _ ha)⟩
      obtain ⟨a, h1, h2⟩ := rl'.ob n b e
      exact ⟨a, h1, RO.move off rfl h2⟩
    exact f' ⟨ρ'.l, ρ1.f⟩ H' lk.off rl2 _ ⟨D, us, rfl, ⟨hu, (rl'.fs D hDf).1, (rl1.out hD).2⟩, RVs.move off acc rv'⟩
theorem e_lc (hc : X.calm = true) (hN : X.N.Nodup) (hi : PI X tg iter (ti X.K E mi)) (ok : BlkOk X.N X.env.scope scope own) (hT : ∀ i ∈ T.slots, i ∈ vs)
    (hg : ∀ (s : Shared) (H : Hp) (C : Addr) (cl : List (Str × Addr)) (fp : List Addr), PG (X.blk s H scope (compEnvC scope cl C X.env) fp) tg (tgR X.K T)) (ht : ∀ (s : Shared) (H : Hp) (C : Addr) (cl : List (Str × Addr)) (fp : List Addr), PTs (X.blk s H scope (compEnvC scope cl C X.env) fp) ifs (tt X.K E0 mt))
    (he : ∀ (s : Shared) (H : Hp) (C : Addr) (cl : List (Str × Addr)) (fp : List Addr), PE (X.blk s H scope (compEnvC scope cl C X.env) fp) elt (te X.K E0 me)) (hs : ∀ x, foldedSetIterable iter X.env x = pure x := by intro _; rfl) (hv : own.map (·.2) = vs := by rfl) :
    PE X (.ListComp elt [⟨tg, iter, ifs, 0⟩] scope pos) (te X.K E (mLc vs T mi mt me)) := by
  subst hv
  exact PE.imp (pe_lc hc hN hi ok hg ht he hs) fun _ _ _ h => lc_in hT h
theorem s_setLc {i : Nat} {y : Str} {py : Pos} (hc : X.calm = true) (hN : X.N.Nodup) (hsw : swapsWith (.ListComp elt [⟨tg, iter, ifs, 0⟩] scope pos) (some (.Name y py)) spos.line X.env = pure true) (hi : PI X tg iter (ti X.K E mi)) (ok : BlkOk X.N X.env.scope scope own) (hT : ∀ i ∈ T.slots, i ∈ vs)
    (hg : ∀ (s : Shared) (H : Hp) (C : Addr) (cl : List (Str × Addr)) (fp : List Addr), PG (X.blk s H scope (compEnvC scope cl C X.env) fp) tg (tgR X.K T)) (ht : ∀ (s : Shared) (H : Hp) (C : Addr) (cl : List (Str × Addr)) (fp : List Addr), PTs (X.blk s H scope (compEnvC scope cl C X.env) fp) ifs (tt X.K E0 mt))
    (he : ∀ (s : Shared) (H : Hp) (C : Addr) (cl : List (Str × Addr)) (fp : List Addr), PE (X.blk s H scope (compEnvC scope cl C X.env) fp) elt (te X.K E0 me)) (hs : ∀ x, foldedSetIterable iter X.env x = pure x := by intro _; rfl)
    (hy : X.N[i]? = some y := by rfl) (hyl : X.env.scope.names.lookup y = some .local := by rfl) (hv : own.map (·.2) = vs := by rfl) :
    PS X (.Assign [.Name y py] (.ListComp elt [⟨tg, iter, ifs, 0⟩] scope pos) spos) (ts X.K E (sSet i (mLc vs T mi mt me))) := by
  subst hv
  refine PS.imp (ps_setLc hc hN hy hyl hsw hi ok hg ht he hs) fun D σ H ⟨ρ, M, env, rl, re, f⟩ => ?_
  refine lc_in (mi := mi) (mt := mt) (me := me) hT (te_then (m := mLc (own.map (·.2)) T mi mt me) rl re f fun w M1 ρ1 H1 v g1 rl1 re1 rv1 f1 => f1.here rl1 _ (re1.set rv1))
theorem ts_nil : PTs X [] (tt X.K E mtYes) := ⟨fun pins s σ H Q I ⟨ρ, M, env, rl, re, f⟩ => pts_nil.run pins s σ H Q I (f.here rl)⟩
theorem ts_one {c : Expr} (h : PT X c (tt X.K E mt)) : PTs X [c] (tt X.K E mt) := pts_one h
end
end Mi

namespace Mi
open PySem PySem.Spec PyProof.Rows L2

/-! ### the law's end -/
theorem rvs_ints {K : PySem.W.Frag} {ρ : Rn} {H : Hp} : ∀ ns : List Int, RVs K ρ H (ns.map Wv.int) (ns.map V.int)
  | [] => rfl
  | n :: ns => ⟨.int n, _, rfl, rfl, rvs_ints ns⟩
theorem law_in {P : Program} {w : World} {K : PySem.W.Frag} {mg mb : Str → Option Value} {k : Nat} {fa a : Addr} {fd : FuncData} {x : Str} {m : List Wv → Mem → R Wv} {s : Shared} {vs : List Value} {ns : List Int}
    (kin : K.In s.heap) (hmg : s.heap.Ns mainGlobals mg) (hmb : s.heap.Ns builtinsNs mb) (boot : ∀ y : Str, y ≠ "__name__" → mb y = bootBuiltins y) (noL : s.heap.NoLimit) (noG : s.gens = #[])
    (at_a : s.heap.get? a = some { cls := .type "list", data := .seq vs.toArray }) (hin : IntsAre vs ns) (few : ns.length ≤ sizeLine) (room : Room k callerA)
    (F : ∀ base : Heap, K.In base → base.Ns mainGlobals mg → FnG P w K mg base k fa fd [x] m) (bind : ∀ (s' : Shared) (u : Value), BindsTo s' fd ⟨[u], []⟩ [(x, u)]) (res : ∃ M, m [.rdl (ns.map Wv.int)] [] = .ok (.bl true) M) :
    codeAny (model P w) callerA (.call (.ref fa) ⟨[.ref a], []⟩) (fun r s' => r = .ok (.ret (.bool true)) ∧ OldK s.heap s'.heap ∧ s'.os = s.os ∧ AllBare s'.gens) s := by
  obtain ⟨M, res⟩ := res
  have rel := vals_ints hin
  -- what is known of the heap: the script, if the module has it not
  let H : Hp := fun b => if b = a ∧ (K.lookup a).isNone = true then some (.frz { cls := .type "list", data := .seq vs.toArray } (.lst (ns.map V.int))) else none
  have onlyA : ∀ {b u}, H b = some u → b = a ∧ (K.lookup a).isNone = true ∧ u = .frz { cls := .type "list", data := .seq vs.toArray } (.lst (ns.map V.int)) := by
    intro b u e
    by_cases hb : b = a ∧ (K.lookup a).isNone = true
    · have e : (if b = a ∧ (K.lookup a).isNone = true then some (HO.frz { cls := .type "list", data := .seq vs.toArray } (.lst (ns.map V.int))) else none) = some u := e
      rw [if_pos hb] at e
      exact ⟨hb.1, hb.2, (Option.some.inj e).symm⟩
    · have e : (if b = a ∧ (K.lookup a).isNone = true then some (HO.frz { cls := .type "list", data := .seq vs.toArray } (.lst (ns.map V.int))) else none) = some u := e
      rw [if_neg hb] at e
      cases e
  have hok : HOk P w H s.heap := by
    intro b u e
    obtain ⟨rfl, _, rfl⟩ := onlyA e
    exact ⟨at_a, by rw [List.length_map]; exact few, vs, _, rel, at_a⟩
  have below : ∀ {b o}, s.heap.get? b = some o → H b = none → (hidT s.heap H).get? b = some o := fun e n => hidT_get e n
  have ns_below : ∀ {b} {f : Str → Option Value}, s.heap.Ns b f → (hidT s.heap H).Ns b f := by
    rintro b f ⟨o, es, ep, e, d, r⟩
    refine ⟨o, es, ep, below e ?_, d, r⟩
    cases q : H b with
    | none => rfl
    | some u =>
      obtain ⟨rfl, _, _⟩ := onlyA q
      rw [at_a] at e
      cases e
      cases d
  have kin' : K.In (hidT s.heap H) := by
    intro b o e
    refine below (kin b o e) ?_
    cases q : H b with
    | none => rfl
    | some u =>
      obtain ⟨rfl, z, _⟩ := onlyA q
      rw [e] at z
      cases z
  obtain ⟨mc, lim1, lim2⟩ := noL
  have e0 : Env0 P w K mg (hidT s.heap H) callerA [] s H := {
    frames := rfl
    mod := ⟨kin', ns_below hmg, ⟨mb, ns_below hmb, boot⟩, ⟨mc, ns_below lim1, lim2⟩⟩
    bs := fun b o e => of_hidT e
    bsz := Nat.le_of_eq (hidT_size _ _)
    funs := trivial
    frf := fun b hb => by cases hb
    hok := hok
    bare := .of_eq noG }
  have rl : Rl K ⟨[], []⟩ [] H := ⟨List.nodup_nil, rfl, fun n o e => by simp at e, fun a ha => by cases ha⟩
  have rv : RVs K ⟨[], []⟩ H [.rdl (ns.map Wv.int)] [.ref a] := by
    refine ⟨.ref a, [], rfl, ⟨a, ns.map V.int, rfl, ?_, rvs_ints ns⟩, rfl⟩
    cases q : K.lookup a with
    | none => exact .inl ⟨.inr ⟨_, if_pos ⟨rfl, by rw [q]; rfl⟩⟩, by simp [Rn.no]⟩
    | some o =>
      have e := kin a o q
      rw [at_a] at e
      cases e
      exact .inr ⟨_, vs.toArray, _, q, rfl, rfl, rfl, by rw [List.size_toArray, hin.length]; exact few, by simpa using rel⟩
  refine codeAny_mono ((F _ kin' (ns_below hmg)).go callerA [] s H ⟨[.ref a], []⟩ [.ref a] [.ref a] _ ⟨[], []⟩ [] (fun v _ => v = .bl true) (fun _ _ _ => False) room rfl e0 (bind s (.ref a)) (.cons rfl .nil) rfl rl rv ?_) fun r s' h => ?_
  · rw [res]
    exact fun ρ' H' _ _ v rv => rv
  · cases r with
    | error e =>
      obtain ⟨_, _, _, _, _, _, _, _, _, _, _, _, z⟩ := h
      exact z.elim
    | ok fl =>
      cases fl with
      | ret u =>
        obtain ⟨v, H', os, bare, un, hok', rv', q⟩ := h
        have q : v = .bl true := q
        subst q
        cases rv'
        refine ⟨rfl, OldK.of_keep fun b o e => ?_, os, bare⟩
        cases hb : H b with
        | none => exact un.keep b o e hb (fun z => by cases z) (fun z => by cases z)
        | some u =>
          obtain ⟨rfl, _, rfl⟩ := onlyA hb
          obtain ⟨e1, _⟩ := hok' b _ (un.frzs b _ _ hb)
          rw [at_a] at e
          cases e
          exact e1
      | next => exact h.elim
      | brk => exact h.elim
      | cont => exact h.elim
theorem walkG {l : PySem.W.OpenLaw} {n k : Nat} {q : Program} {loose : List Str} {XP : (Str → Option Value) → Heap → Prop} {YP : World → Heap → Prop} {d : DefRec} {K : Params → PySem.W.Frag} {x : Str} (hn : l.most = some n) (hn2 : n ≤ sizeLine) (hdf : d.params.defaults = []) (room : Room k callerA)
    (hY : ∀ (w : World) (h : Heap), YP w h → (K w.params).In h)
    (F : ∀ (w : World) (mg : Str → Option Value) (fa : Addr) (h : Heap), (K w.params).In h → h.Ns mainGlobals mg → mg d.name = some (.ref fa) →
      ∃ (fd : FuncData) (m : List Wv → Mem → R Wv), (∀ (s : Shared) (u : Value), BindsTo s fd ⟨[u], []⟩ [(x, u)]) ∧ (∀ base : Heap, (K w.params).In base → base.Ns mainGlobals mg → FnG l.prog w (K w.params) mg base k fa fd [x] m) ∧
        ∀ ns : List Int, ns.length ≤ n → (∀ z ∈ ns, Builtin.Int.intBits z ≤ 1048576) → ∃ M, m [.rdl (ns.map Wv.int)] [] = .ok (.bl true) M) :
    PySem.W.WalkO q loose XP YP l.row.toRowW d [] (fun f vs => PySem.call f vs) := by
  refine Att.attach_callB hn hdf fun w s₀ s₁ mg mb fa o pm cd doc a vs ns G Y ho hd hcd hmg hobj hints hlen hbits hg => ?_
  obtain ⟨fd, m, hb, hF, hm⟩ := F w mg fa _ (hY w _ Y) G.T.g hmg
  exact law_in (hY w _ Y) G.T.g G.T.b G.T.builtins G.T.nolimit hg hobj hints (Nat.le_trans hlen hn2) room hF hb (hm ns hlen hbits)
end Mi

namespace Mi
open PySem PySem.Spec PyProof.Rows L2

/-! ### in, of flat values -/
def flatW : Wv → Bool
  | .non => true | .bl _ => true | .int _ => true | .str _ => true
  | _ => false
def eqF : Wv → Wv → Bool
  | .non, .non => true
  | .bl a, .bl b => a == b
  | .bl a, .int b => (if a then 1 else 0) == b
  | .int a, .bl b => a == (if b then 1 else 0)
  | .int a, .int b => a == b
  | .str a, .str b => a == b
  | _, _ => false
def inW (neg : Bool) (x y : Wv) (M : Mem) : R Bool := match sqOf M y with
  | some s => if flatW x && s.xs.all flatW then .ok (neg ^^ s.xs.any fun z => eqF z x) M else .no
  | none => .no
section
variable {K : PySem.W.Frag} {ρ : Rn} {H : Hp}
theorem flat_v {w : Wv} {v : V} (h : flatW w = true) (r : RV K ρ H w v) : flatV v = true ∧ (∀ {w' v'}, flatW w' = true → RV K ρ H w' v' → eqV v v' = eqF w w') := by
  cases w <;> first | cases h | skip
  all_goals (cases r; refine ⟨rfl, fun {w' v'} h' r' => ?_⟩; cases w' <;> first | cases h' | skip)
  all_goals (cases r'; rfl)
theorem flats_v : ∀ {ws : List Wv} {vs : List V}, ws.all flatW = true → RVs K ρ H ws vs → vs.all flatV = true ∧ ∀ {w v}, flatW w = true → RV K ρ H w v → inV v vs = ws.any fun z => eqF z w
  | [], _, _, r => by cases r; exact ⟨rfl, fun _ _ => rfl⟩
  | x :: xs, _, h, ⟨u, ur, e, r1, r2⟩ => by
    subst e
    rw [List.all_cons, Bool.and_eq_true] at h
    obtain ⟨h1, h2⟩ := flats_v h.2 r2
    obtain ⟨h3, h4⟩ := flat_v h.1 r1
    refine ⟨by rw [List.all_cons, h3, h1]; rfl, fun {w v} hw rw' => ?_⟩
    show (eqV u v || inV v ur) = _
    rw [List.any_cons, h4 hw rw', h2 hw rw']
end
section
variable {X : Cx} {E : XK}
theorem in_in {K : PySem.W.Frag} {neg : Bool} {x y : V} {H : Hp} {Q : VK} (h : rb K E (inW neg) x y H Q) : rIn K neg x y H Q := by
  obtain ⟨ρ, M, wx, wy, rl, rx, ry, h⟩ := h
  unfold inW at h
  cases q : sqOf M wy with
  | none => rw [q] at h; exact h.elim
  | some s =>
    rw [q] at h
    obtain ⟨h0, h⟩ := pick h
    rw [Bool.and_eq_true] at h0
    obtain ⟨a, vs, e, h1, h2⟩ : ∃ a vs, y = .ref a ∧ (SqL K H a vs ∨ SqT K H a vs) ∧ RVs K ρ H s.xs vs := by
      cases s with
      | l xs => obtain ⟨a, vs, e, h1, h2⟩ := sq_l_of rl q ry; exact ⟨a, vs, e, .inl h1, h2⟩
      | t xs => obtain ⟨a, vs, e, h1, h2⟩ := sq_t_of q ry; exact ⟨a, vs, e, .inr h1, h2⟩
    obtain ⟨h3, h4⟩ := flats_v h0.2 h2
    refine ⟨a, vs, e, h1, (flat_v h0.1 rx).1, h3, ?_⟩
    rw [h4 h0.1 rx]
    have z := h.here rl
    cases neg <;> simpa [PB] using z
theorem o_in (hu : X.A.units + 64 < cLine) : OpR X (compareOp .In) (rb X.K E (inW false)) := OpR.imp op_in_seq fun _ _ _ _ h => in_in h
theorem o_ni (hu : X.A.units + 64 < cLine) : OpR X (compareOp .NotIn) (rb X.K E (inW true)) := OpR.imp op_notIn_seq fun _ _ _ _ h => in_in h
end

/-! ### dicts of constants -/
def mDct (kws : List (Key × Wv)) : Me := fun _ M => .ok (.dct (kws.map (·.1)) (kws.map (·.2))) M
structure PDc (X : Cx) (pos : Pos) (keys : List (Option Expr)) (values : List Expr) (kws : List (Key × Wv)) : Prop where
  ex : ∃ kvs : List (Key × V), PPs X pos keys values (kvs.map fun kv => (tC (kV kv.1), tC kv.2)) ∧ kvs.map (·.1) = kws.map (·.1) ∧ ∀ ρ H, RVs X.K ρ H (kws.map (·.2)) (kvs.map (·.2))
section
variable {X : Cx} {E : XK} {pos : Pos} {keys : List (Option Expr)} {values : List Expr} {kws : List (Key × Wv)} {k v : Expr} {key : Key} {w : Wv} {u : V}
theorem p_nil : PDc X pos [] [] [] := ⟨[], pps_nil, rfl, fun _ _ => rfl⟩
theorem p_cons (hk : PE X k (tC (kV key))) (hv : PE X v (tC u)) (r : ∀ ρ H, RV X.K ρ H w u) (h : PDc X pos keys values kws) : PDc X pos (some k :: keys) (v :: values) ((key, w) :: kws) := by
  obtain ⟨kvs, h1, h2, h3⟩ := h.ex
  exact ⟨(key, u) :: kvs, pps_cons hk hv h1, by rw [List.map_cons, List.map_cons, h2], fun ρ H => ⟨u, _, rfl, r ρ H, h3 ρ H⟩⟩
theorem pairs_c {σ : L2.St} {H : Hp} : ∀ {kvs : List (Key × V)} {Q : List (V × V) → Hp → Prop}, Q (kvs.map fun kv => (kV kv.1, kv.2)) H → tPairs (kvs.map fun kv => (tC (kV kv.1), tC kv.2)) σ H Q
  | [], _, h => h
  | kv :: kvs, Q, h => pairs_c (kvs := kvs) (Q := fun r H1 => Q ((kV kv.1, kv.2) :: r) H1) h
theorem merge_new : ∀ {kvs acc : List (Key × V)}, ((acc ++ kvs).map (·.1)).Nodup → mergeK acc kvs = acc ++ kvs
  | [], acc, _ => by simp [mergeK]
  | (k, v) :: kvs, acc, h => by
    have e : putK acc k v = acc ++ [(k, v)] := by
      have nk : (acc.any fun kv => decide (kv.1 = k)) = false := by
        rw [List.any_eq_false]
        intro kv hkv z
        rw [List.map_append, List.map_cons, List.nodup_append] at h
        exact h.2.2 k (by rw [← of_decide_eq_true z]; exact List.mem_map_of_mem hkv) k List.mem_cons_self rfl
      unfold putK
      rw [nk, if_neg Bool.false_ne_true]
    show mergeK (putK acc k v) kvs = _
    rw [e, merge_new (by rw [List.append_assoc]; exact h), List.append_assoc]
    rfl
theorem e_dct (h : PDc X pos keys values kws) (nd : (kws.map (·.1)).Nodup := by decide) (hk : kws.length ≤ 15 := by decide) (h15 : keys.length ≤ 15 := by decide) (hall : keys.all (·.isSome) = true := by rfl) (hl : keys.length = values.length := by rfl) (h0 : keys ≠ [] := by exact fun z => by cases z) : PE X (.Dict keys values pos) (te X.K E (mDct kws)) := by
  obtain ⟨kvs, h1, h2, h3⟩ := h.ex
  have hlen : kvs.length ≤ 15 := by
    have e := congrArg List.length h2
    rw [List.length_map, List.length_map] at e
    omega
  refine PE.imp (pe_disp h1 hall hl h0 h15) fun σ H Q ⟨ρ, M, env, rl, re, f⟩ p hp => pairs_c ⟨upd_same, kvs, rfl, hlen, ?_⟩
  rw [upd_upd, merge_new (by simpa [h2] using nd)]
  exact f ρ _ (Gr.fresh hp) (rl.upd hp) _ ⟨p, kvs, rfl, ⟨upd_same, rl.out hp⟩, h2, h3 ρ _⟩
theorem e_dct0 : PE X (.Dict [] [] pos) (te X.K E (mDct [])) := PE.imp pe_dnewK fun σ H Q ⟨ρ, M, env, rl, re, f⟩ p hp => f ρ _ (Gr.fresh hp) (rl.upd hp) _ ⟨p, [], rfl, ⟨upd_same, rl.out hp⟩, rfl, rfl⟩
end
end Mi

namespace Mi
open PySem PySem.Spec PyProof.Rows L2 NdefX

/-- what the written part says of an exception's class C whose own __init__, F at fI, begins super().__init__(..) -/
structure XIni (P : Program) (K : PySem.W.Frag) (mg : Str → Option Value) (C fI cc : Addr) (F : NF) : Prop where
  T : OexC K C
  iC : PySem.W.findIn K (.ref C) "__init__" = some (some (.ref fI))
  tI : PySem.W.typeIn K (.ref fI) = some (.type "function")
  lk : ∃ (oc : Value) (od : Option Addr) (osl : Array (Option Value)) (dV kV doc pm ct : Value) (an : Option Addr), K.lookup fI = some ⟨oc, od, .func (PySem.W.fnX F.name F.qual F.params F.body F.scope [("__class__", cc)] dV kV doc pm an (.ref F.c) ct), osl⟩
  cl : F.cl = [(("__class__" : Str), cc)]
  cd : PySem.W.codeIn K (.ref F.c) F.qual = true
  code : ∃ (ccl : Value) (cdd : Option Addr) (vs : Array Value) (ccs : Array (Option Value)) (file : Str) (tf : Tok), K.lookup F.c = some ⟨ccl, cdd, .fields vs, ccs⟩ ∧ vs[2]? = some (.str file tf) ∧ ((P.main.file : Str) == file) = true
  cell : ∃ (cl : Value) (cld : Option Addr) (csl : Array (Option Value)), K.lookup cc = some ⟨cl, cld, .cell (some (.ref C)), csl⟩
  sup : PySem.W.ks_superIn K C C "__init__" = some (some (.builtin "ValueError.__init__"))
  sub : PySem.W.subIn K (.ref C) (.type "ValueError") = some true
  self : PySem.W.mroIn K C (.ref C) = some true
  stat : PySem.W.nsIn K cStatics "thirdparty.any" = some none
  noSup : mg "super" = none
  top : (P.main.scope.names.lookup ("super" : Str)).isSome = false
section
variable {X : Cx} {pins : List (Addr × Obj)} {σ : L2.St} {H : Hp} {s : Shared} {C fI cc a : Addr} {F : NF} {p0 p1 p2 p3 p4 p5 : Pos} {txt slf : Str} {j : Nat} {ar : Arg}
theorem clsAt_get (T : OexC X.K C) (I : Inv X pins σ H s) : ∃ cd oC, PySem.W.clsIn X.K C = some cd ∧ s.heap.get? C = some oC ∧ oC.data = .cls cd := by
  obtain ⟨nm, q, N, bs, bm, sn, sub, ab, col, dd, k0, k1, k2, k3, k5, hC, hbm⟩ := T.cls
  exact ⟨_, _, by unfold PySem.W.clsIn; rw [hC] <;> rfl, I.kIn _ _ hC, rfl⟩
theorem super_first (W : XIni X.prog X.K X.mg C fI cc F) {body : List Stmt} (he : X.env = envF F fI X.env.locals) (hk : F.scope.kind = .function) (hks : F.scope.names.lookup ("super" : Str) = some .globalImplicit) (hkc : F.scope.names.lookup ("__class__" : Str) = some .free)
    (hp : (F.params.posonlyargs ++ F.params.args).head? = some ar) (hka : F.scope.names.lookup ar.arg = some .local) (hN : X.N[0]? = some ar.arg) (hs : σ[0]? = some (some (.ref a))) (ea : H a = some (exo a C none)) (I : Inv X pins σ H s)
    {pl : Sem Bool} (hev : eval (.Call (.Attribute (.Call (.Name "super" p0) [] [] p1) "__init__" p2) [.Constant (.str txt) j p3] [] p4) X.env = (do
      let ov ← attributeBase (.Call (.Name "super" p0) [] [] p1) "__init__" X.env (eval (.Call (.Name "super" p0) [] [] p1) X.env)
      standAt p2.atName
      let (f, first) ← holding [ov] (getMethod ov "__init__" pl)
      callWith p4 f first (backTo p4 (starEach [.Constant (.str txt) j p3] X.env)) []))
    (hi : interactive X.env = false) (hsw : swapsWith (.Call (.Attribute (.Call (.Name "super" p0) [] [] p1) "__init__" p2) [.Constant (.str txt) j p3] [] p4) none p5.line X.env = pure false) {Q : Flow → Shared → Prop} (hq : ∀ s', Inv X pins σ H s' → Q .next s') :
    _root_.PySem.wpAt (model X.prog X.w) X.A (.func body X.env) (exec (.Expr (.Call (.Attribute (.Call (.Name "super" p0) [] [] p1) "__init__" p2) [.Constant (.str txt) j p3] [] p4) p5) X.env) Q X.xe s := by
  obtain ⟨oc, od, osl, dV, kV, doc, pm, ct, an, hf⟩ := W.lk
  obtain ⟨ccl, cdd, vs, ccs, file, tf, hcode, hvs, hfile⟩ := W.code
  obtain ⟨ccl', cld, csl, hcell⟩ := W.cell
  obtain ⟨cd, oC, hcls, hD1, hD2⟩ := clsAt_get W.T I
  have KX := I.kIn
  refine ks_wpAt_Expr_any ?_ hi hsw
  refine ks_wpAt_MethodCall ?_ hev
  have hkE : X.env.scope.kind = .function := by rw [he]; exact hk
  have hksE : X.env.kindOf ("super" : Str) = some .globalImplicit := by rw [he]; exact hks
  have hkcE : X.env.kindOf ("__class__" : Str) = some .free := by rw [he]; exact hkc
  have hkaE : X.env.kindOf ar.arg = some .local := by rw [he]; exact hka
  have hclE : X.env.cells.lookup ("__class__" : Str) = some cc := by rw [he]; show F.cl.lookup _ = _; rw [W.cl]; rfl
  refine ks_wpAt_super_base hksE hkcE rfl (by rw [he]) (KX _ _ hf) rfl hp (by rw [he]) (KX _ _ hcode) rfl hvs hfile W.top ?_
  obtain ⟨mb, h1, h2⟩ := I.mod.blt
  refine PySem.W.ks_loadName_global hkE hksE (Calls.loadGlobal_builtin (by rw [I.ok.glob]; exact I.mod.glob.keeps I.bk) W.noSup (by rw [I.ok.blt]; exact h1.keeps I.bk) ((h2 _ (by decide)).trans (show bootBuiltins "super" = some (.type "super") from by decide +kernel)) ⟨rfl, ?_⟩)
  refine wpAny_loadName_free hkE hkcE hclE ⟨_, KX _ _ hcell, rfl⟩ ?_
  obtain ⟨m, hn, hl⟩ := I.loc
  obtain ⟨u, ru, lu⟩ := hl 0 ar.arg (.ref a) hN hs (.inl (by rw [he]; exact hka))
  obtain rfl : u = Value.ref a := ru
  have hm : m ar.arg = some (.ref a) := by
    rcases lu with ⟨_, z⟩ | ⟨z | z, _⟩
    · exact z
    · rw [hkaE] at z; cases z
    · rw [hkaE] at z; cases z
  refine wpAny_loadName_local hkE hkaE hn hm ?_
  obtain ⟨t1, ho⟩ := exo_at I.hok ea
  obtain ⟨hp0, g0, d0, tk0, os0⟩ := s
  refine ks_wpAny_isType_cls hD1 hD2 ⟨rfl, ?_⟩
  refine ks_wpAny_call_super hD1 hD2 ho rfl (fun c e => by cases e) (PySem.W.looks_mroIn KX W.self) (fun h' e k => ?_)
  have I1 : Inv X pins σ H ⟨h', g0, d0, tk0, os0⟩ := I.kept k
  have ho1 := k _ _ ho
  have IA : PySem.W.InstAt h' a ({ cls := .ref C, dict := none, data := .fields #[.ref t1, .none, .none, .none, .bool false, .none] } : Obj) C none := ⟨ho1, rfl, rfl, trivial⟩
  have hsup : PySem.W.alongIn X.K "__init__" ((cd.mro.dropWhile (· != .ref C)).drop 1) = some (some (.builtin "ValueError.__init__")) := by
    have z := W.sup
    unfold PySem.W.ks_superIn at z
    rw [hcls] at z
    exact z
  refine PySem.W.kxs_getMethod PySem.W.kxs_ValueError (K := X.K) e (PySem.W.looks_opaque I1.kIn W.stat) (l₀ := cd.mro) (fun A Q E s k q => wpAny_bind ((PySem.W.looks_clsIn I1.kIn hcls) A _ E s k (wpAny_pure q))) rfl I1.kIn hsup (IA.type.andThen (PySem.W.looks_subIn I1.kIn W.sub)) (PySem.W.ks_ne I1.kIn IA hcls) rfl ?_
  have hmw : (h'.push (PySem.W.kxs_mw "ValueError.__init__" a)).get? h'.objs.size = some (PySem.W.kxs_mw "ValueError.__init__" a) := Heap.get?_push_at rfl rfl
  have I2 : Inv X pins σ H ⟨h'.push (PySem.W.kxs_mw "ValueError.__init__" a), g0, d0, tk0 + 1, os0⟩ := (I1.kept (t' := tk0 + 1) fun b o z => Heap.get?_push_of_some _ z)
  have I3 : Inv X ((h'.objs.size, PySem.W.kxs_mw "ValueError.__init__" a) :: pins) σ H ⟨h'.push (PySem.W.kxs_mw "ValueError.__init__" a), g0, d0, tk0 + 1, os0⟩ := I2.pins_of fun p hp => by
    rcases List.mem_cons.mp hp with rfl | hp
    · exact ⟨hmw, I1.hok.fresh (Nat.le_refl _), fun z => Nat.lt_irrefl _ (by have y := I1.lt; rw [← z] at y; exact y), I1.nofs (Nat.le_refl _), fun v z => by cases z⟩
    · exact I2.pin p (List.mem_append_right _ hp)
  refine PySem.W.kxs_callWith (i := "ValueError.__init__") (x := a) rfl ?_
  refine PySem.Calls.evalArgs_plain ?_
  have ha : PA X [.Constant (.str txt) j p3] (tCons (tC (.str txt)) tNil) := pa_cons pe_str pa_nil
  refine thn (ha.run p4 _ _ σ H (fun vs H1 => vs = [V.str txt] ∧ H = H1) I3 ⟨rfl, rfl⟩) fun us s1 hh => ?_
  obtain ⟨vs, H1, I4, r1, ev, eH⟩ := hh
  subst ev
  rw [← eH] at I4
  have hu := (I4.pin (h'.objs.size, PySem.W.kxs_mw "ValueError.__init__" a) (by simp)).1
  refine ⟨hu, ?_⟩
  cases r1 with
  | @cons _ u0 _ ur ru rn =>
    cases rn
    obtain ⟨hp1, g1, d1, tk1, os1⟩ := s1
    show wpAny _ _ (call (.ref h'.objs.size) [u0]) _ _ _
    obtain ⟨nm, q, N, bs, bm, sn, sub, ab, col, dd, k0, k1, k2, k3, k5, hC, hbm⟩ := W.T.cls
    obtain ⟨t4, ho4⟩ := exo_at I4.hok ea
    refine wpAny_call (codeAny_of_tree ?_)
    show wpAny _ _ (callAny (.ref h'.objs.size) ⟨[u0], []⟩) _ _ _
    simp only [callAny]
    refine wpAny_bind (wpAny_load hu ?_)
    simp only [PySem.W.kxs_mw, show (Value.type "method-wrapper" == Value.type "method" || Value.type "method-wrapper" == Value.type "builtin_function_or_method" || Value.type "method-wrapper" == Value.type "method-wrapper") = true by decide, if_true]
    refine PySem.W.KFB.if_so (by decide) ?_
    refine wpAny_bind (PySem.W.check_bound_init PySem.F.excBase_ValueError.toExcCallFacts (I4.kIn _ _ hC) ho4 rfl ?_)
    refine wpAny_bind (wpAny_pure (wpAny_pure ?_))
    refine ⟨plainId_quiet PySem.F.excBase_ValueError.init.plain _, codeAny_builtin PySem.F.excBase_ValueError.initEntry ?_⟩
    refine PySem.W.exc_init_tree (cls := .ref C) (t0 := t4) (dv := none) (c2 := .none) (c3 := .none) (b4 := .bool false) ho4 (by show 1 ≤ sizeLine; rw [sizeLine_eq]; omega) fun h2 k2 e2 _ => ?_
    have I5 := I4.write (t' := tk1) (x := a) (e := a) (o := exo a C none) (by rw [ea]; exact True.intro) (.inl rfl) k2 ⟨_, e2⟩ (exo_ok e2)
    have eu : upd H a (exo a C none) = H := by
      funext b
      by_cases hb : b = a
      · rw [hb, upd_same, ea]
      · rw [upd_ne hb]
    rw [eu] at I5
    exact hq _ (I5.pins_of fun p hp => I5.pin p (by simp only [List.mem_append, List.mem_cons]; exact .inr (.inr hp)))
end
end Mi

namespace Mi
open PySem PySem.Spec PyProof.Rows L2 NdefX

/-- self.f = x, each x the slot i -/
inductive Sets (F : NF) (fI : Addr) (N : List Str) : List Stmt → List (Str × Nat) → Prop
  | nil : Sets F fI N [] []
  | cons {st : Stmt} {rest : List Stmt} {f slf x : Str} {i : Nat} {p1 p2 p3 pos : Pos} {l : List (Str × Nat)} (e : st = .Assign [.Attribute (.Name slf p1) f p2] (.Name x p3) pos) (h0 : N[0]? = some slf) (hi : N[i]? = some x)
      (v0 : F.scope.names.lookup slf = some .local) (vi : F.scope.names.lookup x = some .local) (hs : ∀ L, swapsWith (.Name x p3) (some (.Attribute (.Name slf p1) f p2)) pos.line (envF F fI L) = pure false)
      (d0 : (slf == ("__debug__" : Str)) = false) (c0 : (slf == ("__classdict__" : Str)) = false) (di : (x == ("__debug__" : Str)) = false) (ci : (x == ("__classdict__" : Str)) = false)
      (r : Sets F fI N rest l) : Sets F fI N (st :: rest) ((f, i) :: l)
def tSets (K : PySem.W.Frag) : List (Str × Nat) → TS
  | [] => tNext
  | (f, i) :: l => tSeq (tOst K f (tVar 0) (tVar i)) (tSets K l)
theorem Sets.pss {X : Cx} {F : NF} {fI : Addr} {L : Addr} (he : X.env = envF F fI L) : ∀ {rest : List Stmt} {l : List (Str × Nat)}, Sets F fI X.N rest l → PSs X rest (tSets X.K l)
  | _, _, .nil => pss_nil
  | _, _, .cons e h0 hi v0 vi hs d0 c0 di ci r => by
    subst e
    exact pss_cons (ps_ost (pe_var h0 (.inl (by rw [he]; exact v0)) d0 c0) (pe_var hi (.inl (by rw [he]; exact vi)) di ci) (by rw [he]; exact hs L)) (Sets.pss he r)
/-- the fields with their values, the last one first -/
def fldsV : List (Str × Nat) → List V → List (Str × V) → List (Str × V)
  | (f, _) :: l, y :: ys, fs => fldsV l ys ((f, y) :: fs)
  | _, _, fs => fs
theorem upd_swap {H : Hp} {a d : Addr} {o1 o2 o3 : HO} (h : d ≠ a) : upd (upd (upd H d o1) a o2) d o3 = upd (upd H d o3) a o2 := by
  funext b
  by_cases h1 : b = a
  · subst h1; rw [upd_ne (Ne.symm h), upd_same, upd_same]
  · rw [upd_ne (o := o2) (H := upd H d o3) h1]
    by_cases h2 : b = d
    · subst h2; rw [upd_same, upd_same]
    · rw [upd_ne h2, upd_ne h1, upd_ne h2, upd_ne h2]
theorem sets_old {K : PySem.W.Frag} {C a d : Addr} (T : OexC K C) (hda : d ≠ a) {D : Ends} {σ : L2.St} {H : Hp} (h0 : σ[0]? = some (some (.ref a))) : ∀ {l : List (Str × Nat)} {ys : List V} {fs : List (Str × V)}, (∀ p ∈ l, PySem.W.findIn K (.ref C) p.1 = some none) → l.length = ys.length → fs.length + l.length ≤ 900 →
    (∀ (k : Nat) (p : Str × Nat) (y : V), l[k]? = some p → ys[k]? = some y → σ[p.2]? = some (some y)) → D.nx σ (upd (upd H d (exd d (fldsV l ys fs))) a (exo a C (some d))) →
    tSets K l D σ (upd (upd H d (exd d fs)) a (exo a C (some d)))
  | [], [], fs, _, _, _, _, q => q
  | (f, i) :: l, y :: ys, fs, hn, hl, hz, hy, q => by
    simp only [List.length_cons] at hl hz
    refine ⟨y, hy 0 (f, i) y rfl rfl, .ref a, h0, a, C, rfl, T, hn _ List.mem_cons_self, .inr ⟨d, fs, upd_same, by rw [upd_ne hda, upd_same], by omega, ?_⟩⟩
    show tSets K l D σ _
    rw [upd_swap hda]
    exact sets_old T hda h0 (fun p hp => hn p (List.mem_cons_of_mem _ hp)) (by omega) (by simp only [List.length_cons]; omega) (fun k p y e1 e2 => hy (k + 1) p y e1 e2) q
  | [], _ :: _, _, _, hl, _, _, _ => by simp at hl
  | _ :: _, [], _, _, hl, _, _, _ => by simp at hl
theorem sets_new {K : PySem.W.Frag} {C a : Addr} (T : OexC K C) {D : Ends} {σ : L2.St} {H : Hp} (h0 : σ[0]? = some (some (.ref a))) (ea : H a = some (exo a C none)) {l : List (Str × Nat)} {ys : List V} (hne : l ≠ []) (hn : ∀ p ∈ l, PySem.W.findIn K (.ref C) p.1 = some none) (hl : l.length = ys.length) (hz : l.length ≤ 900)
    (hy : ∀ (k : Nat) (p : Str × Nat) (y : V), l[k]? = some p → ys[k]? = some y → σ[p.2]? = some (some y)) (q : ∀ d, H d = none → d ≠ a → D.nx σ (upd (upd H d (exd d (fldsV l ys []))) a (exo a C (some d)))) : tSets K l D σ H := by
  cases l with
  | nil => exact absurd rfl hne
  | cons p l =>
    obtain ⟨f, i⟩ := p
    cases ys with
    | nil => simp at hl
    | cons y ys =>
      simp only [List.length_cons] at hl hz
      refine ⟨y, hy 0 (f, i) y rfl rfl, .ref a, h0, a, C, rfl, T, hn _ List.mem_cons_self, .inl ⟨ea, fun dx hd hda => ?_⟩⟩
      show tSets K l D σ _
      exact sets_old T hda h0 (fun p hp => hn p (List.mem_cons_of_mem _ hp)) (by omega) (by simp only [List.length_cons, List.length_nil]; omega) (fun k p y e1 e2 => hy (k + 1) p y e1 e2) (q dx hd hda)
/-- the words of the first statement -/
structure Sup (F : NF) (fI : Addr) (rest : List Stmt) (slf : Str) : Prop where
  ex : ∃ (p0 p1 p2 p3 p4 p5 : Pos) (txt : Str) (j : Nat) (ar : Arg) (pl : Sem Bool), F.body = .Expr (.Call (.Attribute (.Call (.Name "super" p0) [] [] p1) "__init__" p2) [.Constant (.str txt) j p3] [] p4) p5 :: rest ∧ ar.arg = slf ∧
    (F.params.posonlyargs ++ F.params.args).head? = some ar ∧
    (∀ L, eval (.Call (.Attribute (.Call (.Name "super" p0) [] [] p1) "__init__" p2) [.Constant (.str txt) j p3] [] p4) (envF F fI L) = (do
      let ov ← attributeBase (.Call (.Name "super" p0) [] [] p1) "__init__" (envF F fI L) (eval (.Call (.Name "super" p0) [] [] p1) (envF F fI L))
      standAt p2.atName
      let (f, first) ← holding [ov] (getMethod ov "__init__" pl)
      callWith p4 f first (backTo p4 (starEach [.Constant (.str txt) j p3] (envF F fI L))) [])) ∧
    (∀ L, interactive (envF F fI L) = false) ∧ ∀ L, swapsWith (.Call (.Attribute (.Call (.Name "super" p0) [] [] p1) "__init__" p2) [.Constant (.str txt) j p3] [] p4) none p5.line (envF F fI L) = pure false
  sup : F.scope.names.lookup ("super" : Str) = some .globalImplicit
  cls : F.scope.names.lookup ("__class__" : Str) = some .free
  slf : F.scope.names.lookup slf = some .local
section
variable {P : Program} {w : World} {K : PySem.W.Frag} {mg : Str → Option Value} {base : Heap} {C fI cc : Addr} {F : NF} {N ps : List Str} {rest : List Stmt} {slf : Str} {l : List (Str × Nat)}
theorem init_run (W : XIni P K mg C fI cc F) (S : NScope N ps ["__class__"] F.scope) (U : Sup F fI rest slf) (hN0 : N[0]? = some slf) (Z : Sets F fI N rest l) (hno : ∀ p ∈ l, PySem.W.findIn K (.ref C) p.1 = some none) (hne : l ≠ []) (hz : l.length ≤ 900)
    {k : Nat} {A : Around} {outer : List Env} {s : Shared} {H : Hp} {as : Args} {us : List Value} {vs ys : List V} {a : Addr} {Q : VK} {E : XK} {fd : FuncData} {oc : Value} {od : Option Addr} {osl : Array (Option Value)} (lf : K.lookup fI = some ⟨oc, od, .func fd, osl⟩)
    (hr : Room (k + 1) A) (e0 : Env0 P w K mg base A outer s H) (hb : BindsTo s fd as (ps.zip us)) (r : Vals vs us) (hl : vs.length = ps.length) (h0 : vs[0]? = some (.ref a)) (ea : H a = some (exo a C none))
    (hly : l.length = ys.length) (hy : ∀ (k : Nat) (p : Str × Nat) (y : V), l[k]? = some p → ys[k]? = some y → vs[p.2]? = some y)
    (hq : ∀ d, H d = none → d ≠ a → Q .non (upd (upd H d (exd d (fldsV l ys []))) a (exo a C (some d)))) : codeAny (model P w) A (.call (.ref fI) as) (CR (L2.CX P w) outer P w H s Q E) s := by
  obtain ⟨p0, p1, p2, p3, p4, p5, txt, j, ar, pl, eb, rfl, hp, hev, hi, hsw⟩ := U.ex
  obtain ⟨oc', od', osl', dV, kV, doc, pm, ct, an, hf⟩ := W.lk
  rw [hf] at lf
  cases lf
  have KX : K.In s.heap := e0.mod.kin.keeps fun b o e => (e0.bs b o e).1
  have lim : s.heap.NoLimit := e0.mod.nolimit.keeps fun b o e => (e0.bs b o e).1
  obtain ⟨name, qual, params, body, scope, cl, c⟩ := F
  have hcl : cl = [(("__class__" : Str), cc)] := W.cl
  subst hcl
  have eb : body = _ := eb
  refine ks_codeAny_call_defAt (body := body) (binds := ps.zip us) hr.depth (KX _ _ hf) rfl lim (PySem.W.codeRec_of KX W.cd) rfl hb (fun x hx => S.nocell x hx) (fun x hx => S.par x.1 (List.of_mem_zip hx).1) (fun h₀ hns kp => ?_) S.co S.gen S.kind
  obtain ⟨ccl, cld, csl, hcell⟩ := W.cell
  have hCc : CellsAt [(("__class__" : Str), cc)] ["__class__"] [some (.ref C)] s.heap H := by
    refine ⟨rfl, fun y c e => ?_, fun x y c e1 e2 => ?_, fun i y e => ?_⟩
    · have : c = cc := by
        simp only [List.lookup] at e
        split at e
        · cases e; rfl
        · cases e
      subst this
      exact ⟨(e0.bs _ _ (e0.mod.kin _ _ hcell)).2, _, _, KX _ _ hcell, rfl⟩
    · have ex : ∀ z : Str, List.lookup z [(("__class__" : Str), cc)] = some c → z = "__class__" := fun z e => by
        simp only [List.lookup] at e
        split at e
        · rename_i h; exact beq_iff_eq.mp h
        · cases e
      rw [ex x e1, ex y e2]
    · cases i with
      | zero =>
        cases e
        exact ⟨cc, rfl, fun v e => by cases e; exact ⟨.ref C, rfl, _, KX _ _ hcell, rfl⟩⟩
      | succ i => cases i <;> cases e
  have I := inv_startN (CX := L2.CX P w) (F := ⟨name, qual, params, body, scope, [(("__class__" : Str), cc)], c⟩) (f := fI) (E := E) (tk := s.toks + (ps.zip us).length) S hr.hd e0 hl r hCc hns kp
  rw [eb]
  have hs0 : (startF N vs [some (V.ref C)])[0]? = some (some (.ref a)) := by
    cases vs with
    | nil => cases h0
    | cons v vs => cases h0; rfl
  refine ks_wpAt_execs_cons (super_first (X := ncx (L2.CX P w) P w K mg base N ⟨name, qual, params, body, scope, [(("__class__" : Str), cc)], c⟩ fI A outer s H E) W rfl S.kind U.sup U.cls hp U.slf hN0 hs0 ea I (hev _) (hi _) (hsw _) (fun s' I' => ?_))
  refine wpAt_of_wpAny ?_
  have ht := Z.pss (X := ncx (L2.CX P w) P w K mg base N ⟨name, qual, params, body, scope, [(("__class__" : Str), cc)], c⟩ fI A outer s H E) rfl
  have hw : tSets K l { nx := fun _ H' => Q .non H', rt := Q } (startF N vs [some (V.ref C)]) H := by
    refine sets_new W.T hs0 ea hne hno hly hz (fun k p y e1 e2 => ?_) hq
    have e := hy k p y e1 e2
    unfold startF
    rw [List.getElem?_append_left (by simpa using (List.getElem?_eq_some_iff.mp e).1), List.getElem?_map, e]
    rfl
  refine wpAny_mono (ht.run [] s' _ H _ I' hw) (fun fl s' hs => ?_) fun _ _ z => z
  cases fl with
  | ret u =>
    obtain ⟨v, σ', H', J, rv', q⟩ := hs
    exact ⟨v, H', J.os, J.bare, J.base, J.hok, rv', q⟩
  | next =>
    obtain ⟨σ', H', J, q⟩ := hs
    exact ⟨V.non, H', J.os, J.bare, J.base, J.hok, rfl, q⟩
  | brk => obtain ⟨_, _, _, q⟩ := hs; exact q.elim
  | cont => obtain ⟨_, _, _, q⟩ := hs; exact q.elim
end
end Mi

/-! an own exception made with keywords too -/
namespace Mi.XK
open PySem PySem.Spec PySem.Calls
open PySem.HandSPX (excO)
section
variable {M : Model} {A : Around} {E : Value → Shared → Prop} {h : Heap} {g : Array GenState} {d : Drawn} {t : Nat} {os : OsState}
variable {nm q : Str} {C N : Addr} {bs bm bT : List Value} {hdct : Bool} {sn : List Str} {sub : List Value} {ab : Bool} {col : Option Bool} {dd : Option Addr} {k0 k1 k2 k3 k5 : Option Value} {B nI iI : String} {kw : List (Str × Value)} {rest : List Value}
abbrev clsX (nm q : Str) (C N : Addr) (bs bm : List Value) (hdct : Bool) (sn : List Str) (sub : List Value) (ab : Bool) (col : Option Bool) (dd : Option Addr) (k0 k1 k2 k3 k5 : Option Value) (nI : String) : Obj := excClassObj nm q C N bs bm hdct sn sub ab col dd k0 k1 k2 k3 k5 nI
theorem has_in {Y : String} (hT : ∀ X : String, bm.contains (.type X) = bT.contains (.type X)) {b : Bool} (e : bT.contains (.type Y) = b) : (Value.ref C :: bm).contains (.type Y) = b := by
  rw [List.contains_cons, hT, e]
  rfl
theorem chk_new (F : ExcBaseFacts B nI iI bT) (hT : ∀ X : String, bm.contains (.type X) = bT.contains (.type X)) {Q : Unit → Shared → Prop} (hC : h.get? C = some (clsX nm q C N bs bm hdct sn sub ab col dd k0 k1 k2 k3 k5 nI)) (hq : Q () ⟨h, g, d, t, os⟩) :
    wpAny M A (checkBuiltinCall nI ⟨.ref C :: rest, kw⟩) Q E ⟨h, g, d, t, os⟩ := by
  have c1 := has_in (C := C) hT F.hasB
  have c2 := F.noStar
  simp only [checkBuiltinCall, F.newKind, F.newSplit, F.newRow]
  repeat (first
    | refine wpAny_loadPart_at hC ?_
    | (refine wpAny_isSubtype_exc hC ?_; rw [c1])
    | refine wpAny_staticBase_exc hC ?_
    | refine wpAny_madeBy_exc hC ?_
    | simp only [bne_self_eq_false, Bool.false_eq_true, if_false]
    | wp_step)
  exact hq
end
section
variable {prog : Program} {w : World} {A : Around} {E : Value → Shared → Prop} {R : Result → Shared → Prop} {h : Heap} {g : Array GenState} {d : Drawn} {t : Nat} {os : OsState}
variable {nm q : Str} {C N : Addr} {bs bm bT : List Value} {hdct : Bool} {sn : List Str} {sub : List Value} {ab : Bool} {col : Option Bool} {dd : Option Addr} {k0 k1 k2 k3 k5 : Option Value} {B nI iI : String} {kw : List (Str × Value)} {rest : List Value}
abbrev made (h : Heap) (C : Addr) (rest : List Value) : Heap := (h.push (PySem.W.kdv_tup rest)).push (excO C h.objs.size)
theorem do_new (F : ExcBaseFacts B nI iI bT) (hT : ∀ X : String, bm.contains (.type X) = bT.contains (.type X)) (hC : h.get? C = some (clsX nm q C N bs bm hdct sn sub ab col dd k0 k1 k2 k3 k5 nI))
    (hq : R (.ok (.ret (.ref (h.objs.size + 1)))) ⟨made h C rest, g, d, t, os⟩) (hl : rest.length ≤ sizeLine) : codeAny (model prog w) A (.builtin nI ⟨.ref C :: rest, kw⟩) R ⟨h, g, d, t, os⟩ := by
  have c0 := F.ends
  have c1 := has_in (C := C) hT F.hasB
  have c2 := has_in (C := C) hT F.noAttr
  have c3 := has_in (C := C) hT F.noName
  refine codeAny_builtinAt F.entry ?_
  unfold Builtin.«BaseException.__new__»
  refine wpAt_bind ?_
  show wpAt _ _ _ (stack >>= _) _ _ _
  refine wpAt_bind (wpAt_stack fun p below => wpAt_of_wpAny ?_)
  wp_walk
  refine wpAt_of_wpAny ?_
  rw [F.owner]
  repeat (first
    | with_reducible refine wpAny_madeHere_exc F.canon hC ?_
    | with_reducible refine wpAny_loadPart_at hC ?_
    | (with_reducible refine wpAny_isSubtype_exc hC ?_; first | rw [c1] | rw [c2] | rw [c3])
    | wp_step)
  show R _ _
  rw [Heap.size_push]
  exact hq
theorem do_type (F : ExcBaseFacts B nI iI bT) (hT : ∀ X : String, bm.contains (.type X) = bT.contains (.type X)) {fI : Addr} {Q : PySem.Fin → Shared → Prop} (hC : h.get? C = some (clsX nm q C N bs bm hdct sn sub ab col dd k0 k1 k2 k3 k5 nI))
    (hi : W.Looks (model prog w) h (typeLookup (.ref C) "__init__") (some (.ref fI))) (hb : ∀ self, W.Looks (model prog w) h (bindSpecial (.ref fI) self) (.ref fI, [self])) (hl : rest.length ≤ sizeLine)
    (hq : codeAny (model prog w) A (.call (.ref fI) ⟨.ref (h.objs.size + 1) :: rest, kw⟩)
      (fun r s' => match r with | .ok (.ret v) => v = .none ∧ Q (.done (.ret (.ref (h.objs.size + 1)))) s' | .ok _ => False | .error e => E e s') ⟨made h C rest, g, d, t, os⟩) :
    wpAny (model prog w) A (Builtin.«type.__call__» ⟨.ref C :: rest, kw⟩) Q E ⟨h, g, d, t, os⟩ := by
  repeat (first
    | with_reducible refine wpAny_loadPart_at hC ?_
    | with_reducible refine wpAny_madeBy_exc hC ?_
    | wp_step)
  refine codeAny_call_builtin_code (Code.quiet_builtin _ F.quiet) (chk_new F hT hC (do_new F hT hC ?_ hl))
  show wpAny _ _ _ _ _ _
  have up : ∀ b o, h.get? b = some o → (made h C rest).get? b = some o := fun b o e => Heap.get?_push_of_some _ (Heap.get?_push_of_some _ e)
  have hC2 := up _ _ hC
  have hx : (made h C rest).get? (h.objs.size + 1) = some (excO C h.objs.size) := by heap_get
  have cC : (Value.ref C :: bm).contains (.ref C) = true := by simp
  have i1 := hi.keeps up
  have b1 := (hb (.ref (h.objs.size + 1))).keeps up
  unfold isInstance
  repeat (first
    | with_reducible refine wpAny_loadPart_at hx ?_
    | (with_reducible refine wpAny_isSubtype_exc hC2 ?_; rw [cC])
    | wp_step)
  show wpAny _ _ (typeLookup (.ref C) _) _ _ _
  refine i1.at ?_
  refine wpAny_holding (wpAny_bind (b1.at ?_))
  refine wpAny_bind (wpAny_call (codeAny_mono hq fun r s' z => ?_))
  rcases r with e | (v | _ | _ | _) <;> first | exact z | exact z.elim | skip
  obtain ⟨rfl, z⟩ := z
  first
    | exact wpAny_pure (wpAny_pure z)
    | (wp_walk; exact z)
theorem do_call (F : ExcBaseFacts B nI iI bT) (hT : ∀ X : String, bm.contains (.type X) = bT.contains (.type X)) {fI : Addr} (hC : h.get? C = some (clsX nm q C N bs bm hdct sn sub ab col dd k0 k1 k2 k3 k5 nI))
    (hi : W.Looks (model prog w) h (typeLookup (.ref C) "__init__") (some (.ref fI))) (hb : ∀ self, W.Looks (model prog w) h (bindSpecial (.ref fI) self) (.ref fI, [self])) (hl : rest.length ≤ sizeLine)
    (hq : codeAny (model prog w) (A.under (.builtin "type.__call__" ⟨.ref C :: rest, kw⟩)) (.call (.ref fI) ⟨.ref (h.objs.size + 1) :: rest, kw⟩) (W.InitBack (h.objs.size + 1) R) ⟨made h C rest, g, d, t, os⟩) :
    codeAny (model prog w) A (.call (.ref C) ⟨rest, kw⟩) R ⟨h, g, d, t, os⟩ := by
  have f1 := tc_lookup
  have f2 := tc_bind (.ref C)
  have ty : (⟨h, g, d, t, os⟩ : Shared).TypeIs (.ref C) "type" := ⟨_, hC, rfl⟩
  refine codeAny_of_tree ?_
  show wpAny _ _ (callAny (.ref C) _) _ _ _
  repeat (any_goals (first
    | assumption
    | with_reducible refine wpAny_loadPart_at hC ?_
    | wp_step))
  refine ⟨rfl, ?_⟩
  refine codeAny_call_builtin_at (Code.quiet_builtin _ (by decide +kernel)) entry_typeCall (wpAny_check_type_call_sub hC (do_type F hT hC hi hb hl ?_))
  refine codeAny_mono hq fun r s' z => ?_
  rcases r with e | (v | _ | _ | _) <;> exact z
end
end Mi.XK

namespace Mi
open PySem PySem.Spec PyProof.Rows L2 NdefX

/-- all that is known of an exception's class: its fields l, from which slots of its __init__ -/
structure XOk (P : Program) (K : PySem.W.Frag) (mg : Str → Option Value) (C : Addr) (ps : List Str) (l : List (Str × Nat)) (fd : FuncData) : Prop where
  ex : ∃ (fI cc : Addr) (F : NF) (N : List Str) (rest : List Stmt) (slf : Str) (oc : Value) (od : Option Addr) (osl : Array (Option Value)), XIni P K mg C fI cc F ∧ NScope N ps ["__class__"] F.scope ∧ Sup F fI rest slf ∧ N[0]? = some slf ∧ Sets F fI N rest l ∧
    K.lookup fI = some ⟨oc, od, .func fd, osl⟩
  no : ∀ p ∈ l, PySem.W.findIn K (.ref C) p.1 = some none
  ne : l ≠ []
  sz : l.length ≤ 900
  T : OexC K C
theorem exg_ok {P : Program} {w : World} {H : Hp} {h : Heap} {a D d : Addr} {o : Obj} {vs : Array Value} (e : h.get? a = some o) (hc : o.cls = .ref D) (hd : o.dict = some d) (hv : o.data = .fields vs) : ObjOk P w H h a (exg a D d) :=
  ⟨⟨o, vs, e, hc, hd, hv⟩, ⟨o, e⟩, fun h1 h2 z k => let ⟨o, vs, e, c⟩ := z; ⟨o, vs, k _ e, c⟩⟩
theorem exg_at {P : Program} {w : World} {H : Hp} {h : Heap} {a D d : Addr} (hok : HOk P w H h) (e : H a = some (exg a D d)) : ∃ (o : Obj) (vs : Array Value), h.get? a = some o ∧ o.cls = .ref D ∧ o.dict = some d ∧ o.data = .fields vs := (hok a _ e).1
section
variable {X : Cx} {E : XK} {k : Nat} {C : Addr} {ps : List Str} {l : List (Str × Nat)} {fd : FuncData}
/-- an exception that was made is a value -/
theorem exo_done {pins : List (Addr × Obj)} {σ : L2.St} {H : Hp} {s : Shared} {a d : Addr} {fs : List (Str × V)} (hda : d ≠ a) (I : Inv X pins σ (upd (upd H d (exd d fs)) a (exo a C (some d))) s) : Inv X pins σ (upd (upd H d (.xd fs)) a (exg a C d)) s := by
  obtain ⟨t1, ho⟩ := exo_at I.hok (upd_same (H := upd H d (exd d fs)))
  obtain ⟨mA, hn, rel⟩ := exd_at (fs := fs) (dx := d) I.hok (by rw [upd_ne hda, upd_same])
  obtain ⟨o, es, ep, hd, _⟩ := id hn
  have I1 := I.write (h' := s.heap) (t' := s.toks) (x := d) (e := d) (o := .xd fs) (by rw [upd_ne hda, upd_same]; exact True.intro) (.inl rfl) (fun b u _ z => z) ⟨_, hd⟩ ⟨mA, hn, rel⟩
  rw [upd_swap hda] at I1
  have I2 := I1.write (h' := s.heap) (t' := s.toks) (x := a) (e := a) (o := exg a C d) (by rw [upd_same]; exact True.intro) (.inl rfl) (fun b u _ z => z) ⟨_, ho⟩ (exg_ok ho rfl rfl rfl)
  rw [upd_upd] at I2
  exact I2
theorem exo_laid {pins : List (Addr × Obj)} {σ : L2.St} {H : Hp} {hp : Heap} {g : Array GenState} {d : Drawn} {t : Nat} {os : OsState} (us : List Value) (I : Inv X pins σ H ⟨hp, g, d, t, os⟩) :
    Inv X pins σ (upd H (hp.objs.size + 1) (exo (hp.objs.size + 1) C none)) ⟨XK.made hp C us, g, d, t, os⟩ := by
  have e : (XK.made hp C us).get? (hp.objs.size + 1) = some (PySem.HandSPX.excO C hp.objs.size) := by heap_get
  exact I.laid (t' := t) (h' := XK.made hp C us) (fun b o z => Heap.get?_push_of_some _ (Heap.get?_push_of_some _ z)) (Nat.le_succ _) (exo_ok e)
/-- C(..): what its __init__ leaves -/
theorem xmk_code (W : XOk X.prog X.K X.mg C ps l fd) (hr : Room (k + 2) X.A) {pins : List (Addr × Obj)} {σ : L2.St} {H : Hp} {hp : Heap} {g : Array GenState} {d : Drawn} {t : Nat} {os : OsState} {us us' : List Value} {kw : List (Str × Value)} {vs ys : List V} {R : Result → Shared → Prop}
    (I : Inv X pins σ H ⟨hp, g, d, t, os⟩) (hb : ∀ s : Shared, X.K.In s.heap → BindsTo s fd ⟨.ref (hp.objs.size + 1) :: us, kw⟩ (ps.zip (.ref (hp.objs.size + 1) :: us'))) (r : Vals vs us') (hl : vs.length + 1 = ps.length) (hu : us.length ≤ sizeLine) (hly : l.length = ys.length)
    (hy : ∀ (k : Nat) (p : Str × Nat) (y : V), l[k]? = some p → ys[k]? = some y → (V.ref (hp.objs.size + 1) :: vs)[p.2]? = some y)
    (hq : ∀ (dx : Addr) (s' : Shared), CE X.stack X.prog X.w (upd H (hp.objs.size + 1) (exo (hp.objs.size + 1) C none)) ⟨XK.made hp C us, g, d, t, os⟩ (fun v H2 => v = .non ∧ H dx = none ∧ dx ≠ hp.objs.size + 1 ∧ H2 = upd (upd (upd H (hp.objs.size + 1) (exo (hp.objs.size + 1) C none)) dx (exd dx (fldsV l ys []))) (hp.objs.size + 1) (exo (hp.objs.size + 1) C (some dx))) .none s' → R (.ok (.ret (.ref (hp.objs.size + 1)))) s')
    (hx : ∀ er s', L2.CX X.prog X.w X.stack (upd H (hp.objs.size + 1) (exo (hp.objs.size + 1) C none)) ⟨XK.made hp C us, g, d, t, os⟩ E er s' → R (.error er) s') :
    codeAny (model X.prog X.w) X.A (.call (.ref C) ⟨us, kw⟩) R ⟨hp, g, d, t, os⟩ := by
  obtain ⟨fI, cc, F, N, rest, slf, oc, od, osl, W1, S, U, hN0, Z, lf⟩ := W.ex
  obtain ⟨nm, q, N', bs, bm, sn, sub, ab, col, dd, k0, k1, k2, k3, k5, hC, hbm⟩ := W1.T.cls
  have I2 := exo_laid (C := C) us I
  refine XK.do_call PySem.F.excBase_ValueError (fun Y => PySem.HandSPX.refsVE_contains Y bm hbm) (I.kIn _ _ hC) (PySem.W.looks_findIn I.kIn W1.iC) (fun self => PySem.W.bind_fn I.kIn self W1.tI) hu
    (codeAny_mono (init_run W1 S U hN0 Z W.no W.ne W.sz (us := .ref (hp.objs.size + 1) :: us') (vs := V.ref (hp.objs.size + 1) :: vs) (ys := ys) (a := hp.objs.size + 1) (Q := fun v H2 => v = .non ∧ ∃ dx, H dx = none ∧ dx ≠ hp.objs.size + 1 ∧ H2 = upd (upd (upd H (hp.objs.size + 1) (exo (hp.objs.size + 1) C none)) dx (exd dx (fldsV l ys []))) (hp.objs.size + 1) (exo (hp.objs.size + 1) C (some dx))) (E := E) lf (hr.make C us kw) (I2.env0.make C us kw) (hb _ I2.kIn) (.cons rfl r) (by rw [List.length_cons]; exact hl) rfl upd_same hly hy
      (fun dx hd hda => ⟨rfl, dx, by rw [upd_ne hda] at hd; exact hd, hda, rfl⟩)) fun res s' z => ?_)
  cases res with
  | error er => exact hx er s' z
  | ok fl =>
    cases fl with
    | ret u =>
      obtain ⟨v, H2, os2, bare2, un2, hok2, rv, ev, dx, hd, hda, eH⟩ := z
      subst ev
      cases (show u = Value.none from rv)
      exact ⟨rfl, hq dx s' ⟨.non, H2, os2, bare2, un2, hok2, rfl, rfl, hd, hda, eH⟩⟩
    | next => exact z.elim
    | brk => exact z.elim
    | cont => exact z.elim
/-- an exception as a value -/
theorem xmk_run (W : XOk X.prog X.K X.mg C ps l fd) (hr : Room (k + 2) X.A) (hx : Passes (L2.CX X.prog X.w) X E) {pins : List (Addr × Obj)} {σ : L2.St} {H : Hp} {s : Shared} {us us' : List Value} {kw : List (Str × Value)} {vs ys : List V} {Q : VK}
    (I : Inv X pins σ H s) (hb : ∀ (a : Addr) (s : Shared), X.K.In s.heap → BindsTo s fd ⟨.ref a :: us, kw⟩ (ps.zip (.ref a :: us'))) (r : Vals vs us') (hl : vs.length + 1 = ps.length) (hu : us.length ≤ sizeLine) (hly : l.length = ys.length)
    (hy : ∀ (a : Addr) (k : Nat) (p : Str × Nat) (y : V), l[k]? = some p → ys[k]? = some y → (V.ref a :: vs)[p.2]? = some y)
    (hq : ∀ a d, H a = none → H d = none → d ≠ a → Q (.ref a) (upd (upd H d (.xd (fldsV l ys []))) a (exg a C d))) :
    wpAny (model X.prog X.w) X.A (call (.ref C) us kw) (EP X pins σ Q) X.xe s := by
  obtain ⟨hp, g, d, t, os⟩ := s
  have I2 := exo_laid (C := C) us I
  have hn : H (hp.objs.size + 1) = none := I.hok.fresh (Nat.le_succ _)
  refine wpAny_call (xmk_code W hr (E := E) I (hb _) r hl hu hly (hy _) (fun dx s' z => ?_) fun er s' z => hx pins σ _ _ er s' I2 z)
  obtain ⟨v, H', I3, rv, ev, hd, hda, eH⟩ := I2.after z
  have e2 : H' = upd (upd H dx (exd dx (fldsV l ys []))) (hp.objs.size + 1) (exo (hp.objs.size + 1) C (some dx)) := by
    rw [eH]
    funext b
    by_cases h1 : b = hp.objs.size + 1
    · subst h1; rw [upd_same, upd_same]
    · rw [upd_ne h1, upd_ne h1]
      by_cases h2 : b = dx
      · subst h2; rw [upd_same, upd_same]
      · rw [upd_ne h2, upd_ne h2, upd_ne h1]
  rw [e2] at I3
  exact ⟨.ref (hp.objs.size + 1), _, exo_done hda I3, rfl, hq _ dx hn hd hda⟩
end
end Mi

namespace Mi
open PySem PySem.Spec PyProof.Rows L2 NdefX

/-- the fields of a new exception: names and values, the last one first -/
def fldsW (ws : List Wv) : List (Str × Nat) → List Str → List Wv → Option (List Str × List Wv)
  | [], ns, xs => some (ns, xs)
  | (f, i + 1) :: l, ns, xs => match ws[i]? with
    | some w => fldsW ws l (f :: ns) (w :: xs)
    | none => none
  | (_, 0) :: _, _, _ => none
def xmkW (C : Str) (l : List (Str × Nat)) (ws : List Wv) (M : Mem) : R Wv := match fldsW ws l [] [] with
  | some (ns, xs) => .ok (.exc C ns xs) M
  | none => .no
section
variable {K : PySem.W.Frag} {ρ : Rn} {H : Hp}
theorem flds_rel {ws : List Wv} {vs : List V} (r : RVs K ρ H ws vs) : ∀ {l : List (Str × Nat)} {ns : List Str} {xs : List Wv} {ns' : List Str} {xs' : List Wv}, fldsW ws l ns xs = some (ns', xs') →
    ∃ ys : List V, l.length = ys.length ∧ (∀ (a : Addr) (k : Nat) (p : Str × Nat) (y : V), l[k]? = some p → ys[k]? = some y → (V.ref a :: vs)[p.2]? = some y) ∧ ∀ fs : List (Str × V), fs.map (·.1) = ns → RVs K ρ H xs (fs.map (·.2)) → (fldsV l ys fs).map (·.1) = ns' ∧ RVs K ρ H xs' ((fldsV l ys fs).map (·.2))
  | [], ns, xs, _, _, e => by
    cases e
    exact ⟨[], rfl, fun a k p y z => by simp at z, fun fs h1 h2 => ⟨h1, h2⟩⟩
  | (f, 0) :: l, _, _, _, _, e => by cases e
  | (f, i + 1) :: l, ns, xs, ns', xs', e => by
    have e : (match ws[i]? with | some w => fldsW ws l (f :: ns) (w :: xs) | none => none) = some (ns', xs') := e
    cases q : ws[i]? with
    | none => rw [q] at e; cases e
    | some w =>
      rw [q] at e
      obtain ⟨v, hv, rv⟩ := r.get q
      obtain ⟨ys, h1, h2, h3⟩ := flds_rel r e
      refine ⟨v :: ys, by simp [h1], fun a k p y e1 e2 => ?_, fun fs e1 e2 => h3 ((f, v) :: fs) (by simp [e1]) ⟨v, _, rfl, rv, e2⟩⟩
      cases k with
      | zero =>
        cases e1
        cases e2
        exact hv
      | succ k => exact h2 a k p y e1 e2
theorem gr_two {a d : Addr} {o u : HO} (ha : H a = none) (hd : H d = none) (hda : d ≠ a) : Gr ρ H ρ (upd (upd H d o) a u) :=
  (Gr.fresh hd).trans (Gr.fresh (by rw [upd_ne (Ne.symm hda)]; exact ha))
theorem rl_two {M : Mem} (rl : Rl K ρ M H) {a d : Addr} {o u : HO} (ha : H a = none) (hd : H d = none) (hda : d ≠ a) : Rl K ρ M (upd (upd H d o) a u) :=
  (rl.upd hd).upd (by rw [upd_ne (Ne.symm hda)]; exact ha)
theorem pick_self {α : Type} (x : α) (perm : List Nat) (l : List α) : pick' (0 :: perm.map (· + 1)) (x :: l) = x :: pick' perm l := by
  unfold pick'
  rw [List.filterMap_cons]
  show x :: _ = _
  rw [List.filterMap_map]
  congr 1
end
section
variable {X : Cx} {E : XK} {k : Nat} {C : Addr} {nm : Str} {ps ks : List Str} {perm : List Nat} {l : List (Str × Nat)} {fd : FuncData} {x : Str} {p pos : Pos} {e : Expr} {es : List Expr} {ma mk : Ma} {kws : List Keyword}
theorem xmkG (W : XOk X.prog X.K X.mg C ps l fd) (hr : Room (k + 2) X.A) (hx : Passes (L2.CX X.prog X.w) X E) (hc : clsAt X.K nm = some C) {pins : List (Addr × Obj)} {σ : L2.St} {H : Hp} {s : Shared} {us us' : List Value} {kw : List (Str × Value)} {vs : List V} {ws : List Wv} {ρ : Rn} {M : Mem} {Q : VK}
    (I : Inv X pins σ H s) (hb : ∀ (a : Addr) (s : Shared), X.K.In s.heap → BindsTo s fd ⟨.ref a :: us, kw⟩ (ps.zip (.ref a :: us'))) (r : Vals vs us') (hl : vs.length + 1 = ps.length) (hu : us.length ≤ sizeLine) (rl : Rl X.K ρ M H) (rv : RVs X.K ρ H ws vs) (f : Fin X.K ρ H (PV X.K Q) E (xmkW nm l ws M)) :
    wpAny (model X.prog X.w) X.A (call (.ref C) us kw) (EP X pins σ Q) X.xe s := by
  unfold xmkW at f
  cases q : fldsW ws l [] [] with
  | none => rw [q] at f; exact f.elim
  | some z =>
    obtain ⟨ns, xs⟩ := z
    rw [q] at f
    obtain ⟨ys, h1, h2, h3⟩ := flds_rel rv q
    obtain ⟨h4, h5⟩ := h3 [] rfl rfl
    refine xmk_run W hr hx I hb r hl hu h1 h2 fun a d ha hd hda => ?_
    have g : Gr ρ H ρ (upd (upd H d (.xd (fldsV l ys []))) a (exg a C d)) := gr_two ha hd hda
    have rl2 : Rl X.K ρ M (upd (upd H d (.xd (fldsV l ys []))) a (exg a C d)) := rl_two rl ha hd hda
    refine f ρ _ g rl2 (.ref a) ⟨C, a, d, _, hc, rfl, ⟨upd_same, rl.out ha⟩, ⟨by rw [upd_ne hda, upd_same], rl.out hd⟩, h4, RVs.mono g _ h5⟩
/-- C(e, ..), an exception -/
theorem e_mkx (W : XOk X.prog X.K X.mg C ps l fd) (hr : Room (k + 2) X.A) (hx : Passes (L2.CX X.prog X.w) X E) (hm : X.mg x = some (.ref C)) (hc : clsAt X.K nm = some C) (hb : Binds X.K fd ps []) (ha : PA X (e :: es) (ta X.K E ma))
    (hg : Gl X x := by rfl) (hdb : (x == ("__debug__" : Str)) = false := by decide) (he : starEach (e :: es) X.env = (false, eval e X.env) :: starEach es X.env := by rfl) (hpl : (backTo pos (starEach es X.env)).any (·.1) = false := by rfl) {n : Nat} (hn : ps.length = n + 1 := by rfl) (hz : n ≤ 1000 := by decide) :
    PE X (.Call (.Name x p) (e :: es) [] pos) (te X.K E (mApp n (xmkW nm l) ma)) := by
  refine ⟨fun pins s σ H Q I ⟨ρ, M, env, rl, re, h⟩ => wpAny_Call_Name_kw (ld_glob I hg hm ?_ hdb)⟩
  refine PySem.W.callWith_K (h₀ := X.base) I.ok.mod.kin W.T.kC (thn (ha.run pos pins s σ H (fun vs H1 => ∃ ρ1 M1 ws, Rl X.K ρ1 M1 H1 ∧ RVs X.K ρ1 H1 ws vs ∧ ws.length = n ∧ Fin X.K ρ1 H1 (PV X.K Q) E (xmkW nm l ws M1)) I
    (ta_then rl re h fun ws M1 ρ1 H1 vs g1 rl1 re1 rv1 f1 => by obtain ⟨h0, f1⟩ := pick f1; exact ⟨ρ1, M1, ws, rl1, rv1, h0, f1⟩)) fun us s1 ⟨vs, H1, I1, r, ρ1, M1, ws, rl1, rv1, hl, f1⟩ => ⟨I1.kIn, ?_⟩) he hpl
  have h1 : vs.length = n := by rw [← rv1.length]; exact hl
  have h2 : us.length = n := by rw [← r.length]; exact h1
  refine xmkG W hr hx hc I1 (fun a s z => ?_) r (by rw [h1, hn]) (by show us.length ≤ _; rw [h2, sizeLine_eq]; omega) rl1 rv1 f1
  have hbb := hb s (.ref a :: us) z (by rw [List.append_nil, List.length_cons, h2, hn])
  rw [List.append_nil] at hbb
  exact hbb
/-- C(k = v, ..) -/
theorem e_mkxK (W : XOk X.prog X.K X.mg C ps l fd) (hr : Room (k + 2) X.A) (hx : Passes (L2.CX X.prog X.w) X E) (hm : X.mg x = some (.ref C)) (hc : clsAt X.K nm = some C) (hb : BK fd ps 1 ks (0 :: perm.map (· + 1))) (hkw : PK X kws (ta X.K E mk))
    (hall : (backToKw pos (keywordEach kws X.env)).all (·.1.isSome) = true := by rfl) (hks : (backToKw pos (keywordEach kws X.env)).filterMap (·.1) = ks := by rfl)
    (hg : Gl X x := by rfl) (hdb : (x == ("__debug__" : Str)) = false := by decide) (hpl : ((backTo pos (starEach [] X.env)).any (·.1) || (backToKw pos (keywordEach kws X.env)).any (·.1.isNone)) = false := by rfl) {j m : Nat} (hj : ps.length = j + 1 := by rfl) (hl : ks.length = m := by rfl) :
    PE X (.Call (.Name x p) [] kws pos) (te X.K E (mAppK j 0 m perm (xmkW nm l) maN mk)) := by
  subst hl
  refine ⟨fun pins s σ H Q I ⟨ρ, M, env, rl, re, h⟩ => wpAny_Call_Name_kw (ld_glob I hg hm ?_ hdb)⟩
  have h : Fin X.K ρ H (PV X.K Q) E ((mk env M).bind fun ws M2 => if ([] : List Wv).length = 0 ∧ ws.length = ks.length ∧ (pick' perm ws).length = j then xmkW nm l (pick' perm ws) M2 else .no) := h
  refine PySem.W.callWith_KW0 (h₀ := X.base) I.ok.mod.kin W.T.kC hall (thn (hkw.run pos pins s σ H (fun vs H1 => ∃ ρ1 M1 ws, Rl X.K ρ1 M1 H1 ∧ RVs X.K ρ1 H1 ws vs ∧ ws.length = ks.length ∧ (pick' perm ws).length = j ∧ Fin X.K ρ1 H1 (PV X.K Q) E (xmkW nm l (pick' perm ws) M1)) I
    (ta_then rl re h fun ws M1 ρ1 H1 vs g1 rl1 re1 rv1 f1 => by obtain ⟨⟨_, h0, h2⟩, f1⟩ := pick f1; exact ⟨ρ1, M1, ws, rl1, rv1, h0, h2, f1⟩)) fun us s1 ⟨vs, H1, I1, r, ρ1, M1, ws, rl1, rv1, hl, hl2, f1⟩ => ⟨I1.kIn, ?_⟩) hpl
  have h1 : us.length = ks.length := by rw [← r.length, ← rv1.length]; exact hl
  rw [hks]
  have h3 : (pick' perm vs).length = j := by rw [← (pick_rvs perm rv1).length]; exact hl2
  refine xmkG W hr hx hc I1 (us := []) (us' := pick' perm us) (fun a s z => ?_) (pick_vals perm r) (by rw [h3, hj]) (Nat.zero_le _) rl1 (pick_rvs perm rv1) f1
  have hbb := hb.to s [.ref a] us rfl h1
  rw [show [Value.ref a] ++ us = .ref a :: us from rfl, pick_self] at hbb
  exact hbb
end
end Mi

namespace Mi
open PySem PySem.Spec PyProof.Rows L2 NdefX

/-! ### attributes -/
def getF (ns : List Str) (xs : List Wv) (f : Str) (M : Mem) : R Wv := match (ns.zip xs).lookup f with
  | some w => .ok w M
  | none => .no
def fldW (es is : List Str) (f : Str) : Wv → Mem → R Wv
  | .exc C ns xs, M => if es.contains C = true then getF ns xs f M else .no
  | .ins C ns xs, M => if is.contains C = true then getF ns xs f M else .no
  | .ref n, M => match M[n]? with
    | some (.ins C ns xs) => if is.contains C = true then getF ns xs f M else .no
    | _ => .no
  | _, _ => .no
def FldE (K : PySem.W.Frag) (es : List Str) (f : Str) : Prop := ∀ C ∈ es, ∀ D, clsAt K C = some D → XfC K D ∧ PySem.W.findIn K (.ref D) f = some none
def FldI (K : PySem.W.Frag) (is : List Str) (f : Str) : Prop := ∀ C ∈ is, ∀ D, clsAt K C = some D → Cls K D ∧ NoAttr K D f
section
variable {K : PySem.W.Frag} {ρ : Rn} {H : Hp} {M : Mem} {E : XK}
theorem lookup_rel : ∀ {fs : List (Str × V)} {ns : List Str} {xs : List Wv} {f : Str} {w : Wv}, fs.map (·.1) = ns → RVs K ρ H xs (fs.map (·.2)) → (ns.zip xs).lookup f = some w → ∃ v, fs.lookup f = some v ∧ RV K ρ H w v
  | [], _, xs, f, w, e, r, h => by
    subst e
    cases h
  | (g, v) :: fs, _, [], f, w, e, r, h => by
    subst e
    cases h
  | (g, v) :: fs, _, x :: xs, f, w, e, r, h => by
    subst e
    obtain ⟨v', vr, e2, r1, r2⟩ := r
    rw [List.map_cons] at e2
    cases e2
    rw [List.map_cons, List.zip_cons_cons, List.lookup_cons] at h
    rw [List.lookup_cons]
    cases q : f == g with
    | true =>
      have h : some x = some w := by simpa [q] using h
      cases h
      exact ⟨v, rfl, r1⟩
    | false => exact lookup_rel rfl r2 (by simpa [q] using h)
theorem getF_in {P : Wv → Mem → Rn → Hp → Prop} {fs : List (Str × V)} {ns : List Str} {xs : List Wv} {f : Str} (e : fs.map (·.1) = ns) (r : RVs K ρ H xs (fs.map (·.2))) (h : Fin K ρ H P E (getF ns xs f M)) : ∃ w v, fs.lookup f = some v ∧ RV K ρ H w v ∧ Fin K ρ H P E (.ok w M) := by
  unfold getF at h
  cases q : (ns.zip xs).lookup f with
  | none => rw [q] at h; exact h.elim
  | some w =>
    rw [q] at h
    obtain ⟨v, h1, h2⟩ := lookup_rel e r q
    exact ⟨w, v, h1, h2, h⟩
end
section
variable {X : Cx} {E : XK} {e : Expr} {me : Me} {f : Str} {es is : List Str} {pos : Pos}
theorem e_fld (he : PE X e (te X.K E me)) (hE : FldE X.K es f) (hI : FldI X.K is f) (hb : attributeBase e f X.env (eval e X.env) = eval e X.env := by rfl) : PE X (.Attribute e f pos) (te X.K E (mUn (fldW es is f) me)) := by
  refine ⟨fun pins s σ H Q I ⟨ρ, M, env, rl, re, h⟩ => ?_⟩
  refine attr_of hb (thn (he.run pins s σ H (fun v H1 => ∃ ρ1 M1 w, Rl X.K ρ1 M1 H1 ∧ RV X.K ρ1 H1 w v ∧ Fin X.K ρ1 H1 (PV X.K Q) E (fldW es is f w M1)) I (te_then rl re h fun w M1 ρ1 H1 v g1 rl1 re1 rv1 f1 => ⟨ρ1, M1, w, rl1, rv1, f1⟩)) fun u s1 ⟨v, H1, I1, ru, ρ1, M1, w, rl1, rv1, f1⟩ => ?_)
  have own : ∀ {C : Str} {D a dx : Addr} {fs : List (Str × V)} {ns : List Str} {xs : List Wv}, v = .ref a → clsAt X.K C = some D → H1 a = some (.ins D dx fs) → fs.map (·.1) = ns → RVs X.K ρ1 H1 xs (fs.map (·.2)) → Fin X.K ρ1 H1 (PV X.K Q) E (if is.contains C = true then getF ns xs f M1 else .no) →
      wpAny (model X.prog X.w) X.A (getAttr u f true) (EP X pins σ Q) X.xe s1 := by
    intro C D a dx fs ns xs ev c ea en r f2
    subst ev
    obtain rfl : u = Value.ref a := ru
    obtain ⟨hc, f2⟩ := pick f2
    obtain ⟨k1, k2⟩ := hI C (by simpa using hc) D c
    obtain ⟨w', v', l, rw', f3⟩ := getF_in en r f2
    exact getattr_ok I1 ea k1 k2 l fun u' s2 I2 ru' => ⟨v', H1, I2, ru', f3.here rl1 v' rw'⟩
  cases w with
  | ins C ns xs =>
    obtain ⟨D, a, dx, fs, c, ev, ⟨ea, _⟩, en, r⟩ := rv1
    exact own ev c ea en r f1
  | ref n =>
    obtain ⟨a, ev, ha⟩ := rv1
    have f1 : Fin X.K ρ1 H1 (PV X.K Q) E (match M1[n]? with | some (Ob.ins C ns xs) => if is.contains C = true then getF ns xs f M1 else .no | _ => .no) := f1
    cases q : M1[n]? with
    | none => rw [q] at f1; exact f1.elim
    | some o =>
      rw [q] at f1
      obtain ⟨b, h1, h2⟩ := rl1.ob n o q
      have eb : b = a := Option.some.inj (h1.symm.trans ha)
      subst eb
      cases o with
      | lst xs => exact f1.elim
      | ins C ns xs =>
        obtain ⟨D, dx, fs, c, ea, en, r⟩ := h2
        exact own ev c ea en r f1
  | exc C ns xs =>
    obtain ⟨D, a, d, fs, c, ev, ⟨ea, _⟩, ⟨ed, _⟩, en, r⟩ := rv1
    subst ev
    obtain rfl : u = Value.ref a := ru
    obtain ⟨hc, f2⟩ := pick (show Fin X.K ρ1 H1 (PV X.K Q) E (if es.contains C = true then getF ns xs f M1 else .no) from f1)
    obtain ⟨T, hno⟩ := hE C (by simpa using hc) D c
    obtain ⟨w', v', l, rw', f3⟩ := getF_in en r f2
    obtain ⟨o, vs, ho, hcl, hdi, hda⟩ := exg_at I1.hok ea
    obtain ⟨mA, hns, hr⟩ := (show ObjOk X.prog X.w H1 s1.heap d (.xd fs) from I1.hok d _ ed)
    obtain ⟨od, hod, hl⟩ := lookIn_ns hns
    obtain ⟨u', hu, ru'⟩ := RelO.some_of (v := v') (o := mA f) (by rw [← l]; exact hr f)
    have J : PySem.W.InstAt s1.heap a o D (some od) := ⟨ho, hcl, by unfold PySem.W.notCls; rw [hda] <;> rfl, by rw [hdi]; exact hod⟩
    exact PySem.HandSPX.exc_get I1.kIn J T.ga T.gg T.exC (PySem.W.findObj_own T.hdC hno rfl (by rw [hl, hu])) (handed_of ru') ⟨v', H1, I1.tok _, ru', f3.here rl1 v' rw'⟩
  | _ => exact f1.elim
end
end Mi

namespace Mi
open PySem PySem.Spec PyProof.Rows L2 NdefX

/-! ### isinstance, with classes of one's own -/
inductive Kd where
  | t (t : Ty) | i (C : Str) | e (C : Str)
def kdOf (M : Mem) : Wv → Option Kd
  | .exc C _ _ => some (.e C)
  | .ins C _ _ => some (.i C)
  | .dtt _ _ => some (.t .dct)
  | .ref n => match M[n]? with
    | some (.lst _) => some (.t .lst)
    | some (.ins C _ _) => some (.i C)
    | _ => none
  | w => (tyOf M w).map .t
/-- a class that is asked for: a built-in type of Ty, or none such; which of the own classes are beneath it -/
structure Cl where
  ty : Option Ty
  ow : List (Str × Bool)
  ex : List (Str × Bool)
def Cl.ans (c : Cl) : Kd → Option Bool
  | .t t => some (match c.ty with | some u => t.sub u | none => false)
  | .i C => c.ow.lookup C
  | .e C => c.ex.lookup C
def anyC : List Cl → Kd → Option Bool
  | [], _ => some false
  | c :: cs, k => match c.ans k with
    | some true => some true
    | some false => anyC cs k
    | none => none
def isO (cs : List Cl) (w : Wv) (M : Mem) : R Wv := match kdOf M w with
  | some k => match anyC cs k with
    | some b => .ok (.bl b) M
    | none => .no
  | none => .no
/-- what the class of a value is -/
def KdIs (K : PySem.W.Frag) : Kd → Value → Prop
  | .t t, v => v = .type t.name
  | .i C, v => ∃ D, clsAt K C = some D ∧ v = .ref D
  | .e C, v => ∃ D, clsAt K C = some D ∧ v = .ref D
/-- what the class must say so that isinstance may ask its instances -/
structure InsC (K : PySem.W.Frag) (D : Addr) : Prop where
  c : Cls K D
  ha : PySem.W.findIn K (.ref D) "__class__" = some (some (.builtin "object.__class__"))
  hn : PySem.W.specialIn K (.builtin "object.__class__") "__get__" = some (some (.builtin "getset_descriptor.__get__"))
  ht : PySem.W.takesIn K (.builtin "object.__class__") = some true
  hm : PySem.W.mroIn K D (.type "object") = some true
structure ClOk (K : PySem.W.Frag) (c : Cl) (u : Value) : Prop where
  t : ∀ t : Ty, PySem.W.kitOne K (.type t.name) u = some (match c.ty with | some x => t.sub x | none => false)
  o : ∀ C b, c.ow.lookup C = some b → ∃ D, clsAt K C = some D ∧ PySem.W.kitOne K (.ref D) u = some b ∧ InsC K D
  x : ∀ C b, c.ex.lookup C = some b → ∃ D, clsAt K C = some D ∧ PySem.W.kitOne K (.ref D) u = some b ∧ ExcC K D
inductive ClsOk (K : PySem.W.Frag) : List Cl → List Value → Prop
  | nil : ClsOk K [] []
  | cons {c : Cl} {u : Value} {cs : List Cl} {us : List Value} (h : ClOk K c u) (r : ClsOk K cs us) : ClsOk K (c :: cs) (u :: us)
section
variable {K : PySem.W.Frag} {ρ : Rn} {H : Hp} {M : Mem}
theorem ClsOk.any {k : Kd} {v : Value} (hk : KdIs K k v) : ∀ {cs : List Cl} {us : List Value} {b : Bool}, ClsOk K cs us → anyC cs k = some b → PySem.W.kitAny K v us = some b
  | _, _, _, .nil, h => by cases h; rfl
  | _, _, b, .cons (c := c) (u := u) h r, e => by
    have one : ∀ x, c.ans k = some x → PySem.W.kitOne K v u = some x := fun x q => by
      cases k with
      | t t => cases hk; cases q; exact h.t t
      | i C => obtain ⟨D, h1, rfl⟩ := hk; obtain ⟨D', h2, h3, _⟩ := h.o C x q; rw [h1] at h2; cases h2; exact h3
      | e C => obtain ⟨D, h1, rfl⟩ := hk; obtain ⟨D', h2, h3, _⟩ := h.x C x q; rw [h1] at h2; cases h2; exact h3
    have e : (match c.ans k with | some true => some true | some false => anyC _ k | none => none) = some b := e
    cases q : c.ans k with
    | none => rw [q] at e; cases e
    | some x =>
      rw [q] at e
      refine kitAny_cons (one x q) (fun hx => ?_) fun hx => ?_
      · subst hx; exact r.any hk e
      · subst hx; cases e; rfl
/-- what isinstance asks of the value -/
theorem kit_own {X : Cx} {pins : List (Addr × Obj)} {σ : L2.St} {s : Shared} {cs : List Cl} {us : List Value} (I : Inv X pins σ H s) (rl : Rl X.K ρ M H) {w : Wv} {v : V} {u : Value} {k : Kd} {b : Bool} (hne : cs ≠ []) (hcs : ClsOk X.K cs us) (e : kdOf M w = some k) (hb : anyC cs k = some b) (r : RV X.K ρ H w v) (ru : RelV v u) :
    ∃ (t : Value) (P : Heap → Prop), KdIs X.K k t ∧ PySem.W.KitX X.K u t P ∧ P s.heap ∧ u ≠ .builtin "__main__.__loader__#opaque" := by
  have base : ∀ {t : Ty}, tyOf M w = some t → k = .t t → ∃ (t : Value) (P : Heap → Prop), KdIs X.K k t ∧ PySem.W.KitX X.K u t P ∧ P s.heap ∧ u ≠ .builtin "__main__.__loader__#opaque" := fun {t} h hk => by
    subst hk
    obtain ⟨P, h1, h2, h3⟩ := kit_of I ru (tyx_of rl h r)
    exact ⟨_, P, rfl, h1, h2, h3⟩
  have fst : ∀ {kk : Kd}, anyC cs kk = some b → ∃ c u' x, ClOk X.K c u' ∧ c.ans kk = some x := fun {kk} h => by
    cases hcs with
    | nil => exact absurd rfl hne
    | @cons c u' cs' us' h1 h2 =>
      have h' : (match c.ans kk with | some true => some true | some false => anyC cs' kk | none => none) = some b := h
      cases q : c.ans kk with
      | none => rw [q] at h'; cases h'
      | some x => exact ⟨c, u', x, h1, q⟩
  have ins : ∀ {C : Str} {D a dx : Addr} {fs : List (Str × V)}, k = .i C → clsAt X.K C = some D → v = .ref a → H a = some (.ins D dx fs) → ∃ (t : Value) (P : Heap → Prop), KdIs X.K k t ∧ PySem.W.KitX X.K u t P ∧ P s.heap ∧ u ≠ .builtin "__main__.__loader__#opaque" := fun {C D a dx fs} hk hc hv ha => by
    subst hk hv
    obtain ⟨c, u', x, h1, h2⟩ := fst hb
    obtain ⟨D', z1, _, z2⟩ := h1.o C x h2
    rw [hc] at z1
    cases z1
    obtain ⟨P, h3, h4, h5⟩ := kit_of I ru (.base (.ins ha z2.c z2.ha z2.hn z2.ht z2.hm))
    exact ⟨_, P, ⟨D, hc, rfl⟩, h3, h4, h5⟩
  cases w with
  | ins C ns xs =>
    cases e
    obtain ⟨D, a, dx, fs, c, ev, ⟨ea, _⟩, en, r⟩ := r
    exact ins rfl c ev ea
  | exc C ns xs =>
    cases e
    obtain ⟨D, a, d, fs, hc, ev, ⟨ea, _⟩, ⟨ed, _⟩, en, r⟩ := r
    subst ev
    obtain rfl : u = Value.ref a := ru
    obtain ⟨c, u', x, h1, h2⟩ := fst hb
    obtain ⟨D', z1, _, z2⟩ := h1.x C x h2
    rw [hc] at z1
    cases z1
    obtain ⟨o, vs, ho, hcl, hdi, hda⟩ := exg_at I.hok ea
    obtain ⟨mA, hns, hr⟩ := (show ObjOk X.prog X.w H s.heap d (.xd fs) from I.hok d _ ed)
    obtain ⟨od, hod, hl⟩ := lookIn_ns hns
    have J : PySem.W.InstAt s.heap a o D (some od) := ⟨ho, hcl, by unfold PySem.W.notCls; rw [hda] <;> rfl, by rw [hdi]; exact hod⟩
    have hcd : (PySem.W.clsIn X.K D).isSome = true := by
      obtain ⟨cd, q, _⟩ := PySem.W.any_some z2.hd
      rw [q]
      rfl
    exact ⟨_, _, ⟨D, hc, rfl⟩, PySem.W.kitx_exc hcd z2.hg z2.hk z2.hs z2.ha z2.hn z2.ht z2.hm, J, fun z => nomatch z⟩
  | ref n =>
    have e : (match M[n]? with | some (Ob.lst _) => some (Kd.t .lst) | some (Ob.ins C _ _) => some (.i C) | _ => none) = some k := e
    obtain ⟨a, ev, ha⟩ := id r
    cases q : M[n]? with
    | none => rw [q] at e; cases e
    | some o =>
      rw [q] at e
      obtain ⟨b, h1, h2⟩ := rl.ob n o q
      have eb : b = a := Option.some.inj (h1.symm.trans ha)
      subst eb
      cases o with
      | lst xs =>
        cases e
        exact base (show (match M[n]? with | some (Ob.lst _) => some Ty.lst | _ => none) = some Ty.lst from by rw [q]) rfl
      | ins C ns xs =>
        cases e
        obtain ⟨D, dx, fs, c, ea, en, r⟩ := h2
        exact ins rfl c ev ea
  | dtt ks xs =>
    cases e
    obtain ⟨a, kvs, ev, ⟨ea, _⟩, _⟩ := r
    subst ev
    obtain ⟨P, h3, h4, h5⟩ := kit_of I ru (.base (.dT ea))
    exact ⟨_, P, rfl, h3, h4, h5⟩
  | _ => first | (cases e; done) | (cases e; exact base rfl rfl)
end
/-- a class named as an argument -/
structure IsCl (X : Cx) (e : Expr) (c : Cl) (v : V) (u : Value) : Prop where
  pe : PE X e (tC v)
  st : ∀ es, starEach (e :: es) X.env = (false, eval e X.env) :: starEach es X.env
  cl : ClsV v u
  ok : ClOk X.K c u
theorem isClO {X : Cx} {x : Str} {pos : Pos} {D : Addr} {c : Cl} (hg : Gl X x) (hm : X.mg x = some (.ref D)) (h : ClOk X.K c (.ref D)) (hdb : (x == ("__debug__" : Str)) = false := by decide) : IsCl X (.Name x pos) c (.ref D) (.ref D) :=
  ⟨pe_glob hg hm rfl hdb, fun _ => rfl, .own D, h⟩
theorem isClT {X : Cx} {x : Str} {pos : Pos} {T : String} {c : Cl} (hg : Gl X x) (hm : X.mg x = none) (hv : bootBuiltins x = some (.type T)) (h : ClOk X.K c (.type T)) (hn : x ≠ "__name__" := by decide) (hdb : (x == ("__debug__" : Str)) = false := by decide) : IsCl X (.Name x pos) c (.ty T) (.type T) :=
  ⟨pe_bltn hg hm hv rfl hn hdb, fun _ => rfl, .ty T, h⟩
inductive IsCls (X : Cx) : List Expr → List Cl → List V → List Value → Prop
  | nil : IsCls X [] [] [] []
  | cons {e : Expr} {es : List Expr} {c : Cl} {cs : List Cl} {v : V} {vs : List V} {u : Value} {us : List Value} (h : IsCl X e c v u) (r : IsCls X es cs vs us) : IsCls X (e :: es) (c :: cs) (v :: vs) (u :: us)
theorem IsCls.pa {X : Cx} : ∀ {es : List Expr} {cs : List Cl} {vs : List V} {us : List Value}, IsCls X es cs vs us → PA X es (tCs vs)
  | _, _, _, _, .nil => PA.imp pa_nil fun _ _ _ h => h
  | _, _, _, _, .cons h r => PA.imp (pa_cons h.pe r.pa (h.st _)) fun _ _ _ q => q
theorem IsCls.pr {X : Cx} : ∀ {es : List Expr} {cs : List Cl} {vs : List V} {us : List Value}, IsCls X es cs vs us → Paired ClsV vs us ∧ ClsOk X.K cs us ∧ cs.length = vs.length
  | _, _, _, _, .nil => ⟨.nil, .nil, rfl⟩
  | _, _, _, _, .cons h r => ⟨.cons h.cl r.pr.1, .cons h.ok r.pr.2.1, by simp [r.pr.2.2]⟩
section
variable {X : Cx} {E : XK} {a b : Expr} {ma : Me} {x : Str} {p pos p1 : Pos} {es : List Expr} {k : Nat} {c : Cl} {cs : List Cl} {v : V} {vs : List V} {u : Value} {us : List Value}
theorem fin_isO {K : PySem.W.Frag} {ρ : Rn} {M : Mem} {H : Hp} {Q : VK} {w : Wv} (h : Fin K ρ H (PV K Q) E (isO cs w M)) : ∃ kd b, kdOf M w = some kd ∧ anyC cs kd = some b ∧ Fin K ρ H (PV K Q) E (.ok (.bl b) M) := by
  unfold isO at h
  cases q : kdOf M w with
  | none => rw [q] at h; exact h.elim
  | some kd =>
    rw [q] at h
    have h : Fin K ρ H (PV K Q) E (match anyC cs kd with | some b => R.ok (Wv.bl b) M | none => .no) := h
    cases q2 : anyC cs kd with
    | none => rw [q2] at h; exact h.elim
    | some b => rw [q2] at h; exact ⟨kd, b, rfl, q2, h⟩
/-- isinstance(x, c), as my mirrors wish it -/
def rIsO (K : PySem.W.Frag) (E : XK) (cs : List Cl) (one : Bool) (vs : List V) : List V → Hp → VK → Prop := fun xs H Q => ∃ ρ M w x, Rl K ρ M H ∧ RV K ρ H w x ∧ Fin K ρ H (PV K Q) E (isO cs w M) ∧
  if one = true then ∃ v, vs = [v] ∧ xs = [x, v] else ∃ tp, xs = [x, .ref tp] ∧ H tp = some (.tup vs)
theorem call_isO1 (hp : ClsV v u) (hc : ClOk X.K c u) : CallR X (.builtin "isinstance") (rIsO X.K E [c] true [v]) := by
  intro pins s σ H xs zs Q I r h
  obtain ⟨ρ, M, w, x, rl, rw', f, h⟩ := h
  obtain ⟨v', ev, rfl⟩ := (if_pos rfl).mp h
  cases ev
  obtain ⟨u1, u2, rfl, r1, r2⟩ := vals2 r
  have e2 := hp.eq r2
  subst e2
  obtain ⟨kd, b, q1, q2, f⟩ := fin_isO f
  obtain ⟨t, P, h1, Z, pp, hx⟩ := kit_own I rl (by simp) (.cons hc .nil) q1 q2 rw' r1
  have q3 : PySem.W.kitOne X.K t u2 = some b := by
    have z := ClsOk.any h1 (.cons hc .nil) q2
    have z : (match PySem.W.kitOne X.K t u2 with | some true => some true | some false => PySem.W.kitAny X.K t [] | none => none) = some b := z
    cases q : PySem.W.kitOne X.K t u2 with
    | none => rw [q] at z; cases z
    | some y => rw [q] at z; cases y <;> (cases z; rfl)
  exact PySem.W.kia_one Z I.kIn pp q3 hx fun tk => ⟨.bl b, H, I.tok tk, rfl, f.here rl _ rfl⟩
theorem call_isOT (hp : Paired ClsV vs us) (hc : ClsOk X.K cs us) (hne : cs ≠ []) : CallR X (.builtin "isinstance") (rIsO X.K E cs false vs) := by
  intro pins s σ H xs zs Q I r h
  obtain ⟨ρ, M, w, x, rl, rw', f, h⟩ := h
  obtain ⟨tp, rfl, hT⟩ := (if_neg (by simp)).mp h
  obtain ⟨u1, u2, rfl, r1, r2⟩ := vals2 r
  cases (show u2 = Value.ref tp from r2)
  obtain ⟨kd, b, q1, q2, f⟩ := fin_isO f
  obtain ⟨t, P, h1, Z, pp, hx⟩ := kit_own I rl hne hc q1 q2 rw' r1
  obtain ⟨_, its, rv, o, h3, h4, n, h5⟩ := (show ObjOk X.prog X.w H s.heap tp (.tup vs) from I.hok tp _ hT)
  have e3 := ClsV.all hp rv
  subst e3
  obtain ⟨oc, od, dt, sl⟩ := o
  simp only at h4 h5
  subst h4 h5
  exact PySem.W.kia_tup Z I.kIn pp h3 (ClsOk.any h1 hc q2) hx fun tk => ⟨.bl b, H, I.tok tk, rfl, f.here rl _ rfl⟩
theorem e_iso (hm : X.mg "isinstance" = none) (ha : PE X a (te X.K E ma)) (hb : IsCl X b c v u) (hg : Gl X "isinstance" := by rfl) (hs : starEach (a :: [b]) X.env = (false, eval a X.env) :: starEach [b] X.env := by rfl) (hpl : (backTo pos (starEach [b] X.env)).any (·.1) = false := by rfl) :
    PE X (.Call (.Name "isinstance" p) [a, b] [] pos) (te X.K E (mUn (isO [c]) ma)) :=
  PE.imp (pe_callB (call_isO1 (E := E) hb.cl hb.ok) hg hm PyProof.Rows.boot_isinstance (pa_cons ha (pa_cons hb.pe pa_nil (hb.st _)) hs) (by decide) (by decide) hs hpl) fun σ H Q ⟨ρ, M, env, rl, re, f⟩ =>
    te_then rl re f fun w M1 ρ1 H1 y g1 rl1 re1 rv1 f1 => ⟨ρ1, M1, w, y, rl1, rv1, f1, (if_pos rfl).mpr ⟨v, rfl, rfl⟩⟩
theorem e_isot (hm : X.mg "isinstance" = none) (ha : PE X a (te X.K E ma)) (hb : IsCls X es cs vs us) (hne : cs ≠ [] := by simp) (hlen : cs.length ≤ lim := by decide) (hg : Gl X "isinstance" := by rfl) (hs : starEach (a :: [.Tuple es k p1]) X.env = (false, eval a X.env) :: starEach [.Tuple es k p1] X.env := by rfl)
    (hpl : (backTo pos (starEach [.Tuple es k p1] X.env)).any (·.1) = false := by rfl) : PE X (.Call (.Name "isinstance" p) [a, .Tuple es k p1] [] pos) (te X.K E (mUn (isO cs) ma)) :=
  PE.imp (pe_callB (call_isOT (E := E) hb.pr.1 hb.pr.2.1 hne) hg hm PyProof.Rows.boot_isinstance (pa_cons ha (pa_cons (pe_tup hb.pa) pa_nil) hs) (by decide) (by decide) hs hpl) fun σ H Q ⟨ρ, M, env, rl, re, f⟩ => by
    refine te_then rl re f fun w M1 ρ1 H1 y g1 rl1 re1 rv1 f1 => ?_
    refine ⟨by rw [← hb.pr.2.2]; exact lim_le hlen, fun q hq => ?_⟩
    have g2 : Gr ρ1 H1 ρ1 (upd H1 q (.tup vs)) := Gr.fresh hq
    exact ⟨ρ1, M1, w, y, rl1.upd hq, RV.mono g2 w rv1, Fin.from g2 f1, (if_neg (by simp)).mpr ⟨q, rfl, upd_same⟩⟩
end
end Mi

namespace Mi
open PySem PySem.Spec PyProof.Rows L2 NdefX

/-! ### raise C(e, ..) -/
def sRaise (C : Str) (l : List (Str × Nat)) (n : Nat) (a : Ma) : Ms := fun env M => (a env M).bind fun ws M1 => if ws.length = n then (match fldsW ws l [] [] with
  | some (ns, xs) => .exc ⟨C, ns.zip xs⟩ M1
  | none => .no) else .no
section
variable {X : Cx} {E : XK} {k : Nat} {C : Addr} {nm : Str} {ps : List Str} {l : List (Str × Nat)} {fd : FuncData} {x : Str} {p pos pos' : Pos} {e : Expr} {es : List Expr} {ma : Ma}
theorem zip_fst {ns : List Str} {xs : List Wv} (h : ns.length = xs.length) : (ns.zip xs).map (·.1) = ns := List.map_fst_zip (Nat.le_of_eq h)
theorem zip_snd {ns : List Str} {xs : List Wv} (h : ns.length = xs.length) : (ns.zip xs).map (·.2) = xs := List.map_snd_zip (Nat.le_of_eq h.symm)
theorem pmk_x (W : XOk X.prog X.K X.mg C ps l fd) (hr : Room (k + 2) X.A) (hm : X.mg x = some (.ref C)) (hc : clsAt X.K nm = some C) (hb : Binds X.K fd ps []) (ha : PA X (e :: es) (ta X.K E ma)) {n : Nat} (hn : ps.length = n + 1) (hz : n ≤ 1000)
    (hg : Gl X x) (hdb : (x == ("__debug__" : Str)) = false) (he : starEach (e :: es) X.env = (false, eval e X.env) :: starEach es X.env) (hpl : (backTo pos (starEach es X.env)).any (·.1) = false) :
    PMk X (.Call (.Name x p) (e :: es) [] pos) (fun σ H Q => (∀ cls d H', E cls d H' → Q cls d H') ∧ ∃ (PP : Fl → Mem → Rn → Hp → Prop) (ρ : Rn) (M : Mem) (env : Ev), Rl X.K ρ M H ∧ RE X.K ρ H env σ ∧ Fin X.K ρ H PP E (sRaise nm l n ma env M)) := by
  rintro pins s σ H Q I ⟨hEQ, PP, ρ, M, env, rl, re, h⟩
  refine wpAny_Call_Name_kw (ld_glob I hg hm ?_ hdb)
  refine PySem.W.callWith_K (h₀ := X.base) I.ok.mod.kin W.T.kC (thn (ha.run pos pins s σ H (fun vs H1 => ∃ ρ1 M1 ws, Rl X.K ρ1 M1 H1 ∧ RVs X.K ρ1 H1 ws vs ∧ ws.length = n ∧ Fin X.K ρ1 H1 PP E (match fldsW ws l [] [] with | some (ns, xs) => R.exc ⟨nm, ns.zip xs⟩ M1 | none => .no)) I
    (ta_then rl re h fun ws M1 ρ1 H1 vs g1 rl1 re1 rv1 f1 => by obtain ⟨h0, f1⟩ := pick f1; exact ⟨ρ1, M1, ws, rl1, rv1, h0, f1⟩)) fun us s1 ⟨vs, H1, I1, r, ρ1, M1, ws, rl1, rv1, hl, f1⟩ => ⟨I1.kIn, ?_⟩) he hpl
  have h1 : vs.length = n := by rw [← rv1.length]; exact hl
  have h2 : us.length = n := by rw [← r.length]; exact h1
  cases q : fldsW ws l [] [] with
  | none => rw [q] at f1; exact f1.elim
  | some z =>
    obtain ⟨ns, xs⟩ := z
    rw [q] at f1
    obtain ⟨ys, g1, g2, g3⟩ := flds_rel rv1 q
    obtain ⟨g4, g5⟩ := g3 [] rfl rfl
    have hlen : ns.length = xs.length := by rw [g5.length, ← g4, List.length_map, List.length_map]
    show wpAny _ _ (call (.ref C) us) _ _ _
    obtain ⟨hp, g, d, t, os⟩ := s1
    have hn1 : H1 (hp.objs.size + 1) = none := I1.hok.fresh (Nat.le_succ _)
    refine wpAny_call (xmk_code W hr (E := fun _ _ _ => False) I1 (fun s z => ?_) r (by rw [h1, hn]) (by show us.length ≤ _; rw [h2, sizeLine_eq]; omega) g1 (g2 _) (fun dx s' zz => ?_) fun er s' zz => ?_)
    · have hbb := hb s (.ref (hp.objs.size + 1) :: us) z (by rw [List.append_nil, List.length_cons, h2, hn])
      rw [List.append_nil] at hbb
      exact hbb
    · obtain ⟨v, H2, os2, bare2, un2, hok2, rv, ev, hd, hda, eH⟩ := zz
      obtain ⟨hh2, gg2, dd2, tt2, oo2⟩ := s'
      have ea : H2 (hp.objs.size + 1) = some (exo (hp.objs.size + 1) C (some dx)) := by rw [eH, upd_same]
      have ed : H2 dx = some (exd dx (fldsV l ys [])) := by rw [eH, upd_ne hda, upd_same]
      have eF : upd (del H2 (hp.objs.size + 1)) dx (.xd (fldsV l ys [])) = upd H1 dx (.xd (fldsV l ys [])) := by
        funext b
        by_cases y1 : b = dx
        · subst y1; rw [upd_same, upd_same]
        · rw [upd_ne y1, upd_ne y1]
          by_cases y2 : b = hp.objs.size + 1
          · subst y2; rw [del_same, hn1]
          · rw [del_ne y2, eH, upd_ne y2, upd_ne y1, upd_ne y2]
      refine mk_end (hp2 := XK.made hp C us) (raises_own W.T.exC W.T.tyC) I1 (Nat.le_succ _) (fun b o z => Heap.get?_push_of_some _ (Heap.get?_push_of_some _ z)) un2 hok2 os2 bare2 ea ed hd (hEQ _ _ _ ?_)
      rw [eF]
      have gg : Gr ρ1 H1 ρ1 (upd H1 dx (.xd (fldsV l ys []))) := Gr.fresh hd
      exact f1 C ρ1 _ dx (fldsV l ys []) hc gg (rl1.upd hd) upd_same (rl1.out hd) ⟨by show _ = (ns.zip xs).map (·.1); rw [zip_fst hlen]; exact g4, by show RVs _ _ _ ((ns.zip xs).map (·.2)) _; rw [zip_snd hlen]; exact RVs.mono gg _ g5⟩
    · obtain ⟨a, B, H', cls, d', _, _, _, _, _, _, _, z⟩ := zz
      exact z.elim
theorem s_raise (hcalm : X.calm = true) (tk : Takes X (WE1 E)) (W : XOk X.prog X.K X.mg C ps l fd) (hr : Room (k + 2) X.A) (hm : X.mg x = some (.ref C)) (hc : clsAt X.K nm = some C) (hb : Binds X.K fd ps []) (ha : PA X (e :: es) (ta X.K E ma)) {n : Nat} (hn : ps.length = n + 1 := by rfl) (hz : n ≤ 1000 := by decide)
    (hg : Gl X x := by rfl) (hdb : (x == ("__debug__" : Str)) = false := by decide) (he : starEach (e :: es) X.env = (false, eval e X.env) :: starEach es X.env := by rfl) (hpl : (backTo pos (starEach es X.env)).any (·.1) = false := by rfl) :
    PS X (.Raise (some (.Call (.Name x p) (e :: es) [] pos)) none pos') (ts X.K E (sRaise nm l n ma)) :=
  PS.imp (ps_raise hcalm tk (pmk_x W hr hm hc hb ha hn hz hg hdb he hpl)) fun D σ H ⟨ρ, M, env, rl, re, f⟩ => ⟨fun _ _ _ h => h, _, ρ, M, env, rl, re, f⟩
end
end Mi

namespace Mi
open PySem PySem.Spec PyProof.Rows L2 NdefX

/-! ### try: .. except c as n: ..; behind the raise nothing is known of the names but n -/
def Fl.cut (i : Nat) : Fl → Fl
  | .nx env => .nx (env.set i none)
  | .ret w => .ret w
  | .bk env => .bk (env.set i none)
  | .ct env => .ct (env.set i none)
def sTry (body : Ms) (tab : List (Str × Bool)) (i : Nat) (suite : Ms) : Ms := fun env M => match body env M with
  | .ok fl M1 => .ok fl M1
  | .exc x M1 => match tab.lookup x.cls with
    | some true => (noX (suite ((List.replicate env.length none).set i (some (.exc x.cls (x.fs.map (·.1)) (x.fs.map (·.2))))) M1)).bind fun fl M2 => .ok (fl.cut i) M2
    | some false => .exc x M1
    | none => .no
  | .no => .no
def E0 : XK := fun _ _ _ => False
/-- the ends of the suite -/
def cutD (i : Nat) (D : Ends) : Ends := { nx := fun σ H => D.nx (σ.set i none) H, rt := D.rt, bk := fun σ H => D.bk (σ.set i none) H, ct := fun σ H => D.ct (σ.set i none) H }
theorem re_cut {K : PySem.W.Frag} {ρ : Rn} {H : Hp} {env : Ev} {σ : L2.St} (r : RE K ρ H env σ) (i : Nat) : RE K ρ H (env.set i none) (σ.set i none) := by
  refine ⟨by rw [List.length_set, List.length_set]; exact r.1, fun j w e => ?_⟩
  by_cases h : i = j
  · subst h
    have hlt : i < env.length := by have := (List.getElem?_eq_some_iff.mp e).1; simpa using this
    rw [List.getElem?_set_self hlt] at e
    cases e
  · rw [List.getElem?_set_ne h] at e ⊢
    exact r.2 j w e
theorem pf_cut {K : PySem.W.Frag} {ρ : Rn} {H : Hp} {M : Mem} {D : Ends} {i : Nat} {fl : Fl} (h : PF K D (fl.cut i) M ρ H) : PF K (cutD i D) fl M ρ H := by
  cases fl with
  | nx env => exact fun σ re => h _ (re_cut re i)
  | ret w => exact h
  | bk env => exact fun σ re => h _ (re_cut re i)
  | ct env => exact fun σ re => h _ (re_cut re i)
/-- what the body wishes of an exception -/
def tryE (K : PySem.W.Frag) (N : List Str) (c : Value) (i : Nat) (ms : Ms) (E : XK) (D : Ends) : XK := fun cls d H => ∀ σ : L2.St, σ.length = N.length → ∃ b, PySem.W.exmOne K cls c = some b ∧
  (b = true → ∃ Dc dd, cls = .ref Dc ∧ d = some dd ∧ ∀ a, H a = none → ts K E0 ms (cutD i D) (σ.set i (some (.ref a))) (upd H a (exg a Dc dd))) ∧ (b = false → E cls d H)
section
variable {K : PySem.W.Frag} {ρ : Rn} {H : Hp} {M : Mem} {E : XK} {D : Ends} {N : List Str} {c : Value} {i : Nat} {ms mb : Ms} {tab : List (Str × Bool)} {env : Ev}
theorem try_fin (hN : env.length = N.length) (ht : ∀ nm b, tab.lookup nm = some b → ∀ Dc, clsAt K nm = some Dc → PySem.W.exmOne K (.ref Dc) c = some b) (h : Fin K ρ H (PF K D) E (sTry mb tab i ms env M)) : Fin K ρ H (PF K D) (tryE K N c i ms E D) (mb env M) := by
  unfold sTry at h
  cases q : mb env M with
  | ok fl M1 => rw [q] at h; exact h
  | no => rw [q] at h; exact h.elim
  | exc x M1 =>
    rw [q] at h
    have h : Fin K ρ H (PF K D) E (match tab.lookup x.cls with
      | some true => (noX (ms ((List.replicate env.length none).set i (some (.exc x.cls (x.fs.map (·.1)) (x.fs.map (·.2))))) M1)).bind fun fl M2 => .ok (fl.cut i) M2
      | some false => .exc x M1
      | none => .no) := h
    intro Dc ρ' H' d vs hc g rl hd hno rf σ hσ
    cases q2 : tab.lookup x.cls with
    | none => rw [q2] at h; exact h.elim
    | some b =>
      rw [q2] at h
      refine ⟨b, ht _ _ q2 Dc hc, fun e => ?_, fun e => ?_⟩
      · subst e
        refine ⟨Dc, d, rfl, rfl, fun a ha => ?_⟩
        have g2 : Gr ρ' H' ρ' (upd H' a (exg a Dc d)) := Gr.fresh ha
        have hda : d ≠ a := fun z => by rw [z, ha] at hd; cases hd
        have re : RE K ρ' (upd H' a (exg a Dc d)) ((List.replicate env.length none).set i (some (.exc x.cls (x.fs.map (·.1)) (x.fs.map (·.2))))) (σ.set i (some (.ref a))) := by
          refine RE.set ⟨by rw [List.length_replicate, hN, hσ], fun j w e => ?_⟩ ⟨Dc, a, d, vs, hc, rfl, ⟨upd_same, rl.out ha⟩, ⟨by rw [upd_ne hda]; exact hd, hno⟩, rf.1, RVs.mono g2 _ rf.2⟩
          have := List.mem_of_getElem? e
          simp at this
        refine ⟨ρ', M1, _, rl.upd ha, re, ?_⟩
        have f := Fin.from (g.trans g2) h
        have f2 := fin_noX (E' := E0) (ρ' := ρ') (H' := upd H' a (exg a Dc d)) f
        refine f2.imp fun fl M2 ρ2 H2 g3 rl3 f3 => ?_
        exact pf_cut (f3 ρ2 H2 g3 rl3)
      · subst e
        exact h Dc ρ' H' d vs hc g rl hd hno rf
end
section
variable {X : Cx} {pins : List (Addr × Obj)} {σ : L2.St} {H : Hp} {s : Shared}
/-- an object that no one knew is known from here on -/
theorem track (hex : X.ex = []) (I : Inv X pins σ H s) {a D d : Addr} {o : Obj} {vs : Array Value} (na : H a = none) (n0 : X.s_0.heap.get? a = none) (nL : a ≠ X.env.locals) (nC : ∀ y c, X.env.cells.lookup y = some c → c ≠ a) (nP : ∀ p ∈ X.pn ++ pins, p.1 ≠ a) (e : s.heap.get? a = some o) (hc : o.cls = .ref D) (hd : o.dict = some d) (hv : o.data = .fields vs) :
    Inv X pins σ (upd H a (exg a D d)) s := by
  have ne : ∀ {b : Addr} {u : HO}, H b = some u → b ≠ a := fun {b u} h z => by rw [z, na] at h; cases h
  refine ⟨I.ok, I.os, I.bare, ⟨fun b u h n h1 h2 => I.base.keep b u h n h1 h2, fun b u h n h1 h2 => I.base.slot b u h n h1 h2, fun b u h n h2 => ?_, I.base.there, fun b xs h => ?_, fun b u v h => ?_, fun b ps h => ?_⟩, I.loc, I.cell, by rw [upd_ne (Ne.symm nL)]; exact I.free, fun y c h => by rw [upd_ne (nC y c h)]; exact I.freeC y c h,
    fun p hp => by rw [upd_ne (nP p hp)]; exact I.pin p hp, fun b u h => ?_, I.len⟩
  · rw [upd_ne (fun z => by rw [z, n0] at h; cases h)]
    exact I.base.free b u h n h2
  · have h := I.base.tups b xs h
    rw [upd_ne (ne h)]; exact h
  · have h := I.base.frzs b u v h
    rw [upd_ne (ne h)]; exact h
  · obtain ⟨more, h⟩ := I.base.tbls b ps h
    exact ⟨more, by rw [upd_ne (ne h)]; exact h⟩
  · by_cases z : b = a
    · subst z
      rw [upd_same] at h
      cases h
      exact exg_ok e hc hd hv
    · rw [upd_ne z] at h
      exact (I.hok b u h).stay (fun c o' _ h => h) (fun c h => by rw [upd_ne (ne h)]; exact h) (fun c xs h => by rw [upd_ne (ne h)]; exact h)
theorem toSuite (I : Inv X pins σ H s) (a : Addr) : Inv (X.suite a (X.pn ++ pins)) [] σ H s :=
  ⟨I.ok.suite _ _, I.os, I.bare, I.base, I.loc, I.cell, I.free, I.freeC, fun p hp => I.pin p (by rw [List.append_nil] at hp; exact hp), I.hok, I.len⟩
theorem ofSuite {a : Addr} {pn' : List (Addr × Obj)} (ok : X.Ok) (I : Inv (X.suite a (X.pn ++ pins)) pn' σ H s) : Inv X pins σ H s :=
  ⟨ok, I.os, I.bare, I.base, I.loc, I.cell, I.free, I.freeC, fun p hp => I.pin p (List.mem_append_left _ hp), I.hok, I.len⟩
end
section
variable {X : Cx} {E : XK} {x n : Str} {c : Value} {i : Nat} {body suite : List Stmt} {b₀ : Stmt} {np pos pos' : Pos} {mb ms : Ms} {tab : List (Str × Bool)}
theorem s_try (hs : X.stack = X.env :: X.outer) (hf : X.env.frame = some X.env.locals) (hex : X.ex = []) (hN : X.N.Nodup) (hi : X.N[i]? = some n) (hln : X.env.kindOf n = some .local) (hc : Names X x c) (tk : Takes X (WE1 E))
    (ht : ∀ nm b, tab.lookup nm = some b → ∀ Dc, clsAt X.K nm = some Dc → PySem.W.exmOne X.K (.ref Dc) c = some b)
    (hb : ∀ (E' : XK) (pn : List (Addr × Obj)) (xe : Value → Shared → Prop), Takes (X.tr pn xe) (WE1 E') → PassesOwn (model X.prog X.w) X.A X.env xe → PSs (X.tr pn xe) body (ts X.K E' mb))
    (hsu : ∀ (a : Addr) (pn : List (Addr × Obj)), PSs (X.suite a pn) (b₀ :: suite) (ts X.K E0 ms)) :
    PS X (.Try body [.ExceptHandler (some (.Name x np)) (some n) (b₀ :: suite) pos'] [] [] pos) (ts X.K E (sTry mb tab i ms)) := by
  refine ⟨fun pins s σ H D I h => ?_⟩
  obtain ⟨ρ, M, env, rl, re, f⟩ := h
  have ok := I.ok
  have fr0 : X.A.frames = some (X.env :: X.outer) := by rw [ok.frames, hs]
  have f1 := try_fin (N := X.N) (c := c) (by rw [re.1, I.len]) ht f
  refine wpAny_Try_except ?_
  let xe : Value → Shared → Prop := fun e s₁ => wpAny (model X.prog X.w) X.A (noteFrame e X.env) (fun _ s₂ => wpAny (model X.prog X.w) X.A (setFlight e none) (fun _ s₃ => wpAny (model X.prog X.w) X.A (handleBy e X.env [.ExceptHandler (some (.Name x np)) (some n) (b₀ :: suite) pos']) (SP X pins D) X.xe s₃) X.xe s₂) X.xe s₁
  have run := (hb (tryE X.K X.N c i ms E D) (X.pn ++ pins) xe (fun u s' xx => ?_) PassesOwn.looking).run [] s σ H D (I.toTry _) ⟨ρ, M, env, rl, re, f1⟩
  · refine wpAny_mono run (fun fl s1 hsp => ?_) (fun e s1 he => he)
    cases fl with
    | next => obtain ⟨σ', H', J, q⟩ := hsp; exact wpAny_execs_nil ⟨σ', H', J.ofTry ok, q⟩
    | brk => obtain ⟨σ', H', J, q⟩ := hsp; exact ⟨σ', H', J.ofTry ok, q⟩
    | cont => obtain ⟨σ', H', J, q⟩ := hsp; exact ⟨σ', H', J.ofTry ok, q⟩
    | ret u => obtain ⟨v, σ', H', J, r, q⟩ := hsp; exact ⟨v, σ', H', J.ofTry ok, r, q⟩
  · obtain ⟨a, B, sI, pl, σ1, H1, cls, d, rfl, J0, nb, up, sky, na, os, ag, w⟩ := xx
    obtain ⟨b, hb1, hyes, hno⟩ := w σ1 J0.len
    have J : Inv X pins σ1 H1 sI := J0.ofTry ok
    have sky1 : Sky B (X.env :: X.outer) a (Zc cls d) X.env.locals s'.heap := by rw [← hs]; exact sky
    show wpAny (model X.prog X.w) X.A (noteFrame (.ref a) X.env) _ _ _
    refine Sky.land Zc.steady fr0 hf sky1 fun h3 fl3 up3 => ?_
    have J3 : Inv X pins σ1 H1 { s' with heap := h3 } := J.landed nb fl3.1 (up.trans up3) os ag
    obtain ⟨o3, v3, he3, hz3, hd3⟩ := fl3.there
    have outF : ∀ {h : Heap} {o : Obj} {vs : Array Value}, h.FunFrames B (X.env :: X.outer) → h.get? a = some o → o.data = .fields vs → a ∉ frs (X.env :: X.outer) := fun {h o vs} ff e dd hm => by
      obtain ⟨_, o', e', bad⟩ := ff.mem hm
      rw [e] at e'
      cases e'
      exact bad _ dd
    have nfr := outF fl3.2.2.1 he3 hd3
    have noI : sI.heap.get? a = none := by
      cases z : sI.heap.get? a with
      | none => rfl
      | some o =>
        have y := nb a o z (by rw [hs]; exact nfr)
        rw [fl3.2.1] at y
        cases y
    have no0 : X.s_0.heap.get? a = none := by
      cases z : X.s_0.heap.get? a with
      | none => rfl
      | some o =>
        obtain ⟨o', y⟩ := J.base.there a o z (by rw [hex]; simp)
        rw [noI] at y
        cases y
    have noL : a ≠ X.env.locals := fun z => nfr (List.mem_filterMap.mpr ⟨X.env, List.mem_cons_self, by rw [hf, z]⟩)
    have noF : a ∉ X.fs := fun hm => by
      obtain ⟨e, he, q⟩ := List.mem_filterMap.mp hm
      exact nfr (List.mem_filterMap.mpr ⟨e, List.mem_cons_of_mem _ he, q⟩)
    have noC : ∀ y c, X.env.cells.lookup y = some c → c ≠ a := fun y c e z => by
      obtain ⟨v, o, ho, _⟩ := J.cell y c e
      rw [z, noI] at ho
      cases ho
    have noP : ∀ p ∈ X.pn ++ pins, p.1 ≠ a := fun p hp z => by
      have y := (J.pin p hp).1
      rw [z, noI] at y
      cases y
    have S3 := J3.suite he3 hd3 na noL noF
    refine wpAny_handleBy_cons (codeAny_handlers_test ?_) (by intro q; cases q)
    have LT : PySem.W.Looks (model X.prog X.w) h3 (typeOf (.ref a)) cls := fun A Q E s k q => wpAny_typeOf_ref (k _ _ he3) (by rw [hz3.1]; exact q)
    have LM := PySem.W.exm_one (M := model X.prog X.w) (J3.kIn) LT hb1
    have tst : ∀ {Q : Value → Shared → Prop} {E : Value → Shared → Prop}, Q c { s' with heap := h3 } → wpAny (model X.prog X.w) (X.A.mark (some (.ref a))) (eval (.Name x np) X.env) Q E { s' with heap := h3 } := fun {Q E} q => by
      obtain ⟨y1, y2, y3 | ⟨y3, y4, y5⟩⟩ := hc
      · exact ld_glob (X := X.suite a ((a, o3) :: (X.pn ++ pins))) S3 y1 y3 q y2
      · exact ld_blt (X := X.suite a ((a, o3) :: (X.pn ++ pins))) S3 y1 y3 y4 q y5 y2
    refine tst (LM.here ?_)
    cases b with
    | false =>
      show wpAny _ X.A (handleBy (.ref a) X.env []) _ _ _
      refine wpAny_handleBy_nil ?_
      obtain ⟨_, _, _, o, vs, T, _, _, he, hz, hd, h1, _⟩ := id fl3
      have fin : wpAny (model X.prog X.w) X.A (setFlight (.ref a) X.env.frame) (fun _ s4 => wpAny (model X.prog X.w) X.A (throw (.ref a) : Sem Flow) (SP X pins D) X.xe s4) X.xe { s' with heap := h3 } := by
        rw [hf]
        refine PySem.HandSPX.setFlight_upZ fl3 fun h4 k4 up4 => wpAny_throw (tk _ _ ⟨a, B, sI, pins, σ1, H1, cls, d, rfl, J, nb, (up.trans up3).trans up4, ?_, na, os, ag, hno rfl⟩)
        rw [hs]
        exact .inr (.inr k4)
      unfold PySem.passOn
      refine wpAny_bind (wpAny_field he hd h1 ?_)
      rw [if_neg (by simp)]
      first
        | exact wpAny_bind (wpAny_pure (wpAny_bind fin))
        | exact wpAny_bind fin
    | true =>
      obtain ⟨Dc, dd, rfl, rfl, hw⟩ := hyes rfl
      refine codeAny_handlers_suite_as ?_
      refine PySem.HandSPX.lands_againZ fl3 fun h4 fl4 up4 => ?_
      have J4 : Inv X pins σ1 H1 { s' with heap := h4 } := J.landed nb fl4.1 ((up.trans up3).trans up4) os ag
      obtain ⟨o4, v4, he4, hz4, hd4⟩ := fl4.there
      have J5 := track hex J4 na no0 noL noC noP he4 hz4.1 hz4.2 hd4
      have S5 := toSuite J5 a
      refine store_ok (X := X.suite a (X.pn ++ pins)) (v := .ref a) S5 hN hi (.inl hln) rfl (fun s6 S6 => ?_) (.inr hln)
      refine wpAny_mono ((hsu a (X.pn ++ pins)).run [] s6 _ _ (cutD i D) S6 (hw a na)) (fun fl s7 hsp => ?_) (fun _ _ z => z.elim)
      have leave : ∀ {σ7 : L2.St} {H7 : Hp} {Q : Shared → Prop}, Inv (X.suite a (X.pn ++ pins)) [] σ7 H7 s7 → (∀ s8, Inv X pins (σ7.set i none) H7 s8 → Q s8) → wpAny (model X.prog X.w) X.A (do bindName X.env n .none; unbindBehindTheSuite X.env n pos') (fun _ s8 => Q s8) X.xe s7 :=
        fun {σ7 H7 Q} z hq => gone_ok (ofSuite ok z) hN hi hln hq
      cases fl with
      | next => obtain ⟨σ7, H7, z, q⟩ := hsp; exact leave z fun s8 y => ⟨_, _, y, q⟩
      | brk => obtain ⟨σ7, H7, z, q⟩ := hsp; exact leave z fun s8 y => ⟨_, _, y, q⟩
      | cont => obtain ⟨σ7, H7, z, q⟩ := hsp; exact leave z fun s8 y => ⟨_, _, y, q⟩
      | ret u => obtain ⟨v7, σ7, H7, z, r, q⟩ := hsp; exact leave z fun s8 y => ⟨_, _, _, y, r, q⟩
end
end Mi

/-! repr of data with dicts in it: only a dict must not be sys.modules -/
namespace Mi.RP
open PySem PySem.Spec
mutual
inductive Rd (h : Heap) : Value → PyData → Prop
  | none : Rd h .none .none
  | bool (b) : Rd h (.bool b) (.bool b)
  | int (i t) : Rd h (.int i t) (.int i)
  | str (x t) : Rd h (.str x t) (.str x)
  | list {a o vs n xs} : h.get? a = some o → o.cls = .type "list" → o.data = .seq vs n → RdAll h vs.toList xs → Rd h (.ref a) (.list xs)
  | tuple {a o vs n xs} : h.get? a = some o → o.cls = .type "tuple" → o.data = .seq vs n → RdAll h vs.toList xs → Rd h (.ref a) (.tuple xs)
  | dict {a o es n kvs} : h.get? a = some o → o.cls = .type "dict" → o.data = .dict es n → (a == sysModules) = false → RdAll h (es.toList.map (·.key)) (kvs.map (·.1)) → RdAll h (es.toList.map (·.val)) (kvs.map (·.2)) → Rd h (.ref a) (.dict kvs)
inductive RdAll (h : Heap) : List Value → List PyData → Prop
  | nil : RdAll h [] []
  | cons {v vs d ds} : Rd h v d → RdAll h vs ds → RdAll h (v :: vs) (d :: ds)
end
mutual
theorem Rd.reads {h : Heap} : ∀ {v : Value} {d : PyData}, Rd h v d → ∃ as, Reads h v d as
  | _, _, .none => ⟨_, .none⟩
  | _, _, .bool b => ⟨_, .bool b⟩
  | _, _, .int i t => ⟨_, .int i t⟩
  | _, _, .str x t => ⟨_, .str x t⟩
  | _, _, .list h1 h2 h3 h4 => let ⟨_, r⟩ := h4.reads; ⟨_, .list h1 h2 h3 r⟩
  | _, _, .tuple h1 h2 h3 h4 => let ⟨_, r⟩ := h4.reads; ⟨_, .tuple h1 h2 h3 r⟩
  | _, _, .dict h1 h2 h3 _ h4 h5 => let ⟨_, r⟩ := h4.reads; let ⟨_, q⟩ := h5.reads; ⟨_, .dict h1 h2 h3 r q⟩
theorem RdAll.reads {h : Heap} : ∀ {v : List Value} {d : List PyData}, RdAll h v d → ∃ as, ReadsAll h v d as
  | _, _, .nil => ⟨_, .nil⟩
  | _, _, .cons a b => let ⟨_, r⟩ := a.reads; let ⟨_, q⟩ := b.reads; ⟨_, .cons r q⟩
end
section
variable {prog : Program} {w : World} {h₀ : Heap}
abbrev Sh (prog : Program) (w : World) (h₀ : Heap) (n : Nat) (v : Value) (t : Str) : Prop := ∃ bs, ReadAtMost h₀ n bs ∧ ReprK prog w bs h₀ n v t
abbrev ShA (prog : Program) (w : World) (h₀ : Heap) (n : Nat) (vs : List Value) (ts : List Str) : Prop := ∃ bs, ReadAtMost h₀ n bs ∧ ReprAllK prog w bs h₀ n vs ts
mutual
theorem Rd.sh : ∀ {v : Value} {d : PyData}, Rd h₀ v d → d.showable = true → d.shown.length ≤ sizeLine → Sh prog w h₀ d.depth v d.shown
  | _, _, .none, _, _ => ⟨[], (fun _ h => nomatch h), by simp only [PyData.shown]; exact .of_is ReprIs.none _ _ _⟩
  | _, _, .bool b, _, _ => ⟨[], (fun _ h => nomatch h), by simp only [PyData.shown]; exact .of_is (ReprIs.bool b) _ _ _⟩
  | _, _, .int i t, hs, _ => ⟨[], (fun _ h => nomatch h), by simp only [PyData.shown]; exact .of_is (ReprIs.int t (by simpa [PyData.showable] using hs)) _ _ _⟩
  | _, _, .str x t, _, hz => ⟨[], (fun _ h => nomatch h), by simp only [PyData.shown]; exact .of_is (ReprIs.str x t (by simpa only [PyData.shown] using hz)) _ _ _⟩
  | _, _, .list (a := a) (vs := vs) (xs := xs) h1 h2 h3 h4, hs, hz => by
    have hz1 : (listText (PyData.shownAll xs)).length ≤ sizeLine := by simpa only [PyData.shown] using hz
    obtain ⟨bs, hb, hk⟩ := h4.sh (by simpa [PyData.showable] using hs) (fun t ht => Nat.le_trans (listText_mem_le ht) hz1)
    obtain ⟨as, ra⟩ := h4.reads
    have r := Reads.list h1 h2 h3 ra
    have out : a ∉ bs := not_mem_of_deeper r (by simp only [PyData.depth]; omega) hb
    refine ⟨a :: bs, ReadAtMost.cons r (by simp only [PyData.depth]; omega) hb, ?_⟩
    simp only [PyData.depth, PyData.shown]
    obtain ⟨l⟩ := vs
    cases l with
    | nil =>
      have z : RdAll h₀ [] xs := h4
      cases z
      simp only [PyData.shownAll, listText_nil]
      exact .listEmpty h1 h2 h3
    | cons x l => exact .list h1 h2 h3 out (by simpa using hk.length_eq) (fun i y e => hk.item i y (by simpa using e))
  | _, _, .tuple (a := a) (xs := xs) h1 h2 h3 h4, hs, hz => by
    have hz1 : (tupleText (PyData.shownAll xs)).length ≤ sizeLine := by simpa only [PyData.shown] using hz
    obtain ⟨bs, hb, hk⟩ := h4.sh (by simpa [PyData.showable] using hs) (fun t ht => Nat.le_trans (tupleText_mem_le ht) hz1)
    obtain ⟨as, ra⟩ := h4.reads
    have r := Reads.tuple h1 h2 h3 ra
    have out : a ∉ bs := not_mem_of_deeper r (by simp only [PyData.depth]; omega) hb
    refine ⟨a :: bs, ReadAtMost.cons r (by simp only [PyData.depth]; omega) hb, ?_⟩
    simp only [PyData.depth, PyData.shown]
    exact .tuple h1 h2 h3 out hk
  | _, _, .dict (a := a) (es := es) (kvs := kvs) h1 h2 h3 hsys h4 h5, hs, hz => by
    have hz1 : (dictText (PyData.shownKv kvs)).length ≤ sizeLine := by simpa only [PyData.shown] using hz
    obtain ⟨s1, s2⟩ := PyData.showableKv_split kvs (by simpa [PyData.showable] using hs)
    obtain ⟨b1, hb1, k1⟩ := h4.sh s1 (fun t ht => let ⟨p, hp, hl⟩ := PyData.shownKv_key_le kvs t ht; Nat.le_trans hl (Nat.le_trans (dictText_mem_le hp) hz1))
    obtain ⟨b2, hb2, k2⟩ := h5.sh s2 (fun t ht => let ⟨p, hp, hl⟩ := PyData.shownKv_val_le kvs t ht; Nat.le_trans hl (Nat.le_trans (dictText_mem_le hp) hz1))
    obtain ⟨as, ra⟩ := h4.reads
    obtain ⟨cs, rc⟩ := h5.reads
    have r := Reads.dict h1 h2 h3 ra rc
    have hb : ReadAtMost h₀ (PyData.depthKv kvs) (b1 ++ b2) := (hb1.mono (PyData.depthAll_keys_le kvs)).append (hb2.mono (PyData.depthAll_vals_le kvs))
    have out : a ∉ b1 ++ b2 := not_mem_of_deeper r (by simp only [PyData.depth]; omega) hb
    refine ⟨a :: (b1 ++ b2), ReadAtMost.cons r (by simp only [PyData.depth]; omega) hb, ?_⟩
    simp only [PyData.depth, PyData.shown, PyData.shownKv_eq]
    exact .dict h1 h2 h3 hsys out (.of_two es.toList _ _ (k1.more_le (fun b hb => List.mem_append_left _ hb) (PyData.depthAll_keys_le kvs)) (k2.more_le (fun b hb => List.mem_append_right _ hb) (PyData.depthAll_vals_le kvs)))
theorem RdAll.sh : ∀ {vs : List Value} {ds : List PyData}, RdAll h₀ vs ds → PyData.showableAll ds = true → (∀ t ∈ PyData.shownAll ds, t.length ≤ sizeLine) → ShA prog w h₀ (PyData.depthAll ds) vs (PyData.shownAll ds)
  | _, _, .nil, _, _ => ⟨[], (fun _ h => nomatch h), by simp only [PyData.shownAll]; exact .nil⟩
  | _, _, .cons (d := d) (ds := ds) r rs, hs, hz => by
    have hs1 : d.showable = true ∧ PyData.showableAll ds = true := by simpa [PyData.showableAll] using hs
    obtain ⟨b1, hb1, k1⟩ := r.sh hs1.1 (hz _ (by simp only [PyData.shownAll]; exact List.mem_cons_self ..))
    obtain ⟨b2, hb2, k2⟩ := rs.sh hs1.2 (fun t ht => hz t (by simp only [PyData.shownAll]; exact List.mem_cons_of_mem _ ht))
    refine ⟨b1 ++ b2, ?_, ?_⟩
    · simp only [PyData.depthAll]
      exact (hb1.mono (Nat.le_max_left _ _)).append (hb2.mono (Nat.le_max_right _ _))
    · simp only [PyData.depthAll, PyData.shownAll]
      exact .cons ((k1.more fun b hb => List.mem_append_left _ hb).level_le (Nat.le_max_left _ _)) (k2.more_le (fun b hb => List.mem_append_right _ hb) (Nat.le_max_right _ _))
end
end
end Mi.RP

namespace Mi
open PySem PySem.Spec PyProof.Rows L2
open RP (Rd RdAll)
def keyD : Key → PyData
  | .inl i => .int i
  | .inr x => .str x
mutual
/-- a value as data, dicts too -/
def toDD : Wv → Option PyData
  | .non => some .none
  | .bl b => some (.bool b)
  | .int i => some (.int i)
  | .str s => some (.str s)
  | .tup xs => (toDDs xs).map .tuple
  | .lst xs => (toDDs xs).map .list
  | .rdl xs => (toDDs xs).map .list
  | .dct ks xs => (toDDs xs).map fun ds => .dict ((ks.map keyD).zip ds)
  | _ => none
def toDDs : List Wv → Option (List PyData)
  | [] => some []
  | x :: xs => match toDD x, toDDs xs with
    | some d, some ds => some (d :: ds)
    | _, _ => none
end
section
variable {X : Cx} {pins : List (Addr × Obj)} {σ : L2.St} {H : Hp} {s : Shared} {ρ : Rn}
theorem toDDs_len : ∀ {ws : List Wv} {ds : List PyData}, toDDs ws = some ds → ds.length = ws.length
  | [], _, e => by cases e; rfl
  | x :: xs, ds, e => by
    have e : (match toDD x, toDDs xs with | some d, some ds => some (d :: ds) | _, _ => none) = some ds := e
    cases q1 : toDD x with
    | none => rw [q1] at e; cases e
    | some d =>
      cases q2 : toDDs xs with
      | none => rw [q1, q2] at e; cases e
      | some ds' => rw [q1, q2] at e; cases e; simp [toDDs_len q2]
theorem key_rd {h : Heap} {k : Key} {v : Value} (e : keyIs k v = true) : Rd h v (keyD k) := by
  rcases keyIs_shape e with ⟨i, t, rfl, rfl⟩ | ⟨x, t, rfl, rfl⟩
  · exact .int i t
  · exact .str x t
theorem keys_rd {P : Program} {w : World} {h : Heap} : ∀ {es : List DictEntry} {vs : List (Key × Value)} {kvs : List (Key × V)}, Pairs (mixKind P w) es vs → KV kvs vs → RdAll h (es.map (·.key)) ((kvs.map (·.1)).map keyD) ∧ Vals (kvs.map (·.2)) (es.map (·.val))
  | _, _, _, .nil, .nil => ⟨.nil, .nil⟩
  | _, _, _, .cons h1 h2 hp, .cons hr rr => by
    obtain ⟨z1, z2⟩ := keys_rd (h := h) hp rr
    obtain ⟨r1, r2⟩ := hr
    exact ⟨.cons (key_rd (by dsimp only; rw [r1]; exact h1)) z1, .cons (by dsimp only; rw [h2]; exact r2) z2⟩
mutual
theorem rd_of (I : Inv X pins σ H s) : ∀ (w : Wv) {v : V} {u : Value} {d : PyData}, toDD w = some d → RV X.K ρ H w v → RelV v u → Rd s.heap u d
  | .non, _, _, _, e, r, q => by cases e; cases r; cases q; exact .none
  | .bl b, _, _, _, e, r, q => by cases e; cases r; cases q; exact .bool b
  | .int i, _, _, _, e, r, q => by cases e; cases r; obtain ⟨t, rfl⟩ := q; exact .int i t
  | .str x, _, _, _, e, r, q => by cases e; cases r; obtain ⟨t, rfl⟩ := q; exact .str x t
  | .lst xs, _, _, _, e, r, q => by
    obtain ⟨ds, e1, rfl⟩ := Option.map_eq_some_iff.mp (show (toDDs xs).map PyData.list = some _ from e)
    obtain ⟨a, vs, rfl, h, r⟩ := r
    cases q
    obtain ⟨its, rv, ⟨o, n, ho, hc, _, hd⟩, _⟩ := I.list (SqL.of h.1)
    exact .list ho hc hd (rds_of I xs e1 r rv)
  | .rdl xs, _, _, _, e, r, q => by
    obtain ⟨ds, e1, rfl⟩ := Option.map_eq_some_iff.mp (show (toDDs xs).map PyData.list = some _ from e)
    obtain ⟨a, vs, rfl, h, r⟩ := r
    cases q
    obtain ⟨its, rv, ⟨o, n, ho, hc, _, hd⟩, _⟩ := I.list (sq_l h)
    exact .list ho hc hd (rds_of I xs e1 r rv)
  | .tup xs, _, _, _, e, r, q => by
    obtain ⟨ds, e1, rfl⟩ := Option.map_eq_some_iff.mp (show (toDDs xs).map PyData.tuple = some _ from e)
    obtain ⟨a, vs, rfl, h, r⟩ := r
    cases q
    obtain ⟨its, rv, ⟨o, ho, hc, n, hd⟩, _⟩ := I.tuple (sq_t h)
    exact .tuple ho hc hd (rds_of I xs e1 r rv)
  | .dct ks xs, _, _, _, e, r, q => by
    obtain ⟨ds, e1, rfl⟩ := Option.map_eq_some_iff.mp (show (toDDs xs).map (fun ds => PyData.dict ((ks.map keyD).zip ds)) = some _ from e)
    obtain ⟨a, kvs, rfl, ⟨h, _⟩, ek, r⟩ := r
    cases q
    obtain ⟨_, hsys, vs, rkv, o, es, ep, ho, hx, hd, _, hp, _⟩ := dk_of I.hok h
    obtain ⟨z1, z2⟩ := keys_rd (h := s.heap) hp rkv
    have hl : ds.length = ks.length := by rw [toDDs_len e1, r.length, List.length_map, ← ek, List.length_map]
    refine .dict ho hx.1 hd hsys ?_ ?_
    · rw [List.map_fst_zip (by rw [List.length_map, hl]; exact Nat.le_refl _), ← ek]
      exact z1
    · rw [List.map_snd_zip (by rw [List.length_map, hl]; exact Nat.le_refl _)]
      exact rds_of I xs e1 r z2
theorem rds_of (I : Inv X pins σ H s) : ∀ (ws : List Wv) {vs : List V} {us : List Value} {ds : List PyData}, toDDs ws = some ds → RVs X.K ρ H ws vs → Vals vs us → RdAll s.heap us ds
  | [], _, _, _, e, r, q => by cases e; cases r; cases q; exact .nil
  | x :: xs, _, _, _, e, ⟨v, vr, ev, r1, r2⟩, q => by
    subst ev
    cases q with
    | cons q1 q2 =>
      have e : (match toDD x, toDDs xs with | some d, some ds => some (d :: ds) | _, _ => none) = some _ := e
      cases z1 : toDD x with
      | none => rw [z1] at e; cases e
      | some d =>
        cases z2 : toDDs xs with
        | none => rw [z1, z2] at e; cases e
        | some ds' =>
          rw [z1, z2] at e
          cases e
          exact .cons (rd_of I x z1 r1 q1) (rds_of I xs z2 r2 q2)
end
end
end Mi

namespace Mi.RP
open PySem PySem.Spec
section
variable {prog : Program} {w : World} {A : Around} {E : Value → Shared → Prop} {Q : Value → Shared → Prop} {s : Shared}
theorem repr_rd {v : Value} {d : PyData} (r : Rd s.heap v d) (hs : d.showable = true) (hz : d.shown.length ≤ sizeLine) (hg : A.guards = some []) (hu : A.units + (d.depth + 1) < cLine)
    (hQ : ∀ h' u tk, (∀ b o, s.heap.get? b = some o → h'.get? b = some o) → Q (.str d.shown u) { s with heap := h', toks := tk }) : wpAny (model prog w) A (call (.builtin "repr") [v]) Q E s := by
  obtain ⟨bs, hb, hk⟩ := Rd.sh (prog := prog) (w := w) r hs hz
  have kk : ∀ b o, s.heap.get? b = some o → s.heap.get? b = some o := fun _ _ e => e
  cases r with
  | none => exact PySem.P.repr_of_none (hQ s.heap _ _ kk)
  | bool b => exact PySem.P.repr_of_bool (hQ s.heap _ _ kk)
  | int i t => exact PySem.P.repr_of_int (by simpa [PyData.showable] using hs) (hQ s.heap _ _ kk)
  | str x t => exact PySem.P.repr_of_str (hQ s.heap _ _ kk) hz
  | @list a o vs n xs h1 h2 h3 h4 =>
    have hz1 : (listText (PyData.shownAll xs)).length ≤ sizeLine := by simpa only [PyData.shown] using hz
    obtain ⟨bs, hb, hk⟩ := RdAll.sh (prog := prog) (w := w) h4 (by simpa [PyData.showable] using hs) (fun t ht => Nat.le_trans (listText_mem_le ht) hz1)
    obtain ⟨as, ra⟩ := h4.reads
    have out : a ∉ bs := not_mem_of_deeper (.list h1 h2 h3 ra) (by simp only [PyData.depth]; omega) hb
    simp only [PyData.depth] at hu
    simp only [PyData.shown] at hQ
    refine call_repr_slot (by omega) ⟨o, h1, h2⟩ F.slot_list_repr.toG ?_
    obtain ⟨l⟩ := vs
    cases l with
    | nil =>
      have z : RdAll s.heap [] xs := h4
      cases z
      simp only [PyData.shownAll, listText_nil] at hQ
      exact call_list_repr_empty ⟨o, h1, h2⟩ h1 h3 ⟨_, _, rfl, hQ s.heap _ _ kk⟩
    | cons x l => exact call_list_reprK h1 h2 h3 out (by simpa using hk.length_eq) (fun i y e => hk.item i y (by simpa using e)) hg (fun b _ => Clear.nil b) (by show A.units + 1 + _ < cLine; omega) kk (fun h' u tk k => ⟨_, _, rfl, hQ h' u tk k⟩) hz1
  | @tuple a o vs n xs h1 h2 h3 h4 =>
    have hz1 : (tupleText (PyData.shownAll xs)).length ≤ sizeLine := by simpa only [PyData.shown] using hz
    obtain ⟨bs, hb, hk⟩ := RdAll.sh (prog := prog) (w := w) h4 (by simpa [PyData.showable] using hs) (fun t ht => Nat.le_trans (tupleText_mem_le ht) hz1)
    obtain ⟨as, ra⟩ := h4.reads
    have out : a ∉ bs := not_mem_of_deeper (.tuple h1 h2 h3 ra) (by simp only [PyData.depth]; omega) hb
    simp only [PyData.depth] at hu
    simp only [PyData.shown] at hQ
    refine call_repr_slot (by omega) ⟨o, h1, h2⟩ F.slot_tuple_repr ?_
    exact call_tuple_reprK h1 h2 h3 out hk hg (fun b _ => Clear.nil b) (by show A.units + 1 + _ < cLine; omega) kk (fun h' u tk k => ⟨_, _, rfl, hQ h' u tk k⟩) hz1
  | @dict a o es n kvs h1 h2 h3 hsys h4 h5 =>
    have hz1 : (dictText (PyData.shownKv kvs)).length ≤ sizeLine := by simpa only [PyData.shown] using hz
    obtain ⟨s1, s2⟩ := PyData.showableKv_split kvs (by simpa [PyData.showable] using hs)
    obtain ⟨b1, hb1, k1⟩ := RdAll.sh (prog := prog) (w := w) h4 s1 (fun t ht => let ⟨p, hp, hl⟩ := PyData.shownKv_key_le kvs t ht; Nat.le_trans hl (Nat.le_trans (dictText_mem_le hp) hz1))
    obtain ⟨b2, hb2, k2⟩ := RdAll.sh (prog := prog) (w := w) h5 s2 (fun t ht => let ⟨p, hp, hl⟩ := PyData.shownKv_val_le kvs t ht; Nat.le_trans hl (Nat.le_trans (dictText_mem_le hp) hz1))
    obtain ⟨as, ra⟩ := h4.reads
    obtain ⟨cs, rc⟩ := h5.reads
    have both : ReadAtMost s.heap (PyData.depthKv kvs) (b1 ++ b2) := (hb1.mono (PyData.depthAll_keys_le kvs)).append (hb2.mono (PyData.depthAll_vals_le kvs))
    have out : a ∉ b1 ++ b2 := not_mem_of_deeper (.dict h1 h2 h3 ra rc) (by simp only [PyData.depth]; omega) both
    simp only [PyData.depth] at hu
    simp only [PyData.shown, PyData.shownKv_eq] at hQ
    refine call_repr_slot (by omega) ⟨o, h1, h2⟩ F.slot_dict_repr ?_
    exact call_dict_reprK h1 h2 h3 hsys out (.of_two es.toList _ _ (k1.more_le (fun b hb => List.mem_append_left _ hb) (PyData.depthAll_keys_le kvs)) (k2.more_le (fun b hb => List.mem_append_right _ hb) (PyData.depthAll_vals_le kvs))) hg (fun b _ => Clear.nil b)
      (by show A.units + 1 + _ < cLine; omega) kk (fun h' u tk k => ⟨_, _, rfl, hQ h' u tk k⟩) (by rw [← PyData.shownKv_eq]; exact hz1)
end
end Mi.RP
namespace Mi
open PySem PySem.Spec PyProof.Rows L2
def toDDM (M : Mem) : Wv → Option PyData
  | .ref n => match M[n]? with
    | some (.lst xs) => (toDDs xs).map .list
    | _ => none
  | w => toDD w
def reprOkD (d : PyData) : Bool := d.showable && decide (d.shown.length ≤ lim) && decide (d.depth ≤ 60)
def repr2 (w : Wv) (M : Mem) : R Wv := match toDDM M w with
  | some d => if reprOkD d then .ok (.str d.shown) M else .no
  | none => .no
abbrev reprD := un1 repr2
section
variable {X : Cx} {E : XK}
theorem c_reprD (hg : X.A.guards = some []) (hu : X.A.units + 64 < cLine) : CallR X (.builtin "repr") (rc X.K E reprD) := by
  intro pins s σ H xs us Q I r hh
  obtain ⟨v, ρ, M, w, rfl, rl, rv, h⟩ := un1_in hh
  clear hh
  obtain ⟨u, rfl, ru⟩ := vals1 r
  unfold repr2 at h
  cases q : toDDM M w with
  | none => rw [q] at h; exact h.elim
  | some d =>
    rw [q] at h
    obtain ⟨h0, h⟩ := pick h
    unfold reprOkD at h0
    rw [Bool.and_eq_true, Bool.and_eq_true] at h0
    obtain ⟨⟨h1, h3⟩, h4⟩ := h0
    have h4 := of_decide_eq_true h4
    have fin : Q (.str d.shown) H := fin_val h rl rfl
    have rd : RP.Rd s.heap u d := by
      cases w with
      | ref n =>
        obtain ⟨a, rfl, ha⟩ := id rv
        cases ru
        have q : (match M[n]? with | some (Ob.lst xs) => (toDDs xs).map PyData.list | _ => none) = some d := q
        cases z : M[n]? with
        | none => rw [z] at q; cases q
        | some o =>
          rw [z] at q
          cases o with
          | ins C ns xs => cases q
          | lst xs =>
            obtain ⟨ds, e1, rfl⟩ := Option.map_eq_some_iff.mp q
            obtain ⟨b, vs, eb, hb, h5, h6⟩ := rl.lst z rv
            cases eb
            obtain ⟨its, rv', ⟨o, n', ho, hc, _, hd⟩, _⟩ := I.list (SqL.of h5)
            exact .list ho hc hd (rds_of I xs e1 h6 rv')
      | _ => exact rd_of I _ q rv ru
    exact RP.repr_rd rd h1 (lim_le (of_decide_eq_true h3)) hg (by omega) fun h' u' tk k => ⟨.str _, H, I.kept k, ⟨_, rfl⟩, fin⟩
end
end Mi

namespace Mi
open PySem PySem.Spec PyProof.Rows L2
/-- enumerate -/
def enumL (ws : List Wv) : List Wv := ws.mapIdx fun i w => Wv.tup [.int (i : Nat), w]
def mEnum (a : Me) : Mi' := fun env M => (a env M).bind fun w M1 => match w with
  | .lst xs => .ok (enumL xs) M1
  | .rdl xs => .ok (enumL xs) M1
  | _ => .no
section
variable {X : Cx} {E : XK} {tg a : Expr} {elts : List Expr} {kk : Nat} {ma : Me} {p pos tpos : Pos}
theorem it_e {K : PySem.W.Frag} {ρ : Rn} {H : Hp} {b : Addr} {vs : List V} {ws : List Wv} (h : ∀ ρ' H', Mv ρ H ρ' H' → SqL K H' b vs) (r : RVs K ρ H ws vs) : ItOk K (Ite K b) (enumL ws) ρ H := by
  have hl : (enumL ws).length = vs.length := by unfold enumL; rw [List.length_mapIdx]; exact r.length
  refine ⟨fun ρ' H' g i hi => ?_, fun ρ' H' g i x H2 w hw y => ?_, fun ρ' H' g => ⟨vs, h ρ' H' g, by rw [hl]; exact Nat.le_refl _⟩⟩
  · rw [hl] at hi
    exact ⟨vs, vs[i], h ρ' H' g, List.getElem?_eq_getElem hi⟩
  · obtain ⟨T, z, rfl, hT, rfl, hz⟩ := y
    unfold enumL at hw
    rw [List.getElem?_mapIdx] at hw
    obtain ⟨w', h1, rfl⟩ := Option.map_eq_some_iff.mp hw
    obtain ⟨v, h2, h3⟩ := (RVs.move g ws r).get h1
    have e : z = v := Option.some.inj ((hz vs (h ρ' H' g)).symm.trans h2)
    subst e
    have gg : Gr ρ' H' ρ' (upd H' T (.tup [.int (i : Nat), z])) := Gr.fresh hT
    refine ⟨gg, fun M rl => ⟨rl.upd hT, T, [.int (i : Nat), z], rfl, .inl ⟨upd_same, rl.out hT⟩, .int (i : Nat), [z], rfl, rfl, z, [], rfl, RV.mono gg w' h3, rfl⟩⟩
theorem i_enum (hm : X.mg "enumerate" = none) (ha : PE X a (te X.K E ma)) (hg : Gl X "enumerate" := by rfl) (hs : starEach [a] X.env = [(false, eval a X.env)] := by rfl) : PI X (.Tuple elts kk tpos) (.Call (.Name "enumerate" p) [a] [] pos) (ti X.K E (mEnum ma)) :=
  PI.imp (pi_enum hg hm (pa_cons ha pa_nil hs) hs) fun σ H R ⟨ρ, M, env, rl, re, f⟩ => te_then rl re f fun w M1 ρ1 H1 v g1 rl1 re1 rv1 f1 => by
    cases w with
    | lst xs =>
      obtain ⟨b, vs, rfl, h, r⟩ := rv1
      exact ⟨b, vs, rfl, SqL.of h.1, f1.here rl1 _ (it_e (fun ρ' H' g => SqL.of (g.go _ _ h).1) r)⟩
    | rdl xs =>
      obtain ⟨b, vs, rfl, h, r⟩ := rv1
      exact ⟨b, vs, rfl, sq_l h, f1.here rl1 _ (it_e (fun ρ' H' g => sq_l (h.imp g.rd id)) r)⟩
    | _ => exact f1.elim
end
end Mi

namespace Mi
open PySem PySem.Spec PyProof.Rows L2 NdefX
abbrev xNF (qn : Str) (st : Stmt) (cc c : Addr) : NF := ⟨"__init__", qn, defArgs st, defBody st, defScope st, [("__class__", cc)], c⟩
/-- the written part of an own exception class C with the __init__ st -/
structure XF (P : Program) (K : PySem.W.Frag) (nm qn : Str) (st : Stmt) (fs : List Str) (C : Addr) (fd : FuncData) : Prop where
  ex : ∃ (fI cc c : Addr) (oc : Value) (od : Option Addr) (osl : Array (Option Value)) (dV kV doc pm ct : Value) (an : Option Addr), fd = PySem.W.fnX "__init__" qn (defArgs st) (defBody st) (defScope st) [("__class__", cc)] dV kV doc pm an (.ref c) ct ∧ dV = .none ∧
    K.lookup fI = some ⟨oc, od, .func fd, osl⟩ ∧ PySem.W.findIn K (.ref C) "__init__" = some (some (.ref fI)) ∧ PySem.W.typeIn K (.ref fI) = some (.type "function") ∧ PySem.W.codeIn K (.ref c) qn = true ∧
    (∃ (ccl : Value) (cdd : Option Addr) (vs : Array Value) (ccs : Array (Option Value)) (file : Str) (tf : Tok), K.lookup c = some ⟨ccl, cdd, .fields vs, ccs⟩ ∧ vs[2]? = some (.str file tf) ∧ ((P.main.file : Str) == file) = true) ∧
    ∃ (cl : Value) (cld : Option Addr) (csl : Array (Option Value)), K.lookup cc = some ⟨cl, cld, .cell (some (.ref C)), csl⟩
  T : OexC K C
  sup : PySem.W.ks_superIn K C C "__init__" = some (some (.builtin "ValueError.__init__"))
  sub : PySem.W.subIn K (.ref C) (.type "ValueError") = some true
  self : PySem.W.mroIn K C (.ref C) = some true
  stat : PySem.W.nsIn K cStatics "thirdparty.any" = some none
  top : (P.main.scope.names.lookup ("super" : Str)).isSome = false
  no : ∀ f ∈ fs, PySem.W.findIn K (.ref C) f = some none
  loc : clsAt K nm = some C
  xf : XfC K C
  xc : ExcC K C
section
variable {P : Program} {K : PySem.W.Frag} {mg : Str → Option Value} {nm qn slf : Str} {st : Stmt} {fs : List Str} {C : Addr} {fd : FuncData} {N ps : List Str} {rest : List Stmt} {l : List (Str × Nat)}
theorem XF.ok (Z : XF P K nm qn st fs C fd) (hs : mg "super" = none) (S : NScope N ps ["__class__"] (defScope st)) (hN0 : N[0]? = some slf) (U : ∀ fI cc c, Sup (xNF qn st cc c) fI rest slf) (W : ∀ fI cc c, Sets (xNF qn st cc c) fI N rest l) (hl : l.map (·.1) = fs) (ne : l ≠ []) (sz : l.length ≤ 900) : XOk P K mg C ps l fd := by
  obtain ⟨fI, cc, c, oc, od, osl, dV, kV, doc, pm, ct, an, rfl, _, h1, h2, h3, h4, h5, h6⟩ := Z.ex
  exact ⟨⟨fI, cc, xNF qn st cc c, N, rest, slf, oc, od, osl, ⟨Z.T, h2, h3, ⟨oc, od, osl, dV, kV, doc, pm, ct, an, h1⟩, rfl, h4, h5, h6, Z.sup, Z.sub, Z.self, Z.stat, hs, Z.top⟩, S, U fI cc c, hN0, W fI cc c, h1⟩,
    fun p hp => Z.no _ (by rw [← hl]; exact List.mem_map_of_mem hp), ne, sz, Z.T⟩
theorem XF.binds (Z : XF P K nm qn st fs C fd) (h : ∀ (cc : Addr) (kV doc pm : Value) (an : Option Addr) (cdv ct : Value) (us : List Value), us.length = ps.length → bindArgs (PySem.W.fnX "__init__" qn (defArgs st) (defBody st) (defScope st) [("__class__", cc)] .none kV doc pm an cdv ct) ⟨us, []⟩ = pure (ps.zip us)) : Binds K fd ps [] := by
  obtain ⟨fI, cc, c, oc, od, osl, dV, kV, doc, pm, ct, an, rfl, rfl, h1, h2, h3, h4, h5, h6⟩ := Z.ex
  exact .all (h cc kV doc pm an (.ref c) ct)
theorem XF.bk (Z : XF P K nm qn st fs C fd) {n : Nat} {ks : List Str} {perm : List Nat} (h : ∀ (cc : Addr) (kV doc pm : Value) (an : Option Addr) (cdv ct : Value) (us ws : List Value), us.length = n → ws.length = ks.length → bindArgs (PySem.W.fnX "__init__" qn (defArgs st) (defBody st) (defScope st) [("__class__", cc)] .none kV doc pm an cdv ct) ⟨us, ks.zip ws⟩ = pure (ps.zip (pick' perm (us ++ ws)))) : BK fd ps n ks perm := by
  obtain ⟨fI, cc, c, oc, od, osl, dV, kV, doc, pm, ct, an, rfl, rfl, h1, h2, h3, h4, h5, h6⟩ := Z.ex
  exact ⟨fun s us ws z1 z2 => .of_eq (h cc kV doc pm an (.ref c) ct us ws z1 z2)⟩
theorem no_nil : ∀ f ∈ ([] : List Str), PySem.W.findIn K (.ref C) f = some none := fun _ h => by cases h
theorem no_cons {f : Str} (h : PySem.W.findIn K (.ref C) f = some none) (r : ∀ g ∈ fs, PySem.W.findIn K (.ref C) g = some none) : ∀ g ∈ f :: fs, PySem.W.findIn K (.ref C) g = some none := fun g hg => by
  rcases List.mem_cons.mp hg with rfl | hg
  · exact h
  · exact r g hg
theorem xf_mk {fI cc c : Addr} {oc kV doc pm ct ccl cl : Value} {od an cdd cld : Option Addr} {osl ccs csl : Array (Option Value)} {vs : Array Value} {file : Str} {tf : Tok}
    {nmC q : Str} {n1 : Addr} {bs bm : List Value} {sn : List Str} {sub : List Value} {ab : Bool} {col : Option Bool} {dd : Option Addr} {k0 k1 k2 k3 k5 : Option Value}
    (hI : PySem.W.findIn K (.ref C) "__init__" = some (some (.ref fI)))
    (hL : K.lookup fI = some ⟨oc, od, .func (PySem.W.fnX "__init__" qn (defArgs st) (defBody st) (defScope st) [("__class__", cc)] .none kV doc pm an (.ref c) ct), osl⟩)
    (hT : PySem.W.typeIn K (.ref fI) = some (.type "function")) (hC : PySem.W.codeIn K (.ref c) qn = true)
    (hc : K.lookup c = some ⟨ccl, cdd, .fields vs, ccs⟩) (hv : vs[2]? = some (.str file tf)) (hf : ((P.main.file : Str) == file) = true)
    (hcc : K.lookup cc = some ⟨cl, cld, .cell (some (.ref C)), csl⟩)
    (t1 : K.lookup C = some (excClassObj nmC q C n1 bs bm true sn sub ab col dd k0 k1 k2 k3 k5 "ValueError.__new__")) (t2 : PySem.HandSPX.refsVE bm = true)
    (t3 : PySem.W.findIn K (.ref C) "__setattr__" = some (some (.builtin "object.__setattr__"))) (t4 : PySem.W.subIn K (.ref C) (.type "BaseException") = some true) (t5 : PySem.W.typeIn K (.ref C) = some (.type "type")) (t6 : PySem.W.keepIn K (.ref C) = true)
    (h1 : PySem.W.ks_superIn K C C "__init__" = some (some (.builtin "ValueError.__init__"))) (h2 : PySem.W.subIn K (.ref C) (.type "ValueError") = some true) (h3 : PySem.W.mroIn K C (.ref C) = some true)
    (h4 : PySem.W.nsIn K cStatics "thirdparty.any" = some none) (h5 : (P.main.scope.names.lookup ("super" : Str)).isSome = false) (h6 : ∀ f ∈ fs, PySem.W.findIn K (.ref C) f = some none) (h7 : clsAt K nm = some C)
    (g1 : PySem.W.findIn K (.ref C) "__getattribute__" = some (some (.builtin "BaseException.__getattribute__"))) (g2 : PySem.W.findIn K (.ref C) "__getattr__" = some none) (g3 : PySem.W.hasDictIn K C = true)
    (g4 : PySem.W.findIn K (.ref C) "__class__" = some (some (.builtin "object.__class__"))) (g5 : PySem.W.specialIn K (.builtin "object.__class__") "__get__" = some (some (.builtin "getset_descriptor.__get__"))) (g6 : PySem.W.takesIn K (.builtin "object.__class__") = some true) (g7 : PySem.W.mroIn K C (.type "object") = some true) :
    XF P K nm qn st fs C (PySem.W.fnX "__init__" qn (defArgs st) (defBody st) (defScope st) [("__class__", cc)] .none kV doc pm an (.ref c) ct) :=
  ⟨⟨fI, cc, c, oc, od, osl, .none, kV, doc, pm, ct, an, rfl, rfl, hL, hI, hT, hC, ⟨ccl, cdd, vs, ccs, file, tf, hc, hv, hf⟩, cl, cld, csl, hcc⟩, ⟨⟨nmC, q, n1, bs, bm, sn, sub, ab, col, dd, k0, k1, k2, k3, k5, t1, t2⟩, t3, t4, t5, t6⟩, h1, h2, h3, h4, h5, h6, h7, ⟨g1, g2, t4, g3⟩, ⟨g1, g2, t4, g3, g4, g5, g6, g7⟩⟩
theorem FldE.nil {f : Str} : FldE K [] f := fun _ h => by cases h
theorem FldE.cons {f : Str} {es : List Str} (Z : XF P K nm qn st fs C fd) (h : f ∈ fs) (r : FldE K es f) : FldE K (nm :: es) f := fun c hc D hD => by
  rcases List.mem_cons.mp hc with rfl | hc
  · rw [Z.loc] at hD
    cases hD
    exact ⟨Z.xf, Z.no _ h⟩
  · exact r c hc D hD
theorem FldI.nil {f : Str} : FldI K [] f := fun _ h => by cases h
/-- the table of an asked class over exception classes -/
def XTab (K : PySem.W.Frag) (u : Value) (t : List (Str × Bool)) : Prop := ∀ C b, t.lookup C = some b → ∃ D, clsAt K C = some D ∧ PySem.W.kitOne K (.ref D) u = some b ∧ ExcC K D
theorem XTab.nil {u : Value} : XTab K u [] := fun _ _ h => by cases h
theorem XTab.cons {u : Value} {b : Bool} {t : List (Str × Bool)} (Z : XF P K nm qn st fs C fd) (h : PySem.W.kitOne K (.ref C) u = some b) (r : XTab K u t) : XTab K u ((nm, b) :: t) := fun c b' hc => by
  rw [List.lookup_cons] at hc
  cases q : c == nm with
  | true =>
    have e : c = nm := by simpa using q
    subst e
    have hc : some b = some b' := by simpa [q] using hc
    cases hc
    exact ⟨C, Z.loc, h, Z.xc⟩
  | false => exact r c b' (by simpa [q] using hc)
theorem ClOk.x0 {u : Value} {ty : Option Ty} {t : List (Str × Bool)} (ht : ∀ t : Ty, PySem.W.kitOne K (.type t.name) u = some (match ty with | some x => t.sub x | none => false)) (x : XTab K u t) : ClOk K ⟨ty, [], t⟩ u := ⟨ht, (fun _ _ h => by cases h), x⟩
end
end Mi

namespace Mi
open PySem PySem.Spec PyProof.Rows L2 NdefX

/-! ### raise C(k = v, ..) -/
def sRaiseK (C : Str) (l : List (Str × Nat)) (n m : Nat) (perm : List Nat) (a : Ma) : Ms := fun env M => (a env M).bind fun ws M1 => if ws.length = m ∧ (pick' perm ws).length = n then (match fldsW (pick' perm ws) l [] [] with
  | some (ns, xs) => .exc ⟨C, ns.zip xs⟩ M1
  | none => .no) else .no
section
variable {X : Cx} {E : XK} {k : Nat} {C : Addr} {nm : Str} {ps ks : List Str} {perm : List Nat} {l : List (Str × Nat)} {fd : FuncData} {x : Str} {p pos pos' : Pos} {e : Expr} {es : List Expr} {ma mk : Ma} {kws : List Keyword}
theorem pmk_xk (W : XOk X.prog X.K X.mg C ps l fd) (hr : Room (k + 2) X.A) (hm : X.mg x = some (.ref C)) (hc : clsAt X.K nm = some C) (hb : BK fd ps 1 ks (0 :: perm.map (· + 1))) (hkw : PK X kws (ta X.K E mk)) {n m : Nat} (hn : ps.length = n + 1) (hm' : ks.length = m) (hz : m ≤ 1000)
    (hg : Gl X x) (hdb : (x == ("__debug__" : Str)) = false) (hall : (backToKw pos (keywordEach kws X.env)).all (·.1.isSome) = true) (hks : (backToKw pos (keywordEach kws X.env)).filterMap (·.1) = ks) (hpl : ((backTo pos (starEach [] X.env)).any (·.1) || (backToKw pos (keywordEach kws X.env)).any (·.1.isNone)) = false) :
    PMk X (.Call (.Name x p) [] kws pos) (fun σ H Q => (∀ cls d H', E cls d H' → Q cls d H') ∧ ∃ (PP : Fl → Mem → Rn → Hp → Prop) (ρ : Rn) (M : Mem) (env : Ev), Rl X.K ρ M H ∧ RE X.K ρ H env σ ∧ Fin X.K ρ H PP E (sRaiseK nm l n m perm mk env M)) := by
  subst hm'
  rintro pins s σ H Q I ⟨hEQ, PP, ρ, M, env, rl, re, h⟩
  refine wpAny_Call_Name_kw (ld_glob I hg hm ?_ hdb)
  refine PySem.W.callWith_KW0 (h₀ := X.base) I.ok.mod.kin W.T.kC hall (thn (hkw.run pos pins s σ H (fun vs H1 => ∃ ρ1 M1 ws, Rl X.K ρ1 M1 H1 ∧ RVs X.K ρ1 H1 ws vs ∧ ws.length = ks.length ∧ (pick' perm ws).length = n ∧ Fin X.K ρ1 H1 PP E (match fldsW (pick' perm ws) l [] [] with | some (ns, xs) => R.exc ⟨nm, ns.zip xs⟩ M1 | none => .no)) I
    (ta_then rl re h fun ws M1 ρ1 H1 vs g1 rl1 re1 rv1 f1 => by obtain ⟨⟨h0, h2⟩, f1⟩ := pick f1; exact ⟨ρ1, M1, ws, rl1, rv1, h0, h2, f1⟩)) fun us s1 ⟨vs, H1, I1, r, ρ1, M1, ws, rl1, rv1, hl, hl2, f1⟩ => ⟨I1.kIn, ?_⟩) hpl
  have h1 : us.length = ks.length := by rw [← r.length, ← rv1.length]; exact hl
  rw [hks]
  have h3 : (pick' perm vs).length = n := by rw [← (pick_rvs perm rv1).length]; exact hl2
  have rv2 := pick_rvs perm rv1
  have r2 := pick_vals perm r
  cases q : fldsW (pick' perm ws) l [] [] with
  | none => rw [q] at f1; exact f1.elim
  | some z =>
    obtain ⟨ns, xs⟩ := z
    rw [q] at f1
    obtain ⟨ys, g1, g2, g3⟩ := flds_rel rv2 q
    obtain ⟨g4, g5⟩ := g3 [] rfl rfl
    have hlen : ns.length = xs.length := by rw [g5.length, ← g4, List.length_map, List.length_map]
    show wpAny _ _ (call (.ref C) [] (ks.zip us)) _ _ _
    obtain ⟨hp, g, d, t, os⟩ := s1
    have hn1 : H1 (hp.objs.size + 1) = none := I1.hok.fresh (Nat.le_succ _)
    refine wpAny_call (xmk_code W hr (E := fun _ _ _ => False) (us := []) (us' := pick' perm us) I1 (fun s z => ?_) r2 (by rw [h3, hn]) (Nat.zero_le _) g1 (g2 _) (fun dx s' zz => ?_) fun er s' zz => ?_)
    · have hbb := hb.to s [.ref (hp.objs.size + 1)] us rfl h1
      rw [show [Value.ref (hp.objs.size + 1)] ++ us = .ref (hp.objs.size + 1) :: us from rfl, pick_self] at hbb
      exact hbb
    · obtain ⟨v, H2, os2, bare2, un2, hok2, rv, ev, hd, hda, eH⟩ := zz
      obtain ⟨hh2, gg2, dd2, tt2, oo2⟩ := s'
      have ea : H2 (hp.objs.size + 1) = some (exo (hp.objs.size + 1) C (some dx)) := by rw [eH, upd_same]
      have ed : H2 dx = some (exd dx (fldsV l ys [])) := by rw [eH, upd_ne hda, upd_same]
      have eF : upd (del H2 (hp.objs.size + 1)) dx (.xd (fldsV l ys [])) = upd H1 dx (.xd (fldsV l ys [])) := by
        funext b
        by_cases y1 : b = dx
        · subst y1; rw [upd_same, upd_same]
        · rw [upd_ne y1, upd_ne y1]
          by_cases y2 : b = hp.objs.size + 1
          · subst y2; rw [del_same, hn1]
          · rw [del_ne y2, eH, upd_ne y2, upd_ne y1, upd_ne y2]
      refine mk_end (hp2 := XK.made hp C []) (raises_own W.T.exC W.T.tyC) I1 (Nat.le_succ _) (fun b o z => Heap.get?_push_of_some _ (Heap.get?_push_of_some _ z)) un2 hok2 os2 bare2 ea ed hd (hEQ _ _ _ ?_)
      rw [eF]
      have gg : Gr ρ1 H1 ρ1 (upd H1 dx (.xd (fldsV l ys []))) := Gr.fresh hd
      exact f1 C ρ1 _ dx (fldsV l ys []) hc gg (rl1.upd hd) upd_same (rl1.out hd) ⟨by show _ = (ns.zip xs).map (·.1); rw [zip_fst hlen]; exact g4, by show RVs _ _ _ ((ns.zip xs).map (·.2)) _; rw [zip_snd hlen]; exact RVs.mono gg _ g5⟩
    · obtain ⟨a, B, H', cls, d', _, _, _, _, _, _, _, z⟩ := zz
      exact z.elim
theorem s_raiseK (hcalm : X.calm = true) (tk : Takes X (WE1 E)) (W : XOk X.prog X.K X.mg C ps l fd) (hr : Room (k + 2) X.A) (hm : X.mg x = some (.ref C)) (hc : clsAt X.K nm = some C) (hb : BK fd ps 1 ks (0 :: perm.map (· + 1))) (hkw : PK X kws (ta X.K E mk)) {n m : Nat} (hn : ps.length = n + 1 := by rfl) (hm' : ks.length = m := by rfl) (hz : m ≤ 1000 := by decide)
    (hg : Gl X x := by rfl) (hdb : (x == ("__debug__" : Str)) = false := by decide) (hall : (backToKw pos (keywordEach kws X.env)).all (·.1.isSome) = true := by rfl) (hks : (backToKw pos (keywordEach kws X.env)).filterMap (·.1) = ks := by rfl) (hpl : ((backTo pos (starEach [] X.env)).any (·.1) || (backToKw pos (keywordEach kws X.env)).any (·.1.isNone)) = false := by rfl) :
    PS X (.Raise (some (.Call (.Name x p) [] kws pos)) none pos') (ts X.K E (sRaiseK nm l n m perm mk)) :=
  PS.imp (ps_raise hcalm tk (pmk_xk W hr hm hc hb hkw hn hm' hz hg hdb hall hks hpl)) fun D σ H ⟨ρ, M, env, rl, re, f⟩ => ⟨fun _ _ _ h => h, _, ρ, M, env, rl, re, f⟩
end
/-- the exception classes of a table, and whether an except clause takes them -/
def ETab (K : PySem.W.Frag) (c : Value) (t : List (Str × Bool)) : Prop := ∀ nm b, t.lookup nm = some b → ∀ D, clsAt K nm = some D → PySem.W.exmOne K (.ref D) c = some b
section
variable {P : Program} {K : PySem.W.Frag} {nm qn : Str} {st : Stmt} {fs : List Str} {C : Addr} {fd : FuncData} {c : Value} {b : Bool} {t : List (Str × Bool)}
theorem ETab.nil : ETab K c [] := fun _ _ h => by cases h
theorem ETab.cons (Z : XF P K nm qn st fs C fd) (h : PySem.W.exmOne K (.ref C) c = some b) (r : ETab K c t) : ETab K c ((nm, b) :: t) := fun d b' hc D hD => by
  rw [List.lookup_cons] at hc
  cases q : d == nm with
  | true =>
    have e : d = nm := by simpa using q
    subst e
    have hc : some b = some b' := by simpa [q] using hc
    cases hc
    rw [Z.loc] at hD
    cases hD
    exact h
  | false => exact r d b' (by simpa [q] using hc) D hD
end
end Mi

namespace Mi
open PySem PySem.Spec PyProof.Rows L2
/-! ### running mirrors: each turn by a row; what waits is named, no lambda stands in the goal -/
theorem noX_ok {α : Type} (a : α) (M : Mem) : noX (R.ok a M) = R.ok a M := rfl
section
variable (env : Ev) (M : Mem) (a b c : Me) (x y z : Wv) (t u : Mt) (s1 s2 : Ms) (ma mb : Ma) (ws us : List Wv)
theorem x_var (i : Nat) : mVar i env M = match env[i]? with | some (some w) => .ok w M | _ => .no := rfl
theorem x_c (w : Wv) : mC w env M = .ok w M := rfl
theorem x_dct (k) : mDct k env M = .ok (.dct (k.map (·.1)) (k.map (·.2))) M := rfl
theorem x_maN : maN env M = .ok [] M := rfl
theorem x_oN : moN env M = .ok none M := rfl
theorem x_nil : sNil env M = .ok (.nx env) M := rfl
theorem x_retN : sRetN env M = .ok (.ret .non) M := rfl
theorem x_brk : sBrk env M = .ok (.bk env) M := rfl
theorem x_cnt : sCnt env M = .ok (.ct env) M := rfl
theorem x_yes : mtYes env M = .ok true M := rfl
theorem x_tnm (i : Nat) (w : Wv) : Tg.set (.nm i) w env M = .ok (env.set i (some w)) M := rfl
def kBin2 (f : Wv → Wv → Mem → R Wv) (x : Wv) (r : R Wv) : R Wv := r.bind fun y M => f x y M
theorem kBin2_ok (f : Wv → Wv → Mem → R Wv) (x : Wv) (y : Wv) : kBin2 f x (.ok y M) = f x y M := (rfl)
def kBin1 (f : Wv → Wv → Mem → R Wv) (b : Me) (env : Ev) (r : R Wv) : R Wv := r.bind fun x M => kBin2 f x (b env M)
theorem kBin1_ok (f : Wv → Wv → Mem → R Wv) (b : Me) (env : Ev) (x : Wv) : kBin1 f b env (.ok x M) = kBin2 f x (b env M) := (rfl)
theorem x_bin (f) : mBin f a b env M = kBin1 f b env (a env M) := rfl
def kUn (f : Wv → Mem → R Wv) (r : R Wv) : R Wv := r.bind fun x M => f x M
theorem kUn_ok (f : Wv → Mem → R Wv) (x : Wv) : kUn f (.ok x M) = f x M := (rfl)
theorem x_un (f) : mUn f a env M = kUn f (a env M) := rfl
def kCons2 (x : Wv) (r : R (List Wv)) : R (List Wv) := r.bind fun xs M => R.ok (x :: xs) M
theorem kCons2_ok (x : Wv) (xs : (List Wv)) : kCons2 x (.ok xs M) = R.ok (x :: xs) M := (rfl)
def kCons1 (ma : Ma) (env : Ev) (r : R Wv) : R (List Wv) := r.bind fun x M => kCons2 x (ma env M)
theorem kCons1_ok (ma : Ma) (env : Ev) (x : Wv) : kCons1 ma env (.ok x M) = kCons2 x (ma env M) := (rfl)
theorem x_maC : maC a ma env M = kCons1 ma env (a env M) := rfl
def kTup  (r : R (List Wv)) : R Wv := r.bind fun ws M => if ws.length ≤ lim then R.ok (.tup ws) M else .no
theorem kTup_ok  (ws : (List Wv)) : kTup  (.ok ws M) = if ws.length ≤ lim then R.ok (.tup ws) M else .no := (rfl)
theorem x_tup : mTup ma env M = kTup (ma env M) := rfl
def kLst  (r : R (List Wv)) : R Wv := r.bind fun ws M => if ws.length ≤ lim then R.ok (.lst ws) M else .no
theorem kLst_ok  (ws : (List Wv)) : kLst  (.ok ws M) = if ws.length ≤ lim then R.ok (.lst ws) M else .no := (rfl)
theorem x_lst : mLst ma env M = kLst (ma env M) := rfl
def kNew  (r : R (List Wv)) : R Wv := r.bind fun ws M => if ws.length ≤ lim then R.ok (.ref M.length) (M ++ [.lst ws]) else .no
theorem kNew_ok  (ws : (List Wv)) : kNew  (.ok ws M) = if ws.length ≤ lim then R.ok (.ref M.length) (M ++ [.lst ws]) else .no := (rfl)
theorem x_new : mNew ma env M = kNew (ma env M) := rfl
def kCall (f : List Wv → Mem → R Wv) (r : R (List Wv)) : R Wv := r.bind fun ws M => f ws M
theorem kCall_ok (f : List Wv → Mem → R Wv) (ws : (List Wv)) : kCall f (.ok ws M) = f ws M := (rfl)
theorem x_call (f) : mCall f ma env M = kCall f (ma env M) := rfl
def kApp (n : Nat) (f : List Wv → Mem → R Wv) (r : R (List Wv)) : R Wv := r.bind fun ws M => if ws.length = n then f ws M else .no
theorem kApp_ok (n : Nat) (f : List Wv → Mem → R Wv) (ws : (List Wv)) : kApp n f (.ok ws M) = if ws.length = n then f ws M else .no := (rfl)
theorem x_app (n) (f) : mApp n f ma env M = kApp n f (ma env M) := rfl
def kAppK2 (n j l : Nat) (p : List Nat) (f : List Wv → Mem → R Wv) (us : List Wv) (r : R (List Wv)) : R Wv := r.bind fun ws M => if us.length = j ∧ ws.length = l ∧ (pick' p (us ++ ws)).length = n then f (pick' p (us ++ ws)) M else .no
theorem kAppK2_ok (n j l : Nat) (p : List Nat) (f : List Wv → Mem → R Wv) (us : List Wv) (ws : (List Wv)) : kAppK2 n j l p f us (.ok ws M) = if us.length = j ∧ ws.length = l ∧ (pick' p (us ++ ws)).length = n then f (pick' p (us ++ ws)) M else .no := (rfl)
def kAppK1 (n j l : Nat) (p : List Nat) (f : List Wv → Mem → R Wv) (mb : Ma) (env : Ev) (r : R (List Wv)) : R Wv := r.bind fun us M => kAppK2 n j l p f us (mb env M)
theorem kAppK1_ok (n j l : Nat) (p : List Nat) (f : List Wv → Mem → R Wv) (mb : Ma) (env : Ev) (us : (List Wv)) : kAppK1 n j l p f mb env (.ok us M) = kAppK2 n j l p f us (mb env M) := (rfl)
theorem x_appK (n j l) (p) (f) : mAppK n j l p f ma mb env M = kAppK1 n j l p f mb env (ma env M) := rfl
def kBl  (r : R Bool) : R Wv := r.bind fun q M => R.ok (.bl q) M
theorem kBl_ok  (q : Bool) : kBl  (.ok q M) = R.ok (.bl q) M := (rfl)
def kCmp2 (f : Wv → Wv → Mem → R Bool) (x : Wv) (r : R Wv) : R Bool := r.bind fun y M => f x y M
theorem kCmp2_ok (f : Wv → Wv → Mem → R Bool) (x : Wv) (y : Wv) : kCmp2 f x (.ok y M) = f x y M := (rfl)
def kCmp1 (f : Wv → Wv → Mem → R Bool) (b : Me) (env : Ev) (r : R Wv) : R Bool := r.bind fun x M => kCmp2 f x (b env M)
theorem kCmp1_ok (f : Wv → Wv → Mem → R Bool) (b : Me) (env : Ev) (x : Wv) : kCmp1 f b env (.ok x M) = kCmp2 f x (b env M) := (rfl)
theorem x_tcmp (f) : mtCmp f a b env M = kCmp1 f b env (a env M) := rfl
theorem x_cmp (f) : mCmp f a b env M = kBl (kCmp1 f b env (a env M)) := by
  unfold mCmp kBl kCmp1
  cases a env M with
  | ok x M1 =>
    show (b env M1).bind _ = (kCmp2 f x (b env M1)).bind _
    unfold kCmp2
    cases b env M1 <;> rfl
  | _ => rfl
def kTe  (r : R Wv) : R Bool := r.bind fun x M => asT x M
theorem kTe_ok  (x : Wv) : kTe  (.ok x M) = asT x M := (rfl)
theorem x_te : mtE a env M = kTe (a env M) := rfl
def kTnot  (r : R Bool) : R Bool := r.bind fun q M => R.ok (!q) M
theorem kTnot_ok  (q : Bool) : kTnot  (.ok q M) = R.ok (!q) M := (rfl)
theorem x_tnot : mtNot t env M = kTnot (t env M) := rfl
def kTand (u : Mt) (env : Ev) (r : R Bool) : R Bool := r.bind fun q M => if q = true then u env M else R.ok false M
theorem kTand_t (u : Mt) (env : Ev) : kTand u env (.ok true M) = u env M := (rfl)
theorem kTand_f (u : Mt) (env : Ev) : kTand u env (.ok false M) = R.ok false M := (rfl)
theorem x_tand : mtAnd t u env M = kTand u env (t env M) := rfl
def kTor (u : Mt) (env : Ev) (r : R Bool) : R Bool := r.bind fun q M => if q = true then R.ok true M else u env M
theorem kTor_t (u : Mt) (env : Ev) : kTor u env (.ok true M) = R.ok true M := (rfl)
theorem kTor_f (u : Mt) (env : Ev) : kTor u env (.ok false M) = u env M := (rfl)
theorem x_tor : mtOr t u env M = kTor u env (t env M) := rfl
def kAnd2 (b : Me) (env : Ev) (w : Wv) (r : R Bool) : R Wv := r.bind fun q M => if q = true then b env M else R.ok w M
theorem kAnd2_t (b : Me) (env : Ev) (w : Wv) : kAnd2 b env w (.ok true M) = b env M := (rfl)
theorem kAnd2_f (b : Me) (env : Ev) (w : Wv) : kAnd2 b env w (.ok false M) = R.ok w M := (rfl)
def kAnd1 (b : Me) (env : Ev) (r : R Wv) : R Wv := r.bind fun w M => kAnd2 b env w (asT w M)
theorem kAnd1_ok (b : Me) (env : Ev) (w : Wv) : kAnd1 b env (.ok w M) = kAnd2 b env w (asT w M) := (rfl)
theorem x_and : mAnd a b env M = kAnd1 b env (a env M) := rfl
def kOr2 (b : Me) (env : Ev) (w : Wv) (r : R Bool) : R Wv := r.bind fun q M => if q = true then R.ok w M else b env M
theorem kOr2_t (b : Me) (env : Ev) (w : Wv) : kOr2 b env w (.ok true M) = R.ok w M := (rfl)
theorem kOr2_f (b : Me) (env : Ev) (w : Wv) : kOr2 b env w (.ok false M) = b env M := (rfl)
def kOr1 (b : Me) (env : Ev) (r : R Wv) : R Wv := r.bind fun w M => kOr2 b env w (asT w M)
theorem kOr1_ok (b : Me) (env : Ev) (w : Wv) : kOr1 b env (.ok w M) = kOr2 b env w (asT w M) := (rfl)
theorem x_or : mOr a b env M = kOr1 b env (a env M) := rfl
def kNot2  (r : R Bool) : R Wv := r.bind fun q M => R.ok (.bl (!q)) M
theorem kNot2_ok  (q : Bool) : kNot2  (.ok q M) = R.ok (.bl (!q)) M := (rfl)
def kNot1  (r : R Wv) : R Wv := r.bind fun w M => kNot2 (asT w M)
theorem kNot1_ok  (w : Wv) : kNot1  (.ok w M) = kNot2 (asT w M) := (rfl)
theorem x_not : mNot a env M = kNot1 (a env M) := rfl
def kIf (a b : Me) (env : Ev) (r : R Bool) : R Wv := r.bind fun q M => if q = true then a env M else b env M
theorem kIf_t (a b : Me) (env : Ev) : kIf a b env (.ok true M) = a env M := (rfl)
theorem kIf_f (a b : Me) (env : Ev) : kIf a b env (.ok false M) = b env M := (rfl)
theorem x_if : mIf t a b env M = kIf a b env (t env M) := rfl
def kOS  (r : R Wv) : R (Option Int) := r.bind fun w M => match w with | .int i => R.ok (some i) M | _ => .no
theorem kOS_ok  (w : Wv) : kOS  (.ok w M) = match w with | .int i => R.ok (some i) M | _ => .no := (rfl)
theorem x_oS : moS a env M = kOS (a env M) := rfl
def kSl3 (x : Wv) (l : Option Int) (r : R (Option Int)) : R Wv := r.bind fun v M => match sqOf M x with | some (.l xs) => R.ok (.lst (cutW xs l v)) M | _ => .no
theorem kSl3_ok (x : Wv) (l : Option Int) (v : (Option Int)) : kSl3 x l (.ok v M) = match sqOf M x with | some (.l xs) => R.ok (.lst (cutW xs l v)) M | _ => .no := (rfl)
def kSl2 (x : Wv) (h : Mo) (env : Ev) (r : R (Option Int)) : R Wv := r.bind fun l M => kSl3 x l (h env M)
theorem kSl2_ok (x : Wv) (h : Mo) (env : Ev) (l : (Option Int)) : kSl2 x h env (.ok l M) = kSl3 x l (h env M) := (rfl)
def kSl1 (l h : Mo) (env : Ev) (r : R Wv) : R Wv := r.bind fun x M => kSl2 x h env (l env M)
theorem kSl1_ok (l h : Mo) (env : Ev) (x : Wv) : kSl1 l h env (.ok x M) = kSl2 x h env (l env M) := (rfl)
theorem x_sl (l h : Mo) : mSl a l h env M = kSl1 l h env (a env M) := rfl
def kSeq (s : Ms) (r : R Fl) : R Fl := r.bind fun fl M => andThen fl s M
theorem kSeq_ok (s : Ms) (fl : Fl) : kSeq s (.ok fl M) = andThen fl s M := (rfl)
theorem x_seq : sSeq s1 s2 env M = kSeq s2 (s1 env M) := rfl
theorem x_an (k : Ms) : andThen (.nx env) k M = k env M := rfl
theorem x_ar (w) (k : Ms) : andThen (.ret w) k M = .ok (.ret w) M := rfl
theorem x_ab (k : Ms) : andThen (.bk env) k M = .ok (.bk env) M := rfl
theorem x_ac (k : Ms) : andThen (.ct env) k M = .ok (.ct env) M := rfl
def kSet (i : Nat) (env : Ev) (r : R Wv) : R Fl := r.bind fun w M => R.ok (.nx (env.set i (some w))) M
theorem kSet_ok (i : Nat) (env : Ev) (w : Wv) : kSet i env (.ok w M) = R.ok (.nx (env.set i (some w))) M := (rfl)
theorem x_set (i) : sSet i a env M = kSet i env (a env M) := rfl
def kRet  (r : R Wv) : R Fl := r.bind fun w M => R.ok (.ret w) M
theorem kRet_ok  (w : Wv) : kRet  (.ok w M) = R.ok (.ret w) M := (rfl)
theorem x_ret : sRet a env M = kRet (a env M) := rfl
def kSif (s1 s2 : Ms) (env : Ev) (r : R Bool) : R Fl := r.bind fun q M => if q = true then s1 env M else s2 env M
theorem kSif_t (s1 s2 : Ms) (env : Ev) : kSif s1 s2 env (.ok true M) = s1 env M := (rfl)
theorem kSif_f (s1 s2 : Ms) (env : Ev) : kSif s1 s2 env (.ok false M) = s2 env M := (rfl)
theorem x_sif : sIf t s1 s2 env M = kSif s1 s2 env (t env M) := rfl
def kExp (env : Ev) (r : R Wv) : R Fl := r.bind fun w M => R.ok (.nx env) M
theorem kExp_ok (env : Ev) (w : Wv) : kExp env (.ok w M) = R.ok (.nx env) M := (rfl)
theorem x_exp : sExp a env M = kExp env (a env M) := rfl
def kPut4 (env : Ev) (r : R Unit) : R Fl := r.bind fun q M => R.ok (.nx env) M
theorem kPut4_ok (env : Ev) (q : Unit) : kPut4 env (.ok q M) = R.ok (.nx env) M := (rfl)
def kPut3 (env : Ev) (w o : Wv) (r : R Wv) : R Fl := r.bind fun i M => kPut4 env (setW o i w M)
theorem kPut3_ok (env : Ev) (w o : Wv) (i : Wv) : kPut3 env w o (.ok i M) = kPut4 env (setW o i w M) := (rfl)
def kPut2 (c : Me) (env : Ev) (w : Wv) (r : R Wv) : R Fl := r.bind fun o M => kPut3 env w o (c env M)
theorem kPut2_ok (c : Me) (env : Ev) (w : Wv) (o : Wv) : kPut2 c env w (.ok o M) = kPut3 env w o (c env M) := (rfl)
def kPut1 (b c : Me) (env : Ev) (r : R Wv) : R Fl := r.bind fun w M => kPut2 c env w (b env M)
theorem kPut1_ok (b c : Me) (env : Ev) (w : Wv) : kPut1 b c env (.ok w M) = kPut2 c env w (b env M) := (rfl)
theorem x_put : sPut a b c env M = kPut1 b c env (a env M) := rfl
def kPar2 (i j : Nat) (env : Ev) (r : R (List Wv)) : R Fl := r.bind fun ws M => match ws with | [p, q] => R.ok (.nx ((env.set i (some p)).set j (some q))) M | _ => .no
theorem kPar2_ok (i j : Nat) (env : Ev) (ws : (List Wv)) : kPar2 i j env (.ok ws M) = match ws with | [p, q] => R.ok (.nx ((env.set i (some p)).set j (some q))) M | _ => .no := (rfl)
theorem x_par2 (i j) : sPar2 i j ma env M = kPar2 i j env (ma env M) := rfl
def kPar3 (i j l : Nat) (env : Ev) (r : R (List Wv)) : R Fl := r.bind fun ws M => match ws with | [p, q, r] => R.ok (.nx (((env.set i (some p)).set j (some q)).set l (some r))) M | _ => .no
theorem kPar3_ok (i j l : Nat) (env : Ev) (ws : (List Wv)) : kPar3 i j l env (.ok ws M) = match ws with | [p, q, r] => R.ok (.nx (((env.set i (some p)).set j (some q)).set l (some r))) M | _ => .no := (rfl)
theorem x_par3 (i j l) : sPar3 i j l ma env M = kPar3 i j l env (ma env M) := rfl
def kFor (T : Tg) (s : Ms) (env : Ev) (r : R (List Wv)) : R Fl := r.bind fun ws M => forW T s ws env M
theorem kFor_ok (T : Tg) (s : Ms) (env : Ev) (ws : (List Wv)) : kFor T s env (.ok ws M) = forW T s ws env M := (rfl)
theorem x_for (T) (m : Mi') : sFor T m s1 env M = kFor T s1 env (m env M) := rfl
def kLc (vs : List Nat) (T : Tg) (t : Mt) (a : Me) (env : Ev) (r : R (List Wv)) : R Wv := r.bind fun ws M => lcW T t a (wipeE env vs) ws [] M
theorem kLc_ok (vs : List Nat) (T : Tg) (t : Mt) (a : Me) (env : Ev) (ws : (List Wv)) : kLc vs T t a env (.ok ws M) = lcW T t a (wipeE env vs) ws [] M := (rfl)
theorem x_lc (vs T) (m : Mi') : mLc vs T m t a env M = kLc vs T t a env (m env M) := rfl
def kFn  (r : R Fl) : R Wv := r.bind fun fl M => match fl with | .nx _ => R.ok .non M | .ret w => R.ok w M | _ => .no
theorem kFn_ok  (fl : Fl) : kFn  (.ok fl M) = match fl with | .nx _ => R.ok .non M | .ret w => R.ok w M | _ => .no := (rfl)
theorem x_fn (n) (ws : List Wv) : mFn n s1 ws M = kFn (s1 (evStart n ws) M) := rfl
def kSeqI  (r : R Wv) : R (List Wv) := r.bind fun w M => match w with | .lst xs => R.ok xs M | .rdl xs => R.ok xs M | .tup xs => R.ok xs M | _ => .no
theorem kSeqI_ok  (w : Wv) : kSeqI  (.ok w M) = match w with | .lst xs => R.ok xs M | .rdl xs => R.ok xs M | .tup xs => R.ok xs M | _ => .no := (rfl)
theorem x_seqI : mSeqI a env M = kSeqI (a env M) := rfl
def kRng1  (r : R Wv) : R (List Wv) := r.bind fun w M => match w with | .int j => if -1000000 ≤ j ∧ j ≤ 1000000 then R.ok (rng 0 j.toNat) M else .no | _ => .no
theorem kRng1_ok  (w : Wv) : kRng1  (.ok w M) = match w with | .int j => if -1000000 ≤ j ∧ j ≤ 1000000 then R.ok (rng 0 j.toNat) M else .no | _ => .no := (rfl)
theorem x_rng1 : mRng1 a env M = kRng1 (a env M) := rfl
theorem x_lc0 (T acc) : lcW T t a env [] acc M = .ok (.lst acc) M := rfl
def kLc4 (T : Tg) (t : Mt) (e : Me) (env : Ev) (ws acc : List Wv) (r : R Wv) : R Wv := r.bind fun x M => if acc.length < lim then lcW T t e env ws (acc ++ [x]) M else .no
theorem kLc4_ok (T : Tg) (t : Mt) (e : Me) (env : Ev) (ws acc : List Wv) (x : Wv) : kLc4 T t e env ws acc (.ok x M) = if acc.length < lim then lcW T t e env ws (acc ++ [x]) M else .no := (rfl)
def kLc3 (T : Tg) (t : Mt) (e : Me) (env env1 : Ev) (ws acc : List Wv) (r : R Bool) : R Wv := r.bind fun q M => if q = true then kLc4 T t e env ws acc (noX (e env1 M)) else lcW T t e env ws acc M
theorem kLc3_t (T : Tg) (t : Mt) (e : Me) (env env1 : Ev) (ws acc : List Wv) : kLc3 T t e env env1 ws acc (.ok true M) = kLc4 T t e env ws acc (noX (e env1 M)) := (rfl)
theorem kLc3_f (T : Tg) (t : Mt) (e : Me) (env env1 : Ev) (ws acc : List Wv) : kLc3 T t e env env1 ws acc (.ok false M) = lcW T t e env ws acc M := (rfl)
def kLc2 (T : Tg) (t : Mt) (e : Me) (env : Ev) (ws acc : List Wv) (r : R Ev) : R Wv := r.bind fun env1 M => kLc3 T t e env env1 ws acc (noX (t env1 M))
theorem kLc2_ok (T : Tg) (t : Mt) (e : Me) (env env1 : Ev) (ws acc : List Wv) : kLc2 T t e env ws acc (.ok env1 M) = kLc3 T t e env env1 ws acc (noX (t env1 M)) := (rfl)
theorem x_lc1 (T : Tg) (w acc) : lcW T t a env (w :: ws) acc M = kLc2 T t a env ws acc (noX (T.set w env M)) := by
  unfold kLc2
  rw [lcW]
  cases noX (T.set w env M) with
  | ok env1 M1 => rfl
  | _ => rfl
def kFor3 (T : Tg) (b : Ms) (ws : List Wv) (r : R Fl) : R Fl := r.bind fun fl M => match fl with
  | .nx env2 => forW T b ws env2 M
  | .ct env2 => forW T b ws env2 M
  | .bk env2 => .ok (.nx env2) M
  | .ret v => .ok (.ret v) M
theorem kFor3_n (T : Tg) (b : Ms) (ws : List Wv) : kFor3 T b ws (.ok (.nx env) M) = forW T b ws env M := (rfl)
theorem kFor3_c (T : Tg) (b : Ms) (ws : List Wv) : kFor3 T b ws (.ok (.ct env) M) = forW T b ws env M := (rfl)
theorem kFor3_b (T : Tg) (b : Ms) (ws : List Wv) : kFor3 T b ws (.ok (.bk env) M) = .ok (.nx env) M := (rfl)
theorem kFor3_r (T : Tg) (b : Ms) (ws : List Wv) (v) : kFor3 T b ws (.ok (.ret v) M) = .ok (.ret v) M := (rfl)
def kFor2 (T : Tg) (b : Ms) (ws : List Wv) (r : R Ev) : R Fl := r.bind fun env1 M => kFor3 T b ws (b env1 M)
theorem kFor2_ok (T : Tg) (b : Ms) (ws : List Wv) : kFor2 T b ws (.ok env M) = kFor3 T b ws (b env M) := (rfl)
theorem x_for0 (T) : forW T s1 [] env M = .ok (.nx env) M := rfl
theorem x_for1 (T : Tg) (w) : forW T s1 (w :: ws) env M = kFor2 T s1 ws (T.set w env M) := by
  unfold kFor2
  rw [forW]
  cases T.set w env M with
  | ok env1 M1 => rfl
  | _ => rfl
end
theorem un1_x (f : Wv → Mem → R Wv) (x : Wv) (M : Mem) : un1 f [x] M = f x M := rfl
theorem lim_is : lim = 100000 := rfl
theorem asT_bl (q : Bool) (M : Mem) : asT (.bl q) M = .ok q M := rfl
/-- one turn of a comprehension after another: its items by a plain function -/
theorem lc_map {T : Tg} {e : Me} {env : Ev} {f : Wv → Wv} {M : Mem} : ∀ {ws acc : List Wv}, (∀ w ∈ ws, (T.set w env M).bind (fun env1 M1 => e env1 M1) = .ok (f w) M) → acc.length + ws.length ≤ lim → lcW T mtYes e env ws acc M = .ok (.lst (acc ++ ws.map f)) M
  | [], acc, _, _ => by simp [lcW]
  | w :: ws, acc, h, hl => by
    have h0 := h w List.mem_cons_self
    rw [x_lc1]
    cases q : T.set w env M with
    | no => rw [q] at h0; cases h0
    | exc x M1 => rw [q] at h0; cases h0
    | ok env1 M1 =>
      rw [q] at h0
      have h0 : e env1 M1 = .ok (f w) M := h0
      simp only [List.length_cons] at hl
      rw [noX_ok, kLc2_ok, x_yes, noX_ok, kLc3_t, h0, noX_ok, kLc4_ok, if_pos (by omega), lc_map (fun w hw => h w (List.mem_cons_of_mem _ hw)) (by simp; omega)]
      simp
end Mi

namespace Mi
open PySem PySem.Spec PyProof.Rows L2
/-! ### operators on known kinds -/
section
variable (M : Mem) (i j : Int) (x : Wv)
theorem zv_add : addW (.int i) (.int j) M = .ok (.int (i + j)) M := rfl
theorem zv_sub : subW (.int i) (.int j) M = .ok (.int (i - j)) M := rfl
theorem zv_neg : negW (.int i) M = .ok (.int (-i)) M := rfl
theorem zv_mul : mulW (.int i) (.int j) M = if mulOk i j then .ok (.int (i * j)) M else .no := rfl
theorem zv_div : divW (.int i) (.int j) M = if 0 < j ∧ j < 1073741824 then .ok (.int (i / j)) M else .no := rfl
theorem zv_mod : modW (.int i) (.int j) M = if 0 < j then .ok (.int (i % j)) M else .no := rfl
theorem zv_pow : powW (.int i) (.int j) M = if 0 ≤ j ∧ j ≤ 1000000 ∧ i.natAbs < 2 ^ 64 then .ok (.int (i ^ j.toNat)) M else .no := rfl
theorem zv_cmp (p) : cmpW p (.int i) (.int j) M = .ok (p i j) M := rfl
theorem zv_isN (q) : isNW q x .non M = .ok (q ^^ isNonW x) M := rfl
theorem zv_isB (q b) : isBlW q x (.bl b) M = .ok (q ^^ blIs b x) M := rfl
theorem zv_int : int1 (.int i) M = .ok (.int i) M := rfl
theorem zv_intb (b) : int1 (.bl b) M = .ok (.int (if b then 1 else 0)) M := rfl
theorem zv_abs : abs1 (.int i) M = .ok (.int (if i < 0 then -i else i)) M := rfl
theorem zv_lenl (xs) : len1 (.lst xs) M = .ok (.int xs.length) M := rfl
theorem zv_lent (xs) : len1 (.tup xs) M = .ok (.int xs.length) M := rfl
theorem zv_is {ts : List Mi.Ty} {v : Wv} {t : Mi.Ty} (h : tyOf M v = some t) : isW ts v M = .ok (.bl (ts.any t.sub)) M := by unfold isW; rw [h]
theorem zv_ixl (xs) : ixW (.lst xs) (.int i) M = match atI xs i with | some w => .ok w M | none => .no := rfl
theorem zv_ixr {n : Nat} {xs} (h : M[n]? = some (.lst xs)) : ixW (.ref n) (.int i) M = match atI xs i with | some w => .ok w M | none => .no := by
  show (match (match M[n]? with | some (Ob.lst xs) => some (Sq.l xs) | _ => none) with | some s => (match atI s.xs i with | some w => R.ok w M | none => .no) | none => .no) = _
  rw [h] <;> rfl
theorem zv_put {n : Nat} {xs} {k : Nat} (h : M[n]? = some (.lst xs)) (hj : ixN xs.length i = some k) : setW (.ref n) (.int i) x M = .ok () (M.set n (.lst (xs.set k x))) := by
  show (match M[n]? with | some (Ob.lst xs) => (match ixN xs.length i with | some j => R.ok () (M.set n (.lst (xs.set j x))) | none => .no) | _ => .no) = _
  rw [h]
  show (match ixN xs.length i with | some j => R.ok () (M.set n (.lst (xs.set j x))) | none => .no) = _
  rw [hj]
end
local macro_rules | `(tactic| walk_at "ev") => `(tactic| (try simp only [noX_ok, x_var, x_c, x_dct, x_maN, x_oN, x_nil, x_retN, x_brk, x_cnt, x_yes, x_tnm, kBin2_ok, kBin1_ok, x_bin, kUn_ok, x_un, kCons2_ok, kCons1_ok, x_maC, kTup_ok, x_tup, kLst_ok, x_lst, kNew_ok, x_new, kCall_ok, x_call, kApp_ok, x_app, kAppK2_ok, kAppK1_ok, x_appK, kBl_ok, kCmp2_ok, kCmp1_ok, x_tcmp, x_cmp, kTe_ok, x_te, kTnot_ok, x_tnot, kTand_t, kTand_f, x_tand, kTor_t, kTor_f, x_tor, kAnd2_t, kAnd2_f, kAnd1_ok, x_and, kOr2_t, kOr2_f, kOr1_ok, x_or, kNot2_ok, kNot1_ok, x_not, kIf_t, kIf_f, x_if, kOS_ok, x_oS, kSl3_ok, kSl2_ok, kSl1_ok, x_sl, kSeq_ok, x_seq, x_an, x_ar, x_ab, x_ac, kSet_ok, x_set, kRet_ok, x_ret, kSif_t, kSif_f, x_sif, kExp_ok, x_exp, kPut4_ok, kPut3_ok, kPut2_ok, kPut1_ok, x_put, kPar2_ok, x_par2, kPar3_ok, x_par3, kFor_ok, x_for, kLc_ok, x_lc, kFn_ok, x_fn, kSeqI_ok, x_seqI, kRng1_ok, x_rng1, x_lc0, kLc4_ok, kLc3_t, kLc3_f, kLc2_ok, x_lc1, kFor3_n, kFor3_c, kFor3_b, kFor3_r, kFor2_ok, un1_x, asT_bl,
  evStart, wipeE, List.map_cons, List.map_nil, List.length_cons, List.length_nil, List.getElem?_cons_zero, List.getElem?_cons_succ, List.getElem?_nil, List.set_cons_zero, List.set_cons_succ, List.set_nil, List.replicate, List.cons_append, List.nil_append, Nat.reduceAdd, Nat.reduceSub, Nat.zero_add, Nat.reduceLeDiff,
  Bool.false_eq_true, if_true, if_false, reduceIte, Bool.not_true, Bool.not_false, lim_is, List.any_cons, List.any_nil, Ty.sub, Bool.or_false, Bool.or_true, Bool.false_or, Bool.true_or, Bool.false_xor, Bool.true_xor, Bool.xor_false, Bool.xor_true,
  zv_add, zv_sub, zv_neg, zv_mul, zv_div, zv_mod, zv_pow, zv_cmp, zv_isN, zv_isB, zv_int, zv_intb, zv_abs, zv_lenl, zv_lent, zv_ixl, isNonW]))

/-! ### what draws: the three helpers that every law here has, over their own numbers -/
def tellM (A B P C Q D Z S : Int) : Ms := sSeq (sSet 5 (mBin modW (mCall intW (maC (mBin powW (mBin addW (mBin addW (mBin modW (mCall intW (maC (mVar 4) (maN))) (mC (.int P))) (mBin mulW (mC (.int C)) (mVar 3))) (mC (.int B))) (mC (.int 5))) (maN))) (mC (.int Q)))) (sSeq (sSet 5 (mBin modW (mCall intW (maC (mBin powW (mBin addW (mBin addW (mBin mulW (mVar 5) (mBin addW (mBin mulW (mC (.int 2)) (mVar 3)) (mC (.int D)))) (mBin mulW (mBin mulW (mC (.int A)) (mVar 3)) (mVar 3))) (mC (.int C))) (mC (.int 3))) (maN))) (mC (.int Z)))) (sRet (mBin modW (mCall intW (maC (mBin divW (mVar 5) (mC (.int S))) (maN))) (mVar 1))))
def tellR (A B P C Q D Z S : Int) : Ms := sSeq (sIf (mtAnd (mtCmp ltW (mVar 3) (mCall lenW (maC (mBin ixW (mVar 0) (mC (.int 0))) (maN)))) (mtCmp geW (mCall absW (maC (mVar 4) (maN))) (mBin powW (mC (.int 10)) (mC (.int 18))))) (sSeq (sSet 2 (mBin addW (mBin mulW (mC (.int 2)) (mBin subW (mCall absW (maC (mVar 4) (maN))) (mBin powW (mC (.int 10)) (mC (.int 18))))) (mCall intW (maC (mCmp ltW (mVar 4) (mC (.int 0))) (maN))))) (sSeq (sPut (mBin divW (mVar 2) (mVar 1)) (mVar 0) (mC (.int 2))) (sRet (mBin modW (mCall intW (maC (mVar 2) (maN))) (mVar 1))))) (sNil)) (tellM A B P C Q D Z S)
def tellG (A B P C Q D Z S : Int) : List Wv → Mem → R Wv := mFn 6 (sSeq (sIf (mtCmp gtW (mBin ixW (mVar 0) (mC (.int 2))) (mC (.int 0))) (sSeq (sSet 2 (mCall intW (maC (mBin ixW (mVar 0) (mC (.int 2))) (maN)))) (sSeq (sPut (mBin divW (mVar 2) (mVar 1)) (mVar 0) (mC (.int 2))) (sRet (mBin modW (mCall intW (maC (mVar 2) (maN))) (mVar 1))))) (sNil)) (sSeq (sSet 3 (mBin ixW (mVar 0) (mC (.int 1)))) (sSeq (sPut (mBin addW (mVar 3) (mC (.int 1))) (mVar 0) (mC (.int 1))) (sSeq (sSet 4 (mBin addW (mBin mulW (mC (.int A)) (mVar 3)) (mC (.int B)))) (sSeq (sIf (mtCmp (eqW true) (mBin ixW (mVar 0) (mC (.int 0))) (mLst (maN))) (sSet 4 (mBin ixW (mBin ixW (mVar 0) (mC (.int 0))) (mBin modW (mCall intW (maC (mVar 3) (maN))) (mCall lenW (maC (mBin ixW (mVar 0) (mC (.int 0))) (maN)))))) (sNil)) (tellR A B P C Q D Z S))))))
def pawG (N : Int) : List Wv → Mem → R Wv := mFn 2 (sRet (mNew (maC (mLc [1] (.nm 1) (mSeqI (mSl (mVar 0) (moN) (moS (mC (.int N))))) (mtYes) (mCall intW (maC (mVar 1) (maN)))) (maC (mC (.int 0)) (maC (mC (.int 0)) (maN))))))
def pickG (f : List Wv → Mem → R Wv) : List Wv → Mem → R Wv := mFn 2 (sRet (mBin ixW (mVar 1) (mApp 2 f (maC (mVar 0) (maC (mCall lenW (maC (mVar 1) (maN))) (maN))))))
/-- what draws: its cells, how many were begun, what is left of a great one -/
def pawO (cs : List Int) (t r : Int) : Ob := .lst [.lst (cs.map .int), .int t, .int r]
theorem at0 {α : Type} (a b c : α) : atI [a, b, c] 0 = some a := rfl
theorem at1 {α : Type} (a b c : α) : atI [a, b, c] 1 = some b := rfl
theorem at2 {α : Type} (a b c : α) : atI [a, b, c] 2 = some c := rfl
theorem mulOk_l {i j : Int} (h : i.natAbs < 2 ^ 64) : mulOk i j = true := by unfold mulOk; rw [decide_eq_true h]; rfl
theorem mulOk_r {i j : Int} (h : j.natAbs < 2 ^ 64) : mulOk i j = true := by unfold mulOk; rw [decide_eq_true h, Bool.or_true]; rfl
theorem toDs_ints : ∀ cs : List Int, toDs (cs.map Wv.int) = some (cs.map PyData.int)
  | [] => rfl
  | c :: cs => by
    show (match toD (.int c), toDs (cs.map Wv.int) with | some d, some ds => some (d :: ds) | _, _ => none) = _
    rw [toDs_ints cs]
    rfl
theorem ints_shaped (cs : List Int) : SeqAt.shaped (.list (cs.map PyData.int)) = true := by
  have h1 : ∀ cs : List Int, PyData.canLayAll0 (cs.map PyData.int) = true := by
    intro cs
    induction cs with
    | nil => simp [PyData.canLayAll0]
    | cons c cs ih => simp [PyData.canLayAll0, PyData.canLay0, ih]
  have h2 : ∀ cs : List Int, PyData.depthAll (cs.map PyData.int) = 0 := by
    intro cs
    induction cs with
    | nil => simp [PyData.depthAll]
    | cons c cs ih => simp [PyData.depthAll, PyData.depth, ih]
  unfold SeqAt.shaped
  simp [PyData.canLay0, PyData.depth, h1, h2]
theorem zv_ne_nil (cs : List Int) (M : Mem) : eqW true (.lst (cs.map .int)) (.lst []) M = .ok (!cs.isEmpty) M := by
  have e1 : toDM M (.lst (cs.map .int)) = some (.list (cs.map PyData.int)) := by
    show (toDs (cs.map Wv.int)).map PyData.list = _
    rw [toDs_ints]; rfl
  have e2 : toDM M (.lst []) = some (.list []) := rfl
  unfold eqW
  rw [e1, e2]
  show (if (SeqAt.shaped (.list (cs.map PyData.int)) && SeqAt.shaped (.list [])) = true then _ else _) = _
  rw [ints_shaped, show SeqAt.shaped (.list []) = true from ints_shaped [], Bool.and_self, if_pos rfl]
  cases cs <;> simp [PyData.eqv, PyData.eqvAll]
theorem at_mod {cs : List Int} (h : cs ≠ []) (t : Int) : ∃ c, c ∈ cs ∧ atI (cs.map Wv.int) (t % (cs.length : Int)) = some (.int c) := by
  have hl : 0 < cs.length := List.length_pos_iff.mpr h
  have h1 := Int.emod_nonneg t (show (cs.length : Int) ≠ 0 by omega)
  have h2 := Int.emod_lt_of_pos t (show (0 : Int) < (cs.length : Int) by omega)
  obtain ⟨j, hj⟩ : ∃ j : Nat, t % (cs.length : Int) = (j : Int) := ⟨(t % (cs.length : Int)).toNat, by omega⟩
  rw [hj] at h2 ⊢
  have hlt : j < cs.length := by omega
  exact ⟨cs[j], List.getElem_mem hlt, atI_nat (by rw [List.getElem?_map, List.getElem?_eq_getElem hlt]; rfl)⟩
structure Nums (A B P C Q D Z S : Int) : Prop where
  a0 : 0 ≤ A
  a : A < 1000000
  b0 : 0 ≤ B
  b : B < 1000000
  p0 : 0 < P
  p : P < 4294967296
  c0 : 0 ≤ C
  c : C < 1000000
  q0 : 0 < Q
  q : Q < 4294967296
  d0 : 0 ≤ D
  d : D < 1000000
  z0 : 0 < Z
  s0 : 0 < S
  s : S < 1073741824
theorem set_get {M : Mem} {n : Nat} {o u : Ob} (h : M[n]? = some o) : (M.set n u)[n]? = some u := by
  rw [List.getElem?_set_self (List.getElem?_eq_some_iff.mp h).1]
theorem tell_rest {A B P C Q D Z S : Int} (K : Nums A B P C Q D Z S) {M : Mem} {n : Nat} {cs : List Int} {t r m c : Int} (h : M[n]? = some (pawO cs (t + 1) r)) (hm : 0 < m) (hm2 : m < 1073741824) (ht : 0 ≤ t) (ht2 : t ≤ 1000000) (hc : cs.length ≤ 1000) :
    ∃ k r', 0 ≤ k ∧ k < m ∧ kFn (tellR A B P C Q D Z S [some (.ref n), some (.int m), none, some (.int t), some (.int c), none] M) = .ok (.int k) (M.set n (pawO cs (t + 1) r')) := by
  have hlen : (cs.map Wv.int).length = cs.length := List.length_map ..
  have hA := K.a0
  have hA2 := K.a
  have hB := K.b0
  have hB2 := K.b
  have hC := K.c0
  have hC2 := K.c
  have hP := K.p0
  have hP2 := K.p
  have hQ := K.q0
  have hQ2 := K.q
  have hD := K.d0
  have hD2 := K.d
  have hZ := K.z0
  have hS := K.s0
  have hS2 := K.s
  have self : M.set n (pawO cs (t + 1) r) = M := by
    obtain ⟨h1, h2⟩ := List.getElem?_eq_some_iff.mp h
    rw [← h2, List.set_getElem_self]
  unfold tellR
  walk_at "ev"
  rw [zv_ixr _ 0 h, at0]
  walk_at "ev"
  rw [hlen]
  -- the mixed one
  have mix : ∃ k r', 0 ≤ k ∧ k < m ∧ kFn (tellM A B P C Q D Z S [some (.ref n), some (.int m), none, some (.int t), some (.int c), none] M) = .ok (.int k) (M.set n (pawO cs (t + 1) r')) := by
    unfold tellM
    walk_at "ev"
    rw [if_pos hP]
    walk_at "ev"
    rw [if_pos (mulOk_l (by omega))]
    walk_at "ev"
    have e1 := Int.emod_nonneg c (show P ≠ 0 by omega)
    have e2 := Int.emod_lt_of_pos c hP
    have e3 : 0 ≤ C * t := Int.mul_nonneg hC ht
    have e4 : C * t ≤ 1000000 * 1000000 := Int.mul_le_mul (by omega) ht2 ht (by omega)
    rw [if_pos (show (0 : Int) ≤ 5 ∧ (5 : Int) ≤ 1000000 ∧ (c % P + C * t + B).natAbs < 2 ^ 64 by omega)]
    walk_at "ev"
    rw [if_pos hQ]
    walk_at "ev"
    generalize hx : (c % P + C * t + B) ^ Int.toNat 5 % Q = x
    have x1 : 0 ≤ x := by rw [← hx]; exact Int.emod_nonneg _ (by omega)
    have x2 : x < 4294967296 := by rw [← hx]; exact Int.lt_trans (Int.emod_lt_of_pos _ hQ) hQ2
    have f1 : 0 ≤ A * t := Int.mul_nonneg hA ht
    have f2 : A * t ≤ 1000000 * 1000000 := Int.mul_le_mul (by omega) ht2 ht (by omega)
    have f3 : 0 ≤ A * t * t := Int.mul_nonneg f1 ht
    have f4 : A * t * t ≤ 1000000 * 1000000 * 1000000 := Int.mul_le_mul f2 ht2 ht (by omega)
    have f5 : 0 ≤ x * (2 * t + D) := Int.mul_nonneg x1 (by omega)
    have f6 : x * (2 * t + D) ≤ 4294967296 * 3000000 := Int.mul_le_mul (by omega) (by omega) (by omega) (by omega)
    rw [if_pos (mulOk_l (show (2 : Int).natAbs < 2 ^ 64 by decide))]
    walk_at "ev"
    rw [if_pos (mulOk_l (show x.natAbs < 2 ^ 64 by omega))]
    walk_at "ev"
    rw [if_pos (mulOk_l (show A.natAbs < 2 ^ 64 by omega))]
    walk_at "ev"
    rw [if_pos (mulOk_l (show (A * t).natAbs < 2 ^ 64 by omega))]
    walk_at "ev"
    rw [if_pos (show (0 : Int) ≤ 3 ∧ (3 : Int) ≤ 1000000 ∧ (x * (2 * t + D) + A * t * t + C).natAbs < 2 ^ 64 by omega)]
    walk_at "ev"
    rw [if_pos hZ]
    walk_at "ev"
    rw [if_pos ⟨hS, hS2⟩]
    walk_at "ev"
    rw [if_pos (show 0 < m from hm)]
    walk_at "ev"
    exact ⟨_, r, Int.emod_nonneg _ (by omega), Int.emod_lt_of_pos _ hm, by rw [self]⟩
  cases h1 : decide (t < (cs.length : Int)) with
  | false =>
    walk_at "ev"
    exact mix
  | true =>
    walk_at "ev"
    rw [if_pos (show (0 : Int) ≤ 18 ∧ (18 : Int) ≤ 1000000 ∧ (10 : Int).natAbs < 2 ^ 64 by decide)]
    walk_at "ev"
    generalize (if c < 0 then -c else c) = d
    generalize (10 : Int) ^ Int.toNat 18 = e
    cases h2 : decide (e ≤ d) with
    | false =>
      walk_at "ev"
      exact mix
    | true =>
      walk_at "ev"
      rw [if_pos (show (0 : Int) ≤ 18 ∧ (18 : Int) ≤ 1000000 ∧ (10 : Int).natAbs < 2 ^ 64 by decide)]
      walk_at "ev"
      rw [if_pos (mulOk_l (show (2 : Int).natAbs < 2 ^ 64 by decide))]
      walk_at "ev"
      rw [if_pos (show 0 < m ∧ m < 1073741824 from ⟨hm, hm2⟩)]
      walk_at "ev"
      rw [zv_put _ 2 _ (k := 2) h rfl]
      walk_at "ev"
      rw [if_pos (show 0 < m from hm)]
      walk_at "ev"
      exact ⟨_, _, Int.emod_nonneg _ (by omega), Int.emod_lt_of_pos _ hm, rfl⟩
theorem tell_ok {A B P C Q D Z S : Int} (K : Nums A B P C Q D Z S) {M : Mem} {n : Nat} {cs : List Int} {t r m : Int} (h : M[n]? = some (pawO cs t r)) (hm : 0 < m) (hm2 : m < 1073741824) (ht : 0 ≤ t) (ht2 : t ≤ 1000000) (hc : cs.length ≤ 1000) :
    ∃ k t' r', 0 ≤ k ∧ k < m ∧ t ≤ t' ∧ t' ≤ t + 1 ∧ tellG A B P C Q D Z S [.ref n, .int m] M = .ok (.int k) (M.set n (pawO cs t' r')) := by
  have hlen : (cs.map Wv.int).length = cs.length := List.length_map ..
  unfold tellG
  walk_at "ev"
  rw [zv_ixr M 2 h, at2]
  walk_at "ev"
  cases hr : decide (0 < r) with
  | true =>
    walk_at "ev"
    rw [zv_ixr M 2 h, at2]
    walk_at "ev"
    rw [if_pos (show 0 < m ∧ m < 1073741824 from ⟨hm, hm2⟩)]
    walk_at "ev"
    rw [zv_put M 2 _ (k := 2) h rfl]
    walk_at "ev"
    rw [if_pos (show 0 < m from hm)]
    walk_at "ev"
    exact ⟨r % m, t, r / m, Int.emod_nonneg _ (by omega), Int.emod_lt_of_pos _ hm, Int.le_refl _, by omega, rfl⟩
  | false =>
    have hA := K.a0
    have hA2 := K.a
    have hB := K.b0
    have hB2 := K.b
    have hC := K.c0
    have hC2 := K.c
    have hP := K.p0
    have hP2 := K.p
    have hQ := K.q0
    have hQ2 := K.q
    have hD := K.d0
    have hD2 := K.d
    have hZ := K.z0
    have hS := K.s0
    have hS2 := K.s
    have h2 : (M.set n (pawO cs (t + 1) r))[n]? = some (pawO cs (t + 1) r) := set_get h
    walk_at "ev"
    rw [zv_ixr M 1 h, at1]
    walk_at "ev"
    rw [zv_put M 1 _ (k := 1) h rfl]
    walk_at "ev"
    rw [if_pos (mulOk_l (by omega))]
    walk_at "ev"
    rw [show (Ob.lst [.lst (cs.map .int), .int (t + 1), .int r]) = pawO cs (t + 1) r from rfl]
    rw [zv_ixr _ 0 h2, at0]
    walk_at "ev"
    rw [zv_ne_nil]
    have rest := fun c => tell_rest (c := c) K (set_get (u := pawO cs (t + 1) r) h) hm hm2 ht ht2 hc
    cases hcs : cs.isEmpty with
    | true =>
      walk_at "ev"
      obtain ⟨k, r', h5, h6, h7⟩ := rest (A * t + B)
      exact ⟨k, t + 1, r', h5, h6, by omega, by omega, by rw [h7, List.set_set]⟩
    | false =>
      obtain ⟨c, h3, h4⟩ := at_mod (cs := cs) (by intro z; rw [z] at hcs; cases hcs) t
      have hl : (0 : Int) < ((cs.map Wv.int).length : Int) := by
        rw [hlen]
        cases cs with
        | nil => cases hcs
        | cons c cs => simp only [List.length_cons]; omega
      walk_at "ev"
      rw [zv_ixr _ 0 h2, at0]
      walk_at "ev"
      rw [zv_ixr _ 0 h2, at0]
      walk_at "ev"
      rw [if_pos hl]
      walk_at "ev"
      rw [hlen, h4]
      walk_at "ev"
      obtain ⟨k, r', h5, h6, h7⟩ := rest c
      exact ⟨k, t + 1, r', h5, h6, by omega, by omega, by rw [h7, List.set_set]⟩

theorem cut_take (xs : List Wv) (N : Nat) : cutW xs none (some (N : Int)) = xs.take N := by
  unfold cutW
  rw [HT.sIx_none, HT.sIx_nat, List.drop_zero, Nat.sub_zero]
  rcases Nat.le_total N xs.length with h | h
  · rw [Nat.min_eq_left h]
  · rw [Nat.min_eq_right h, List.take_length, List.take_of_length_le h]
theorem paw_ok (N : Nat) (ns : List Int) (M : Mem) (hN : N ≤ 1000) : pawG (N : Int) [.rdl (ns.map .int)] M = .ok (.ref M.length) (M ++ [pawO (ns.take N) 0 0]) := by
  have hl : ((ns.map Wv.int).take N).length ≤ 1000 := by rw [List.length_take]; omega
  unfold pawG
  walk_at "ev"
  rw [show sqOf M (.rdl (ns.map Wv.int)) = some (.l (ns.map Wv.int)) from rfl]
  walk_at "ev"
  rw [cut_take]
  walk_at "ev"
  rw [lc_map (f := fun w => w) (fun w hw => ?_) (by rw [lim_is]; simp only [List.length_nil]; omega)]
  · walk_at "ev"
    rw [List.map_id', ← List.map_take]
    rfl
  · obtain ⟨i, _, rfl⟩ := List.mem_map.mp (List.mem_of_mem_take hw)
    rfl
theorem pick_ok {A B P C Q D Z S : Int} (K : Nums A B P C Q D Z S) {M : Mem} {n : Nat} {cs : List Int} {t r : Int} {ws : List Wv} (h : M[n]? = some (pawO cs t r)) (hw : 0 < ws.length) (hw2 : ws.length ≤ 100000) (ht : 0 ≤ t) (ht2 : t ≤ 1000000) (hc : cs.length ≤ 1000) :
    ∃ w t' r', w ∈ ws ∧ t ≤ t' ∧ t' ≤ t + 1 ∧ pickG (tellG A B P C Q D Z S) [.ref n, .lst ws] M = .ok w (M.set n (pawO cs t' r')) := by
  obtain ⟨k, t', r', h1, h2, h3, h4, h5⟩ := tell_ok K (m := (ws.length : Int)) h (by omega) (by omega) ht ht2 hc
  obtain ⟨j, rfl⟩ : ∃ j : Nat, k = (j : Int) := ⟨k.toNat, by omega⟩
  have hlt : j < ws.length := by omega
  refine ⟨ws[j], t', r', List.getElem_mem hlt, h3, h4, ?_⟩
  unfold pickG
  walk_at "ev"
  rw [h5]
  walk_at "ev"
  rw [atI_nat (List.getElem?_eq_getElem hlt)]
  walk_at "ev"
end Mi

namespace Mi
open PySem PySem.Spec PyProof.Rows L2
/-! ### running mirrors of Ex, En -/
section
variable (env : Ev) (M : Mem) (a b c : Me) (x y z : Wv) (s1 s2 : Ms) (ma mb : Ma) (ws us : List Wv)
def kRs (C : Str) (l : List (Str × Nat)) (n : Nat) (r : R (List Wv)) : R Fl := r.bind fun ws M1 => if ws.length = n then (match fldsW ws l [] [] with
  | some (ns, xs) => .exc ⟨C, ns.zip xs⟩ M1
  | none => .no) else .no
theorem kRs_ok (C l n) : kRs C l n (.ok ws M) = if ws.length = n then (match fldsW ws l [] [] with
  | some (ns, xs) => R.exc ⟨C, ns.zip xs⟩ M
  | none => .no) else .no := (rfl)
theorem x_raise (C l n) : sRaise C l n ma env M = kRs C l n (ma env M) := rfl
def kTry (tab : List (Str × Bool)) (i : Nat) (suite : Ms) (env : Ev) (r : R Fl) : R Fl := match r with
  | .ok fl M1 => .ok fl M1
  | .exc x M1 => match tab.lookup x.cls with
    | some true => (noX (suite ((List.replicate env.length none).set i (some (.exc x.cls (x.fs.map (·.1)) (x.fs.map (·.2))))) M1)).bind fun fl M2 => .ok (fl.cut i) M2
    | some false => .exc x M1
    | none => .no
  | .no => .no
theorem kTry_ok (tab i fl) : kTry tab i s1 env (.ok fl M) = .ok fl M := (rfl)
theorem x_try (tab i) : sTry s1 tab i s2 env M = kTry tab i s2 env (s1 env M) := rfl
def kEnum (r : R Wv) : R (List Wv) := r.bind fun w M1 => match w with
  | .lst xs => .ok (enumL xs) M1
  | .rdl xs => .ok (enumL xs) M1
  | _ => .no
theorem kEnum_l (xs) : kEnum (.ok (.lst xs) M) = .ok (enumL xs) M := (rfl)
theorem x_enum : mEnum a env M = kEnum (a env M) := rfl
theorem x_ttp (is : List Nat) (xs : List Wv) : Tg.set (.tp is) (.tup xs) env M = if xs.length = is.length then .ok (setAll env is xs) M else .no := rfl
end
/-! ### tests and statements whose tests are known -/
section
variable {env : Ev} {M M1 M2 M3 : Mem} {t u : Mt} {s1 s2 : Ms} {a b : Me} {v w : Wv}
theorem tor_t (h : t env M = .ok true M1) : mtOr t u env M = .ok true M1 := by rw [x_tor, h, kTor_t]
theorem tor_f {q : Bool} (h1 : t env M = .ok false M1) (h2 : u env M1 = .ok q M2) : mtOr t u env M = .ok q M2 := by rw [x_tor, h1, kTor_f, h2]
theorem tand_f (h : t env M = .ok false M1) : mtAnd t u env M = .ok false M1 := by rw [x_tand, h, kTand_f]
theorem tand_t {q : Bool} (h1 : t env M = .ok true M1) (h2 : u env M1 = .ok q M2) : mtAnd t u env M = .ok q M2 := by rw [x_tand, h1, kTand_t, h2]
theorem tnot_ {q : Bool} (h : t env M = .ok q M1) : mtNot t env M = .ok (!q) M1 := by rw [x_tnot, h, kTnot_ok]
theorem sif_f {r : R Fl} (h : t env M = .ok false M1) (h2 : s2 env M1 = r) : sIf t s1 s2 env M = r := by rw [x_sif, h, kSif_f, h2]
theorem sif_t {r : R Fl} (h : t env M = .ok true M1) (h2 : s1 env M1 = r) : sIf t s1 s2 env M = r := by rw [x_sif, h, kSif_t, h2]
theorem seq_ {env1 : Ev} {r : R Fl} (h : s1 env M = .ok (.nx env1) M1) (h2 : s2 env1 M1 = r) : sSeq s1 s2 env M = r := by rw [x_seq, h, kSeq_ok, x_an, h2]
theorem seq_r (h : s1 env M = .ok (.ret v) M1) : sSeq s1 s2 env M = .ok (.ret v) M1 := by rw [x_seq, h, kSeq_ok, x_ar]
/-- a comprehension, its items kept and made by plain functions -/
theorem lc_filter {T : Tg} {e : Me} {p : Wv → Bool} {f : Wv → Wv} : ∀ {ws acc : List Wv}, (∀ w ∈ ws, ∃ env1, T.set w env M = .ok env1 M ∧ t env1 M = .ok (p w) M ∧ (p w = true → e env1 M = .ok (f w) M)) → acc.length + ws.length ≤ lim →
    lcW T t e env ws acc M = .ok (.lst (acc ++ (ws.filter p).map f)) M
  | [], acc, _, _ => by rw [x_lc0]; simp
  | w :: ws, acc, h, hl => by
    obtain ⟨env1, h1, h2, h3⟩ := h w List.mem_cons_self
    simp only [List.length_cons] at hl
    rw [x_lc1, h1, noX_ok, kLc2_ok, h2, noX_ok]
    cases q : p w with
    | true =>
      rw [kLc3_t, h3 q, noX_ok, kLc4_ok, if_pos (by omega), lc_filter (fun w hw => h w (List.mem_cons_of_mem _ hw)) (by simp; omega)]
      simp [List.filter_cons, q]
    | false =>
      rw [kLc3_f, lc_filter (fun w hw => h w (List.mem_cons_of_mem _ hw)) (by omega)]
      simp [List.filter_cons, q]
theorem zv_nei (i j : Int) (M : Mem) : eqW true (.int i) (.int j) M = .ok (!(i == j)) M := by
  show (if (SeqAt.shaped (.int i) && SeqAt.shaped (.int j)) = true then R.ok (true ^^ PyData.eqv (.int i) (.int j)) M else .no) = _
  rw [show ∀ i : Int, SeqAt.shaped (.int i) = true from fun i => by simp [SeqAt.shaped, PyData.canLay0, PyData.depth]]
  simp [PyData.eqv, show ∀ i : Int, SeqAt.shaped (.int i) = true from fun i => by simp [SeqAt.shaped, PyData.canLay0, PyData.depth]]
theorem zv_eqi (i j : Int) (M : Mem) : eqW false (.int i) (.int j) M = .ok (i == j) M := by
  show (if (SeqAt.shaped (.int i) && SeqAt.shaped (.int j)) = true then R.ok (false ^^ PyData.eqv (.int i) (.int j)) M else .no) = _
  simp [PyData.eqv, show ∀ i : Int, SeqAt.shaped (.int i) = true from fun i => by simp [SeqAt.shaped, PyData.canLay0, PyData.depth]]
theorem tcmp_ {f : Wv → Wv → Mem → R Bool} {q : Bool} (h1 : a env M = .ok v M1) (h2 : b env M1 = .ok w M2) (h : f v w M2 = .ok q M3) : mtCmp f a b env M = .ok q M3 := by rw [x_tcmp, h1, kCmp1_ok, h2, kCmp2_ok, h]
/-- the repr of a value, as far as it is data -/
def shownOf (v : Wv) : Str := match toDD v with | some d => d.shown | none => ""
def Shows (v : Wv) : Prop := PyData.strOk (shownOf v) = true ∧ ∀ M, repr2 v M = .ok (.str (shownOf v)) M
def okB (v : Wv) : Bool := match toDD v with | some d => reprOkD d && PyData.strOk d.shown | none => false
theorem shows_by {v : Wv} (h : okB v = true) (hn : ∀ M, toDDM M v = toDD v := by intro M; rfl) : Shows v := by
  unfold okB at h
  cases e : toDD v with
  | none => rw [e] at h; cases h
  | some d =>
    rw [e] at h
    rw [Bool.and_eq_true] at h
    have es : shownOf v = d.shown := by unfold shownOf; rw [e]
    rw [Shows, es]
    refine ⟨h.2, fun M => ?_⟩
    unfold repr2
    rw [hn, e]
    exact if_pos h.1
theorem zv_rr (x : Str) (h : PyData.strOk x = true) (M : Mem) : eqW true (.str x) (.str x) M = .ok false M := by
  show (if (SeqAt.shaped (.str x) && SeqAt.shaped (.str x)) = true then R.ok (true ^^ PyData.eqv (.str x) (.str x)) M else .no) = _
  rw [show SeqAt.shaped (.str x) = true from by simp [SeqAt.shaped, PyData.canLay0, PyData.depth, h]]
  simp [PyData.eqv]
theorem c_shown (h : a env M = .ok v M1) (hs : Shows v) : mCall reprD (maC a maN) env M = .ok (.str (shownOf v)) M1 := by
  rw [x_call, x_maC, h, kCons1_ok, x_maN, kCons2_ok, kCall_ok]
  exact hs.2 M1
theorem ne_repr (h1 : a env M = .ok v M1) (h2 : b env M1 = .ok v M2) (hs : Shows v) : mtCmp (eqW true) (mCall reprD (maC a maN)) (mCall reprD (maC b maN)) env M = .ok false M2 := by
  rw [x_tcmp, c_shown h1 hs, kCmp1_ok, c_shown h2 hs, kCmp2_ok, zv_rr _ hs.1]
end
end Mi

namespace Law
open PySem PySem.Spec PyProof.Rows L2 Mi
abbrev sAt (i : Nat) : Stmt := PySem.Challenge.pw_fourstones_k00_errors_keep_their_fields.main.body.getD i (.Pass ⟨0, 0, 0, 0⟩)
abbrev s_law_caught : Stmt := sAt 21
abbrev s_law_tell : Stmt := sAt 15
abbrev s_law_pick : Stmt := sAt 16
abbrev s_law_field : Stmt := sAt 17
abbrev s_law_is_plain : Stmt := sAt 20
abbrev s_law_parts : Stmt := sAt 18
abbrev s_law_paw : Stmt := sAt 14
abbrev s_law_which : Stmt := sAt 19
abbrev s_law : Stmt := sAt 22
def t_StoneError : List (Str × Bool) := [("BadNumber", true), ("BadFloor", true), ("BadCell", true), ("BadWall", true), ("BadMouse", true), ("BadTrip", true), ("BadScript", true), ("BadReckoner", true), ("Misfit", true), ("TooMany", true), ("BadText", true)]
def es_item : List Str := ["BadText"]
def es_line : List Str := ["BadText"]
def es_most : List Str := ["TooMany"]
def es_part : List Str := ["BadNumber", "BadFloor", "BadCell", "BadWall", "BadMouse", "BadTrip", "BadScript", "BadReckoner", "Misfit"]
def es_what : List Str := ["TooMany"]
def c_ArithmeticError : Cl := ⟨none, [], [("BadNumber", false), ("BadFloor", false), ("BadCell", false), ("BadWall", false), ("BadMouse", false), ("BadTrip", false), ("BadScript", false), ("BadReckoner", false), ("Misfit", false), ("TooMany", false), ("BadText", false)]⟩
def c_AttributeError : Cl := ⟨none, [], [("BadNumber", false), ("BadFloor", false), ("BadCell", false), ("BadWall", false), ("BadMouse", false), ("BadTrip", false), ("BadScript", false), ("BadReckoner", false), ("Misfit", false), ("TooMany", false), ("BadText", false)]⟩
def c_BadCell : Cl := ⟨none, [], [("BadNumber", false), ("BadFloor", false), ("BadCell", true), ("BadWall", false), ("BadMouse", false), ("BadTrip", false), ("BadScript", false), ("BadReckoner", false), ("Misfit", false), ("TooMany", false), ("BadText", false)]⟩
def c_BadFloor : Cl := ⟨none, [], [("BadNumber", false), ("BadFloor", true), ("BadCell", false), ("BadWall", false), ("BadMouse", false), ("BadTrip", false), ("BadScript", false), ("BadReckoner", false), ("Misfit", false), ("TooMany", false), ("BadText", false)]⟩
def c_BadMouse : Cl := ⟨none, [], [("BadNumber", false), ("BadFloor", false), ("BadCell", false), ("BadWall", false), ("BadMouse", true), ("BadTrip", false), ("BadScript", false), ("BadReckoner", false), ("Misfit", false), ("TooMany", false), ("BadText", false)]⟩
def c_BadNumber : Cl := ⟨none, [], [("BadNumber", true), ("BadFloor", false), ("BadCell", false), ("BadWall", false), ("BadMouse", false), ("BadTrip", false), ("BadScript", false), ("BadReckoner", false), ("Misfit", false), ("TooMany", false), ("BadText", false)]⟩
def c_BadReckoner : Cl := ⟨none, [], [("BadNumber", false), ("BadFloor", false), ("BadCell", false), ("BadWall", false), ("BadMouse", false), ("BadTrip", false), ("BadScript", false), ("BadReckoner", true), ("Misfit", false), ("TooMany", false), ("BadText", false)]⟩
def c_BadScript : Cl := ⟨none, [], [("BadNumber", false), ("BadFloor", false), ("BadCell", false), ("BadWall", false), ("BadMouse", false), ("BadTrip", false), ("BadScript", true), ("BadReckoner", false), ("Misfit", false), ("TooMany", false), ("BadText", false)]⟩
def c_BadText : Cl := ⟨none, [], [("BadNumber", false), ("BadFloor", false), ("BadCell", false), ("BadWall", false), ("BadMouse", false), ("BadTrip", false), ("BadScript", false), ("BadReckoner", false), ("Misfit", false), ("TooMany", false), ("BadText", true)]⟩
def c_BadTrip : Cl := ⟨none, [], [("BadNumber", false), ("BadFloor", false), ("BadCell", false), ("BadWall", false), ("BadMouse", false), ("BadTrip", true), ("BadScript", false), ("BadReckoner", false), ("Misfit", false), ("TooMany", false), ("BadText", false)]⟩
def c_BadWall : Cl := ⟨none, [], [("BadNumber", false), ("BadFloor", false), ("BadCell", false), ("BadWall", true), ("BadMouse", false), ("BadTrip", false), ("BadScript", false), ("BadReckoner", false), ("Misfit", false), ("TooMany", false), ("BadText", false)]⟩
def c_LookupError : Cl := ⟨none, [], [("BadNumber", false), ("BadFloor", false), ("BadCell", false), ("BadWall", false), ("BadMouse", false), ("BadTrip", false), ("BadScript", false), ("BadReckoner", false), ("Misfit", false), ("TooMany", false), ("BadText", false)]⟩
def c_Misfit : Cl := ⟨none, [], [("BadNumber", false), ("BadFloor", false), ("BadCell", false), ("BadWall", false), ("BadMouse", false), ("BadTrip", false), ("BadScript", false), ("BadReckoner", false), ("Misfit", true), ("TooMany", false), ("BadText", false)]⟩
def c_RuntimeError : Cl := ⟨none, [], [("BadNumber", false), ("BadFloor", false), ("BadCell", false), ("BadWall", false), ("BadMouse", false), ("BadTrip", false), ("BadScript", false), ("BadReckoner", false), ("Misfit", false), ("TooMany", false), ("BadText", false)]⟩
def c_StoneError : Cl := ⟨none, [], [("BadNumber", true), ("BadFloor", true), ("BadCell", true), ("BadWall", true), ("BadMouse", true), ("BadTrip", true), ("BadScript", true), ("BadReckoner", true), ("Misfit", true), ("TooMany", true), ("BadText", true)]⟩
def c_TooMany : Cl := ⟨none, [], [("BadNumber", false), ("BadFloor", false), ("BadCell", false), ("BadWall", false), ("BadMouse", false), ("BadTrip", false), ("BadScript", false), ("BadReckoner", false), ("Misfit", false), ("TooMany", true), ("BadText", false)]⟩
def c_TypeError : Cl := ⟨none, [], [("BadNumber", false), ("BadFloor", false), ("BadCell", false), ("BadWall", false), ("BadMouse", false), ("BadTrip", false), ("BadScript", false), ("BadReckoner", false), ("Misfit", false), ("TooMany", false), ("BadText", false)]⟩
def c_ValueError : Cl := ⟨none, [], [("BadNumber", true), ("BadFloor", true), ("BadCell", true), ("BadWall", true), ("BadMouse", true), ("BadTrip", true), ("BadScript", true), ("BadReckoner", true), ("Misfit", true), ("TooMany", true), ("BadText", true)]⟩
def i_law_caught_1 : Ms := sIf (mtCmp (eqW false) (mVar 1) (mC (.int 0))) (sRaise "BadCell" [("part", 1)] 1 (maC (mVar 0) (maN))) (sNil)
def i_law_caught_2 : Ms := sIf (mtCmp (eqW false) (mVar 1) (mC (.int 1))) (sRaiseK "Misfit" [("part", 1)] 1 1 [0] (maC (mVar 0) (maN))) (sNil)
def m_law_caught : List Wv → Mem → R Wv := mFn 3 (sTry (sSeq (i_law_caught_1) (sSeq (i_law_caught_2) (sRaise "BadReckoner" [("part", 1)] 1 (maC (mVar 0) (maN))))) t_StoneError 2 (sRet (mUn (fldW es_part [] "part") (mVar 2))))
def i_law_tell_1 : Ms := sIf (mtCmp gtW (mBin ixW (mVar 0) (mC (.int 2))) (mC (.int 0))) (sSeq (sSet 2 (mCall intW (maC (mBin ixW (mVar 0) (mC (.int 2))) (maN)))) (sSeq (sPut (mBin divW (mVar 2) (mVar 1)) (mVar 0) (mC (.int 2))) (sRet (mBin modW (mCall intW (maC (mVar 2) (maN))) (mVar 1))))) (sNil)
def i_law_tell_2 : Ms := sIf (mtCmp (eqW true) (mBin ixW (mVar 0) (mC (.int 0))) (mLst (maN))) (sSet 4 (mBin ixW (mBin ixW (mVar 0) (mC (.int 0))) (mBin modW (mCall intW (maC (mVar 3) (maN))) (mCall lenW (maC (mBin ixW (mVar 0) (mC (.int 0))) (maN)))))) (sNil)
def i_law_tell_3 : Ms := sIf (mtAnd (mtCmp ltW (mVar 3) (mCall lenW (maC (mBin ixW (mVar 0) (mC (.int 0))) (maN)))) (mtCmp geW (mCall absW (maC (mVar 4) (maN))) (mBin powW (mC (.int 10)) (mC (.int 18))))) (sSeq (sSet 2 (mBin addW (mBin mulW (mC (.int 2)) (mBin subW (mCall absW (maC (mVar 4) (maN))) (mBin powW (mC (.int 10)) (mC (.int 18))))) (mCall intW (maC (mCmp ltW (mVar 4) (mC (.int 0))) (maN))))) (sSeq (sPut (mBin divW (mVar 2) (mVar 1)) (mVar 0) (mC (.int 2))) (sRet (mBin modW (mCall intW (maC (mVar 2) (maN))) (mVar 1))))) (sNil)
def m_law_tell : List Wv → Mem → R Wv := mFn 6 (sSeq (i_law_tell_1) (sSeq (sSet 3 (mBin ixW (mVar 0) (mC (.int 1)))) (sSeq (sPut (mBin addW (mVar 3) (mC (.int 1))) (mVar 0) (mC (.int 1))) (sSeq (sSet 4 (mBin addW (mBin mulW (mC (.int 603695)) (mVar 3)) (mC (.int 124663)))) (sSeq (i_law_tell_2) (sSeq (i_law_tell_3) (sSeq (sSet 5 (mBin modW (mCall intW (maC (mBin powW (mBin addW (mBin addW (mBin modW (mCall intW (maC (mVar 4) (maN))) (mC (.int 2147483647))) (mBin mulW (mC (.int 458387)) (mVar 3))) (mC (.int 124663))) (mC (.int 5))) (maN))) (mC (.int 2147483629)))) (sSeq (sSet 5 (mBin modW (mCall intW (maC (mBin powW (mBin addW (mBin addW (mBin mulW (mVar 5) (mBin addW (mBin mulW (mC (.int 2)) (mVar 3)) (mC (.int 42613)))) (mBin mulW (mBin mulW (mC (.int 603695)) (mVar 3)) (mVar 3))) (mC (.int 458387))) (mC (.int 3))) (maN))) (mC (.int 2147483587)))) (sRet (mBin modW (mCall intW (maC (mBin divW (mVar 5) (mC (.int 64))) (maN))) (mVar 1)))))))))))
def m_law_pick : List Wv → Mem → R Wv := mFn 2 (sRet (mBin ixW (mVar 1) (mApp 2 m_law_tell (maC (mVar 0) (maC (mCall lenW (maC (mVar 1) (maN))) (maN))))))
def m_law_field : List Wv → Mem → R Wv := mFn 1 (sRet (mApp 2 m_law_pick (maC (mVar 0) (maC (mLst (maC (mC (.str "cell")) (maC (mC (.str "")) (maC (mC (.int 5)) (maC (mUn negW (mC (.int 1))) (maC (mC .non) (maC (mC (.bl true)) (maC (mTup (maC (mC (.int 1)) (maC (mC (.int 2)) (maN)))) (maC (mLst (maC (mC (.int 3)) (maC (mLst (maC (mC (.int 4)) (maN))) (maN)))) (maC (mBin powW (mC (.int 10)) (mC (.int 30))) (maC (mC (.str "two words")) (maC (mDct []) (maN))))))))))))) (maN)))))
def i_law_is_plain_1 : Ms := sIf (mtOr (mtNot (mtE (mUn (isO [c_StoneError]) (mVar 0)))) (mtNot (mtE (mUn (isO [c_ValueError]) (mVar 0))))) (sRet (mC (.bl false))) (sNil)
def m_law_is_plain : List Wv → Mem → R Wv := mFn 1 (sSeq (i_law_is_plain_1) (sRet (mNot (mUn (isO [c_LookupError, c_TypeError, c_ArithmeticError, c_AttributeError, c_RuntimeError]) (mVar 0)))))
def m_law_parts : List Wv → Mem → R Wv := mFn 2 (sSeq (sSet 1 (mLst (maC (mApp 1 (xmkW "BadNumber" [("part", 1)]) (maC (mVar 0) (maN))) (maC (mAppK 1 0 1 [0] (xmkW "BadFloor" [("part", 1)]) maN (maC (mVar 0) (maN))) (maC (mApp 1 (xmkW "BadCell" [("part", 1)]) (maC (mVar 0) (maN))) (maC (mAppK 1 0 1 [0] (xmkW "BadWall" [("part", 1)]) maN (maC (mVar 0) (maN))) (maC (mApp 1 (xmkW "BadMouse" [("part", 1)]) (maC (mVar 0) (maN))) (maC (mAppK 1 0 1 [0] (xmkW "BadTrip" [("part", 1)]) maN (maC (mVar 0) (maN))) (maC (mApp 1 (xmkW "BadScript" [("part", 1)]) (maC (mVar 0) (maN))) (maN)))))))))) (sRet (mBin addW (mVar 1) (mLst (maC (mAppK 1 0 1 [0] (xmkW "BadReckoner" [("part", 1)]) maN (maC (mVar 0) (maN))) (maC (mApp 1 (xmkW "Misfit" [("part", 1)]) (maC (mVar 0) (maN))) (maN)))))))
def e_law_paw_1 : Me := mCall intW (maC (mVar 1) (maN))
def m_law_paw : List Wv → Mem → R Wv := mFn 2 (sRet (mNew (maC (mLc [1] (.nm 1) (mSeqI (mSl (mVar 0) (moN) (moS (mC (.int 62))))) (mtYes) (e_law_paw_1)) (maC (mC (.int 0)) (maC (mC (.int 0)) (maN))))))
def m_law_which : List Wv → Mem → R Wv := mFn 2 (sSeq (sSet 1 (mLst (maC (mUn (isO [c_BadNumber]) (mVar 0)) (maC (mUn (isO [c_BadFloor]) (mVar 0)) (maC (mUn (isO [c_BadCell]) (mVar 0)) (maC (mUn (isO [c_BadWall]) (mVar 0)) (maN))))))) (sSeq (sSet 1 (mBin addW (mVar 1) (mLst (maC (mUn (isO [c_BadMouse]) (mVar 0)) (maC (mUn (isO [c_BadTrip]) (mVar 0)) (maC (mUn (isO [c_BadScript]) (mVar 0)) (maC (mUn (isO [c_BadReckoner]) (mVar 0)) (maN)))))))) (sRet (mBin addW (mVar 1) (mLst (maC (mUn (isO [c_Misfit]) (mVar 0)) (maC (mUn (isO [c_TooMany]) (mVar 0)) (maC (mUn (isO [c_BadText]) (mVar 0)) (maN)))))))))
def t_law_1 : Mt := mtCmp (eqW true) (mUn (fldW es_part [] "part") (mVar 3)) (mVar 2)
def i_law_2 : Ms := sIf (mtOr (mtCmp (eqW true) (mLc [3] (.nm 3) (mSeqI (mApp 1 m_law_parts (maC (mVar 2) (maN)))) (t_law_1) (mVar 3)) (mLst (maN))) (mtOr (mtCmp (eqW true) (mUn (fldW es_most [] "most") (mApp 2 (xmkW "TooMany" [("what", 1), ("most", 2)]) (maC (mVar 2) (maC (mVar 2) (maN))))) (mVar 2)) (mtCmp (eqW true) (mUn (fldW es_item [] "item") (mApp 2 (xmkW "BadText" [("line", 1), ("item", 2)]) (maC (mVar 2) (maC (mVar 2) (maN))))) (mVar 2)))) (sRet (mC (.bl false))) (sNil)
def e_law_3 : Me := mCmp (eqW false) (mVar 9) (mVar 8)
def i_law_4 : Ms := sIf (mtOr (mtCmp (eqW true) (mApp 1 m_law_which (maC (mVar 3) (maN))) (mLc [9] (.nm 9) (mRng1 (mC (.int 11))) (mtYes) (e_law_3))) (mtCmp (eqW true) (mCall reprD (maC (mUn (fldW es_part [] "part") (mVar 3)) (maN))) (mCall reprD (maC (mVar 5) (maN))))) (sRet (mC (.bl false))) (sNil)
def i_law_5 : Ms := sIf (mtCmp (eqW false) (mVar 4) (mC (.int 1))) (sPar2 10 11 (maC (mAppK 2 0 2 [1, 0] (xmkW "TooMany" [("what", 1), ("most", 2)]) maN (maC (mVar 6) (maC (mVar 5) (maN)))) (maC (mAppK 2 0 2 [1, 0] (xmkW "BadText" [("line", 1), ("item", 2)]) maN (maC (mVar 6) (maC (mVar 5) (maN)))) (maN)))) (sNil)
def i_law_6 : Ms := sIf (mtCmp (eqW true) (mCall reprD (maC (mLst (maC (mUn (fldW es_what [] "what") (mVar 10)) (maC (mUn (fldW es_most [] "most") (mVar 10)) (maC (mUn (fldW es_line [] "line") (mVar 11)) (maC (mUn (fldW es_item [] "item") (mVar 11)) (maN)))))) (maN))) (mCall reprD (maC (mLst (maC (mVar 5) (maC (mVar 6) (maC (mVar 5) (maC (mVar 6) (maN)))))) (maN)))) (sRet (mC (.bl false))) (sNil)
def i_law_7 : Ms := sIf (mtOr (mtCmp (eqW true) (mApp 1 m_law_which (maC (mVar 10) (maN))) (mBin addW (mBin mulW (mLst (maC (mC (.bl false)) (maN))) (mC (.int 9))) (mLst (maC (mC (.bl true)) (maC (mC (.bl false)) (maN)))))) (mtCmp (eqW true) (mApp 1 m_law_which (maC (mVar 11) (maN))) (mBin addW (mBin mulW (mLst (maC (mC (.bl false)) (maN))) (mC (.int 10))) (mLst (maC (mC (.bl true)) (maN)))))) (sRet (mC (.bl false))) (sNil)
def t_law_8 : Mt := mtNot (mtE (mApp 1 m_law_is_plain (maC (mVar 3) (maN))))
def i_law_9 : Ms := sIf (mtOr (mtCmp (eqW true) (mLc [3] (.nm 3) (mSeqI (mBin addW (mVar 7) (mLst (maC (mVar 10) (maC (mVar 11) (maN)))))) (t_law_8) (mVar 3)) (mLst (maN))) (mtCmp (eqW true) (mCall reprD (maC (mApp 2 m_law_caught (maC (mVar 5) (maC (mApp 2 m_law_tell (maC (mVar 1) (maC (mC (.int 3)) (maN)))) (maN)))) (maN))) (mCall reprD (maC (mVar 5) (maN))))) (sRet (mC (.bl false))) (sNil)
def b_law_10 : Ms := sSeq (sPar2 5 6 (maC (mApp 1 m_law_field (maC (mVar 1) (maN))) (maC (mApp 1 m_law_field (maC (mVar 1) (maN))) (maN)))) (sSeq (sSet 7 (mApp 1 m_law_parts (maC (mVar 5) (maN)))) (sSeq (sFor (.tp [8, 3]) (mEnum (mVar 7)) (i_law_4)) (sSeq (sPar2 10 11 (maC (mApp 2 (xmkW "TooMany" [("what", 1), ("most", 2)]) (maC (mVar 5) (maC (mVar 6) (maN)))) (maC (mApp 2 (xmkW "BadText" [("line", 1), ("item", 2)]) (maC (mVar 5) (maC (mVar 6) (maN)))) (maN)))) (sSeq (i_law_5) (sSeq (i_law_6) (sSeq (i_law_7) (i_law_9)))))))
def m_law : List Wv → Mem → R Wv := mFn 12 (sSeq (sSet 1 (mApp 1 m_law_paw (maC (mVar 0) (maN)))) (sSeq (sSet 2 (mBin shlW (mC (.int 1)) (mBin addW (mC (.int 20000)) (mApp 2 m_law_tell (maC (mVar 1) (maC (mC (.int 99)) (maN))))))) (sSeq (i_law_2) (sSeq (sFor (.nm 4) (mRng1 (mC (.int 2))) (b_law_10)) (sRet (mC (.bl true)))))))
abbrev N_law_caught : List Str := ["_law_part", "_law_way", "caught"]
theorem sc_law_caught : FnScope ["_law_part", "_law_way", "caught"] ["_law_part", "_law_way"] (defScope s_law_caught) := ⟨rfl, rfl, rfl, by decide +kernel, rfl, by decide +kernel, by decide +kernel⟩
abbrev N_law_tell : List Str := ["_law_paw_here", "_law_many", "_law_rest", "_law_turn", "_law_cell", "_law_mixed"]
theorem sc_law_tell : FnScope ["_law_paw_here", "_law_many", "_law_rest", "_law_turn", "_law_cell", "_law_mixed"] ["_law_paw_here", "_law_many"] (defScope s_law_tell) := ⟨rfl, rfl, rfl, by decide +kernel, rfl, by decide +kernel, by decide +kernel⟩
abbrev N_law_pick : List Str := ["_law_paw_here", "_law_some"]
theorem sc_law_pick : FnScope ["_law_paw_here", "_law_some"] ["_law_paw_here", "_law_some"] (defScope s_law_pick) := ⟨rfl, rfl, rfl, by decide +kernel, rfl, by decide +kernel, by decide +kernel⟩
abbrev N_law_field : List Str := ["_law_paw_here"]
theorem sc_law_field : FnScope ["_law_paw_here"] ["_law_paw_here"] (defScope s_law_field) := ⟨rfl, rfl, rfl, by decide +kernel, rfl, by decide +kernel, by decide +kernel⟩
abbrev N_law_is_plain : List Str := ["_law_error"]
theorem sc_law_is_plain : FnScope ["_law_error"] ["_law_error"] (defScope s_law_is_plain) := ⟨rfl, rfl, rfl, by decide +kernel, rfl, by decide +kernel, by decide +kernel⟩
abbrev N_law_parts : List Str := ["_law_part", "_law_found"]
theorem sc_law_parts : FnScope ["_law_part", "_law_found"] ["_law_part"] (defScope s_law_parts) := ⟨rfl, rfl, rfl, by decide +kernel, rfl, by decide +kernel, by decide +kernel⟩
abbrev N_law_paw : List Str := ["_law_script", "_law_cell"]
theorem sc_law_paw : FnScope ["_law_script", "_law_cell"] ["_law_script"] (defScope s_law_paw) := ⟨rfl, rfl, rfl, by decide +kernel, rfl, by decide +kernel, by decide +kernel⟩
abbrev N_law_which : List Str := ["_law_error", "_law_found"]
theorem sc_law_which : FnScope ["_law_error", "_law_found"] ["_law_error"] (defScope s_law_which) := ⟨rfl, rfl, rfl, by decide +kernel, rfl, by decide +kernel, by decide +kernel⟩
abbrev N_law : List Str := ["_law_script", "_law_paw_here", "_law_great", "_law_error", "_law_turn", "_law_part", "_law_other", "_law_errors", "_law_at", "_law_spot", "_law_many", "_law_text"]
theorem sc_law : FnScope ["_law_script", "_law_paw_here", "_law_great", "_law_error", "_law_turn", "_law_part", "_law_other", "_law_errors", "_law_at", "_law_spot", "_law_many", "_law_text"] ["_law_script"] (defScope s_law) := ⟨rfl, rfl, rfl, by decide +kernel, rfl, by decide +kernel, by decide +kernel⟩
abbrev si_BadNumber : Stmt := inClass (sAt 2) 0
theorem ns_BadNumber : NdefX.NScope ["self", "part", "__class__"] ["self", "part"] ["__class__"] (defScope si_BadNumber) := NdefX.nscope_by (by decide +kernel)
theorem w_BadNumber {P : Program} {K : PySem.W.Frag} {mg : Str → Option Value} {C : Addr} {fd : FuncData} (Z : XF P K "BadNumber" "BadNumber.__init__" si_BadNumber ["part"] C fd) (hs : mg "super" = none) : XOk P K mg C ["self", "part"] [("part", 1)] fd :=
  Z.ok hs ns_BadNumber (slf := "self") rfl (fun _ _ _ => ⟨⟨_, _, _, _, _, _, _, _, _, _, rfl, rfl, rfl, fun _ => rfl, fun _ => rfl, fun _ => rfl⟩, rfl, rfl, rfl⟩) (fun _ _ _ => .cons rfl rfl rfl rfl rfl (fun _ => rfl) rfl rfl rfl rfl (.nil)) rfl (by simp) (by decide)
theorem wb_BadNumber {P : Program} {K : PySem.W.Frag} {C : Addr} {fd : FuncData} (Z : XF P K "BadNumber" "BadNumber.__init__" si_BadNumber ["part"] C fd) : Binds K fd ["self", "part"] [] := Z.binds fun _ _ _ _ _ _ _ us h => match us, h with | [_, _], _ => rfl
abbrev si_BadFloor : Stmt := inClass (sAt 3) 0
theorem ns_BadFloor : NdefX.NScope ["self", "part", "__class__"] ["self", "part"] ["__class__"] (defScope si_BadFloor) := NdefX.nscope_by (by decide +kernel)
theorem w_BadFloor {P : Program} {K : PySem.W.Frag} {mg : Str → Option Value} {C : Addr} {fd : FuncData} (Z : XF P K "BadFloor" "BadFloor.__init__" si_BadFloor ["part"] C fd) (hs : mg "super" = none) : XOk P K mg C ["self", "part"] [("part", 1)] fd :=
  Z.ok hs ns_BadFloor (slf := "self") rfl (fun _ _ _ => ⟨⟨_, _, _, _, _, _, _, _, _, _, rfl, rfl, rfl, fun _ => rfl, fun _ => rfl, fun _ => rfl⟩, rfl, rfl, rfl⟩) (fun _ _ _ => .cons rfl rfl rfl rfl rfl (fun _ => rfl) rfl rfl rfl rfl (.nil)) rfl (by simp) (by decide)
theorem wb_BadFloor {P : Program} {K : PySem.W.Frag} {C : Addr} {fd : FuncData} (Z : XF P K "BadFloor" "BadFloor.__init__" si_BadFloor ["part"] C fd) : Binds K fd ["self", "part"] [] := Z.binds fun _ _ _ _ _ _ _ us h => match us, h with | [_, _], _ => rfl
abbrev si_BadCell : Stmt := inClass (sAt 4) 0
theorem ns_BadCell : NdefX.NScope ["self", "part", "__class__"] ["self", "part"] ["__class__"] (defScope si_BadCell) := NdefX.nscope_by (by decide +kernel)
theorem w_BadCell {P : Program} {K : PySem.W.Frag} {mg : Str → Option Value} {C : Addr} {fd : FuncData} (Z : XF P K "BadCell" "BadCell.__init__" si_BadCell ["part"] C fd) (hs : mg "super" = none) : XOk P K mg C ["self", "part"] [("part", 1)] fd :=
  Z.ok hs ns_BadCell (slf := "self") rfl (fun _ _ _ => ⟨⟨_, _, _, _, _, _, _, _, _, _, rfl, rfl, rfl, fun _ => rfl, fun _ => rfl, fun _ => rfl⟩, rfl, rfl, rfl⟩) (fun _ _ _ => .cons rfl rfl rfl rfl rfl (fun _ => rfl) rfl rfl rfl rfl (.nil)) rfl (by simp) (by decide)
theorem wb_BadCell {P : Program} {K : PySem.W.Frag} {C : Addr} {fd : FuncData} (Z : XF P K "BadCell" "BadCell.__init__" si_BadCell ["part"] C fd) : Binds K fd ["self", "part"] [] := Z.binds fun _ _ _ _ _ _ _ us h => match us, h with | [_, _], _ => rfl
abbrev si_BadWall : Stmt := inClass (sAt 5) 0
theorem ns_BadWall : NdefX.NScope ["self", "part", "__class__"] ["self", "part"] ["__class__"] (defScope si_BadWall) := NdefX.nscope_by (by decide +kernel)
theorem w_BadWall {P : Program} {K : PySem.W.Frag} {mg : Str → Option Value} {C : Addr} {fd : FuncData} (Z : XF P K "BadWall" "BadWall.__init__" si_BadWall ["part"] C fd) (hs : mg "super" = none) : XOk P K mg C ["self", "part"] [("part", 1)] fd :=
  Z.ok hs ns_BadWall (slf := "self") rfl (fun _ _ _ => ⟨⟨_, _, _, _, _, _, _, _, _, _, rfl, rfl, rfl, fun _ => rfl, fun _ => rfl, fun _ => rfl⟩, rfl, rfl, rfl⟩) (fun _ _ _ => .cons rfl rfl rfl rfl rfl (fun _ => rfl) rfl rfl rfl rfl (.nil)) rfl (by simp) (by decide)
theorem wb_BadWall {P : Program} {K : PySem.W.Frag} {C : Addr} {fd : FuncData} (Z : XF P K "BadWall" "BadWall.__init__" si_BadWall ["part"] C fd) : Binds K fd ["self", "part"] [] := Z.binds fun _ _ _ _ _ _ _ us h => match us, h with | [_, _], _ => rfl
abbrev si_BadMouse : Stmt := inClass (sAt 6) 0
theorem ns_BadMouse : NdefX.NScope ["self", "part", "__class__"] ["self", "part"] ["__class__"] (defScope si_BadMouse) := NdefX.nscope_by (by decide +kernel)
theorem w_BadMouse {P : Program} {K : PySem.W.Frag} {mg : Str → Option Value} {C : Addr} {fd : FuncData} (Z : XF P K "BadMouse" "BadMouse.__init__" si_BadMouse ["part"] C fd) (hs : mg "super" = none) : XOk P K mg C ["self", "part"] [("part", 1)] fd :=
  Z.ok hs ns_BadMouse (slf := "self") rfl (fun _ _ _ => ⟨⟨_, _, _, _, _, _, _, _, _, _, rfl, rfl, rfl, fun _ => rfl, fun _ => rfl, fun _ => rfl⟩, rfl, rfl, rfl⟩) (fun _ _ _ => .cons rfl rfl rfl rfl rfl (fun _ => rfl) rfl rfl rfl rfl (.nil)) rfl (by simp) (by decide)
theorem wb_BadMouse {P : Program} {K : PySem.W.Frag} {C : Addr} {fd : FuncData} (Z : XF P K "BadMouse" "BadMouse.__init__" si_BadMouse ["part"] C fd) : Binds K fd ["self", "part"] [] := Z.binds fun _ _ _ _ _ _ _ us h => match us, h with | [_, _], _ => rfl
abbrev si_BadTrip : Stmt := inClass (sAt 7) 0
theorem ns_BadTrip : NdefX.NScope ["self", "part", "__class__"] ["self", "part"] ["__class__"] (defScope si_BadTrip) := NdefX.nscope_by (by decide +kernel)
theorem w_BadTrip {P : Program} {K : PySem.W.Frag} {mg : Str → Option Value} {C : Addr} {fd : FuncData} (Z : XF P K "BadTrip" "BadTrip.__init__" si_BadTrip ["part"] C fd) (hs : mg "super" = none) : XOk P K mg C ["self", "part"] [("part", 1)] fd :=
  Z.ok hs ns_BadTrip (slf := "self") rfl (fun _ _ _ => ⟨⟨_, _, _, _, _, _, _, _, _, _, rfl, rfl, rfl, fun _ => rfl, fun _ => rfl, fun _ => rfl⟩, rfl, rfl, rfl⟩) (fun _ _ _ => .cons rfl rfl rfl rfl rfl (fun _ => rfl) rfl rfl rfl rfl (.nil)) rfl (by simp) (by decide)
theorem wb_BadTrip {P : Program} {K : PySem.W.Frag} {C : Addr} {fd : FuncData} (Z : XF P K "BadTrip" "BadTrip.__init__" si_BadTrip ["part"] C fd) : Binds K fd ["self", "part"] [] := Z.binds fun _ _ _ _ _ _ _ us h => match us, h with | [_, _], _ => rfl
abbrev si_BadScript : Stmt := inClass (sAt 8) 0
theorem ns_BadScript : NdefX.NScope ["self", "part", "__class__"] ["self", "part"] ["__class__"] (defScope si_BadScript) := NdefX.nscope_by (by decide +kernel)
theorem w_BadScript {P : Program} {K : PySem.W.Frag} {mg : Str → Option Value} {C : Addr} {fd : FuncData} (Z : XF P K "BadScript" "BadScript.__init__" si_BadScript ["part"] C fd) (hs : mg "super" = none) : XOk P K mg C ["self", "part"] [("part", 1)] fd :=
  Z.ok hs ns_BadScript (slf := "self") rfl (fun _ _ _ => ⟨⟨_, _, _, _, _, _, _, _, _, _, rfl, rfl, rfl, fun _ => rfl, fun _ => rfl, fun _ => rfl⟩, rfl, rfl, rfl⟩) (fun _ _ _ => .cons rfl rfl rfl rfl rfl (fun _ => rfl) rfl rfl rfl rfl (.nil)) rfl (by simp) (by decide)
theorem wb_BadScript {P : Program} {K : PySem.W.Frag} {C : Addr} {fd : FuncData} (Z : XF P K "BadScript" "BadScript.__init__" si_BadScript ["part"] C fd) : Binds K fd ["self", "part"] [] := Z.binds fun _ _ _ _ _ _ _ us h => match us, h with | [_, _], _ => rfl
abbrev si_BadReckoner : Stmt := inClass (sAt 9) 0
theorem ns_BadReckoner : NdefX.NScope ["self", "part", "__class__"] ["self", "part"] ["__class__"] (defScope si_BadReckoner) := NdefX.nscope_by (by decide +kernel)
theorem w_BadReckoner {P : Program} {K : PySem.W.Frag} {mg : Str → Option Value} {C : Addr} {fd : FuncData} (Z : XF P K "BadReckoner" "BadReckoner.__init__" si_BadReckoner ["part"] C fd) (hs : mg "super" = none) : XOk P K mg C ["self", "part"] [("part", 1)] fd :=
  Z.ok hs ns_BadReckoner (slf := "self") rfl (fun _ _ _ => ⟨⟨_, _, _, _, _, _, _, _, _, _, rfl, rfl, rfl, fun _ => rfl, fun _ => rfl, fun _ => rfl⟩, rfl, rfl, rfl⟩) (fun _ _ _ => .cons rfl rfl rfl rfl rfl (fun _ => rfl) rfl rfl rfl rfl (.nil)) rfl (by simp) (by decide)
theorem wb_BadReckoner {P : Program} {K : PySem.W.Frag} {C : Addr} {fd : FuncData} (Z : XF P K "BadReckoner" "BadReckoner.__init__" si_BadReckoner ["part"] C fd) : Binds K fd ["self", "part"] [] := Z.binds fun _ _ _ _ _ _ _ us h => match us, h with | [_, _], _ => rfl
abbrev si_Misfit : Stmt := inClass (sAt 10) 0
theorem ns_Misfit : NdefX.NScope ["self", "part", "__class__"] ["self", "part"] ["__class__"] (defScope si_Misfit) := NdefX.nscope_by (by decide +kernel)
theorem w_Misfit {P : Program} {K : PySem.W.Frag} {mg : Str → Option Value} {C : Addr} {fd : FuncData} (Z : XF P K "Misfit" "Misfit.__init__" si_Misfit ["part"] C fd) (hs : mg "super" = none) : XOk P K mg C ["self", "part"] [("part", 1)] fd :=
  Z.ok hs ns_Misfit (slf := "self") rfl (fun _ _ _ => ⟨⟨_, _, _, _, _, _, _, _, _, _, rfl, rfl, rfl, fun _ => rfl, fun _ => rfl, fun _ => rfl⟩, rfl, rfl, rfl⟩) (fun _ _ _ => .cons rfl rfl rfl rfl rfl (fun _ => rfl) rfl rfl rfl rfl (.nil)) rfl (by simp) (by decide)
theorem wb_Misfit {P : Program} {K : PySem.W.Frag} {C : Addr} {fd : FuncData} (Z : XF P K "Misfit" "Misfit.__init__" si_Misfit ["part"] C fd) : Binds K fd ["self", "part"] [] := Z.binds fun _ _ _ _ _ _ _ us h => match us, h with | [_, _], _ => rfl
abbrev si_TooMany : Stmt := inClass (sAt 11) 0
theorem ns_TooMany : NdefX.NScope ["self", "what", "most", "__class__"] ["self", "what", "most"] ["__class__"] (defScope si_TooMany) := NdefX.nscope_by (by decide +kernel)
theorem w_TooMany {P : Program} {K : PySem.W.Frag} {mg : Str → Option Value} {C : Addr} {fd : FuncData} (Z : XF P K "TooMany" "TooMany.__init__" si_TooMany ["what", "most"] C fd) (hs : mg "super" = none) : XOk P K mg C ["self", "what", "most"] [("what", 1), ("most", 2)] fd :=
  Z.ok hs ns_TooMany (slf := "self") rfl (fun _ _ _ => ⟨⟨_, _, _, _, _, _, _, _, _, _, rfl, rfl, rfl, fun _ => rfl, fun _ => rfl, fun _ => rfl⟩, rfl, rfl, rfl⟩) (fun _ _ _ => .cons rfl rfl rfl rfl rfl (fun _ => rfl) rfl rfl rfl rfl (.cons rfl rfl rfl rfl rfl (fun _ => rfl) rfl rfl rfl rfl (.nil))) rfl (by simp) (by decide)
theorem wb_TooMany {P : Program} {K : PySem.W.Frag} {C : Addr} {fd : FuncData} (Z : XF P K "TooMany" "TooMany.__init__" si_TooMany ["what", "most"] C fd) : Binds K fd ["self", "what", "most"] [] := Z.binds fun _ _ _ _ _ _ _ us h => match us, h with | [_, _, _], _ => rfl
abbrev si_BadText : Stmt := inClass (sAt 12) 0
theorem ns_BadText : NdefX.NScope ["self", "line", "item", "__class__"] ["self", "line", "item"] ["__class__"] (defScope si_BadText) := NdefX.nscope_by (by decide +kernel)
theorem w_BadText {P : Program} {K : PySem.W.Frag} {mg : Str → Option Value} {C : Addr} {fd : FuncData} (Z : XF P K "BadText" "BadText.__init__" si_BadText ["line", "item"] C fd) (hs : mg "super" = none) : XOk P K mg C ["self", "line", "item"] [("line", 1), ("item", 2)] fd :=
  Z.ok hs ns_BadText (slf := "self") rfl (fun _ _ _ => ⟨⟨_, _, _, _, _, _, _, _, _, _, rfl, rfl, rfl, fun _ => rfl, fun _ => rfl, fun _ => rfl⟩, rfl, rfl, rfl⟩) (fun _ _ _ => .cons rfl rfl rfl rfl rfl (fun _ => rfl) rfl rfl rfl rfl (.cons rfl rfl rfl rfl rfl (fun _ => rfl) rfl rfl rfl rfl (.nil))) rfl (by simp) (by decide)
theorem wb_BadText {P : Program} {K : PySem.W.Frag} {C : Addr} {fd : FuncData} (Z : XF P K "BadText" "BadText.__init__" si_BadText ["line", "item"] C fd) : Binds K fd ["self", "line", "item"] [] := Z.binds fun _ _ _ _ _ _ _ us h => match us, h with | [_, _, _], _ => rfl
theorem wk_BadFloor_part {P : Program} {K : PySem.W.Frag} {C : Addr} {fd : FuncData} (Z : XF P K "BadFloor" "BadFloor.__init__" si_BadFloor ["part"] C fd) : BK fd ["self", "part"] 1 ["part"] (0 :: [0].map (· + 1)) := Z.bk fun _ _ _ _ _ _ _ us ws h1 h2 => match us, ws, h1, h2 with | [_], [_], _, _ => rfl
theorem wk_BadReckoner_part {P : Program} {K : PySem.W.Frag} {C : Addr} {fd : FuncData} (Z : XF P K "BadReckoner" "BadReckoner.__init__" si_BadReckoner ["part"] C fd) : BK fd ["self", "part"] 1 ["part"] (0 :: [0].map (· + 1)) := Z.bk fun _ _ _ _ _ _ _ us ws h1 h2 => match us, ws, h1, h2 with | [_], [_], _, _ => rfl
theorem wk_BadText_item_line {P : Program} {K : PySem.W.Frag} {C : Addr} {fd : FuncData} (Z : XF P K "BadText" "BadText.__init__" si_BadText ["line", "item"] C fd) : BK fd ["self", "line", "item"] 1 ["item", "line"] (0 :: [1, 0].map (· + 1)) := Z.bk fun _ _ _ _ _ _ _ us ws h1 h2 => match us, ws, h1, h2 with | [_], [_, _], _, _ => rfl
theorem wk_BadTrip_part {P : Program} {K : PySem.W.Frag} {C : Addr} {fd : FuncData} (Z : XF P K "BadTrip" "BadTrip.__init__" si_BadTrip ["part"] C fd) : BK fd ["self", "part"] 1 ["part"] (0 :: [0].map (· + 1)) := Z.bk fun _ _ _ _ _ _ _ us ws h1 h2 => match us, ws, h1, h2 with | [_], [_], _, _ => rfl
theorem wk_BadWall_part {P : Program} {K : PySem.W.Frag} {C : Addr} {fd : FuncData} (Z : XF P K "BadWall" "BadWall.__init__" si_BadWall ["part"] C fd) : BK fd ["self", "part"] 1 ["part"] (0 :: [0].map (· + 1)) := Z.bk fun _ _ _ _ _ _ _ us ws h1 h2 => match us, ws, h1, h2 with | [_], [_], _, _ => rfl
theorem wk_Misfit_part {P : Program} {K : PySem.W.Frag} {C : Addr} {fd : FuncData} (Z : XF P K "Misfit" "Misfit.__init__" si_Misfit ["part"] C fd) : BK fd ["self", "part"] 1 ["part"] (0 :: [0].map (· + 1)) := Z.bk fun _ _ _ _ _ _ _ us ws h1 h2 => match us, ws, h1, h2 with | [_], [_], _, _ => rfl
theorem wk_TooMany_most_what {P : Program} {K : PySem.W.Frag} {C : Addr} {fd : FuncData} (Z : XF P K "TooMany" "TooMany.__init__" si_TooMany ["what", "most"] C fd) : BK fd ["self", "what", "most"] 1 ["most", "what"] (0 :: [1, 0].map (· + 1)) := Z.bk fun _ _ _ _ _ _ _ us ws h1 h2 => match us, ws, h1, h2 with | [_], [_, _], _, _ => rfl
structure Txt (P : Program) (K : PySem.W.Frag) (mg : Str → Option Value) where
  A_BadCell : Addr
  g_BadCell : mg "BadCell" = some (.ref A_BadCell)
  A_BadFloor : Addr
  g_BadFloor : mg "BadFloor" = some (.ref A_BadFloor)
  A_BadMouse : Addr
  g_BadMouse : mg "BadMouse" = some (.ref A_BadMouse)
  A_BadNumber : Addr
  g_BadNumber : mg "BadNumber" = some (.ref A_BadNumber)
  A_BadReckoner : Addr
  g_BadReckoner : mg "BadReckoner" = some (.ref A_BadReckoner)
  A_BadScript : Addr
  g_BadScript : mg "BadScript" = some (.ref A_BadScript)
  A_BadText : Addr
  g_BadText : mg "BadText" = some (.ref A_BadText)
  A_BadTrip : Addr
  g_BadTrip : mg "BadTrip" = some (.ref A_BadTrip)
  A_BadWall : Addr
  g_BadWall : mg "BadWall" = some (.ref A_BadWall)
  A_Misfit : Addr
  g_Misfit : mg "Misfit" = some (.ref A_Misfit)
  A_StoneError : Addr
  g_StoneError : mg "StoneError" = some (.ref A_StoneError)
  A_TooMany : Addr
  g_TooMany : mg "TooMany" = some (.ref A_TooMany)
  fi_BadNumber : FuncData
  Z_BadNumber : XF P K "BadNumber" "BadNumber.__init__" si_BadNumber ["part"] A_BadNumber fi_BadNumber
  x_BadNumber : XOk P K mg A_BadNumber ["self", "part"] [("part", 1)] fi_BadNumber
  b_BadNumber : Binds K fi_BadNumber ["self", "part"] []
  fi_BadFloor : FuncData
  Z_BadFloor : XF P K "BadFloor" "BadFloor.__init__" si_BadFloor ["part"] A_BadFloor fi_BadFloor
  x_BadFloor : XOk P K mg A_BadFloor ["self", "part"] [("part", 1)] fi_BadFloor
  b_BadFloor : Binds K fi_BadFloor ["self", "part"] []
  fi_BadCell : FuncData
  Z_BadCell : XF P K "BadCell" "BadCell.__init__" si_BadCell ["part"] A_BadCell fi_BadCell
  x_BadCell : XOk P K mg A_BadCell ["self", "part"] [("part", 1)] fi_BadCell
  b_BadCell : Binds K fi_BadCell ["self", "part"] []
  fi_BadWall : FuncData
  Z_BadWall : XF P K "BadWall" "BadWall.__init__" si_BadWall ["part"] A_BadWall fi_BadWall
  x_BadWall : XOk P K mg A_BadWall ["self", "part"] [("part", 1)] fi_BadWall
  b_BadWall : Binds K fi_BadWall ["self", "part"] []
  fi_BadMouse : FuncData
  Z_BadMouse : XF P K "BadMouse" "BadMouse.__init__" si_BadMouse ["part"] A_BadMouse fi_BadMouse
  x_BadMouse : XOk P K mg A_BadMouse ["self", "part"] [("part", 1)] fi_BadMouse
  b_BadMouse : Binds K fi_BadMouse ["self", "part"] []
  fi_BadTrip : FuncData
  Z_BadTrip : XF P K "BadTrip" "BadTrip.__init__" si_BadTrip ["part"] A_BadTrip fi_BadTrip
  x_BadTrip : XOk P K mg A_BadTrip ["self", "part"] [("part", 1)] fi_BadTrip
  b_BadTrip : Binds K fi_BadTrip ["self", "part"] []
  fi_BadScript : FuncData
  Z_BadScript : XF P K "BadScript" "BadScript.__init__" si_BadScript ["part"] A_BadScript fi_BadScript
  x_BadScript : XOk P K mg A_BadScript ["self", "part"] [("part", 1)] fi_BadScript
  b_BadScript : Binds K fi_BadScript ["self", "part"] []
  fi_BadReckoner : FuncData
  Z_BadReckoner : XF P K "BadReckoner" "BadReckoner.__init__" si_BadReckoner ["part"] A_BadReckoner fi_BadReckoner
  x_BadReckoner : XOk P K mg A_BadReckoner ["self", "part"] [("part", 1)] fi_BadReckoner
  b_BadReckoner : Binds K fi_BadReckoner ["self", "part"] []
  fi_Misfit : FuncData
  Z_Misfit : XF P K "Misfit" "Misfit.__init__" si_Misfit ["part"] A_Misfit fi_Misfit
  x_Misfit : XOk P K mg A_Misfit ["self", "part"] [("part", 1)] fi_Misfit
  b_Misfit : Binds K fi_Misfit ["self", "part"] []
  fi_TooMany : FuncData
  Z_TooMany : XF P K "TooMany" "TooMany.__init__" si_TooMany ["what", "most"] A_TooMany fi_TooMany
  x_TooMany : XOk P K mg A_TooMany ["self", "what", "most"] [("what", 1), ("most", 2)] fi_TooMany
  b_TooMany : Binds K fi_TooMany ["self", "what", "most"] []
  fi_BadText : FuncData
  Z_BadText : XF P K "BadText" "BadText.__init__" si_BadText ["line", "item"] A_BadText fi_BadText
  x_BadText : XOk P K mg A_BadText ["self", "line", "item"] [("line", 1), ("item", 2)] fi_BadText
  b_BadText : Binds K fi_BadText ["self", "line", "item"] []
  kb_BadFloor_part : BK fi_BadFloor ["self", "part"] 1 ["part"] (0 :: [0].map (· + 1))
  kb_BadReckoner_part : BK fi_BadReckoner ["self", "part"] 1 ["part"] (0 :: [0].map (· + 1))
  kb_BadText_item_line : BK fi_BadText ["self", "line", "item"] 1 ["item", "line"] (0 :: [1, 0].map (· + 1))
  kb_BadTrip_part : BK fi_BadTrip ["self", "part"] 1 ["part"] (0 :: [0].map (· + 1))
  kb_BadWall_part : BK fi_BadWall ["self", "part"] 1 ["part"] (0 :: [0].map (· + 1))
  kb_Misfit_part : BK fi_Misfit ["self", "part"] 1 ["part"] (0 :: [0].map (· + 1))
  kb_TooMany_most_what : BK fi_TooMany ["self", "what", "most"] 1 ["most", "what"] (0 :: [1, 0].map (· + 1))
  fe_item : FldE K es_item "item"
  fe_line : FldE K es_line "line"
  fe_most : FldE K es_most "most"
  fe_part : FldE K es_part "part"
  fe_what : FldE K es_what "what"
  k_ArithmeticError : ClOk K c_ArithmeticError (.type "ArithmeticError")
  k_AttributeError : ClOk K c_AttributeError (.type "AttributeError")
  k_BadCell : ClOk K c_BadCell (.ref A_BadCell)
  k_BadFloor : ClOk K c_BadFloor (.ref A_BadFloor)
  k_BadMouse : ClOk K c_BadMouse (.ref A_BadMouse)
  k_BadNumber : ClOk K c_BadNumber (.ref A_BadNumber)
  k_BadReckoner : ClOk K c_BadReckoner (.ref A_BadReckoner)
  k_BadScript : ClOk K c_BadScript (.ref A_BadScript)
  k_BadText : ClOk K c_BadText (.ref A_BadText)
  k_BadTrip : ClOk K c_BadTrip (.ref A_BadTrip)
  k_BadWall : ClOk K c_BadWall (.ref A_BadWall)
  k_LookupError : ClOk K c_LookupError (.type "LookupError")
  k_Misfit : ClOk K c_Misfit (.ref A_Misfit)
  k_RuntimeError : ClOk K c_RuntimeError (.type "RuntimeError")
  k_StoneError : ClOk K c_StoneError (.ref A_StoneError)
  k_TooMany : ClOk K c_TooMany (.ref A_TooMany)
  k_TypeError : ClOk K c_TypeError (.type "TypeError")
  k_ValueError : ClOk K c_ValueError (.type "ValueError")
  e_StoneError : ETab K (.ref A_StoneError) t_StoneError
  a_law_caught : Addr
  fd_law_caught : FuncData
  F_law_caught : Fun K "_law_caught" "_law_caught" s_law_caught a_law_caught fd_law_caught
  g_law_caught : mg "_law_caught" = some (.ref a_law_caught)
  b_law_caught : Binds K fd_law_caught ["_law_part", "_law_way"] []
  a_law_tell : Addr
  fd_law_tell : FuncData
  F_law_tell : Fun K "_law_tell" "_law_tell" s_law_tell a_law_tell fd_law_tell
  g_law_tell : mg "_law_tell" = some (.ref a_law_tell)
  b_law_tell : Binds K fd_law_tell ["_law_paw_here", "_law_many"] []
  a_law_pick : Addr
  fd_law_pick : FuncData
  F_law_pick : Fun K "_law_pick" "_law_pick" s_law_pick a_law_pick fd_law_pick
  g_law_pick : mg "_law_pick" = some (.ref a_law_pick)
  b_law_pick : Binds K fd_law_pick ["_law_paw_here", "_law_some"] []
  a_law_field : Addr
  fd_law_field : FuncData
  F_law_field : Fun K "_law_field" "_law_field" s_law_field a_law_field fd_law_field
  g_law_field : mg "_law_field" = some (.ref a_law_field)
  b_law_field : Binds K fd_law_field ["_law_paw_here"] []
  a_law_is_plain : Addr
  fd_law_is_plain : FuncData
  F_law_is_plain : Fun K "_law_is_plain" "_law_is_plain" s_law_is_plain a_law_is_plain fd_law_is_plain
  g_law_is_plain : mg "_law_is_plain" = some (.ref a_law_is_plain)
  b_law_is_plain : Binds K fd_law_is_plain ["_law_error"] []
  a_law_parts : Addr
  fd_law_parts : FuncData
  F_law_parts : Fun K "_law_parts" "_law_parts" s_law_parts a_law_parts fd_law_parts
  g_law_parts : mg "_law_parts" = some (.ref a_law_parts)
  b_law_parts : Binds K fd_law_parts ["_law_part"] []
  a_law_paw : Addr
  fd_law_paw : FuncData
  F_law_paw : Fun K "_law_paw" "_law_paw" s_law_paw a_law_paw fd_law_paw
  g_law_paw : mg "_law_paw" = some (.ref a_law_paw)
  b_law_paw : Binds K fd_law_paw ["_law_script"] []
  a_law_which : Addr
  fd_law_which : FuncData
  F_law_which : Fun K "_law_which" "_law_which" s_law_which a_law_which fd_law_which
  g_law_which : mg "_law_which" = some (.ref a_law_which)
  b_law_which : Binds K fd_law_which ["_law_error"] []
  a_law : Addr
  fd_law : FuncData
  F_law : Fun K "law" "law" s_law a_law fd_law
  g_law : mg "law" = some (.ref a_law)
  b_law : Binds K fd_law ["_law_script"] []
  n_ArithmeticError : mg "ArithmeticError" = none
  n_AttributeError : mg "AttributeError" = none
  n_LookupError : mg "LookupError" = none
  n_RuntimeError : mg "RuntimeError" = none
  n_TypeError : mg "TypeError" = none
  n_ValueError : mg "ValueError" = none
  n_abs : mg "abs" = none
  n_enumerate : mg "enumerate" = none
  n_int : mg "int" = none
  n_isinstance : mg "isinstance" = none
  n_len : mg "len" = none
  n_range : mg "range" = none
  n_repr : mg "repr" = none
section
variable {P : Program} {w : World} {K : PySem.W.Frag} {mg : Str → Option Value} {base : Heap}
theorem ok_law_caught (T : Txt P K mg)  : FnG P w K mg base 3 T.a_law_caught T.fd_law_caught ["_law_part", "_law_way"] m_law_caught := by
  refine FnG.of T.F_law_caught sc_law_caught fun cdv A outer s H E hr hgd hx tk => ?_
  exact s_one (s_try rfl rfl rfl sc_law_caught.nd (i := 2) rfl rfl ⟨rfl, by decide, .inl T.g_StoneError⟩ tk T.e_StoneError (fun E1 pn1 xe1 tk1 pw1 => s_cons (s_if (t_cmp (o_eq hr.units) (e_var (pv 1)) (e_int)) (s_one (s_raise (k := 0) rfl tk1 T.x_BadCell (hr.mono (by decide)) T.g_BadCell T.Z_BadCell.loc T.b_BadCell (a_cons (e_var (pv 0)) (a_nil)))) (s_nil)) (s_cons (s_if (t_cmp (o_eq hr.units) (e_var (pv 1)) (e_int)) (s_one (s_raiseK (k := 0) (perm := [0]) rfl tk1 T.x_Misfit (hr.mono (by decide)) T.g_Misfit T.Z_Misfit.loc T.kb_Misfit_part (k_cons (e_var (pv 0)) (k_nil)))) (s_nil)) (s_one (s_raise (k := 0) rfl tk1 T.x_BadReckoner (hr.mono (by decide)) T.g_BadReckoner T.Z_BadReckoner.loc T.b_BadReckoner (a_cons (e_var (pv 0)) (a_nil)))))) (fun a1 pn1 => s_one (s_ret (e_fld (e_var (pv 2)) T.fe_part FldI.nil))))
theorem ok_law_tell (T : Txt P K mg)  : FnG P w K mg base 1 T.a_law_tell T.fd_law_tell ["_law_paw_here", "_law_many"] m_law_tell := by
  refine FnG.of T.F_law_tell sc_law_tell fun cdv A outer s H E hr hgd hx tk => ?_
  exact s_cons (s_if (t_cmp o_gt (e_ix (e_var (pv 0)) (e_int)) (e_int)) (s_cons (s_set sc_law_tell.nd (e_ty c_int T.n_int PyProof.Rows.boot_int (a_cons (e_ix (e_var (pv 0)) (e_int)) (a_nil)))) (s_cons (s_put (e_bin o_div (e_var (pv 2)) (e_var (pv 1))) (e_var (pv 0)) (e_int)) (s_one (s_ret (e_bin o_mod (e_ty c_int T.n_int PyProof.Rows.boot_int (a_cons (e_var (pv 2)) (a_nil))) (e_var (pv 1))))))) (s_nil)) (s_cons (s_set sc_law_tell.nd (e_ix (e_var (pv 0)) (e_int))) (s_cons (s_put (e_bin o_add (e_var (pv 3)) (e_int)) (e_var (pv 0)) (e_int)) (s_cons (s_set sc_law_tell.nd (e_bin o_add (e_bin o_mul (e_int) (e_var (pv 3))) (e_int))) (s_cons (s_if (t_cmp (o_ne hr.units) (e_ix (e_var (pv 0)) (e_int)) (e_lst (a_nil))) (s_one (s_set sc_law_tell.nd (e_ix (e_ix (e_var (pv 0)) (e_int)) (e_bin o_mod (e_ty c_int T.n_int PyProof.Rows.boot_int (a_cons (e_var (pv 3)) (a_nil))) (e_bi c_len T.n_len PySem.boot_len (a_cons (e_ix (e_var (pv 0)) (e_int)) (a_nil))))))) (s_nil)) (s_cons (s_if (t_w (w_and (t_cmp o_lt (e_var (pv 3)) (e_bi c_len T.n_len PySem.boot_len (a_cons (e_ix (e_var (pv 0)) (e_int)) (a_nil)))) (w_one (t_cmp o_ge (e_bi c_abs T.n_abs PyProof.Rows.boot_abs (a_cons (e_var (pv 4)) (a_nil))) (e_bin o_pow (e_int) (e_int))) (.inl rfl)))) (s_cons (s_set sc_law_tell.nd (e_bin o_add (e_bin o_mul (e_int) (e_bin o_sub (e_bi c_abs T.n_abs PyProof.Rows.boot_abs (a_cons (e_var (pv 4)) (a_nil))) (e_bin o_pow (e_int) (e_int)))) (e_ty c_int T.n_int PyProof.Rows.boot_int (a_cons (e_cmp o_lt (e_var (pv 4)) (e_int)) (a_nil))))) (s_cons (s_put (e_bin o_div (e_var (pv 2)) (e_var (pv 1))) (e_var (pv 0)) (e_int)) (s_one (s_ret (e_bin o_mod (e_ty c_int T.n_int PyProof.Rows.boot_int (a_cons (e_var (pv 2)) (a_nil))) (e_var (pv 1))))))) (s_nil)) (s_cons (s_set sc_law_tell.nd (e_bin o_mod (e_ty c_int T.n_int PyProof.Rows.boot_int (a_cons (e_bin o_pow (e_bin o_add (e_bin o_add (e_bin o_mod (e_ty c_int T.n_int PyProof.Rows.boot_int (a_cons (e_var (pv 4)) (a_nil))) (e_int)) (e_bin o_mul (e_int) (e_var (pv 3)))) (e_int)) (e_int)) (a_nil))) (e_int))) (s_cons (s_set sc_law_tell.nd (e_bin o_mod (e_ty c_int T.n_int PyProof.Rows.boot_int (a_cons (e_bin o_pow (e_bin o_add (e_bin o_add (e_bin o_mul (e_var (pv 5)) (e_bin o_add (e_bin o_mul (e_int) (e_var (pv 3))) (e_int))) (e_bin o_mul (e_bin o_mul (e_int) (e_var (pv 3))) (e_var (pv 3)))) (e_int)) (e_int)) (a_nil))) (e_int))) (s_one (s_ret (e_bin o_mod (e_ty c_int T.n_int PyProof.Rows.boot_int (a_cons (e_bin o_div (e_var (pv 5)) (e_int)) (a_nil))) (e_var (pv 1))))))))))))
theorem ok_law_pick (T : Txt P K mg) (G_law_tell : FnG P w K mg base 1 T.a_law_tell T.fd_law_tell ["_law_paw_here", "_law_many"] m_law_tell) : FnG P w K mg base 2 T.a_law_pick T.fd_law_pick ["_law_paw_here", "_law_some"] m_law_pick := by
  refine FnG.of T.F_law_pick sc_law_pick fun cdv A outer s H E hr hgd hx tk => ?_
  exact s_one (s_ret (e_ix (e_var (pv 1)) (e_call (G_law_tell.up (by decide)) hr hgd hx T.g_law_tell T.F_law_tell.kp T.b_law_tell (a_cons (e_var (pv 0)) (a_cons (e_bi c_len T.n_len PySem.boot_len (a_cons (e_var (pv 1)) (a_nil))) (a_nil))))))
theorem ok_law_field (T : Txt P K mg) (G_law_pick : FnG P w K mg base 2 T.a_law_pick T.fd_law_pick ["_law_paw_here", "_law_some"] m_law_pick) : FnG P w K mg base 3 T.a_law_field T.fd_law_field ["_law_paw_here"] m_law_field := by
  refine FnG.of T.F_law_field sc_law_field fun cdv A outer s H E hr hgd hx tk => ?_
  exact s_one (s_ret (e_call (G_law_pick.up (by decide)) hr hgd hx T.g_law_pick T.F_law_pick.kp T.b_law_pick (a_cons (e_var (pv 0)) (a_cons (e_lst (a_cons (e_str) (a_cons (e_str) (a_cons (e_int) (a_cons (e_un o_neg (e_int)) (a_cons (e_non) (a_cons (e_bl) (a_cons (e_tup (a_cons (e_int) (a_cons (e_int) (a_nil)))) (a_cons (e_lst (a_cons (e_int) (a_cons (e_lst (a_cons (e_int) (a_nil))) (a_nil)))) (a_cons (e_bin o_pow (e_int) (e_int)) (a_cons (e_str) (a_cons (e_dct0) (a_nil))))))))))))) (a_nil)))))
theorem ok_law_is_plain (T : Txt P K mg)  : FnG P w K mg base 1 T.a_law_is_plain T.fd_law_is_plain ["_law_error"] m_law_is_plain := by
  refine FnG.of T.F_law_is_plain sc_law_is_plain fun cdv A outer s H E hr hgd hx tk => ?_
  exact s_cons (s_if (t_w (w_or (t_not (t_val (e_iso T.n_isinstance (e_var (pv 0)) (isClO rfl T.g_StoneError T.k_StoneError)))) (w_one (t_not (t_val (e_iso T.n_isinstance (e_var (pv 0)) (isClT rfl T.n_ValueError rfl T.k_ValueError)))) (.inr rfl)))) (s_one (s_ret (e_bl))) (s_nil)) (s_one (s_ret (e_not (e_isot T.n_isinstance (e_var (pv 0)) (.cons (isClT rfl T.n_LookupError rfl T.k_LookupError) (.cons (isClT rfl T.n_TypeError rfl T.k_TypeError) (.cons (isClT rfl T.n_ArithmeticError rfl T.k_ArithmeticError) (.cons (isClT rfl T.n_AttributeError rfl T.k_AttributeError) (.cons (isClT rfl T.n_RuntimeError rfl T.k_RuntimeError) (.nil))))))))))
theorem ok_law_parts (T : Txt P K mg)  : FnG P w K mg base 3 T.a_law_parts T.fd_law_parts ["_law_part"] m_law_parts := by
  refine FnG.of T.F_law_parts sc_law_parts fun cdv A outer s H E hr hgd hx tk => ?_
  exact s_cons (s_set sc_law_parts.nd (e_lst (a_cons (e_mkx (k := 0) T.x_BadNumber (hr.mono (by decide)) hx T.g_BadNumber T.Z_BadNumber.loc T.b_BadNumber (a_cons (e_var (pv 0)) (a_nil))) (a_cons (e_mkxK (k := 0) (perm := [0]) T.x_BadFloor (hr.mono (by decide)) hx T.g_BadFloor T.Z_BadFloor.loc T.kb_BadFloor_part (k_cons (e_var (pv 0)) (k_nil))) (a_cons (e_mkx (k := 0) T.x_BadCell (hr.mono (by decide)) hx T.g_BadCell T.Z_BadCell.loc T.b_BadCell (a_cons (e_var (pv 0)) (a_nil))) (a_cons (e_mkxK (k := 0) (perm := [0]) T.x_BadWall (hr.mono (by decide)) hx T.g_BadWall T.Z_BadWall.loc T.kb_BadWall_part (k_cons (e_var (pv 0)) (k_nil))) (a_cons (e_mkx (k := 0) T.x_BadMouse (hr.mono (by decide)) hx T.g_BadMouse T.Z_BadMouse.loc T.b_BadMouse (a_cons (e_var (pv 0)) (a_nil))) (a_cons (e_mkxK (k := 0) (perm := [0]) T.x_BadTrip (hr.mono (by decide)) hx T.g_BadTrip T.Z_BadTrip.loc T.kb_BadTrip_part (k_cons (e_var (pv 0)) (k_nil))) (a_cons (e_mkx (k := 0) T.x_BadScript (hr.mono (by decide)) hx T.g_BadScript T.Z_BadScript.loc T.b_BadScript (a_cons (e_var (pv 0)) (a_nil))) (a_nil)))))))))) (s_one (s_ret (e_bin o_add (e_var (pv 1)) (e_lst (a_cons (e_mkxK (k := 0) (perm := [0]) T.x_BadReckoner (hr.mono (by decide)) hx T.g_BadReckoner T.Z_BadReckoner.loc T.kb_BadReckoner_part (k_cons (e_var (pv 0)) (k_nil))) (a_cons (e_mkx (k := 0) T.x_Misfit (hr.mono (by decide)) hx T.g_Misfit T.Z_Misfit.loc T.b_Misfit (a_cons (e_var (pv 0)) (a_nil))) (a_nil)))))))
theorem ok_law_paw (T : Txt P K mg)  : FnG P w K mg base 1 T.a_law_paw T.fd_law_paw ["_law_script"] m_law_paw := by
  refine FnG.of T.F_law_paw sc_law_paw fun cdv A outer s H E hr hgd hx tk => ?_
  exact s_one (s_ret (e_new (a_cons (e_lc rfl sc_law_paw.nd (i_seq (e_sl (e_var (pv 0)) (o_none) (o_some (e_int)))) (blkOk_by (N := N_law_paw) (sc := (defScope s_law_paw)) (own := [("_law_cell", 1)]) (by decide +kernel)) (by decide) (fun _ _ _ _ _ => g_nm sc_law_paw.nd) (fun _ _ _ _ _ => ts_nil) (fun _ _ _ _ _ => e_ty c_int T.n_int PyProof.Rows.boot_int (a_cons (e_var (pv 1)) (a_nil)))) (a_cons (e_int) (a_cons (e_int) (a_nil))))))
theorem ok_law_which (T : Txt P K mg)  : FnG P w K mg base 1 T.a_law_which T.fd_law_which ["_law_error"] m_law_which := by
  refine FnG.of T.F_law_which sc_law_which fun cdv A outer s H E hr hgd hx tk => ?_
  exact s_cons (s_set sc_law_which.nd (e_lst (a_cons (e_iso T.n_isinstance (e_var (pv 0)) (isClO rfl T.g_BadNumber T.k_BadNumber)) (a_cons (e_iso T.n_isinstance (e_var (pv 0)) (isClO rfl T.g_BadFloor T.k_BadFloor)) (a_cons (e_iso T.n_isinstance (e_var (pv 0)) (isClO rfl T.g_BadCell T.k_BadCell)) (a_cons (e_iso T.n_isinstance (e_var (pv 0)) (isClO rfl T.g_BadWall T.k_BadWall)) (a_nil))))))) (s_cons (s_set sc_law_which.nd (e_bin o_add (e_var (pv 1)) (e_lst (a_cons (e_iso T.n_isinstance (e_var (pv 0)) (isClO rfl T.g_BadMouse T.k_BadMouse)) (a_cons (e_iso T.n_isinstance (e_var (pv 0)) (isClO rfl T.g_BadTrip T.k_BadTrip)) (a_cons (e_iso T.n_isinstance (e_var (pv 0)) (isClO rfl T.g_BadScript T.k_BadScript)) (a_cons (e_iso T.n_isinstance (e_var (pv 0)) (isClO rfl T.g_BadReckoner T.k_BadReckoner)) (a_nil)))))))) (s_one (s_ret (e_bin o_add (e_var (pv 1)) (e_lst (a_cons (e_iso T.n_isinstance (e_var (pv 0)) (isClO rfl T.g_Misfit T.k_Misfit)) (a_cons (e_iso T.n_isinstance (e_var (pv 0)) (isClO rfl T.g_TooMany T.k_TooMany)) (a_cons (e_iso T.n_isinstance (e_var (pv 0)) (isClO rfl T.g_BadText T.k_BadText)) (a_nil)))))))))
theorem ok_law (T : Txt P K mg) (G_law_caught : FnG P w K mg base 3 T.a_law_caught T.fd_law_caught ["_law_part", "_law_way"] m_law_caught) (G_law_field : FnG P w K mg base 3 T.a_law_field T.fd_law_field ["_law_paw_here"] m_law_field) (G_law_is_plain : FnG P w K mg base 1 T.a_law_is_plain T.fd_law_is_plain ["_law_error"] m_law_is_plain) (G_law_parts : FnG P w K mg base 3 T.a_law_parts T.fd_law_parts ["_law_part"] m_law_parts) (G_law_paw : FnG P w K mg base 1 T.a_law_paw T.fd_law_paw ["_law_script"] m_law_paw) (G_law_tell : FnG P w K mg base 1 T.a_law_tell T.fd_law_tell ["_law_paw_here", "_law_many"] m_law_tell) (G_law_which : FnG P w K mg base 1 T.a_law_which T.fd_law_which ["_law_error"] m_law_which) : FnG P w K mg base 4 T.a_law T.fd_law ["_law_script"] m_law := by
  refine FnG.of T.F_law sc_law fun cdv A outer s H E hr hgd hx tk => ?_
  exact s_cons (s_set sc_law.nd (e_call (G_law_paw.up (by decide)) hr hgd hx T.g_law_paw T.F_law_paw.kp T.b_law_paw (a_cons (e_var (pv 0)) (a_nil)))) (s_cons (s_set sc_law.nd (e_bin o_shl (e_int) (e_bin o_add (e_int) (e_call (G_law_tell.up (by decide)) hr hgd hx T.g_law_tell T.F_law_tell.kp T.b_law_tell (a_cons (e_var (pv 1)) (a_cons (e_int) (a_nil))))))) (s_cons (s_if (t_w (w_or (t_cmp (o_ne hr.units) (e_lc rfl sc_law.nd (i_seq (e_call (G_law_parts.up (by decide)) hr hgd hx T.g_law_parts T.F_law_parts.kp T.b_law_parts (a_cons (e_var (pv 2)) (a_nil)))) (blkOk_by (N := N_law) (sc := (defScope s_law)) (own := [("_law_error", 3)]) (by decide +kernel)) (by decide) (fun _ _ _ _ _ => g_nm sc_law.nd) (fun _ _ _ _ _ => ts_one (t_cmp (o_ne hr.units) (e_fld (e_var (pv 3)) T.fe_part FldI.nil) (e_var (pv 2)))) (fun _ _ _ _ _ => e_var (pv 3))) (e_lst (a_nil))) (w_or (t_cmp (o_ne hr.units) (e_fld (e_mkx (k := 0) T.x_TooMany (hr.mono (by decide)) hx T.g_TooMany T.Z_TooMany.loc T.b_TooMany (a_cons (e_var (pv 2)) (a_cons (e_var (pv 2)) (a_nil)))) T.fe_most FldI.nil) (e_var (pv 2))) (w_one (t_cmp (o_ne hr.units) (e_fld (e_mkx (k := 0) T.x_BadText (hr.mono (by decide)) hx T.g_BadText T.Z_BadText.loc T.b_BadText (a_cons (e_var (pv 2)) (a_cons (e_var (pv 2)) (a_nil)))) T.fe_item FldI.nil) (e_var (pv 2))) (.inr rfl))))) (s_one (s_ret (e_bl))) (s_nil)) (s_cons (s_for (passes_of rfl) rfl (i_rng1 T.n_range (e_int)) (g_nm sc_law.nd) (s_cons (s_par2 rfl sc_law.nd (a_cons (e_call (G_law_field.up (by decide)) hr hgd hx T.g_law_field T.F_law_field.kp T.b_law_field (a_cons (e_var (pv 1)) (a_nil))) (a_cons (e_call (G_law_field.up (by decide)) hr hgd hx T.g_law_field T.F_law_field.kp T.b_law_field (a_cons (e_var (pv 1)) (a_nil))) (a_nil)))) (s_cons (s_set sc_law.nd (e_call (G_law_parts.up (by decide)) hr hgd hx T.g_law_parts T.F_law_parts.kp T.b_law_parts (a_cons (e_var (pv 5)) (a_nil)))) (s_cons (s_for (passes_of rfl) rfl (i_enum T.n_enumerate (e_var (pv 7))) (g_tp rfl (gs_cons (g_nm sc_law.nd) (gs_cons (g_nm sc_law.nd) (gs_nil)))) (s_one (s_if (t_w (w_or (t_cmp (o_ne hr.units) (e_call (G_law_which.up (by decide)) hr hgd hx T.g_law_which T.F_law_which.kp T.b_law_which (a_cons (e_var (pv 3)) (a_nil))) (e_lc rfl sc_law.nd (i_rng1 T.n_range (e_int)) (blkOk_by (N := N_law) (sc := (defScope s_law)) (own := [("_law_spot", 9)]) (by decide +kernel)) (by decide) (fun _ _ _ _ _ => g_nm sc_law.nd) (fun _ _ _ _ _ => ts_nil) (fun _ _ _ _ _ => e_cmp (o_eq hr.units) (e_var (pv 9)) (e_var (pv 8))))) (w_one (t_cmp (o_ne hr.units) (e_bi (c_reprD hgd hr.units) T.n_repr PyProof.Rows.boot_repr (a_cons (e_fld (e_var (pv 3)) T.fe_part FldI.nil) (a_nil))) (e_bi (c_reprD hgd hr.units) T.n_repr PyProof.Rows.boot_repr (a_cons (e_var (pv 5)) (a_nil)))) (.inr rfl)))) (s_one (s_ret (e_bl))) (s_nil)))) (s_cons (s_par2 rfl sc_law.nd (a_cons (e_mkx (k := 0) T.x_TooMany (hr.mono (by decide)) hx T.g_TooMany T.Z_TooMany.loc T.b_TooMany (a_cons (e_var (pv 5)) (a_cons (e_var (pv 6)) (a_nil)))) (a_cons (e_mkx (k := 0) T.x_BadText (hr.mono (by decide)) hx T.g_BadText T.Z_BadText.loc T.b_BadText (a_cons (e_var (pv 5)) (a_cons (e_var (pv 6)) (a_nil)))) (a_nil)))) (s_cons (s_if (t_cmp (o_eq hr.units) (e_var (pv 4)) (e_int)) (s_one (s_par2 rfl sc_law.nd (a_cons (e_mkxK (k := 0) (perm := [1, 0]) T.x_TooMany (hr.mono (by decide)) hx T.g_TooMany T.Z_TooMany.loc T.kb_TooMany_most_what (k_cons (e_var (pv 6)) (k_cons (e_var (pv 5)) (k_nil)))) (a_cons (e_mkxK (k := 0) (perm := [1, 0]) T.x_BadText (hr.mono (by decide)) hx T.g_BadText T.Z_BadText.loc T.kb_BadText_item_line (k_cons (e_var (pv 6)) (k_cons (e_var (pv 5)) (k_nil)))) (a_nil))))) (s_nil)) (s_cons (s_if (t_cmp (o_ne hr.units) (e_bi (c_reprD hgd hr.units) T.n_repr PyProof.Rows.boot_repr (a_cons (e_lst (a_cons (e_fld (e_var (pv 10)) T.fe_what FldI.nil) (a_cons (e_fld (e_var (pv 10)) T.fe_most FldI.nil) (a_cons (e_fld (e_var (pv 11)) T.fe_line FldI.nil) (a_cons (e_fld (e_var (pv 11)) T.fe_item FldI.nil) (a_nil)))))) (a_nil))) (e_bi (c_reprD hgd hr.units) T.n_repr PyProof.Rows.boot_repr (a_cons (e_lst (a_cons (e_var (pv 5)) (a_cons (e_var (pv 6)) (a_cons (e_var (pv 5)) (a_cons (e_var (pv 6)) (a_nil)))))) (a_nil)))) (s_one (s_ret (e_bl))) (s_nil)) (s_cons (s_if (t_w (w_or (t_cmp (o_ne hr.units) (e_call (G_law_which.up (by decide)) hr hgd hx T.g_law_which T.F_law_which.kp T.b_law_which (a_cons (e_var (pv 10)) (a_nil))) (e_bin o_add (e_bin o_mul (e_lst (a_cons (e_bl) (a_nil))) (e_int)) (e_lst (a_cons (e_bl) (a_cons (e_bl) (a_nil)))))) (w_one (t_cmp (o_ne hr.units) (e_call (G_law_which.up (by decide)) hr hgd hx T.g_law_which T.F_law_which.kp T.b_law_which (a_cons (e_var (pv 11)) (a_nil))) (e_bin o_add (e_bin o_mul (e_lst (a_cons (e_bl) (a_nil))) (e_int)) (e_lst (a_cons (e_bl) (a_nil))))) (.inr rfl)))) (s_one (s_ret (e_bl))) (s_nil)) (s_one (s_if (t_w (w_or (t_cmp (o_ne hr.units) (e_lc rfl sc_law.nd (i_seq (e_bin o_add (e_var (pv 7)) (e_lst (a_cons (e_var (pv 10)) (a_cons (e_var (pv 11)) (a_nil)))))) (blkOk_by (N := N_law) (sc := (defScope s_law)) (own := [("_law_error", 3)]) (by decide +kernel)) (by decide) (fun _ _ _ _ _ => g_nm sc_law.nd) (fun _ _ _ _ _ => ts_one (t_not (t_val (e_call (G_law_is_plain.up (by decide)) hr hgd passL T.g_law_is_plain T.F_law_is_plain.kp T.b_law_is_plain (a_cons (e_var (pv 3)) (a_nil)))))) (fun _ _ _ _ _ => e_var (pv 3))) (e_lst (a_nil))) (w_one (t_cmp (o_ne hr.units) (e_bi (c_reprD hgd hr.units) T.n_repr PyProof.Rows.boot_repr (a_cons (e_call (G_law_caught.up (by decide)) hr hgd hx T.g_law_caught T.F_law_caught.kp T.b_law_caught (a_cons (e_var (pv 5)) (a_cons (e_call (G_law_tell.up (by decide)) hr hgd hx T.g_law_tell T.F_law_tell.kp T.b_law_tell (a_cons (e_var (pv 1)) (a_cons (e_int) (a_nil)))) (a_nil)))) (a_nil))) (e_bi (c_reprD hgd hr.units) T.n_repr PyProof.Rows.boot_repr (a_cons (e_var (pv 5)) (a_nil)))) (.inr rfl)))) (s_one (s_ret (e_bl))) (s_nil))))))))))) (s_one (s_ret (e_bl))))))
theorem ok_all (T : Txt P K mg) : FnG P w K mg base 4 T.a_law T.fd_law ["_law_script"] m_law := by
  have G_law_caught : FnG P w K mg base 3 T.a_law_caught T.fd_law_caught ["_law_part", "_law_way"] m_law_caught := ok_law_caught T 
  have G_law_tell : FnG P w K mg base 1 T.a_law_tell T.fd_law_tell ["_law_paw_here", "_law_many"] m_law_tell := ok_law_tell T 
  have G_law_pick : FnG P w K mg base 2 T.a_law_pick T.fd_law_pick ["_law_paw_here", "_law_some"] m_law_pick := ok_law_pick T G_law_tell
  have G_law_field : FnG P w K mg base 3 T.a_law_field T.fd_law_field ["_law_paw_here"] m_law_field := ok_law_field T G_law_pick
  have G_law_is_plain : FnG P w K mg base 1 T.a_law_is_plain T.fd_law_is_plain ["_law_error"] m_law_is_plain := ok_law_is_plain T 
  have G_law_parts : FnG P w K mg base 3 T.a_law_parts T.fd_law_parts ["_law_part"] m_law_parts := ok_law_parts T 
  have G_law_paw : FnG P w K mg base 1 T.a_law_paw T.fd_law_paw ["_law_script"] m_law_paw := ok_law_paw T 
  have G_law_which : FnG P w K mg base 1 T.a_law_which T.fd_law_which ["_law_error"] m_law_which := ok_law_which T 
  exact ok_law T G_law_caught G_law_field G_law_is_plain G_law_parts G_law_paw G_law_tell G_law_which
end
theorem all_mk {l : PySem.W.OpenLaw} {w : World} {K : PySem.W.Frag} {h : Heap} {mg : Str → Option Value} {fa f0 f1 f2 f3 f4 f5 f6 f7 f8 ac0 ac1 ac2 ac3 ac4 ac5 ac6 ac7 ac8 ac9 ac10 ac11 : Addr} (X : K.In h) (G : h.Ns mainGlobals mg) (hfa : mg "law" = some (.ref fa))
    {od0 od1 od2 od3 od4 od5 od6 od7 od8 an0 an1 an2 an3 an4 an5 an6 an7 an8 : Option Addr} {sl0 sl1 sl2 sl3 sl4 sl5 sl6 sl7 sl8 : Array (Option Value)} {oc0 oc1 oc2 oc3 oc4 oc5 oc6 oc7 oc8 kV0 kV1 kV2 kV3 kV4 kV5 kV6 kV7 kV8 dc0 dc1 dc2 dc3 dc4 dc5 dc6 dc7 dc8 pm0 pm1 pm2 pm3 pm4 pm5 pm6 pm7 pm8 cd0 cd1 cd2 cd3 cd4 cd5 cd6 cd7 cd8 ct0 ct1 ct2 ct3 ct4 ct5 ct6 ct7 ct8 : Value}  {fi_BadNumber : FuncData} {fi_BadFloor : FuncData} {fi_BadCell : FuncData} {fi_BadWall : FuncData} {fi_BadMouse : FuncData} {fi_BadTrip : FuncData} {fi_BadScript : FuncData} {fi_BadReckoner : FuncData} {fi_Misfit : FuncData} {fi_TooMany : FuncData} {fi_BadText : FuncData}
    (a_law_caught : PySem.W.nsIn K mainGlobals "_law_caught" = some (some (.ref f0)))
    (l_law_caught : K.lookup f0 = some ⟨oc0, od0, .func (PySem.W.fnOf "_law_caught" "_law_caught" (defArgs s_law_caught) (defBody s_law_caught) (defScope s_law_caught) .none kV0 dc0 pm0 an0 cd0 ct0), sl0⟩)
    (d_law_caught : PySem.W.codeIn K cd0 "_law_caught" = true)
    (k_law_caught : PySem.W.keepIn K (.ref f0) = true)
    (a_law_tell : PySem.W.nsIn K mainGlobals "_law_tell" = some (some (.ref f1)))
    (l_law_tell : K.lookup f1 = some ⟨oc1, od1, .func (PySem.W.fnOf "_law_tell" "_law_tell" (defArgs s_law_tell) (defBody s_law_tell) (defScope s_law_tell) .none kV1 dc1 pm1 an1 cd1 ct1), sl1⟩)
    (d_law_tell : PySem.W.codeIn K cd1 "_law_tell" = true)
    (k_law_tell : PySem.W.keepIn K (.ref f1) = true)
    (a_law_pick : PySem.W.nsIn K mainGlobals "_law_pick" = some (some (.ref f2)))
    (l_law_pick : K.lookup f2 = some ⟨oc2, od2, .func (PySem.W.fnOf "_law_pick" "_law_pick" (defArgs s_law_pick) (defBody s_law_pick) (defScope s_law_pick) .none kV2 dc2 pm2 an2 cd2 ct2), sl2⟩)
    (d_law_pick : PySem.W.codeIn K cd2 "_law_pick" = true)
    (k_law_pick : PySem.W.keepIn K (.ref f2) = true)
    (a_law_field : PySem.W.nsIn K mainGlobals "_law_field" = some (some (.ref f3)))
    (l_law_field : K.lookup f3 = some ⟨oc3, od3, .func (PySem.W.fnOf "_law_field" "_law_field" (defArgs s_law_field) (defBody s_law_field) (defScope s_law_field) .none kV3 dc3 pm3 an3 cd3 ct3), sl3⟩)
    (d_law_field : PySem.W.codeIn K cd3 "_law_field" = true)
    (k_law_field : PySem.W.keepIn K (.ref f3) = true)
    (a_law_is_plain : PySem.W.nsIn K mainGlobals "_law_is_plain" = some (some (.ref f4)))
    (l_law_is_plain : K.lookup f4 = some ⟨oc4, od4, .func (PySem.W.fnOf "_law_is_plain" "_law_is_plain" (defArgs s_law_is_plain) (defBody s_law_is_plain) (defScope s_law_is_plain) .none kV4 dc4 pm4 an4 cd4 ct4), sl4⟩)
    (d_law_is_plain : PySem.W.codeIn K cd4 "_law_is_plain" = true)
    (k_law_is_plain : PySem.W.keepIn K (.ref f4) = true)
    (a_law_parts : PySem.W.nsIn K mainGlobals "_law_parts" = some (some (.ref f5)))
    (l_law_parts : K.lookup f5 = some ⟨oc5, od5, .func (PySem.W.fnOf "_law_parts" "_law_parts" (defArgs s_law_parts) (defBody s_law_parts) (defScope s_law_parts) .none kV5 dc5 pm5 an5 cd5 ct5), sl5⟩)
    (d_law_parts : PySem.W.codeIn K cd5 "_law_parts" = true)
    (k_law_parts : PySem.W.keepIn K (.ref f5) = true)
    (a_law_paw : PySem.W.nsIn K mainGlobals "_law_paw" = some (some (.ref f6)))
    (l_law_paw : K.lookup f6 = some ⟨oc6, od6, .func (PySem.W.fnOf "_law_paw" "_law_paw" (defArgs s_law_paw) (defBody s_law_paw) (defScope s_law_paw) .none kV6 dc6 pm6 an6 cd6 ct6), sl6⟩)
    (d_law_paw : PySem.W.codeIn K cd6 "_law_paw" = true)
    (k_law_paw : PySem.W.keepIn K (.ref f6) = true)
    (a_law_which : PySem.W.nsIn K mainGlobals "_law_which" = some (some (.ref f7)))
    (l_law_which : K.lookup f7 = some ⟨oc7, od7, .func (PySem.W.fnOf "_law_which" "_law_which" (defArgs s_law_which) (defBody s_law_which) (defScope s_law_which) .none kV7 dc7 pm7 an7 cd7 ct7), sl7⟩)
    (d_law_which : PySem.W.codeIn K cd7 "_law_which" = true)
    (k_law_which : PySem.W.keepIn K (.ref f7) = true)
    (a_law : PySem.W.nsIn K mainGlobals "law" = some (some (.ref f8)))
    (l_law : K.lookup f8 = some ⟨oc8, od8, .func (PySem.W.fnOf "law" "law" (defArgs s_law) (defBody s_law) (defScope s_law) .none kV8 dc8 pm8 an8 cd8 ct8), sl8⟩)
    (d_law : PySem.W.codeIn K cd8 "law" = true)
    (k_law : PySem.W.keepIn K (.ref f8) = true)
    (ga_BadCell : PySem.W.nsIn K mainGlobals "BadCell" = some (some (.ref ac0)))
    (ga_BadFloor : PySem.W.nsIn K mainGlobals "BadFloor" = some (some (.ref ac1)))
    (ga_BadMouse : PySem.W.nsIn K mainGlobals "BadMouse" = some (some (.ref ac2)))
    (ga_BadNumber : PySem.W.nsIn K mainGlobals "BadNumber" = some (some (.ref ac3)))
    (ga_BadReckoner : PySem.W.nsIn K mainGlobals "BadReckoner" = some (some (.ref ac4)))
    (ga_BadScript : PySem.W.nsIn K mainGlobals "BadScript" = some (some (.ref ac5)))
    (ga_BadText : PySem.W.nsIn K mainGlobals "BadText" = some (some (.ref ac6)))
    (ga_BadTrip : PySem.W.nsIn K mainGlobals "BadTrip" = some (some (.ref ac7)))
    (ga_BadWall : PySem.W.nsIn K mainGlobals "BadWall" = some (some (.ref ac8)))
    (ga_Misfit : PySem.W.nsIn K mainGlobals "Misfit" = some (some (.ref ac9)))
    (ga_StoneError : PySem.W.nsIn K mainGlobals "StoneError" = some (some (.ref ac10)))
    (ga_TooMany : PySem.W.nsIn K mainGlobals "TooMany" = some (some (.ref ac11)))
    (Z_BadNumber : XF l.prog K "BadNumber" "BadNumber.__init__" si_BadNumber ["part"] ac3 fi_BadNumber)
    (Z_BadFloor : XF l.prog K "BadFloor" "BadFloor.__init__" si_BadFloor ["part"] ac1 fi_BadFloor)
    (Z_BadCell : XF l.prog K "BadCell" "BadCell.__init__" si_BadCell ["part"] ac0 fi_BadCell)
    (Z_BadWall : XF l.prog K "BadWall" "BadWall.__init__" si_BadWall ["part"] ac8 fi_BadWall)
    (Z_BadMouse : XF l.prog K "BadMouse" "BadMouse.__init__" si_BadMouse ["part"] ac2 fi_BadMouse)
    (Z_BadTrip : XF l.prog K "BadTrip" "BadTrip.__init__" si_BadTrip ["part"] ac7 fi_BadTrip)
    (Z_BadScript : XF l.prog K "BadScript" "BadScript.__init__" si_BadScript ["part"] ac5 fi_BadScript)
    (Z_BadReckoner : XF l.prog K "BadReckoner" "BadReckoner.__init__" si_BadReckoner ["part"] ac4 fi_BadReckoner)
    (Z_Misfit : XF l.prog K "Misfit" "Misfit.__init__" si_Misfit ["part"] ac9 fi_Misfit)
    (Z_TooMany : XF l.prog K "TooMany" "TooMany.__init__" si_TooMany ["what", "most"] ac11 fi_TooMany)
    (Z_BadText : XF l.prog K "BadText" "BadText.__init__" si_BadText ["line", "item"] ac6 fi_BadText)
    (kt_ArithmeticError : ∀ t : Mi.Ty, PySem.W.kitOne K (.type t.name) (.type "ArithmeticError") = some false)
    (kx_ArithmeticError_BadNumber : PySem.W.kitOne K (.ref ac3) (.type "ArithmeticError") = some false)
    (kx_ArithmeticError_BadFloor : PySem.W.kitOne K (.ref ac1) (.type "ArithmeticError") = some false)
    (kx_ArithmeticError_BadCell : PySem.W.kitOne K (.ref ac0) (.type "ArithmeticError") = some false)
    (kx_ArithmeticError_BadWall : PySem.W.kitOne K (.ref ac8) (.type "ArithmeticError") = some false)
    (kx_ArithmeticError_BadMouse : PySem.W.kitOne K (.ref ac2) (.type "ArithmeticError") = some false)
    (kx_ArithmeticError_BadTrip : PySem.W.kitOne K (.ref ac7) (.type "ArithmeticError") = some false)
    (kx_ArithmeticError_BadScript : PySem.W.kitOne K (.ref ac5) (.type "ArithmeticError") = some false)
    (kx_ArithmeticError_BadReckoner : PySem.W.kitOne K (.ref ac4) (.type "ArithmeticError") = some false)
    (kx_ArithmeticError_Misfit : PySem.W.kitOne K (.ref ac9) (.type "ArithmeticError") = some false)
    (kx_ArithmeticError_TooMany : PySem.W.kitOne K (.ref ac11) (.type "ArithmeticError") = some false)
    (kx_ArithmeticError_BadText : PySem.W.kitOne K (.ref ac6) (.type "ArithmeticError") = some false)
    (kt_AttributeError : ∀ t : Mi.Ty, PySem.W.kitOne K (.type t.name) (.type "AttributeError") = some false)
    (kx_AttributeError_BadNumber : PySem.W.kitOne K (.ref ac3) (.type "AttributeError") = some false)
    (kx_AttributeError_BadFloor : PySem.W.kitOne K (.ref ac1) (.type "AttributeError") = some false)
    (kx_AttributeError_BadCell : PySem.W.kitOne K (.ref ac0) (.type "AttributeError") = some false)
    (kx_AttributeError_BadWall : PySem.W.kitOne K (.ref ac8) (.type "AttributeError") = some false)
    (kx_AttributeError_BadMouse : PySem.W.kitOne K (.ref ac2) (.type "AttributeError") = some false)
    (kx_AttributeError_BadTrip : PySem.W.kitOne K (.ref ac7) (.type "AttributeError") = some false)
    (kx_AttributeError_BadScript : PySem.W.kitOne K (.ref ac5) (.type "AttributeError") = some false)
    (kx_AttributeError_BadReckoner : PySem.W.kitOne K (.ref ac4) (.type "AttributeError") = some false)
    (kx_AttributeError_Misfit : PySem.W.kitOne K (.ref ac9) (.type "AttributeError") = some false)
    (kx_AttributeError_TooMany : PySem.W.kitOne K (.ref ac11) (.type "AttributeError") = some false)
    (kx_AttributeError_BadText : PySem.W.kitOne K (.ref ac6) (.type "AttributeError") = some false)
    (kt_BadCell : ∀ t : Mi.Ty, PySem.W.kitOne K (.type t.name) (.ref ac0) = some false)
    (kx_BadCell_BadNumber : PySem.W.kitOne K (.ref ac3) (.ref ac0) = some false)
    (kx_BadCell_BadFloor : PySem.W.kitOne K (.ref ac1) (.ref ac0) = some false)
    (kx_BadCell_BadCell : PySem.W.kitOne K (.ref ac0) (.ref ac0) = some true)
    (kx_BadCell_BadWall : PySem.W.kitOne K (.ref ac8) (.ref ac0) = some false)
    (kx_BadCell_BadMouse : PySem.W.kitOne K (.ref ac2) (.ref ac0) = some false)
    (kx_BadCell_BadTrip : PySem.W.kitOne K (.ref ac7) (.ref ac0) = some false)
    (kx_BadCell_BadScript : PySem.W.kitOne K (.ref ac5) (.ref ac0) = some false)
    (kx_BadCell_BadReckoner : PySem.W.kitOne K (.ref ac4) (.ref ac0) = some false)
    (kx_BadCell_Misfit : PySem.W.kitOne K (.ref ac9) (.ref ac0) = some false)
    (kx_BadCell_TooMany : PySem.W.kitOne K (.ref ac11) (.ref ac0) = some false)
    (kx_BadCell_BadText : PySem.W.kitOne K (.ref ac6) (.ref ac0) = some false)
    (kt_BadFloor : ∀ t : Mi.Ty, PySem.W.kitOne K (.type t.name) (.ref ac1) = some false)
    (kx_BadFloor_BadNumber : PySem.W.kitOne K (.ref ac3) (.ref ac1) = some false)
    (kx_BadFloor_BadFloor : PySem.W.kitOne K (.ref ac1) (.ref ac1) = some true)
    (kx_BadFloor_BadCell : PySem.W.kitOne K (.ref ac0) (.ref ac1) = some false)
    (kx_BadFloor_BadWall : PySem.W.kitOne K (.ref ac8) (.ref ac1) = some false)
    (kx_BadFloor_BadMouse : PySem.W.kitOne K (.ref ac2) (.ref ac1) = some false)
    (kx_BadFloor_BadTrip : PySem.W.kitOne K (.ref ac7) (.ref ac1) = some false)
    (kx_BadFloor_BadScript : PySem.W.kitOne K (.ref ac5) (.ref ac1) = some false)
    (kx_BadFloor_BadReckoner : PySem.W.kitOne K (.ref ac4) (.ref ac1) = some false)
    (kx_BadFloor_Misfit : PySem.W.kitOne K (.ref ac9) (.ref ac1) = some false)
    (kx_BadFloor_TooMany : PySem.W.kitOne K (.ref ac11) (.ref ac1) = some false)
    (kx_BadFloor_BadText : PySem.W.kitOne K (.ref ac6) (.ref ac1) = some false)
    (kt_BadMouse : ∀ t : Mi.Ty, PySem.W.kitOne K (.type t.name) (.ref ac2) = some false)
    (kx_BadMouse_BadNumber : PySem.W.kitOne K (.ref ac3) (.ref ac2) = some false)
    (kx_BadMouse_BadFloor : PySem.W.kitOne K (.ref ac1) (.ref ac2) = some false)
    (kx_BadMouse_BadCell : PySem.W.kitOne K (.ref ac0) (.ref ac2) = some false)
    (kx_BadMouse_BadWall : PySem.W.kitOne K (.ref ac8) (.ref ac2) = some false)
    (kx_BadMouse_BadMouse : PySem.W.kitOne K (.ref ac2) (.ref ac2) = some true)
    (kx_BadMouse_BadTrip : PySem.W.kitOne K (.ref ac7) (.ref ac2) = some false)
    (kx_BadMouse_BadScript : PySem.W.kitOne K (.ref ac5) (.ref ac2) = some false)
    (kx_BadMouse_BadReckoner : PySem.W.kitOne K (.ref ac4) (.ref ac2) = some false)
    (kx_BadMouse_Misfit : PySem.W.kitOne K (.ref ac9) (.ref ac2) = some false)
    (kx_BadMouse_TooMany : PySem.W.kitOne K (.ref ac11) (.ref ac2) = some false)
    (kx_BadMouse_BadText : PySem.W.kitOne K (.ref ac6) (.ref ac2) = some false)
    (kt_BadNumber : ∀ t : Mi.Ty, PySem.W.kitOne K (.type t.name) (.ref ac3) = some false)
    (kx_BadNumber_BadNumber : PySem.W.kitOne K (.ref ac3) (.ref ac3) = some true)
    (kx_BadNumber_BadFloor : PySem.W.kitOne K (.ref ac1) (.ref ac3) = some false)
    (kx_BadNumber_BadCell : PySem.W.kitOne K (.ref ac0) (.ref ac3) = some false)
    (kx_BadNumber_BadWall : PySem.W.kitOne K (.ref ac8) (.ref ac3) = some false)
    (kx_BadNumber_BadMouse : PySem.W.kitOne K (.ref ac2) (.ref ac3) = some false)
    (kx_BadNumber_BadTrip : PySem.W.kitOne K (.ref ac7) (.ref ac3) = some false)
    (kx_BadNumber_BadScript : PySem.W.kitOne K (.ref ac5) (.ref ac3) = some false)
    (kx_BadNumber_BadReckoner : PySem.W.kitOne K (.ref ac4) (.ref ac3) = some false)
    (kx_BadNumber_Misfit : PySem.W.kitOne K (.ref ac9) (.ref ac3) = some false)
    (kx_BadNumber_TooMany : PySem.W.kitOne K (.ref ac11) (.ref ac3) = some false)
    (kx_BadNumber_BadText : PySem.W.kitOne K (.ref ac6) (.ref ac3) = some false)
    (kt_BadReckoner : ∀ t : Mi.Ty, PySem.W.kitOne K (.type t.name) (.ref ac4) = some false)
    (kx_BadReckoner_BadNumber : PySem.W.kitOne K (.ref ac3) (.ref ac4) = some false)
    (kx_BadReckoner_BadFloor : PySem.W.kitOne K (.ref ac1) (.ref ac4) = some false)
    (kx_BadReckoner_BadCell : PySem.W.kitOne K (.ref ac0) (.ref ac4) = some false)
    (kx_BadReckoner_BadWall : PySem.W.kitOne K (.ref ac8) (.ref ac4) = some false)
    (kx_BadReckoner_BadMouse : PySem.W.kitOne K (.ref ac2) (.ref ac4) = some false)
    (kx_BadReckoner_BadTrip : PySem.W.kitOne K (.ref ac7) (.ref ac4) = some false)
    (kx_BadReckoner_BadScript : PySem.W.kitOne K (.ref ac5) (.ref ac4) = some false)
    (kx_BadReckoner_BadReckoner : PySem.W.kitOne K (.ref ac4) (.ref ac4) = some true)
    (kx_BadReckoner_Misfit : PySem.W.kitOne K (.ref ac9) (.ref ac4) = some false)
    (kx_BadReckoner_TooMany : PySem.W.kitOne K (.ref ac11) (.ref ac4) = some false)
    (kx_BadReckoner_BadText : PySem.W.kitOne K (.ref ac6) (.ref ac4) = some false)
    (kt_BadScript : ∀ t : Mi.Ty, PySem.W.kitOne K (.type t.name) (.ref ac5) = some false)
    (kx_BadScript_BadNumber : PySem.W.kitOne K (.ref ac3) (.ref ac5) = some false)
    (kx_BadScript_BadFloor : PySem.W.kitOne K (.ref ac1) (.ref ac5) = some false)
    (kx_BadScript_BadCell : PySem.W.kitOne K (.ref ac0) (.ref ac5) = some false)
    (kx_BadScript_BadWall : PySem.W.kitOne K (.ref ac8) (.ref ac5) = some false)
    (kx_BadScript_BadMouse : PySem.W.kitOne K (.ref ac2) (.ref ac5) = some false)
    (kx_BadScript_BadTrip : PySem.W.kitOne K (.ref ac7) (.ref ac5) = some false)
    (kx_BadScript_BadScript : PySem.W.kitOne K (.ref ac5) (.ref ac5) = some true)
    (kx_BadScript_BadReckoner : PySem.W.kitOne K (.ref ac4) (.ref ac5) = some false)
    (kx_BadScript_Misfit : PySem.W.kitOne K (.ref ac9) (.ref ac5) = some false)
    (kx_BadScript_TooMany : PySem.W.kitOne K (.ref ac11) (.ref ac5) = some false)
    (kx_BadScript_BadText : PySem.W.kitOne K (.ref ac6) (.ref ac5) = some false)
    (kt_BadText : ∀ t : Mi.Ty, PySem.W.kitOne K (.type t.name) (.ref ac6) = some false)
    (kx_BadText_BadNumber : PySem.W.kitOne K (.ref ac3) (.ref ac6) = some false)
    (kx_BadText_BadFloor : PySem.W.kitOne K (.ref ac1) (.ref ac6) = some false)
    (kx_BadText_BadCell : PySem.W.kitOne K (.ref ac0) (.ref ac6) = some false)
    (kx_BadText_BadWall : PySem.W.kitOne K (.ref ac8) (.ref ac6) = some false)
    (kx_BadText_BadMouse : PySem.W.kitOne K (.ref ac2) (.ref ac6) = some false)
    (kx_BadText_BadTrip : PySem.W.kitOne K (.ref ac7) (.ref ac6) = some false)
    (kx_BadText_BadScript : PySem.W.kitOne K (.ref ac5) (.ref ac6) = some false)
    (kx_BadText_BadReckoner : PySem.W.kitOne K (.ref ac4) (.ref ac6) = some false)
    (kx_BadText_Misfit : PySem.W.kitOne K (.ref ac9) (.ref ac6) = some false)
    (kx_BadText_TooMany : PySem.W.kitOne K (.ref ac11) (.ref ac6) = some false)
    (kx_BadText_BadText : PySem.W.kitOne K (.ref ac6) (.ref ac6) = some true)
    (kt_BadTrip : ∀ t : Mi.Ty, PySem.W.kitOne K (.type t.name) (.ref ac7) = some false)
    (kx_BadTrip_BadNumber : PySem.W.kitOne K (.ref ac3) (.ref ac7) = some false)
    (kx_BadTrip_BadFloor : PySem.W.kitOne K (.ref ac1) (.ref ac7) = some false)
    (kx_BadTrip_BadCell : PySem.W.kitOne K (.ref ac0) (.ref ac7) = some false)
    (kx_BadTrip_BadWall : PySem.W.kitOne K (.ref ac8) (.ref ac7) = some false)
    (kx_BadTrip_BadMouse : PySem.W.kitOne K (.ref ac2) (.ref ac7) = some false)
    (kx_BadTrip_BadTrip : PySem.W.kitOne K (.ref ac7) (.ref ac7) = some true)
    (kx_BadTrip_BadScript : PySem.W.kitOne K (.ref ac5) (.ref ac7) = some false)
    (kx_BadTrip_BadReckoner : PySem.W.kitOne K (.ref ac4) (.ref ac7) = some false)
    (kx_BadTrip_Misfit : PySem.W.kitOne K (.ref ac9) (.ref ac7) = some false)
    (kx_BadTrip_TooMany : PySem.W.kitOne K (.ref ac11) (.ref ac7) = some false)
    (kx_BadTrip_BadText : PySem.W.kitOne K (.ref ac6) (.ref ac7) = some false)
    (kt_BadWall : ∀ t : Mi.Ty, PySem.W.kitOne K (.type t.name) (.ref ac8) = some false)
    (kx_BadWall_BadNumber : PySem.W.kitOne K (.ref ac3) (.ref ac8) = some false)
    (kx_BadWall_BadFloor : PySem.W.kitOne K (.ref ac1) (.ref ac8) = some false)
    (kx_BadWall_BadCell : PySem.W.kitOne K (.ref ac0) (.ref ac8) = some false)
    (kx_BadWall_BadWall : PySem.W.kitOne K (.ref ac8) (.ref ac8) = some true)
    (kx_BadWall_BadMouse : PySem.W.kitOne K (.ref ac2) (.ref ac8) = some false)
    (kx_BadWall_BadTrip : PySem.W.kitOne K (.ref ac7) (.ref ac8) = some false)
    (kx_BadWall_BadScript : PySem.W.kitOne K (.ref ac5) (.ref ac8) = some false)
    (kx_BadWall_BadReckoner : PySem.W.kitOne K (.ref ac4) (.ref ac8) = some false)
    (kx_BadWall_Misfit : PySem.W.kitOne K (.ref ac9) (.ref ac8) = some false)
    (kx_BadWall_TooMany : PySem.W.kitOne K (.ref ac11) (.ref ac8) = some false)
    (kx_BadWall_BadText : PySem.W.kitOne K (.ref ac6) (.ref ac8) = some false)
    (kt_LookupError : ∀ t : Mi.Ty, PySem.W.kitOne K (.type t.name) (.type "LookupError") = some false)
    (kx_LookupError_BadNumber : PySem.W.kitOne K (.ref ac3) (.type "LookupError") = some false)
    (kx_LookupError_BadFloor : PySem.W.kitOne K (.ref ac1) (.type "LookupError") = some false)
    (kx_LookupError_BadCell : PySem.W.kitOne K (.ref ac0) (.type "LookupError") = some false)
    (kx_LookupError_BadWall : PySem.W.kitOne K (.ref ac8) (.type "LookupError") = some false)
    (kx_LookupError_BadMouse : PySem.W.kitOne K (.ref ac2) (.type "LookupError") = some false)
    (kx_LookupError_BadTrip : PySem.W.kitOne K (.ref ac7) (.type "LookupError") = some false)
    (kx_LookupError_BadScript : PySem.W.kitOne K (.ref ac5) (.type "LookupError") = some false)
    (kx_LookupError_BadReckoner : PySem.W.kitOne K (.ref ac4) (.type "LookupError") = some false)
    (kx_LookupError_Misfit : PySem.W.kitOne K (.ref ac9) (.type "LookupError") = some false)
    (kx_LookupError_TooMany : PySem.W.kitOne K (.ref ac11) (.type "LookupError") = some false)
    (kx_LookupError_BadText : PySem.W.kitOne K (.ref ac6) (.type "LookupError") = some false)
    (kt_Misfit : ∀ t : Mi.Ty, PySem.W.kitOne K (.type t.name) (.ref ac9) = some false)
    (kx_Misfit_BadNumber : PySem.W.kitOne K (.ref ac3) (.ref ac9) = some false)
    (kx_Misfit_BadFloor : PySem.W.kitOne K (.ref ac1) (.ref ac9) = some false)
    (kx_Misfit_BadCell : PySem.W.kitOne K (.ref ac0) (.ref ac9) = some false)
    (kx_Misfit_BadWall : PySem.W.kitOne K (.ref ac8) (.ref ac9) = some false)
    (kx_Misfit_BadMouse : PySem.W.kitOne K (.ref ac2) (.ref ac9) = some false)
    (kx_Misfit_BadTrip : PySem.W.kitOne K (.ref ac7) (.ref ac9) = some false)
    (kx_Misfit_BadScript : PySem.W.kitOne K (.ref ac5) (.ref ac9) = some false)
    (kx_Misfit_BadReckoner : PySem.W.kitOne K (.ref ac4) (.ref ac9) = some false)
    (kx_Misfit_Misfit : PySem.W.kitOne K (.ref ac9) (.ref ac9) = some true)
    (kx_Misfit_TooMany : PySem.W.kitOne K (.ref ac11) (.ref ac9) = some false)
    (kx_Misfit_BadText : PySem.W.kitOne K (.ref ac6) (.ref ac9) = some false)
    (kt_RuntimeError : ∀ t : Mi.Ty, PySem.W.kitOne K (.type t.name) (.type "RuntimeError") = some false)
    (kx_RuntimeError_BadNumber : PySem.W.kitOne K (.ref ac3) (.type "RuntimeError") = some false)
    (kx_RuntimeError_BadFloor : PySem.W.kitOne K (.ref ac1) (.type "RuntimeError") = some false)
    (kx_RuntimeError_BadCell : PySem.W.kitOne K (.ref ac0) (.type "RuntimeError") = some false)
    (kx_RuntimeError_BadWall : PySem.W.kitOne K (.ref ac8) (.type "RuntimeError") = some false)
    (kx_RuntimeError_BadMouse : PySem.W.kitOne K (.ref ac2) (.type "RuntimeError") = some false)
    (kx_RuntimeError_BadTrip : PySem.W.kitOne K (.ref ac7) (.type "RuntimeError") = some false)
    (kx_RuntimeError_BadScript : PySem.W.kitOne K (.ref ac5) (.type "RuntimeError") = some false)
    (kx_RuntimeError_BadReckoner : PySem.W.kitOne K (.ref ac4) (.type "RuntimeError") = some false)
    (kx_RuntimeError_Misfit : PySem.W.kitOne K (.ref ac9) (.type "RuntimeError") = some false)
    (kx_RuntimeError_TooMany : PySem.W.kitOne K (.ref ac11) (.type "RuntimeError") = some false)
    (kx_RuntimeError_BadText : PySem.W.kitOne K (.ref ac6) (.type "RuntimeError") = some false)
    (kt_StoneError : ∀ t : Mi.Ty, PySem.W.kitOne K (.type t.name) (.ref ac10) = some false)
    (kx_StoneError_BadNumber : PySem.W.kitOne K (.ref ac3) (.ref ac10) = some true)
    (kx_StoneError_BadFloor : PySem.W.kitOne K (.ref ac1) (.ref ac10) = some true)
    (kx_StoneError_BadCell : PySem.W.kitOne K (.ref ac0) (.ref ac10) = some true)
    (kx_StoneError_BadWall : PySem.W.kitOne K (.ref ac8) (.ref ac10) = some true)
    (kx_StoneError_BadMouse : PySem.W.kitOne K (.ref ac2) (.ref ac10) = some true)
    (kx_StoneError_BadTrip : PySem.W.kitOne K (.ref ac7) (.ref ac10) = some true)
    (kx_StoneError_BadScript : PySem.W.kitOne K (.ref ac5) (.ref ac10) = some true)
    (kx_StoneError_BadReckoner : PySem.W.kitOne K (.ref ac4) (.ref ac10) = some true)
    (kx_StoneError_Misfit : PySem.W.kitOne K (.ref ac9) (.ref ac10) = some true)
    (kx_StoneError_TooMany : PySem.W.kitOne K (.ref ac11) (.ref ac10) = some true)
    (kx_StoneError_BadText : PySem.W.kitOne K (.ref ac6) (.ref ac10) = some true)
    (kt_TooMany : ∀ t : Mi.Ty, PySem.W.kitOne K (.type t.name) (.ref ac11) = some false)
    (kx_TooMany_BadNumber : PySem.W.kitOne K (.ref ac3) (.ref ac11) = some false)
    (kx_TooMany_BadFloor : PySem.W.kitOne K (.ref ac1) (.ref ac11) = some false)
    (kx_TooMany_BadCell : PySem.W.kitOne K (.ref ac0) (.ref ac11) = some false)
    (kx_TooMany_BadWall : PySem.W.kitOne K (.ref ac8) (.ref ac11) = some false)
    (kx_TooMany_BadMouse : PySem.W.kitOne K (.ref ac2) (.ref ac11) = some false)
    (kx_TooMany_BadTrip : PySem.W.kitOne K (.ref ac7) (.ref ac11) = some false)
    (kx_TooMany_BadScript : PySem.W.kitOne K (.ref ac5) (.ref ac11) = some false)
    (kx_TooMany_BadReckoner : PySem.W.kitOne K (.ref ac4) (.ref ac11) = some false)
    (kx_TooMany_Misfit : PySem.W.kitOne K (.ref ac9) (.ref ac11) = some false)
    (kx_TooMany_TooMany : PySem.W.kitOne K (.ref ac11) (.ref ac11) = some true)
    (kx_TooMany_BadText : PySem.W.kitOne K (.ref ac6) (.ref ac11) = some false)
    (kt_TypeError : ∀ t : Mi.Ty, PySem.W.kitOne K (.type t.name) (.type "TypeError") = some false)
    (kx_TypeError_BadNumber : PySem.W.kitOne K (.ref ac3) (.type "TypeError") = some false)
    (kx_TypeError_BadFloor : PySem.W.kitOne K (.ref ac1) (.type "TypeError") = some false)
    (kx_TypeError_BadCell : PySem.W.kitOne K (.ref ac0) (.type "TypeError") = some false)
    (kx_TypeError_BadWall : PySem.W.kitOne K (.ref ac8) (.type "TypeError") = some false)
    (kx_TypeError_BadMouse : PySem.W.kitOne K (.ref ac2) (.type "TypeError") = some false)
    (kx_TypeError_BadTrip : PySem.W.kitOne K (.ref ac7) (.type "TypeError") = some false)
    (kx_TypeError_BadScript : PySem.W.kitOne K (.ref ac5) (.type "TypeError") = some false)
    (kx_TypeError_BadReckoner : PySem.W.kitOne K (.ref ac4) (.type "TypeError") = some false)
    (kx_TypeError_Misfit : PySem.W.kitOne K (.ref ac9) (.type "TypeError") = some false)
    (kx_TypeError_TooMany : PySem.W.kitOne K (.ref ac11) (.type "TypeError") = some false)
    (kx_TypeError_BadText : PySem.W.kitOne K (.ref ac6) (.type "TypeError") = some false)
    (kt_ValueError : ∀ t : Mi.Ty, PySem.W.kitOne K (.type t.name) (.type "ValueError") = some false)
    (kx_ValueError_BadNumber : PySem.W.kitOne K (.ref ac3) (.type "ValueError") = some true)
    (kx_ValueError_BadFloor : PySem.W.kitOne K (.ref ac1) (.type "ValueError") = some true)
    (kx_ValueError_BadCell : PySem.W.kitOne K (.ref ac0) (.type "ValueError") = some true)
    (kx_ValueError_BadWall : PySem.W.kitOne K (.ref ac8) (.type "ValueError") = some true)
    (kx_ValueError_BadMouse : PySem.W.kitOne K (.ref ac2) (.type "ValueError") = some true)
    (kx_ValueError_BadTrip : PySem.W.kitOne K (.ref ac7) (.type "ValueError") = some true)
    (kx_ValueError_BadScript : PySem.W.kitOne K (.ref ac5) (.type "ValueError") = some true)
    (kx_ValueError_BadReckoner : PySem.W.kitOne K (.ref ac4) (.type "ValueError") = some true)
    (kx_ValueError_Misfit : PySem.W.kitOne K (.ref ac9) (.type "ValueError") = some true)
    (kx_ValueError_TooMany : PySem.W.kitOne K (.ref ac11) (.type "ValueError") = some true)
    (kx_ValueError_BadText : PySem.W.kitOne K (.ref ac6) (.type "ValueError") = some true)
    (ex_StoneError_BadNumber : PySem.W.exmOne K (.ref ac3) (.ref ac10) = some true)
    (ex_StoneError_BadFloor : PySem.W.exmOne K (.ref ac1) (.ref ac10) = some true)
    (ex_StoneError_BadCell : PySem.W.exmOne K (.ref ac0) (.ref ac10) = some true)
    (ex_StoneError_BadWall : PySem.W.exmOne K (.ref ac8) (.ref ac10) = some true)
    (ex_StoneError_BadMouse : PySem.W.exmOne K (.ref ac2) (.ref ac10) = some true)
    (ex_StoneError_BadTrip : PySem.W.exmOne K (.ref ac7) (.ref ac10) = some true)
    (ex_StoneError_BadScript : PySem.W.exmOne K (.ref ac5) (.ref ac10) = some true)
    (ex_StoneError_BadReckoner : PySem.W.exmOne K (.ref ac4) (.ref ac10) = some true)
    (ex_StoneError_Misfit : PySem.W.exmOne K (.ref ac9) (.ref ac10) = some true)
    (ex_StoneError_TooMany : PySem.W.exmOne K (.ref ac11) (.ref ac10) = some true)
    (ex_StoneError_BadText : PySem.W.exmOne K (.ref ac6) (.ref ac10) = some true)
    (n_ArithmeticError : PySem.W.nsIn K mainGlobals "ArithmeticError" = some none)
    (n_AttributeError : PySem.W.nsIn K mainGlobals "AttributeError" = some none)
    (n_LookupError : PySem.W.nsIn K mainGlobals "LookupError" = some none)
    (n_RuntimeError : PySem.W.nsIn K mainGlobals "RuntimeError" = some none)
    (n_TypeError : PySem.W.nsIn K mainGlobals "TypeError" = some none)
    (n_ValueError : PySem.W.nsIn K mainGlobals "ValueError" = some none)
    (n_abs : PySem.W.nsIn K mainGlobals "abs" = some none)
    (n_enumerate : PySem.W.nsIn K mainGlobals "enumerate" = some none)
    (n_int : PySem.W.nsIn K mainGlobals "int" = some none)
    (n_isinstance : PySem.W.nsIn K mainGlobals "isinstance" = some none)
    (n_len : PySem.W.nsIn K mainGlobals "len" = some none)
    (n_range : PySem.W.nsIn K mainGlobals "range" = some none)
    (n_repr : PySem.W.nsIn K mainGlobals "repr" = some none)
    (n_super : PySem.W.nsIn K mainGlobals "super" = some none)
    (res : ∀ ns : List Int, ns.length ≤ 63 → (∀ z ∈ ns, Builtin.Int.intBits z ≤ 1048576) → ∃ M, m_law [.rdl (ns.map Wv.int)] [] = .ok (.bl true) M) :
    ∃ (fd : FuncData) (m : List Wv → Mem → R Wv), (∀ (s : Shared) (u : Value), BindsTo s fd ⟨[u], []⟩ [("_law_script", u)]) ∧ (∀ base : Heap, K.In base → base.Ns mainGlobals mg → FnG l.prog w K mg base 4 fa fd ["_law_script"] m) ∧
      ∀ ns : List Int, ns.length ≤ 63 → (∀ z ∈ ns, Builtin.Int.intBits z ≤ 1048576) → ∃ M, m [.rdl (ns.map Wv.int)] [] = .ok (.bl true) M := by
  have e := hfa.symm.trans (PySem.W.mg_of X G a_law)
  cases e
  have F0 := fun_mk (st := s_law_caught) l_law_caught d_law_caught k_law_caught
  have F1 := fun_mk (st := s_law_tell) l_law_tell d_law_tell k_law_tell
  have F2 := fun_mk (st := s_law_pick) l_law_pick d_law_pick k_law_pick
  have F3 := fun_mk (st := s_law_field) l_law_field d_law_field k_law_field
  have F4 := fun_mk (st := s_law_is_plain) l_law_is_plain d_law_is_plain k_law_is_plain
  have F5 := fun_mk (st := s_law_parts) l_law_parts d_law_parts k_law_parts
  have F6 := fun_mk (st := s_law_paw) l_law_paw d_law_paw k_law_paw
  have F7 := fun_mk (st := s_law_which) l_law_which d_law_which k_law_which
  have F8 := fun_mk (st := s_law) l_law d_law k_law
  have NS : mg "super" = none := PySem.W.mg_none_of X G n_super
  exact ⟨PySem.W.fnOf "law" "law" (defArgs s_law) (defBody s_law) (defScope s_law) .none kV8 dc8 pm8 an8 cd8 ct8, m_law, fun s v => .of_eq rfl, fun base _ _ => ok_all ⟨
    ac0,
    (PySem.W.mg_of X G ga_BadCell),
    ac1,
    (PySem.W.mg_of X G ga_BadFloor),
    ac2,
    (PySem.W.mg_of X G ga_BadMouse),
    ac3,
    (PySem.W.mg_of X G ga_BadNumber),
    ac4,
    (PySem.W.mg_of X G ga_BadReckoner),
    ac5,
    (PySem.W.mg_of X G ga_BadScript),
    ac6,
    (PySem.W.mg_of X G ga_BadText),
    ac7,
    (PySem.W.mg_of X G ga_BadTrip),
    ac8,
    (PySem.W.mg_of X G ga_BadWall),
    ac9,
    (PySem.W.mg_of X G ga_Misfit),
    ac10,
    (PySem.W.mg_of X G ga_StoneError),
    ac11,
    (PySem.W.mg_of X G ga_TooMany),
    fi_BadNumber,
    Z_BadNumber,
    (w_BadNumber Z_BadNumber NS),
    (wb_BadNumber Z_BadNumber),
    fi_BadFloor,
    Z_BadFloor,
    (w_BadFloor Z_BadFloor NS),
    (wb_BadFloor Z_BadFloor),
    fi_BadCell,
    Z_BadCell,
    (w_BadCell Z_BadCell NS),
    (wb_BadCell Z_BadCell),
    fi_BadWall,
    Z_BadWall,
    (w_BadWall Z_BadWall NS),
    (wb_BadWall Z_BadWall),
    fi_BadMouse,
    Z_BadMouse,
    (w_BadMouse Z_BadMouse NS),
    (wb_BadMouse Z_BadMouse),
    fi_BadTrip,
    Z_BadTrip,
    (w_BadTrip Z_BadTrip NS),
    (wb_BadTrip Z_BadTrip),
    fi_BadScript,
    Z_BadScript,
    (w_BadScript Z_BadScript NS),
    (wb_BadScript Z_BadScript),
    fi_BadReckoner,
    Z_BadReckoner,
    (w_BadReckoner Z_BadReckoner NS),
    (wb_BadReckoner Z_BadReckoner),
    fi_Misfit,
    Z_Misfit,
    (w_Misfit Z_Misfit NS),
    (wb_Misfit Z_Misfit),
    fi_TooMany,
    Z_TooMany,
    (w_TooMany Z_TooMany NS),
    (wb_TooMany Z_TooMany),
    fi_BadText,
    Z_BadText,
    (w_BadText Z_BadText NS),
    (wb_BadText Z_BadText),
    (wk_BadFloor_part Z_BadFloor),
    (wk_BadReckoner_part Z_BadReckoner),
    (wk_BadText_item_line Z_BadText),
    (wk_BadTrip_part Z_BadTrip),
    (wk_BadWall_part Z_BadWall),
    (wk_Misfit_part Z_Misfit),
    (wk_TooMany_most_what Z_TooMany),
    (FldE.cons Z_BadText (by simp) (FldE.nil)),
    (FldE.cons Z_BadText (by simp) (FldE.nil)),
    (FldE.cons Z_TooMany (by simp) (FldE.nil)),
    (FldE.cons Z_BadNumber (by simp) (FldE.cons Z_BadFloor (by simp) (FldE.cons Z_BadCell (by simp) (FldE.cons Z_BadWall (by simp) (FldE.cons Z_BadMouse (by simp) (FldE.cons Z_BadTrip (by simp) (FldE.cons Z_BadScript (by simp) (FldE.cons Z_BadReckoner (by simp) (FldE.cons Z_Misfit (by simp) (FldE.nil)))))))))),
    (FldE.cons Z_TooMany (by simp) (FldE.nil)),
    (ClOk.x0 kt_ArithmeticError (XTab.cons Z_BadNumber kx_ArithmeticError_BadNumber (XTab.cons Z_BadFloor kx_ArithmeticError_BadFloor (XTab.cons Z_BadCell kx_ArithmeticError_BadCell (XTab.cons Z_BadWall kx_ArithmeticError_BadWall (XTab.cons Z_BadMouse kx_ArithmeticError_BadMouse (XTab.cons Z_BadTrip kx_ArithmeticError_BadTrip (XTab.cons Z_BadScript kx_ArithmeticError_BadScript (XTab.cons Z_BadReckoner kx_ArithmeticError_BadReckoner (XTab.cons Z_Misfit kx_ArithmeticError_Misfit (XTab.cons Z_TooMany kx_ArithmeticError_TooMany (XTab.cons Z_BadText kx_ArithmeticError_BadText (XTab.nil))))))))))))),
    (ClOk.x0 kt_AttributeError (XTab.cons Z_BadNumber kx_AttributeError_BadNumber (XTab.cons Z_BadFloor kx_AttributeError_BadFloor (XTab.cons Z_BadCell kx_AttributeError_BadCell (XTab.cons Z_BadWall kx_AttributeError_BadWall (XTab.cons Z_BadMouse kx_AttributeError_BadMouse (XTab.cons Z_BadTrip kx_AttributeError_BadTrip (XTab.cons Z_BadScript kx_AttributeError_BadScript (XTab.cons Z_BadReckoner kx_AttributeError_BadReckoner (XTab.cons Z_Misfit kx_AttributeError_Misfit (XTab.cons Z_TooMany kx_AttributeError_TooMany (XTab.cons Z_BadText kx_AttributeError_BadText (XTab.nil))))))))))))),
    (ClOk.x0 kt_BadCell (XTab.cons Z_BadNumber kx_BadCell_BadNumber (XTab.cons Z_BadFloor kx_BadCell_BadFloor (XTab.cons Z_BadCell kx_BadCell_BadCell (XTab.cons Z_BadWall kx_BadCell_BadWall (XTab.cons Z_BadMouse kx_BadCell_BadMouse (XTab.cons Z_BadTrip kx_BadCell_BadTrip (XTab.cons Z_BadScript kx_BadCell_BadScript (XTab.cons Z_BadReckoner kx_BadCell_BadReckoner (XTab.cons Z_Misfit kx_BadCell_Misfit (XTab.cons Z_TooMany kx_BadCell_TooMany (XTab.cons Z_BadText kx_BadCell_BadText (XTab.nil))))))))))))),
    (ClOk.x0 kt_BadFloor (XTab.cons Z_BadNumber kx_BadFloor_BadNumber (XTab.cons Z_BadFloor kx_BadFloor_BadFloor (XTab.cons Z_BadCell kx_BadFloor_BadCell (XTab.cons Z_BadWall kx_BadFloor_BadWall (XTab.cons Z_BadMouse kx_BadFloor_BadMouse (XTab.cons Z_BadTrip kx_BadFloor_BadTrip (XTab.cons Z_BadScript kx_BadFloor_BadScript (XTab.cons Z_BadReckoner kx_BadFloor_BadReckoner (XTab.cons Z_Misfit kx_BadFloor_Misfit (XTab.cons Z_TooMany kx_BadFloor_TooMany (XTab.cons Z_BadText kx_BadFloor_BadText (XTab.nil))))))))))))),
    (ClOk.x0 kt_BadMouse (XTab.cons Z_BadNumber kx_BadMouse_BadNumber (XTab.cons Z_BadFloor kx_BadMouse_BadFloor (XTab.cons Z_BadCell kx_BadMouse_BadCell (XTab.cons Z_BadWall kx_BadMouse_BadWall (XTab.cons Z_BadMouse kx_BadMouse_BadMouse (XTab.cons Z_BadTrip kx_BadMouse_BadTrip (XTab.cons Z_BadScript kx_BadMouse_BadScript (XTab.cons Z_BadReckoner kx_BadMouse_BadReckoner (XTab.cons Z_Misfit kx_BadMouse_Misfit (XTab.cons Z_TooMany kx_BadMouse_TooMany (XTab.cons Z_BadText kx_BadMouse_BadText (XTab.nil))))))))))))),
    (ClOk.x0 kt_BadNumber (XTab.cons Z_BadNumber kx_BadNumber_BadNumber (XTab.cons Z_BadFloor kx_BadNumber_BadFloor (XTab.cons Z_BadCell kx_BadNumber_BadCell (XTab.cons Z_BadWall kx_BadNumber_BadWall (XTab.cons Z_BadMouse kx_BadNumber_BadMouse (XTab.cons Z_BadTrip kx_BadNumber_BadTrip (XTab.cons Z_BadScript kx_BadNumber_BadScript (XTab.cons Z_BadReckoner kx_BadNumber_BadReckoner (XTab.cons Z_Misfit kx_BadNumber_Misfit (XTab.cons Z_TooMany kx_BadNumber_TooMany (XTab.cons Z_BadText kx_BadNumber_BadText (XTab.nil))))))))))))),
    (ClOk.x0 kt_BadReckoner (XTab.cons Z_BadNumber kx_BadReckoner_BadNumber (XTab.cons Z_BadFloor kx_BadReckoner_BadFloor (XTab.cons Z_BadCell kx_BadReckoner_BadCell (XTab.cons Z_BadWall kx_BadReckoner_BadWall (XTab.cons Z_BadMouse kx_BadReckoner_BadMouse (XTab.cons Z_BadTrip kx_BadReckoner_BadTrip (XTab.cons Z_BadScript kx_BadReckoner_BadScript (XTab.cons Z_BadReckoner kx_BadReckoner_BadReckoner (XTab.cons Z_Misfit kx_BadReckoner_Misfit (XTab.cons Z_TooMany kx_BadReckoner_TooMany (XTab.cons Z_BadText kx_BadReckoner_BadText (XTab.nil))))))))))))),
    (ClOk.x0 kt_BadScript (XTab.cons Z_BadNumber kx_BadScript_BadNumber (XTab.cons Z_BadFloor kx_BadScript_BadFloor (XTab.cons Z_BadCell kx_BadScript_BadCell (XTab.cons Z_BadWall kx_BadScript_BadWall (XTab.cons Z_BadMouse kx_BadScript_BadMouse (XTab.cons Z_BadTrip kx_BadScript_BadTrip (XTab.cons Z_BadScript kx_BadScript_BadScript (XTab.cons Z_BadReckoner kx_BadScript_BadReckoner (XTab.cons Z_Misfit kx_BadScript_Misfit (XTab.cons Z_TooMany kx_BadScript_TooMany (XTab.cons Z_BadText kx_BadScript_BadText (XTab.nil))))))))))))),
    (ClOk.x0 kt_BadText (XTab.cons Z_BadNumber kx_BadText_BadNumber (XTab.cons Z_BadFloor kx_BadText_BadFloor (XTab.cons Z_BadCell kx_BadText_BadCell (XTab.cons Z_BadWall kx_BadText_BadWall (XTab.cons Z_BadMouse kx_BadText_BadMouse (XTab.cons Z_BadTrip kx_BadText_BadTrip (XTab.cons Z_BadScript kx_BadText_BadScript (XTab.cons Z_BadReckoner kx_BadText_BadReckoner (XTab.cons Z_Misfit kx_BadText_Misfit (XTab.cons Z_TooMany kx_BadText_TooMany (XTab.cons Z_BadText kx_BadText_BadText (XTab.nil))))))))))))),
    (ClOk.x0 kt_BadTrip (XTab.cons Z_BadNumber kx_BadTrip_BadNumber (XTab.cons Z_BadFloor kx_BadTrip_BadFloor (XTab.cons Z_BadCell kx_BadTrip_BadCell (XTab.cons Z_BadWall kx_BadTrip_BadWall (XTab.cons Z_BadMouse kx_BadTrip_BadMouse (XTab.cons Z_BadTrip kx_BadTrip_BadTrip (XTab.cons Z_BadScript kx_BadTrip_BadScript (XTab.cons Z_BadReckoner kx_BadTrip_BadReckoner (XTab.cons Z_Misfit kx_BadTrip_Misfit (XTab.cons Z_TooMany kx_BadTrip_TooMany (XTab.cons Z_BadText kx_BadTrip_BadText (XTab.nil))))))))))))),
    (ClOk.x0 kt_BadWall (XTab.cons Z_BadNumber kx_BadWall_BadNumber (XTab.cons Z_BadFloor kx_BadWall_BadFloor (XTab.cons Z_BadCell kx_BadWall_BadCell (XTab.cons Z_BadWall kx_BadWall_BadWall (XTab.cons Z_BadMouse kx_BadWall_BadMouse (XTab.cons Z_BadTrip kx_BadWall_BadTrip (XTab.cons Z_BadScript kx_BadWall_BadScript (XTab.cons Z_BadReckoner kx_BadWall_BadReckoner (XTab.cons Z_Misfit kx_BadWall_Misfit (XTab.cons Z_TooMany kx_BadWall_TooMany (XTab.cons Z_BadText kx_BadWall_BadText (XTab.nil))))))))))))),
    (ClOk.x0 kt_LookupError (XTab.cons Z_BadNumber kx_LookupError_BadNumber (XTab.cons Z_BadFloor kx_LookupError_BadFloor (XTab.cons Z_BadCell kx_LookupError_BadCell (XTab.cons Z_BadWall kx_LookupError_BadWall (XTab.cons Z_BadMouse kx_LookupError_BadMouse (XTab.cons Z_BadTrip kx_LookupError_BadTrip (XTab.cons Z_BadScript kx_LookupError_BadScript (XTab.cons Z_BadReckoner kx_LookupError_BadReckoner (XTab.cons Z_Misfit kx_LookupError_Misfit (XTab.cons Z_TooMany kx_LookupError_TooMany (XTab.cons Z_BadText kx_LookupError_BadText (XTab.nil))))))))))))),
    (ClOk.x0 kt_Misfit (XTab.cons Z_BadNumber kx_Misfit_BadNumber (XTab.cons Z_BadFloor kx_Misfit_BadFloor (XTab.cons Z_BadCell kx_Misfit_BadCell (XTab.cons Z_BadWall kx_Misfit_BadWall (XTab.cons Z_BadMouse kx_Misfit_BadMouse (XTab.cons Z_BadTrip kx_Misfit_BadTrip (XTab.cons Z_BadScript kx_Misfit_BadScript (XTab.cons Z_BadReckoner kx_Misfit_BadReckoner (XTab.cons Z_Misfit kx_Misfit_Misfit (XTab.cons Z_TooMany kx_Misfit_TooMany (XTab.cons Z_BadText kx_Misfit_BadText (XTab.nil))))))))))))),
    (ClOk.x0 kt_RuntimeError (XTab.cons Z_BadNumber kx_RuntimeError_BadNumber (XTab.cons Z_BadFloor kx_RuntimeError_BadFloor (XTab.cons Z_BadCell kx_RuntimeError_BadCell (XTab.cons Z_BadWall kx_RuntimeError_BadWall (XTab.cons Z_BadMouse kx_RuntimeError_BadMouse (XTab.cons Z_BadTrip kx_RuntimeError_BadTrip (XTab.cons Z_BadScript kx_RuntimeError_BadScript (XTab.cons Z_BadReckoner kx_RuntimeError_BadReckoner (XTab.cons Z_Misfit kx_RuntimeError_Misfit (XTab.cons Z_TooMany kx_RuntimeError_TooMany (XTab.cons Z_BadText kx_RuntimeError_BadText (XTab.nil))))))))))))),
    (ClOk.x0 kt_StoneError (XTab.cons Z_BadNumber kx_StoneError_BadNumber (XTab.cons Z_BadFloor kx_StoneError_BadFloor (XTab.cons Z_BadCell kx_StoneError_BadCell (XTab.cons Z_BadWall kx_StoneError_BadWall (XTab.cons Z_BadMouse kx_StoneError_BadMouse (XTab.cons Z_BadTrip kx_StoneError_BadTrip (XTab.cons Z_BadScript kx_StoneError_BadScript (XTab.cons Z_BadReckoner kx_StoneError_BadReckoner (XTab.cons Z_Misfit kx_StoneError_Misfit (XTab.cons Z_TooMany kx_StoneError_TooMany (XTab.cons Z_BadText kx_StoneError_BadText (XTab.nil))))))))))))),
    (ClOk.x0 kt_TooMany (XTab.cons Z_BadNumber kx_TooMany_BadNumber (XTab.cons Z_BadFloor kx_TooMany_BadFloor (XTab.cons Z_BadCell kx_TooMany_BadCell (XTab.cons Z_BadWall kx_TooMany_BadWall (XTab.cons Z_BadMouse kx_TooMany_BadMouse (XTab.cons Z_BadTrip kx_TooMany_BadTrip (XTab.cons Z_BadScript kx_TooMany_BadScript (XTab.cons Z_BadReckoner kx_TooMany_BadReckoner (XTab.cons Z_Misfit kx_TooMany_Misfit (XTab.cons Z_TooMany kx_TooMany_TooMany (XTab.cons Z_BadText kx_TooMany_BadText (XTab.nil))))))))))))),
    (ClOk.x0 kt_TypeError (XTab.cons Z_BadNumber kx_TypeError_BadNumber (XTab.cons Z_BadFloor kx_TypeError_BadFloor (XTab.cons Z_BadCell kx_TypeError_BadCell (XTab.cons Z_BadWall kx_TypeError_BadWall (XTab.cons Z_BadMouse kx_TypeError_BadMouse (XTab.cons Z_BadTrip kx_TypeError_BadTrip (XTab.cons Z_BadScript kx_TypeError_BadScript (XTab.cons Z_BadReckoner kx_TypeError_BadReckoner (XTab.cons Z_Misfit kx_TypeError_Misfit (XTab.cons Z_TooMany kx_TypeError_TooMany (XTab.cons Z_BadText kx_TypeError_BadText (XTab.nil))))))))))))),
    (ClOk.x0 kt_ValueError (XTab.cons Z_BadNumber kx_ValueError_BadNumber (XTab.cons Z_BadFloor kx_ValueError_BadFloor (XTab.cons Z_BadCell kx_ValueError_BadCell (XTab.cons Z_BadWall kx_ValueError_BadWall (XTab.cons Z_BadMouse kx_ValueError_BadMouse (XTab.cons Z_BadTrip kx_ValueError_BadTrip (XTab.cons Z_BadScript kx_ValueError_BadScript (XTab.cons Z_BadReckoner kx_ValueError_BadReckoner (XTab.cons Z_Misfit kx_ValueError_Misfit (XTab.cons Z_TooMany kx_ValueError_TooMany (XTab.cons Z_BadText kx_ValueError_BadText (XTab.nil))))))))))))),
    (ETab.cons Z_BadNumber ex_StoneError_BadNumber (ETab.cons Z_BadFloor ex_StoneError_BadFloor (ETab.cons Z_BadCell ex_StoneError_BadCell (ETab.cons Z_BadWall ex_StoneError_BadWall (ETab.cons Z_BadMouse ex_StoneError_BadMouse (ETab.cons Z_BadTrip ex_StoneError_BadTrip (ETab.cons Z_BadScript ex_StoneError_BadScript (ETab.cons Z_BadReckoner ex_StoneError_BadReckoner (ETab.cons Z_Misfit ex_StoneError_Misfit (ETab.cons Z_TooMany ex_StoneError_TooMany (ETab.cons Z_BadText ex_StoneError_BadText (ETab.nil)))))))))))),
    f0,
    _,
    F0,
    (PySem.W.mg_of X G a_law_caught),
    (F0.binds (ps := ["_law_part", "_law_way"]) fun _ _ _ _ _ _ us hl => match us, hl with | [_, _], _ => rfl),
    f1,
    _,
    F1,
    (PySem.W.mg_of X G a_law_tell),
    (F1.binds (ps := ["_law_paw_here", "_law_many"]) fun _ _ _ _ _ _ us hl => match us, hl with | [_, _], _ => rfl),
    f2,
    _,
    F2,
    (PySem.W.mg_of X G a_law_pick),
    (F2.binds (ps := ["_law_paw_here", "_law_some"]) fun _ _ _ _ _ _ us hl => match us, hl with | [_, _], _ => rfl),
    f3,
    _,
    F3,
    (PySem.W.mg_of X G a_law_field),
    (F3.binds (ps := ["_law_paw_here"]) fun _ _ _ _ _ _ us hl => match us, hl with | [_], _ => rfl),
    f4,
    _,
    F4,
    (PySem.W.mg_of X G a_law_is_plain),
    (F4.binds (ps := ["_law_error"]) fun _ _ _ _ _ _ us hl => match us, hl with | [_], _ => rfl),
    f5,
    _,
    F5,
    (PySem.W.mg_of X G a_law_parts),
    (F5.binds (ps := ["_law_part"]) fun _ _ _ _ _ _ us hl => match us, hl with | [_], _ => rfl),
    f6,
    _,
    F6,
    (PySem.W.mg_of X G a_law_paw),
    (F6.binds (ps := ["_law_script"]) fun _ _ _ _ _ _ us hl => match us, hl with | [_], _ => rfl),
    f7,
    _,
    F7,
    (PySem.W.mg_of X G a_law_which),
    (F7.binds (ps := ["_law_error"]) fun _ _ _ _ _ _ us hl => match us, hl with | [_], _ => rfl),
    fa,
    _,
    F8,
    (PySem.W.mg_of X G a_law),
    (F8.binds (ps := ["_law_script"]) fun _ _ _ _ _ _ us hl => match us, hl with | [_], _ => rfl),
    (PySem.W.mg_none_of X G n_ArithmeticError),
    (PySem.W.mg_none_of X G n_AttributeError),
    (PySem.W.mg_none_of X G n_LookupError),
    (PySem.W.mg_none_of X G n_RuntimeError),
    (PySem.W.mg_none_of X G n_TypeError),
    (PySem.W.mg_none_of X G n_ValueError),
    (PySem.W.mg_none_of X G n_abs),
    (PySem.W.mg_none_of X G n_enumerate),
    (PySem.W.mg_none_of X G n_int),
    (PySem.W.mg_none_of X G n_isinstance),
    (PySem.W.mg_none_of X G n_len),
    (PySem.W.mg_none_of X G n_range),
    (PySem.W.mg_none_of X G n_repr)⟩, res⟩
end Law

namespace Law
open PySem PySem.Spec PyProof.Rows L2 Mi
local macro_rules | `(tactic| walk_at "ev") => `(tactic| (try simp only [noX_ok, kRs_ok, x_raise, kTry_ok, x_try, kEnum_l, x_enum, x_ttp, setAll, x_var, x_c, x_dct, x_maN, x_oN, x_nil, x_retN, x_brk, x_cnt, x_yes, x_tnm, kBin2_ok, kBin1_ok, x_bin, kUn_ok, x_un, kCons2_ok, kCons1_ok, x_maC, kTup_ok, x_tup, kLst_ok, x_lst, kNew_ok, x_new, kCall_ok, x_call, kApp_ok, x_app, kAppK2_ok, kAppK1_ok, x_appK, kBl_ok, kCmp2_ok, kCmp1_ok, x_tcmp, x_cmp, kTe_ok, x_te, kTnot_ok, x_tnot, kTand_t, kTand_f, x_tand, kTor_t, kTor_f, x_tor, kAnd2_t, kAnd2_f, kAnd1_ok, x_and, kOr2_t, kOr2_f, kOr1_ok, x_or, kNot2_ok, kNot1_ok, x_not, kIf_t, kIf_f, x_if, kOS_ok, x_oS, kSl3_ok, kSl2_ok, kSl1_ok, x_sl, kSeq_ok, x_seq, x_an, x_ar, x_ab, x_ac, kSet_ok, x_set, kRet_ok, x_ret, kSif_t, kSif_f, x_sif, kExp_ok, x_exp, kPut4_ok, kPut3_ok, kPut2_ok, kPut1_ok, x_put, kPar2_ok, x_par2, kPar3_ok, x_par3, kFor_ok, x_for, kLc_ok, x_lc, kFn_ok, x_fn, kSeqI_ok, x_seqI, kRng1_ok, x_rng1, x_lc0, kLc4_ok, kLc3_t, kLc3_f, kLc2_ok, x_lc1, kFor3_n, kFor3_c, kFor3_b, kFor3_r, kFor2_ok, un1_x, asT_bl,
  evStart, wipeE, List.map_cons, List.map_nil, List.length_cons, List.length_nil, List.getElem?_cons_zero, List.getElem?_cons_succ, List.getElem?_nil, List.set_cons_zero, List.set_cons_succ, List.set_nil, List.replicate, List.cons_append, List.nil_append, Nat.reduceAdd, Nat.reduceSub, Nat.zero_add, Nat.reduceLeDiff,
  Bool.false_eq_true, if_true, if_false, reduceIte, Bool.not_true, Bool.not_false, lim_is, List.any_cons, List.any_nil, Ty.sub, Bool.or_false, Bool.or_true, Bool.false_or, Bool.true_or, Bool.false_xor, Bool.true_xor, Bool.xor_false, Bool.xor_true,
  zv_add, zv_sub, zv_neg, zv_mul, zv_div, zv_mod, zv_pow, zv_cmp, zv_isN, zv_isB, zv_int, zv_intb, zv_abs, zv_lenl, zv_lent, zv_ixl, isNonW]))
theorem nums : Nums 603695 124663 2147483647 458387 2147483629 42613 2147483587 64 := ⟨by decide, by decide, by decide, by decide, by decide, by decide, by decide, by decide, by decide, by decide, by decide, by decide, by decide, by decide, by decide⟩
theorem tell_is : m_law_tell = tellG 603695 124663 2147483647 458387 2147483629 42613 2147483587 64 := rfl
theorem pick_is : m_law_pick = pickG m_law_tell := rfl
theorem paw_is : m_law_paw = pawG (62 : Nat) := rfl
theorem r_paw (ns : List Int) : m_law_paw [.rdl (ns.map .int)] [] = .ok (.ref 0) [pawO (ns.take 62) 0 0] := by
  rw [paw_is, paw_ok 62 ns [] (by decide)]
  rfl
theorem r_tell {cs : List Int} {t r m : Int} (hm : 0 < m) (hm2 : m < 1073741824) (ht : 0 ≤ t) (ht2 : t ≤ 1000000) (hc : cs.length ≤ 1000) :
    ∃ k t' r', 0 ≤ k ∧ k < m ∧ t ≤ t' ∧ t' ≤ t + 1 ∧ m_law_tell [.ref 0, .int m] [pawO cs t r] = .ok (.int k) [pawO cs t' r'] := by
  obtain ⟨k, t', r', h1, h2, h3, h4, h5⟩ := tell_ok nums (M := [pawO cs t r]) (n := 0) rfl hm hm2 ht ht2 hc
  exact ⟨k, t', r', h1, h2, h3, h4, by rw [tell_is, h5]; rfl⟩
theorem r_pick {cs : List Int} {t r : Int} {ws : List Wv} (hw : 0 < ws.length) (hw2 : ws.length ≤ 100000) (ht : 0 ≤ t) (ht2 : t ≤ 1000000) (hc : cs.length ≤ 1000) :
    ∃ w t' r', w ∈ ws ∧ t ≤ t' ∧ t' ≤ t + 1 ∧ m_law_pick [.ref 0, .lst ws] [pawO cs t r] = .ok w [pawO cs t' r'] := by
  obtain ⟨w, t', r', h1, h2, h3, h4⟩ := pick_ok nums (M := [pawO cs t r]) (n := 0) rfl hw hw2 ht ht2 hc
  exact ⟨w, t', r', h1, h2, h3, by rw [pick_is, tell_is, h4]; rfl⟩
/-- the drawn fields -/
def flds : List Wv := [.str "cell", .str "", .int 5, .int (-1), .non, .bl true, .tup [.int 1, .int 2], .lst [.int 3, .lst [.int 4]], .int (10 ^ 30), .str "two words", .dct [] []]
theorem r_field {cs : List Int} {t r : Int} (ht : 0 ≤ t) (ht2 : t ≤ 1000000) (hc : cs.length ≤ 1000) :
    ∃ w t' r', w ∈ flds ∧ t ≤ t' ∧ t' ≤ t + 1 ∧ m_law_field [.ref 0] [pawO cs t r] = .ok w [pawO cs t' r'] := by
  obtain ⟨w, t', r', h1, h2, h3, h4⟩ := r_pick (ws := flds) (r := r) (by decide) (by decide) ht ht2 hc
  refine ⟨w, t', r', h1, h2, h3, ?_⟩
  have e : m_law_field [.ref 0] [pawO cs t r] = kFn (kRet (m_law_pick [.ref 0, .lst flds] [pawO cs t r])) := by kernel_rfl
  rw [e, h4]
  rfl
def er (C : Str) (v : Wv) : Wv := .exc C ["part"] [v]
def nine : List Str := ["BadNumber", "BadFloor", "BadCell", "BadWall", "BadMouse", "BadTrip", "BadScript", "BadReckoner", "Misfit"]
theorem r_parts (v : Wv) (M : Mem) : m_law_parts [v] M = .ok (.lst (nine.map fun C => er C v)) M := by kernel_rfl
theorem r_plain : ∀ C ∈ nine, ∀ (v : Wv) (M : Mem), m_law_is_plain [er C v] M = .ok (.bl true) M := by
  intro C h v M
  simp only [nine, List.mem_cons, List.not_mem_nil, or_false] at h
  rcases h with rfl | rfl | rfl | rfl | rfl | rfl | rfl | rfl | rfl <;> kernel_rfl
def tm (v w : Wv) : Wv := .exc "TooMany" ["most", "what"] [w, v]
def bt (v w : Wv) : Wv := .exc "BadText" ["item", "line"] [w, v]
theorem r_plain_tm (v w : Wv) (M : Mem) : m_law_is_plain [tm v w] M = .ok (.bl true) M := by kernel_rfl
theorem r_plain_bt (v w : Wv) (M : Mem) : m_law_is_plain [bt v w] M = .ok (.bl true) M := by kernel_rfl
theorem r_caught {k : Int} (h : 0 ≤ k) (h2 : k < 3) (v : Wv) (M : Mem) : m_law_caught [v, .int k] M = .ok v M := by
  obtain rfl | rfl | rfl : k = 0 ∨ k = 1 ∨ k = 2 := by omega
  all_goals kernel_rfl
theorem shows1 : ∀ v ∈ flds, Shows v := by
  intro v h
  simp only [flds, List.mem_cons, List.not_mem_nil, or_false] at h
  rcases h with rfl | rfl | rfl | rfl | rfl | rfl | rfl | rfl | rfl | rfl | rfl <;> exact shows_by (by decide +kernel)
theorem okAll : (flds.all fun p => flds.all fun q => okB (.lst [p, q, p, q])) = true := by decide +kernel
theorem shows4 {p q : Wv} (hp : p ∈ flds) (hq : q ∈ flds) : Shows (.lst [p, q, p, q]) := shows_by (List.all_eq_true.mp (List.all_eq_true.mp okAll p hp) q hq)
theorem r_b3 {p : Wv} (hp : Shows p) : ∀ i ∈ List.range 9, ∀ (a0 a1 a2 a4 a6 a7 a9 a10 a11 : Option Wv) (M : Mem), i_law_4 [a0, a1, a2, some (er (nine.getD i "") p), a4, some p, a6, a7, some (.int (i : Nat)), a9, a10, a11] M = .ok (.nx [a0, a1, a2, some (er (nine.getD i "") p), a4, some p, a6, a7, some (.int (i : Nat)), a9, a10, a11]) M := by
  intro i hi a0 a1 a2 a4 a6 a7 a9 a10 a11 M
  have h1 : mtCmp (eqW true) (mApp 1 m_law_which (maC (mVar 3) (maN))) (mLc [9] (.nm 9) (mRng1 (mC (.int 11))) (mtYes) (e_law_3)) [a0, a1, a2, some (er (nine.getD i "") p), a4, some p, a6, a7, some (.int (i : Nat)), a9, a10, a11] M = .ok false M := by
    simp only [List.range, List.range.loop, List.mem_cons, List.not_mem_nil, or_false] at hi
    rcases hi with rfl | rfl | rfl | rfl | rfl | rfl | rfl | rfl | rfl <;> kernel_rfl
  have h2 : mCall reprD (maC (mUn (fldW es_part [] "part") (mVar 3)) (maN)) [a0, a1, a2, some (er (nine.getD i "") p), a4, some p, a6, a7, some (.int (i : Nat)), a9, a10, a11] M = repr2 p M := by
    simp only [List.range, List.range.loop, List.mem_cons, List.not_mem_nil, or_false] at hi
    rcases hi with rfl | rfl | rfl | rfl | rfl | rfl | rfl | rfl | rfl <;> kernel_rfl
  have h3 : mCall reprD (maC (mVar 5) (maN)) [a0, a1, a2, some (er (nine.getD i "") p), a4, some p, a6, a7, some (.int (i : Nat)), a9, a10, a11] M = repr2 p M := by kernel_rfl
  unfold i_law_4
  simp only [x_sif, x_tor, h1, kTor_f, x_tcmp, h2, hp.2, kCmp1_ok, h3, kCmp2_ok, zv_rr _ hp.1, kSif_f, x_nil]
def errs (p : Wv) : List Wv := nine.map fun C => er C p
theorem r_loop {p : Wv} (hp : Shows p) (a0 a1 a2 a3 a4 a6 a7 a8 a9 a10 a11 : Option Wv) (M : Mem) : ∃ b3 b8, forW (.tp [8, 3]) i_law_4 (enumL (errs p)) [a0, a1, a2, a3, a4, some p, a6, a7, a8, a9, a10, a11] M = .ok (.nx [a0, a1, a2, b3, a4, some p, a6, a7, b8, a9, a10, a11]) M := by
  refine ⟨some (er "Misfit" p), some (.int 8), ?_⟩
  have e : enumL (errs p) = (List.range 9).map fun i => Wv.tup [.int (i : Nat), er (nine.getD i "") p] := by kernel_rfl
  rw [e]
  have hb := r_b3 hp
  simp only [List.range, List.range.loop, List.map_cons, List.map_nil]
  simp only [x_for1, x_ttp, List.length_cons, List.length_nil, if_true, setAll, List.set_cons_zero, List.set_cons_succ, kFor2_ok]
  rw [hb 0 (by decide), kFor3_n]
  simp only [x_for1, x_ttp, List.length_cons, List.length_nil, if_true, setAll, List.set_cons_zero, List.set_cons_succ, kFor2_ok]
  rw [hb 1 (by decide), kFor3_n]
  simp only [x_for1, x_ttp, List.length_cons, List.length_nil, if_true, setAll, List.set_cons_zero, List.set_cons_succ, kFor2_ok]
  rw [hb 2 (by decide), kFor3_n]
  simp only [x_for1, x_ttp, List.length_cons, List.length_nil, if_true, setAll, List.set_cons_zero, List.set_cons_succ, kFor2_ok]
  rw [hb 3 (by decide), kFor3_n]
  simp only [x_for1, x_ttp, List.length_cons, List.length_nil, if_true, setAll, List.set_cons_zero, List.set_cons_succ, kFor2_ok]
  rw [hb 4 (by decide), kFor3_n]
  simp only [x_for1, x_ttp, List.length_cons, List.length_nil, if_true, setAll, List.set_cons_zero, List.set_cons_succ, kFor2_ok]
  rw [hb 5 (by decide), kFor3_n]
  simp only [x_for1, x_ttp, List.length_cons, List.length_nil, if_true, setAll, List.set_cons_zero, List.set_cons_succ, kFor2_ok]
  rw [hb 6 (by decide), kFor3_n]
  simp only [x_for1, x_ttp, List.length_cons, List.length_nil, if_true, setAll, List.set_cons_zero, List.set_cons_succ, kFor2_ok]
  rw [hb 7 (by decide), kFor3_n]
  simp only [x_for1, x_ttp, List.length_cons, List.length_nil, if_true, setAll, List.set_cons_zero, List.set_cons_succ, kFor2_ok]
  rw [hb 8 (by decide), kFor3_n, x_for0]
  rfl
end Law

namespace Law
open PySem PySem.Spec PyProof.Rows L2 Mi
local macro_rules | `(tactic| walk_at "ev") => `(tactic| (try simp only [noX_ok, kRs_ok, x_raise, kTry_ok, x_try, kEnum_l, x_enum, x_ttp, setAll, x_var, x_c, x_dct, x_maN, x_oN, x_nil, x_retN, x_brk, x_cnt, x_yes, x_tnm, kBin2_ok, kBin1_ok, x_bin, kUn_ok, x_un, kCons2_ok, kCons1_ok, x_maC, kTup_ok, x_tup, kLst_ok, x_lst, kNew_ok, x_new, kCall_ok, x_call, kApp_ok, x_app, kAppK2_ok, kAppK1_ok, x_appK, kBl_ok, kCmp2_ok, kCmp1_ok, x_tcmp, x_cmp, kTe_ok, x_te, kTnot_ok, x_tnot, kTand_t, kTand_f, x_tand, kTor_t, kTor_f, x_tor, kAnd2_t, kAnd2_f, kAnd1_ok, x_and, kOr2_t, kOr2_f, kOr1_ok, x_or, kNot2_ok, kNot1_ok, x_not, kIf_t, kIf_f, x_if, kOS_ok, x_oS, kSl3_ok, kSl2_ok, kSl1_ok, x_sl, kSeq_ok, x_seq, x_an, x_ar, x_ab, x_ac, kSet_ok, x_set, kRet_ok, x_ret, kSif_t, kSif_f, x_sif, kExp_ok, x_exp, kPut4_ok, kPut3_ok, kPut2_ok, kPut1_ok, x_put, kPar2_ok, x_par2, kPar3_ok, x_par3, kFor_ok, x_for, kLc_ok, x_lc, kFn_ok, x_fn, kSeqI_ok, x_seqI, kRng1_ok, x_rng1, x_lc0, kLc4_ok, kLc3_t, kLc3_f, kLc2_ok, x_lc1, kFor3_n, kFor3_c, kFor3_b, kFor3_r, kFor2_ok, un1_x, asT_bl,
  evStart, wipeE, List.map_cons, List.map_nil, List.length_cons, List.length_nil, List.getElem?_cons_zero, List.getElem?_cons_succ, List.getElem?_nil, List.set_cons_zero, List.set_cons_succ, List.set_nil, List.replicate, List.cons_append, List.nil_append, Nat.reduceAdd, Nat.reduceSub, Nat.zero_add, Nat.reduceLeDiff,
  Bool.false_eq_true, if_true, if_false, reduceIte, Bool.not_true, Bool.not_false, lim_is, List.any_cons, List.any_nil, Ty.sub, Bool.or_false, Bool.or_true, Bool.false_or, Bool.true_or, Bool.false_xor, Bool.true_xor, Bool.xor_false, Bool.xor_true,
  zv_add, zv_sub, zv_neg, zv_mul, zv_div, zv_mod, zv_pow, zv_cmp, zv_isN, zv_isB, zv_int, zv_intb, zv_abs, zv_lenl, zv_lent, zv_ixl, isNonW]))
theorem r_turn {cs : List Int} {t r : Int} (ht : 0 ≤ t) (ht2 : t ≤ 999000) (hc : cs.length ≤ 1000) {k : Int} (hk : k = 0 ∨ k = 1) (a0 a2 a3 a5 a6 a7 a8 a9 a10 a11 : Option Wv) :
    ∃ b3 b5 b6 b7 b8 b9 b10 b11 t' r', t ≤ t' ∧ t' ≤ t + 3 ∧ b_law_10 [a0, some (.ref 0), a2, a3, some (.int k), a5, a6, a7, a8, a9, a10, a11] [pawO cs t r] = .ok (.nx [a0, some (.ref 0), a2, b3, some (.int k), b5, b6, b7, b8, b9, b10, b11]) [pawO cs t' r'] := by
  unfold b_law_10
  obtain ⟨p, t1, r1, hp, h1, h2, h3⟩ := r_field (r := r) ht (by omega) hc
  obtain ⟨q, t2, r2, hq, h4, h5, h6⟩ := r_field (t := t1) (r := r1) (cs := cs) (by omega) (by omega) hc
  walk_at "ev"
  rw [h3]
  walk_at "ev"
  rw [h6]
  walk_at "ev"
  rw [r_parts]
  walk_at "ev"
  obtain ⟨b3, b8, hl⟩ := r_loop (shows1 p hp) a0 (some (.ref 0)) a2 a3 (some (.int k)) (some q) (some (.lst (errs p))) a8 a9 a10 a11 [pawO cs t2 r2]
  rw [show enumL (List.map (fun C => er C p) nine) = enumL (errs p) from rfl, show List.map (fun C => er C p) nine = errs p from rfl, hl]
  walk_at "ev"
  have m1 : xmkW "TooMany" [("what", 1), ("most", 2)] [p, q] [pawO cs t2 r2] = .ok (tm p q) [pawO cs t2 r2] := by kernel_rfl
  have m2 : xmkW "BadText" [("line", 1), ("item", 2)] [p, q] [pawO cs t2 r2] = .ok (bt p q) [pawO cs t2 r2] := by kernel_rfl
  rw [m1]
  walk_at "ev"
  rw [m2]
  walk_at "ev"
  have e5 : i_law_5 [a0, some (.ref 0), a2, b3, some (.int k), some p, some q, some (.lst (errs p)), b8, a9, some (tm p q), some (bt p q)] [pawO cs t2 r2] = .ok (.nx [a0, some (.ref 0), a2, b3, some (.int k), some p, some q, some (.lst (errs p)), b8, a9, some (tm p q), some (bt p q)]) [pawO cs t2 r2] := by
    rcases hk with rfl | rfl <;> kernel_rfl
  have e6 : i_law_6 [a0, some (.ref 0), a2, b3, some (.int k), some p, some q, some (.lst (errs p)), b8, a9, some (tm p q), some (bt p q)] [pawO cs t2 r2] = .ok (.nx [a0, some (.ref 0), a2, b3, some (.int k), some p, some q, some (.lst (errs p)), b8, a9, some (tm p q), some (bt p q)]) [pawO cs t2 r2] :=
    sif_f (ne_repr (M1 := [pawO cs t2 r2]) (by kernel_rfl) (by kernel_rfl) (shows4 hp hq)) rfl
  have e7 : i_law_7 [a0, some (.ref 0), a2, b3, some (.int k), some p, some q, some (.lst (errs p)), b8, a9, some (tm p q), some (bt p q)] [pawO cs t2 r2] = .ok (.nx [a0, some (.ref 0), a2, b3, some (.int k), some p, some q, some (.lst (errs p)), b8, a9, some (tm p q), some (bt p q)]) [pawO cs t2 r2] := by kernel_rfl
  obtain ⟨c, t3, r3, c0, c3, g1, g2, g3⟩ := r_tell (m := 3) (t := t2) (r := r2) (cs := cs) (by decide) (by decide) (by omega) (by omega) hc
  have e9 : i_law_9 [a0, some (.ref 0), a2, b3, some (.int k), some p, some q, some (.lst (errs p)), b8, a9, some (tm p q), some (bt p q)] [pawO cs t2 r2] = .ok (.nx [a0, some (.ref 0), a2, b3, some (.int k), some p, some q, some (.lst (errs p)), b8, a9, some (tm p q), some (bt p q)]) [pawO cs t3 r3] := by
    refine sif_f (tor_f (M1 := [pawO cs t2 r2]) (by kernel_rfl) (ne_repr (v := p) (M1 := [pawO cs t3 r3]) ?_ (by kernel_rfl) (shows1 p hp))) rfl
    walk_at "ev"
    rw [g3]
    walk_at "ev"
    exact r_caught c0 c3 p _
  exact ⟨_, _, _, _, _, _, _, _, t3, r3, by omega, by omega, seq_ e5 (seq_ e6 (seq_ e7 e9))⟩
theorem r_great {k : Int} (h : 0 ≤ k) (h2 : k < 99) (M : Mem) : shlW (.int 1) (.int (20000 + k)) M = .ok (.int (1 * 2 ^ (20000 + k).toNat)) M := if_pos ⟨by omega, by omega, by decide⟩
theorem r_i2 (g : Int) (a0 a1 a4 a5 a6 a7 a8 a9 a10 a11 : Option Wv) (M : Mem) : i_law_2 [a0, a1, some (.int g), none, a4, a5, a6, a7, a8, a9, a10, a11] M = .ok (.nx [a0, a1, some (.int g), none, a4, a5, a6, a7, a8, a9, a10, a11]) M := by
  have ng : ∀ M : Mem, eqW true (.int g) (.int g) M = .ok false M := fun M => by rw [zv_nei]; simp
  refine sif_f (tor_f (M1 := M) (tcmp_ (v := .lst []) (w := .lst []) (M1 := M) (M2 := M) ?_ (by kernel_rfl) (by kernel_rfl)) (tor_f (M1 := M) (tcmp_ (v := .int g) (w := .int g) (M1 := M) (M2 := M) (by kernel_rfl) (by kernel_rfl) (ng M)) (tcmp_ (v := .int g) (w := .int g) (M1 := M) (M2 := M) (by kernel_rfl) (by kernel_rfl) (ng M)))) rfl
  rw [x_lc, x_seqI]
  walk_at "ev"
  rw [r_parts]
  walk_at "ev"
  rw [lc_filter (p := fun _ => false) (f := id) ?_ (by simp [nine, lim_is])]
  · rfl
  · intro w hw
    refine ⟨[a0, a1, some (.int g), some w, a4, a5, a6, a7, a8, a9, a10, a11], rfl, ?_, fun z => by cases z⟩
    simp only [nine, List.map_cons, List.map_nil, List.mem_cons, List.not_mem_nil, or_false] at hw
    rcases hw with rfl | rfl | rfl | rfl | rfl | rfl | rfl | rfl | rfl
    all_goals exact tcmp_ (v := .int g) (w := .int g) (M1 := M) (M2 := M) (by kernel_rfl) (by kernel_rfl) (ng M)
theorem holds (ns : List Int) : ∃ M, m_law [.rdl (ns.map Wv.int)] [] = .ok (.bl true) M := by
  unfold m_law
  walk_at "ev"
  rw [r_paw]
  walk_at "ev"
  have hc : (ns.take 62).length ≤ 1000 := by rw [List.length_take]; omega
  obtain ⟨c, t1, r1, c0, c3, g1, g2, g3⟩ := r_tell (m := 99) (t := 0) (r := 0) (cs := ns.take 62) (by decide) (by decide) (by omega) (by omega) hc
  rw [g3]
  walk_at "ev"
  rw [r_great c0 c3]
  generalize (1 * 2 ^ (20000 + c).toNat : Int) = g
  walk_at "ev"
  rw [r_i2]
  walk_at "ev"
  rw [if_pos (by decide), show rng 0 (Int.toNat 2) = [.int 0, .int 1] from by kernel_rfl]
  walk_at "ev"
  simp only [x_for1]
  walk_at "ev"
  obtain ⟨b3, b5, b6, b7, b8, b9, b10, b11, t2, r2, e1, e2, e3⟩ := r_turn (t := t1) (r := r1) (cs := ns.take 62) (by omega) (by omega) hc (.inl rfl) (some (.rdl (ns.map Wv.int))) (some (.int g)) none none none none none none none none
  rw [e3]
  walk_at "ev"
  simp only [x_for1]
  walk_at "ev"
  obtain ⟨c3, c5, c6, c7, c8, c9, c10, c11, t3, r3, e4, e5, e6⟩ := r_turn (t := t2) (r := r2) (cs := ns.take 62) (by omega) (by omega) hc (.inr rfl) (some (.rdl (ns.map Wv.int))) (some (.int g)) b3 b5 b6 b7 b8 b9 b10 b11
  rw [e6]
  walk_at "ev"
  simp only [x_for0]
  walk_at "ev"
  exact ⟨_, rfl⟩
end Law

open PySem PySem.W PyProof.Rows in
set_option maxRecDepth 100000 in
set_option maxHeartbeats 0 in
theorem PySem.Challenge.cw_fourstones_k00_errors_keep_their_fields_holds : PySem.Challenge.rw_fourstones_k00_errors_keep_their_fields.Holds := by
  w_on; o_law; k_head; (case hw => w_witness2)
  k_fill
  refine Mi.walkG (l := PySem.Challenge.rw_fourstones_k00_errors_keep_their_fields) (n := 63) (k := 4) (x := "_law_script") rfl (by decide) rfl ⟨rfl, by decide, by decide⟩ (fun w h Y => PySem.W.kIn_of Y) ?F
  case F =>
    intro w mg fa h KX G hmg
    refine' Law.all_mk KX G hmg ?a_law_caught ?l_law_caught ?d_law_caught ?k_law_caught ?a_law_tell ?l_law_tell ?d_law_tell ?k_law_tell ?a_law_pick ?l_law_pick ?d_law_pick ?k_law_pick ?a_law_field ?l_law_field ?d_law_field ?k_law_field ?a_law_is_plain ?l_law_is_plain ?d_law_is_plain ?k_law_is_plain ?a_law_parts ?l_law_parts ?d_law_parts ?k_law_parts ?a_law_paw ?l_law_paw ?d_law_paw ?k_law_paw ?a_law_which ?l_law_which ?d_law_which ?k_law_which ?a_law ?l_law ?d_law ?k_law ?ga_BadCell ?ga_BadFloor ?ga_BadMouse ?ga_BadNumber ?ga_BadReckoner ?ga_BadScript ?ga_BadText ?ga_BadTrip ?ga_BadWall ?ga_Misfit ?ga_StoneError ?ga_TooMany ?Z_BadNumber ?Z_BadFloor ?Z_BadCell ?Z_BadWall ?Z_BadMouse ?Z_BadTrip ?Z_BadScript ?Z_BadReckoner ?Z_Misfit ?Z_TooMany ?Z_BadText ?kt_ArithmeticError ?kx_ArithmeticError_BadNumber ?kx_ArithmeticError_BadFloor ?kx_ArithmeticError_BadCell ?kx_ArithmeticError_BadWall ?kx_ArithmeticError_BadMouse ?kx_ArithmeticError_BadTrip ?kx_ArithmeticError_BadScript ?kx_ArithmeticError_BadReckoner ?kx_ArithmeticError_Misfit ?kx_ArithmeticError_TooMany ?kx_ArithmeticError_BadText ?kt_AttributeError ?kx_AttributeError_BadNumber ?kx_AttributeError_BadFloor ?kx_AttributeError_BadCell ?kx_AttributeError_BadWall ?kx_AttributeError_BadMouse ?kx_AttributeError_BadTrip ?kx_AttributeError_BadScript ?kx_AttributeError_BadReckoner ?kx_AttributeError_Misfit ?kx_AttributeError_TooMany ?kx_AttributeError_BadText ?kt_BadCell ?kx_BadCell_BadNumber ?kx_BadCell_BadFloor ?kx_BadCell_BadCell ?kx_BadCell_BadWall ?kx_BadCell_BadMouse ?kx_BadCell_BadTrip ?kx_BadCell_BadScript ?kx_BadCell_BadReckoner ?kx_BadCell_Misfit ?kx_BadCell_TooMany ?kx_BadCell_BadText ?kt_BadFloor ?kx_BadFloor_BadNumber ?kx_BadFloor_BadFloor ?kx_BadFloor_BadCell ?kx_BadFloor_BadWall ?kx_BadFloor_BadMouse ?kx_BadFloor_BadTrip ?kx_BadFloor_BadScript ?kx_BadFloor_BadReckoner ?kx_BadFloor_Misfit ?kx_BadFloor_TooMany ?kx_BadFloor_BadText ?kt_BadMouse ?kx_BadMouse_BadNumber ?kx_BadMouse_BadFloor ?kx_BadMouse_BadCell ?kx_BadMouse_BadWall ?kx_BadMouse_BadMouse ?kx_BadMouse_BadTrip ?kx_BadMouse_BadScript ?kx_BadMouse_BadReckoner ?kx_BadMouse_Misfit ?kx_BadMouse_TooMany ?kx_BadMouse_BadText ?kt_BadNumber ?kx_BadNumber_BadNumber ?kx_BadNumber_BadFloor ?kx_BadNumber_BadCell ?kx_BadNumber_BadWall ?kx_BadNumber_BadMouse ?kx_BadNumber_BadTrip ?kx_BadNumber_BadScript ?kx_BadNumber_BadReckoner ?kx_BadNumber_Misfit ?kx_BadNumber_TooMany ?kx_BadNumber_BadText ?kt_BadReckoner ?kx_BadReckoner_BadNumber ?kx_BadReckoner_BadFloor ?kx_BadReckoner_BadCell ?kx_BadReckoner_BadWall ?kx_BadReckoner_BadMouse ?kx_BadReckoner_BadTrip ?kx_BadReckoner_BadScript ?kx_BadReckoner_BadReckoner ?kx_BadReckoner_Misfit ?kx_BadReckoner_TooMany ?kx_BadReckoner_BadText ?kt_BadScript ?kx_BadScript_BadNumber ?kx_BadScript_BadFloor ?kx_BadScript_BadCell ?kx_BadScript_BadWall ?kx_BadScript_BadMouse ?kx_BadScript_BadTrip ?kx_BadScript_BadScript ?kx_BadScript_BadReckoner ?kx_BadScript_Misfit ?kx_BadScript_TooMany ?kx_BadScript_BadText ?kt_BadText ?kx_BadText_BadNumber ?kx_BadText_BadFloor ?kx_BadText_BadCell ?kx_BadText_BadWall ?kx_BadText_BadMouse ?kx_BadText_BadTrip ?kx_BadText_BadScript ?kx_BadText_BadReckoner ?kx_BadText_Misfit ?kx_BadText_TooMany ?kx_BadText_BadText ?kt_BadTrip ?kx_BadTrip_BadNumber ?kx_BadTrip_BadFloor ?kx_BadTrip_BadCell ?kx_BadTrip_BadWall ?kx_BadTrip_BadMouse ?kx_BadTrip_BadTrip ?kx_BadTrip_BadScript ?kx_BadTrip_BadReckoner ?kx_BadTrip_Misfit ?kx_BadTrip_TooMany ?kx_BadTrip_BadText ?kt_BadWall ?kx_BadWall_BadNumber ?kx_BadWall_BadFloor ?kx_BadWall_BadCell ?kx_BadWall_BadWall ?kx_BadWall_BadMouse ?kx_BadWall_BadTrip ?kx_BadWall_BadScript ?kx_BadWall_BadReckoner ?kx_BadWall_Misfit ?kx_BadWall_TooMany ?kx_BadWall_BadText ?kt_LookupError ?kx_LookupError_BadNumber ?kx_LookupError_BadFloor ?kx_LookupError_BadCell ?kx_LookupError_BadWall ?kx_LookupError_BadMouse ?kx_LookupError_BadTrip ?kx_LookupError_BadScript ?kx_LookupError_BadReckoner ?kx_LookupError_Misfit ?kx_LookupError_TooMany ?kx_LookupError_BadText ?kt_Misfit ?kx_Misfit_BadNumber ?kx_Misfit_BadFloor ?kx_Misfit_BadCell ?kx_Misfit_BadWall ?kx_Misfit_BadMouse ?kx_Misfit_BadTrip ?kx_Misfit_BadScript ?kx_Misfit_BadReckoner ?kx_Misfit_Misfit ?kx_Misfit_TooMany ?kx_Misfit_BadText ?kt_RuntimeError ?kx_RuntimeError_BadNumber ?kx_RuntimeError_BadFloor ?kx_RuntimeError_BadCell ?kx_RuntimeError_BadWall ?kx_RuntimeError_BadMouse ?kx_RuntimeError_BadTrip ?kx_RuntimeError_BadScript ?kx_RuntimeError_BadReckoner ?kx_RuntimeError_Misfit ?kx_RuntimeError_TooMany ?kx_RuntimeError_BadText ?kt_StoneError ?kx_StoneError_BadNumber ?kx_StoneError_BadFloor ?kx_StoneError_BadCell ?kx_StoneError_BadWall ?kx_StoneError_BadMouse ?kx_StoneError_BadTrip ?kx_StoneError_BadScript ?kx_StoneError_BadReckoner ?kx_StoneError_Misfit ?kx_StoneError_TooMany ?kx_StoneError_BadText ?kt_TooMany ?kx_TooMany_BadNumber ?kx_TooMany_BadFloor ?kx_TooMany_BadCell ?kx_TooMany_BadWall ?kx_TooMany_BadMouse ?kx_TooMany_BadTrip ?kx_TooMany_BadScript ?kx_TooMany_BadReckoner ?kx_TooMany_Misfit ?kx_TooMany_TooMany ?kx_TooMany_BadText ?kt_TypeError ?kx_TypeError_BadNumber ?kx_TypeError_BadFloor ?kx_TypeError_BadCell ?kx_TypeError_BadWall ?kx_TypeError_BadMouse ?kx_TypeError_BadTrip ?kx_TypeError_BadScript ?kx_TypeError_BadReckoner ?kx_TypeError_Misfit ?kx_TypeError_TooMany ?kx_TypeError_BadText ?kt_ValueError ?kx_ValueError_BadNumber ?kx_ValueError_BadFloor ?kx_ValueError_BadCell ?kx_ValueError_BadWall ?kx_ValueError_BadMouse ?kx_ValueError_BadTrip ?kx_ValueError_BadScript ?kx_ValueError_BadReckoner ?kx_ValueError_Misfit ?kx_ValueError_TooMany ?kx_ValueError_BadText ?ex_StoneError_BadNumber ?ex_StoneError_BadFloor ?ex_StoneError_BadCell ?ex_StoneError_BadWall ?ex_StoneError_BadMouse ?ex_StoneError_BadTrip ?ex_StoneError_BadScript ?ex_StoneError_BadReckoner ?ex_StoneError_Misfit ?ex_StoneError_TooMany ?ex_StoneError_BadText ?n_ArithmeticError ?n_AttributeError ?n_LookupError ?n_RuntimeError ?n_TypeError ?n_ValueError ?n_abs ?n_enumerate ?n_int ?n_isinstance ?n_len ?n_range ?n_repr ?n_super (fun ns _ _ => Law.holds ns)
    (case a_law_caught => k_is)
    (case l_law_caught => k_is)
    (case d_law_caught => k_is)
    (case k_law_caught => k_is)
    (case a_law_tell => k_is)
    (case l_law_tell => k_is)
    (case d_law_tell => k_is)
    (case k_law_tell => k_is)
    (case a_law_pick => k_is)
    (case l_law_pick => k_is)
    (case d_law_pick => k_is)
    (case k_law_pick => k_is)
    (case a_law_field => k_is)
    (case l_law_field => k_is)
    (case d_law_field => k_is)
    (case k_law_field => k_is)
    (case a_law_is_plain => k_is)
    (case l_law_is_plain => k_is)
    (case d_law_is_plain => k_is)
    (case k_law_is_plain => k_is)
    (case a_law_parts => k_is)
    (case l_law_parts => k_is)
    (case d_law_parts => k_is)
    (case k_law_parts => k_is)
    (case a_law_paw => k_is)
    (case l_law_paw => k_is)
    (case d_law_paw => k_is)
    (case k_law_paw => k_is)
    (case a_law_which => k_is)
    (case l_law_which => k_is)
    (case d_law_which => k_is)
    (case k_law_which => k_is)
    (case a_law => k_is)
    (case l_law => k_is)
    (case d_law => k_is)
    (case k_law => k_is)
    (case ga_BadCell => k_is)
    (case ga_BadFloor => k_is)
    (case ga_BadMouse => k_is)
    (case ga_BadNumber => k_is)
    (case ga_BadReckoner => k_is)
    (case ga_BadScript => k_is)
    (case ga_BadText => k_is)
    (case ga_BadTrip => k_is)
    (case ga_BadWall => k_is)
    (case ga_Misfit => k_is)
    (case ga_StoneError => k_is)
    (case ga_TooMany => k_is)
    (case Z_BadNumber => refine' Mi.xf_mk ?hI_BadNumber ?hL_BadNumber ?hT_BadNumber ?hC_BadNumber ?hc_BadNumber ?hv_BadNumber ?hf_BadNumber ?hcc_BadNumber ?t1_BadNumber ?t2_BadNumber ?t3_BadNumber ?t4_BadNumber ?t5_BadNumber ?t6_BadNumber ?h1_BadNumber ?h2_BadNumber ?h3_BadNumber ?h4_BadNumber ?h5_BadNumber (Mi.no_cons ?n_0_BadNumber Mi.no_nil) ?h7_BadNumber ?g1_BadNumber ?g2_BadNumber ?g3_BadNumber ?g4_BadNumber ?g5_BadNumber ?g6_BadNumber ?g7_BadNumber; (case hI_BadNumber => k_is); (case hL_BadNumber => k_is); (case hT_BadNumber => k_is); (case hC_BadNumber => k_is); (case hc_BadNumber => k_is); (case hv_BadNumber => rfl); (case hf_BadNumber => kernel_rfl); (case hcc_BadNumber => k_is); (case t1_BadNumber => k_is); (case t2_BadNumber => decide +kernel); (case t3_BadNumber => k_is); (case t4_BadNumber => k_is); (case t5_BadNumber => k_is); (case t6_BadNumber => k_is); (case h1_BadNumber => kernel_rfl); (case h2_BadNumber => k_is); (case h3_BadNumber => k_is); (case h4_BadNumber => k_is); (case h5_BadNumber => kernel_rfl); (case h7_BadNumber => kernel_rfl); (case g1_BadNumber => k_is); (case g2_BadNumber => k_is); (case g3_BadNumber => k_is); (case g4_BadNumber => k_is); (case g5_BadNumber => k_is); (case g6_BadNumber => k_is); (case g7_BadNumber => k_is); (case n_0_BadNumber => k_is))
    (case Z_BadFloor => refine' Mi.xf_mk ?hI_BadFloor ?hL_BadFloor ?hT_BadFloor ?hC_BadFloor ?hc_BadFloor ?hv_BadFloor ?hf_BadFloor ?hcc_BadFloor ?t1_BadFloor ?t2_BadFloor ?t3_BadFloor ?t4_BadFloor ?t5_BadFloor ?t6_BadFloor ?h1_BadFloor ?h2_BadFloor ?h3_BadFloor ?h4_BadFloor ?h5_BadFloor (Mi.no_cons ?n_0_BadFloor Mi.no_nil) ?h7_BadFloor ?g1_BadFloor ?g2_BadFloor ?g3_BadFloor ?g4_BadFloor ?g5_BadFloor ?g6_BadFloor ?g7_BadFloor; (case hI_BadFloor => k_is); (case hL_BadFloor => k_is); (case hT_BadFloor => k_is); (case hC_BadFloor => k_is); (case hc_BadFloor => k_is); (case hv_BadFloor => rfl); (case hf_BadFloor => kernel_rfl); (case hcc_BadFloor => k_is); (case t1_BadFloor => k_is); (case t2_BadFloor => decide +kernel); (case t3_BadFloor => k_is); (case t4_BadFloor => k_is); (case t5_BadFloor => k_is); (case t6_BadFloor => k_is); (case h1_BadFloor => kernel_rfl); (case h2_BadFloor => k_is); (case h3_BadFloor => k_is); (case h4_BadFloor => k_is); (case h5_BadFloor => kernel_rfl); (case h7_BadFloor => kernel_rfl); (case g1_BadFloor => k_is); (case g2_BadFloor => k_is); (case g3_BadFloor => k_is); (case g4_BadFloor => k_is); (case g5_BadFloor => k_is); (case g6_BadFloor => k_is); (case g7_BadFloor => k_is); (case n_0_BadFloor => k_is))
    (case Z_BadCell => refine' Mi.xf_mk ?hI_BadCell ?hL_BadCell ?hT_BadCell ?hC_BadCell ?hc_BadCell ?hv_BadCell ?hf_BadCell ?hcc_BadCell ?t1_BadCell ?t2_BadCell ?t3_BadCell ?t4_BadCell ?t5_BadCell ?t6_BadCell ?h1_BadCell ?h2_BadCell ?h3_BadCell ?h4_BadCell ?h5_BadCell (Mi.no_cons ?n_0_BadCell Mi.no_nil) ?h7_BadCell ?g1_BadCell ?g2_BadCell ?g3_BadCell ?g4_BadCell ?g5_BadCell ?g6_BadCell ?g7_BadCell; (case hI_BadCell => k_is); (case hL_BadCell => k_is); (case hT_BadCell => k_is); (case hC_BadCell => k_is); (case hc_BadCell => k_is); (case hv_BadCell => rfl); (case hf_BadCell => kernel_rfl); (case hcc_BadCell => k_is); (case t1_BadCell => k_is); (case t2_BadCell => decide +kernel); (case t3_BadCell => k_is); (case t4_BadCell => k_is); (case t5_BadCell => k_is); (case t6_BadCell => k_is); (case h1_BadCell => kernel_rfl); (case h2_BadCell => k_is); (case h3_BadCell => k_is); (case h4_BadCell => k_is); (case h5_BadCell => kernel_rfl); (case h7_BadCell => kernel_rfl); (case g1_BadCell => k_is); (case g2_BadCell => k_is); (case g3_BadCell => k_is); (case g4_BadCell => k_is); (case g5_BadCell => k_is); (case g6_BadCell => k_is); (case g7_BadCell => k_is); (case n_0_BadCell => k_is))
    (case Z_BadWall => refine' Mi.xf_mk ?hI_BadWall ?hL_BadWall ?hT_BadWall ?hC_BadWall ?hc_BadWall ?hv_BadWall ?hf_BadWall ?hcc_BadWall ?t1_BadWall ?t2_BadWall ?t3_BadWall ?t4_BadWall ?t5_BadWall ?t6_BadWall ?h1_BadWall ?h2_BadWall ?h3_BadWall ?h4_BadWall ?h5_BadWall (Mi.no_cons ?n_0_BadWall Mi.no_nil) ?h7_BadWall ?g1_BadWall ?g2_BadWall ?g3_BadWall ?g4_BadWall ?g5_BadWall ?g6_BadWall ?g7_BadWall; (case hI_BadWall => k_is); (case hL_BadWall => k_is); (case hT_BadWall => k_is); (case hC_BadWall => k_is); (case hc_BadWall => k_is); (case hv_BadWall => rfl); (case hf_BadWall => kernel_rfl); (case hcc_BadWall => k_is); (case t1_BadWall => k_is); (case t2_BadWall => decide +kernel); (case t3_BadWall => k_is); (case t4_BadWall => k_is); (case t5_BadWall => k_is); (case t6_BadWall => k_is); (case h1_BadWall => kernel_rfl); (case h2_BadWall => k_is); (case h3_BadWall => k_is); (case h4_BadWall => k_is); (case h5_BadWall => kernel_rfl); (case h7_BadWall => kernel_rfl); (case g1_BadWall => k_is); (case g2_BadWall => k_is); (case g3_BadWall => k_is); (case g4_BadWall => k_is); (case g5_BadWall => k_is); (case g6_BadWall => k_is); (case g7_BadWall => k_is); (case n_0_BadWall => k_is))
    (case Z_BadMouse => refine' Mi.xf_mk ?hI_BadMouse ?hL_BadMouse ?hT_BadMouse ?hC_BadMouse ?hc_BadMouse ?hv_BadMouse ?hf_BadMouse ?hcc_BadMouse ?t1_BadMouse ?t2_BadMouse ?t3_BadMouse ?t4_BadMouse ?t5_BadMouse ?t6_BadMouse ?h1_BadMouse ?h2_BadMouse ?h3_BadMouse ?h4_BadMouse ?h5_BadMouse (Mi.no_cons ?n_0_BadMouse Mi.no_nil) ?h7_BadMouse ?g1_BadMouse ?g2_BadMouse ?g3_BadMouse ?g4_BadMouse ?g5_BadMouse ?g6_BadMouse ?g7_BadMouse; (case hI_BadMouse => k_is); (case hL_BadMouse => k_is); (case hT_BadMouse => k_is); (case hC_BadMouse => k_is); (case hc_BadMouse => k_is); (case hv_BadMouse => rfl); (case hf_BadMouse => kernel_rfl); (case hcc_BadMouse => k_is); (case t1_BadMouse => k_is); (case t2_BadMouse => decide +kernel); (case t3_BadMouse => k_is); (case t4_BadMouse => k_is); (case t5_BadMouse => k_is); (case t6_BadMouse => k_is); (case h1_BadMouse => kernel_rfl); (case h2_BadMouse => k_is); (case h3_BadMouse => k_is); (case h4_BadMouse => k_is); (case h5_BadMouse => kernel_rfl); (case h7_BadMouse => kernel_rfl); (case g1_BadMouse => k_is); (case g2_BadMouse => k_is); (case g3_BadMouse => k_is); (case g4_BadMouse => k_is); (case g5_BadMouse => k_is); (case g6_BadMouse => k_is); (case g7_BadMouse => k_is); (case n_0_BadMouse => k_is))
    (case Z_BadTrip => refine' Mi.xf_mk ?hI_BadTrip ?hL_BadTrip ?hT_BadTrip ?hC_BadTrip ?hc_BadTrip ?hv_BadTrip ?hf_BadTrip ?hcc_BadTrip ?t1_BadTrip ?t2_BadTrip ?t3_BadTrip ?t4_BadTrip ?t5_BadTrip ?t6_BadTrip ?h1_BadTrip ?h2_BadTrip ?h3_BadTrip ?h4_BadTrip ?h5_BadTrip (Mi.no_cons ?n_0_BadTrip Mi.no_nil) ?h7_BadTrip ?g1_BadTrip ?g2_BadTrip ?g3_BadTrip ?g4_BadTrip ?g5_BadTrip ?g6_BadTrip ?g7_BadTrip; (case hI_BadTrip => k_is); (case hL_BadTrip => k_is); (case hT_BadTrip => k_is); (case hC_BadTrip => k_is); (case hc_BadTrip => k_is); (case hv_BadTrip => rfl); (case hf_BadTrip => kernel_rfl); (case hcc_BadTrip => k_is); (case t1_BadTrip => k_is); (case t2_BadTrip => decide +kernel); (case t3_BadTrip => k_is); (case t4_BadTrip => k_is); (case t5_BadTrip => k_is); (case t6_BadTrip => k_is); (case h1_BadTrip => kernel_rfl); (case h2_BadTrip => k_is); (case h3_BadTrip => k_is); (case h4_BadTrip => k_is); (case h5_BadTrip => kernel_rfl); (case h7_BadTrip => kernel_rfl); (case g1_BadTrip => k_is); (case g2_BadTrip => k_is); (case g3_BadTrip => k_is); (case g4_BadTrip => k_is); (case g5_BadTrip => k_is); (case g6_BadTrip => k_is); (case g7_BadTrip => k_is); (case n_0_BadTrip => k_is))
    (case Z_BadScript => refine' Mi.xf_mk ?hI_BadScript ?hL_BadScript ?hT_BadScript ?hC_BadScript ?hc_BadScript ?hv_BadScript ?hf_BadScript ?hcc_BadScript ?t1_BadScript ?t2_BadScript ?t3_BadScript ?t4_BadScript ?t5_BadScript ?t6_BadScript ?h1_BadScript ?h2_BadScript ?h3_BadScript ?h4_BadScript ?h5_BadScript (Mi.no_cons ?n_0_BadScript Mi.no_nil) ?h7_BadScript ?g1_BadScript ?g2_BadScript ?g3_BadScript ?g4_BadScript ?g5_BadScript ?g6_BadScript ?g7_BadScript; (case hI_BadScript => k_is); (case hL_BadScript => k_is); (case hT_BadScript => k_is); (case hC_BadScript => k_is); (case hc_BadScript => k_is); (case hv_BadScript => rfl); (case hf_BadScript => kernel_rfl); (case hcc_BadScript => k_is); (case t1_BadScript => k_is); (case t2_BadScript => decide +kernel); (case t3_BadScript => k_is); (case t4_BadScript => k_is); (case t5_BadScript => k_is); (case t6_BadScript => k_is); (case h1_BadScript => kernel_rfl); (case h2_BadScript => k_is); (case h3_BadScript => k_is); (case h4_BadScript => k_is); (case h5_BadScript => kernel_rfl); (case h7_BadScript => kernel_rfl); (case g1_BadScript => k_is); (case g2_BadScript => k_is); (case g3_BadScript => k_is); (case g4_BadScript => k_is); (case g5_BadScript => k_is); (case g6_BadScript => k_is); (case g7_BadScript => k_is); (case n_0_BadScript => k_is))
    (case Z_BadReckoner => refine' Mi.xf_mk ?hI_BadReckoner ?hL_BadReckoner ?hT_BadReckoner ?hC_BadReckoner ?hc_BadReckoner ?hv_BadReckoner ?hf_BadReckoner ?hcc_BadReckoner ?t1_BadReckoner ?t2_BadReckoner ?t3_BadReckoner ?t4_BadReckoner ?t5_BadReckoner ?t6_BadReckoner ?h1_BadReckoner ?h2_BadReckoner ?h3_BadReckoner ?h4_BadReckoner ?h5_BadReckoner (Mi.no_cons ?n_0_BadReckoner Mi.no_nil) ?h7_BadReckoner ?g1_BadReckoner ?g2_BadReckoner ?g3_BadReckoner ?g4_BadReckoner ?g5_BadReckoner ?g6_BadReckoner ?g7_BadReckoner; (case hI_BadReckoner => k_is); (case hL_BadReckoner => k_is); (case hT_BadReckoner => k_is); (case hC_BadReckoner => k_is); (case hc_BadReckoner => k_is); (case hv_BadReckoner => rfl); (case hf_BadReckoner => kernel_rfl); (case hcc_BadReckoner => k_is); (case t1_BadReckoner => k_is); (case t2_BadReckoner => decide +kernel); (case t3_BadReckoner => k_is); (case t4_BadReckoner => k_is); (case t5_BadReckoner => k_is); (case t6_BadReckoner => k_is); (case h1_BadReckoner => kernel_rfl); (case h2_BadReckoner => k_is); (case h3_BadReckoner => k_is); (case h4_BadReckoner => k_is); (case h5_BadReckoner => kernel_rfl); (case h7_BadReckoner => kernel_rfl); (case g1_BadReckoner => k_is); (case g2_BadReckoner => k_is); (case g3_BadReckoner => k_is); (case g4_BadReckoner => k_is); (case g5_BadReckoner => k_is); (case g6_BadReckoner => k_is); (case g7_BadReckoner => k_is); (case n_0_BadReckoner => k_is))
    (case Z_Misfit => refine' Mi.xf_mk ?hI_Misfit ?hL_Misfit ?hT_Misfit ?hC_Misfit ?hc_Misfit ?hv_Misfit ?hf_Misfit ?hcc_Misfit ?t1_Misfit ?t2_Misfit ?t3_Misfit ?t4_Misfit ?t5_Misfit ?t6_Misfit ?h1_Misfit ?h2_Misfit ?h3_Misfit ?h4_Misfit ?h5_Misfit (Mi.no_cons ?n_0_Misfit Mi.no_nil) ?h7_Misfit ?g1_Misfit ?g2_Misfit ?g3_Misfit ?g4_Misfit ?g5_Misfit ?g6_Misfit ?g7_Misfit; (case hI_Misfit => k_is); (case hL_Misfit => k_is); (case hT_Misfit => k_is); (case hC_Misfit => k_is); (case hc_Misfit => k_is); (case hv_Misfit => rfl); (case hf_Misfit => kernel_rfl); (case hcc_Misfit => k_is); (case t1_Misfit => k_is); (case t2_Misfit => decide +kernel); (case t3_Misfit => k_is); (case t4_Misfit => k_is); (case t5_Misfit => k_is); (case t6_Misfit => k_is); (case h1_Misfit => kernel_rfl); (case h2_Misfit => k_is); (case h3_Misfit => k_is); (case h4_Misfit => k_is); (case h5_Misfit => kernel_rfl); (case h7_Misfit => kernel_rfl); (case g1_Misfit => k_is); (case g2_Misfit => k_is); (case g3_Misfit => k_is); (case g4_Misfit => k_is); (case g5_Misfit => k_is); (case g6_Misfit => k_is); (case g7_Misfit => k_is); (case n_0_Misfit => k_is))
    (case Z_TooMany => refine' Mi.xf_mk ?hI_TooMany ?hL_TooMany ?hT_TooMany ?hC_TooMany ?hc_TooMany ?hv_TooMany ?hf_TooMany ?hcc_TooMany ?t1_TooMany ?t2_TooMany ?t3_TooMany ?t4_TooMany ?t5_TooMany ?t6_TooMany ?h1_TooMany ?h2_TooMany ?h3_TooMany ?h4_TooMany ?h5_TooMany (Mi.no_cons ?n_0_TooMany (Mi.no_cons ?n_1_TooMany Mi.no_nil)) ?h7_TooMany ?g1_TooMany ?g2_TooMany ?g3_TooMany ?g4_TooMany ?g5_TooMany ?g6_TooMany ?g7_TooMany; (case hI_TooMany => k_is); (case hL_TooMany => k_is); (case hT_TooMany => k_is); (case hC_TooMany => k_is); (case hc_TooMany => k_is); (case hv_TooMany => rfl); (case hf_TooMany => kernel_rfl); (case hcc_TooMany => k_is); (case t1_TooMany => k_is); (case t2_TooMany => decide +kernel); (case t3_TooMany => k_is); (case t4_TooMany => k_is); (case t5_TooMany => k_is); (case t6_TooMany => k_is); (case h1_TooMany => kernel_rfl); (case h2_TooMany => k_is); (case h3_TooMany => k_is); (case h4_TooMany => k_is); (case h5_TooMany => kernel_rfl); (case h7_TooMany => kernel_rfl); (case g1_TooMany => k_is); (case g2_TooMany => k_is); (case g3_TooMany => k_is); (case g4_TooMany => k_is); (case g5_TooMany => k_is); (case g6_TooMany => k_is); (case g7_TooMany => k_is); (case n_0_TooMany => k_is); (case n_1_TooMany => k_is))
    (case Z_BadText => refine' Mi.xf_mk ?hI_BadText ?hL_BadText ?hT_BadText ?hC_BadText ?hc_BadText ?hv_BadText ?hf_BadText ?hcc_BadText ?t1_BadText ?t2_BadText ?t3_BadText ?t4_BadText ?t5_BadText ?t6_BadText ?h1_BadText ?h2_BadText ?h3_BadText ?h4_BadText ?h5_BadText (Mi.no_cons ?n_0_BadText (Mi.no_cons ?n_1_BadText Mi.no_nil)) ?h7_BadText ?g1_BadText ?g2_BadText ?g3_BadText ?g4_BadText ?g5_BadText ?g6_BadText ?g7_BadText; (case hI_BadText => k_is); (case hL_BadText => k_is); (case hT_BadText => k_is); (case hC_BadText => k_is); (case hc_BadText => k_is); (case hv_BadText => rfl); (case hf_BadText => kernel_rfl); (case hcc_BadText => k_is); (case t1_BadText => k_is); (case t2_BadText => decide +kernel); (case t3_BadText => k_is); (case t4_BadText => k_is); (case t5_BadText => k_is); (case t6_BadText => k_is); (case h1_BadText => kernel_rfl); (case h2_BadText => k_is); (case h3_BadText => k_is); (case h4_BadText => k_is); (case h5_BadText => kernel_rfl); (case h7_BadText => kernel_rfl); (case g1_BadText => k_is); (case g2_BadText => k_is); (case g3_BadText => k_is); (case g4_BadText => k_is); (case g5_BadText => k_is); (case g6_BadText => k_is); (case g7_BadText => k_is); (case n_0_BadText => k_is); (case n_1_BadText => k_is))
    (case kt_ArithmeticError => intro t; cases t <;> kernel_rfl)
    (case kx_ArithmeticError_BadNumber => kernel_rfl)
    (case kx_ArithmeticError_BadFloor => kernel_rfl)
    (case kx_ArithmeticError_BadCell => kernel_rfl)
    (case kx_ArithmeticError_BadWall => kernel_rfl)
    (case kx_ArithmeticError_BadMouse => kernel_rfl)
    (case kx_ArithmeticError_BadTrip => kernel_rfl)
    (case kx_ArithmeticError_BadScript => kernel_rfl)
    (case kx_ArithmeticError_BadReckoner => kernel_rfl)
    (case kx_ArithmeticError_Misfit => kernel_rfl)
    (case kx_ArithmeticError_TooMany => kernel_rfl)
    (case kx_ArithmeticError_BadText => kernel_rfl)
    (case kt_AttributeError => intro t; cases t <;> kernel_rfl)
    (case kx_AttributeError_BadNumber => kernel_rfl)
    (case kx_AttributeError_BadFloor => kernel_rfl)
    (case kx_AttributeError_BadCell => kernel_rfl)
    (case kx_AttributeError_BadWall => kernel_rfl)
    (case kx_AttributeError_BadMouse => kernel_rfl)
    (case kx_AttributeError_BadTrip => kernel_rfl)
    (case kx_AttributeError_BadScript => kernel_rfl)
    (case kx_AttributeError_BadReckoner => kernel_rfl)
    (case kx_AttributeError_Misfit => kernel_rfl)
    (case kx_AttributeError_TooMany => kernel_rfl)
    (case kx_AttributeError_BadText => kernel_rfl)
    (case kt_BadCell => intro t; cases t <;> kernel_rfl)
    (case kx_BadCell_BadNumber => kernel_rfl)
    (case kx_BadCell_BadFloor => kernel_rfl)
    (case kx_BadCell_BadCell => kernel_rfl)
    (case kx_BadCell_BadWall => kernel_rfl)
    (case kx_BadCell_BadMouse => kernel_rfl)
    (case kx_BadCell_BadTrip => kernel_rfl)
    (case kx_BadCell_BadScript => kernel_rfl)
    (case kx_BadCell_BadReckoner => kernel_rfl)
    (case kx_BadCell_Misfit => kernel_rfl)
    (case kx_BadCell_TooMany => kernel_rfl)
    (case kx_BadCell_BadText => kernel_rfl)
    (case kt_BadFloor => intro t; cases t <;> kernel_rfl)
    (case kx_BadFloor_BadNumber => kernel_rfl)
    (case kx_BadFloor_BadFloor => kernel_rfl)
    (case kx_BadFloor_BadCell => kernel_rfl)
    (case kx_BadFloor_BadWall => kernel_rfl)
    (case kx_BadFloor_BadMouse => kernel_rfl)
    (case kx_BadFloor_BadTrip => kernel_rfl)
    (case kx_BadFloor_BadScript => kernel_rfl)
    (case kx_BadFloor_BadReckoner => kernel_rfl)
    (case kx_BadFloor_Misfit => kernel_rfl)
    (case kx_BadFloor_TooMany => kernel_rfl)
    (case kx_BadFloor_BadText => kernel_rfl)
    (case kt_BadMouse => intro t; cases t <;> kernel_rfl)
    (case kx_BadMouse_BadNumber => kernel_rfl)
    (case kx_BadMouse_BadFloor => kernel_rfl)
    (case kx_BadMouse_BadCell => kernel_rfl)
    (case kx_BadMouse_BadWall => kernel_rfl)
    (case kx_BadMouse_BadMouse => kernel_rfl)
    (case kx_BadMouse_BadTrip => kernel_rfl)
    (case kx_BadMouse_BadScript => kernel_rfl)
    (case kx_BadMouse_BadReckoner => kernel_rfl)
    (case kx_BadMouse_Misfit => kernel_rfl)
    (case kx_BadMouse_TooMany => kernel_rfl)
    (case kx_BadMouse_BadText => kernel_rfl)
    (case kt_BadNumber => intro t; cases t <;> kernel_rfl)
    (case kx_BadNumber_BadNumber => kernel_rfl)
    (case kx_BadNumber_BadFloor => kernel_rfl)
    (case kx_BadNumber_BadCell => kernel_rfl)
    (case kx_BadNumber_BadWall => kernel_rfl)
    (case kx_BadNumber_BadMouse => kernel_rfl)
    (case kx_BadNumber_BadTrip => kernel_rfl)
    (case kx_BadNumber_BadScript => kernel_rfl)
    (case kx_BadNumber_BadReckoner => kernel_rfl)
    (case kx_BadNumber_Misfit => kernel_rfl)
    (case kx_BadNumber_TooMany => kernel_rfl)
    (case kx_BadNumber_BadText => kernel_rfl)
    (case kt_BadReckoner => intro t; cases t <;> kernel_rfl)
    (case kx_BadReckoner_BadNumber => kernel_rfl)
    (case kx_BadReckoner_BadFloor => kernel_rfl)
    (case kx_BadReckoner_BadCell => kernel_rfl)
    (case kx_BadReckoner_BadWall => kernel_rfl)
    (case kx_BadReckoner_BadMouse => kernel_rfl)
    (case kx_BadReckoner_BadTrip => kernel_rfl)
    (case kx_BadReckoner_BadScript => kernel_rfl)
    (case kx_BadReckoner_BadReckoner => kernel_rfl)
    (case kx_BadReckoner_Misfit => kernel_rfl)
    (case kx_BadReckoner_TooMany => kernel_rfl)
    (case kx_BadReckoner_BadText => kernel_rfl)
    (case kt_BadScript => intro t; cases t <;> kernel_rfl)
    (case kx_BadScript_BadNumber => kernel_rfl)
    (case kx_BadScript_BadFloor => kernel_rfl)
    (case kx_BadScript_BadCell => kernel_rfl)
    (case kx_BadScript_BadWall => kernel_rfl)
    (case kx_BadScript_BadMouse => kernel_rfl)
    (case kx_BadScript_BadTrip => kernel_rfl)
    (case kx_BadScript_BadScript => kernel_rfl)
    (case kx_BadScript_BadReckoner => kernel_rfl)
    (case kx_BadScript_Misfit => kernel_rfl)
    (case kx_BadScript_TooMany => kernel_rfl)
    (case kx_BadScript_BadText => kernel_rfl)
    (case kt_BadText => intro t; cases t <;> kernel_rfl)
    (case kx_BadText_BadNumber => kernel_rfl)
    (case kx_BadText_BadFloor => kernel_rfl)
    (case kx_BadText_BadCell => kernel_rfl)
    (case kx_BadText_BadWall => kernel_rfl)
    (case kx_BadText_BadMouse => kernel_rfl)
    (case kx_BadText_BadTrip => kernel_rfl)
    (case kx_BadText_BadScript => kernel_rfl)
    (case kx_BadText_BadReckoner => kernel_rfl)
    (case kx_BadText_Misfit => kernel_rfl)
    (case kx_BadText_TooMany => kernel_rfl)
    (case kx_BadText_BadText => kernel_rfl)
    (case kt_BadTrip => intro t; cases t <;> kernel_rfl)
    (case kx_BadTrip_BadNumber => kernel_rfl)
    (case kx_BadTrip_BadFloor => kernel_rfl)
    (case kx_BadTrip_BadCell => kernel_rfl)
    (case kx_BadTrip_BadWall => kernel_rfl)
    (case kx_BadTrip_BadMouse => kernel_rfl)
    (case kx_BadTrip_BadTrip => kernel_rfl)
    (case kx_BadTrip_BadScript => kernel_rfl)
    (case kx_BadTrip_BadReckoner => kernel_rfl)
    (case kx_BadTrip_Misfit => kernel_rfl)
    (case kx_BadTrip_TooMany => kernel_rfl)
    (case kx_BadTrip_BadText => kernel_rfl)
    (case kt_BadWall => intro t; cases t <;> kernel_rfl)
    (case kx_BadWall_BadNumber => kernel_rfl)
    (case kx_BadWall_BadFloor => kernel_rfl)
    (case kx_BadWall_BadCell => kernel_rfl)
    (case kx_BadWall_BadWall => kernel_rfl)
    (case kx_BadWall_BadMouse => kernel_rfl)
    (case kx_BadWall_BadTrip => kernel_rfl)
    (case kx_BadWall_BadScript => kernel_rfl)
    (case kx_BadWall_BadReckoner => kernel_rfl)
    (case kx_BadWall_Misfit => kernel_rfl)
    (case kx_BadWall_TooMany => kernel_rfl)
    (case kx_BadWall_BadText => kernel_rfl)
    (case kt_LookupError => intro t; cases t <;> kernel_rfl)
    (case kx_LookupError_BadNumber => kernel_rfl)
    (case kx_LookupError_BadFloor => kernel_rfl)
    (case kx_LookupError_BadCell => kernel_rfl)
    (case kx_LookupError_BadWall => kernel_rfl)
    (case kx_LookupError_BadMouse => kernel_rfl)
    (case kx_LookupError_BadTrip => kernel_rfl)
    (case kx_LookupError_BadScript => kernel_rfl)
    (case kx_LookupError_BadReckoner => kernel_rfl)
    (case kx_LookupError_Misfit => kernel_rfl)
    (case kx_LookupError_TooMany => kernel_rfl)
    (case kx_LookupError_BadText => kernel_rfl)
    (case kt_Misfit => intro t; cases t <;> kernel_rfl)
    (case kx_Misfit_BadNumber => kernel_rfl)
    (case kx_Misfit_BadFloor => kernel_rfl)
    (case kx_Misfit_BadCell => kernel_rfl)
    (case kx_Misfit_BadWall => kernel_rfl)
    (case kx_Misfit_BadMouse => kernel_rfl)
    (case kx_Misfit_BadTrip => kernel_rfl)
    (case kx_Misfit_BadScript => kernel_rfl)
    (case kx_Misfit_BadReckoner => kernel_rfl)
    (case kx_Misfit_Misfit => kernel_rfl)
    (case kx_Misfit_TooMany => kernel_rfl)
    (case kx_Misfit_BadText => kernel_rfl)
    (case kt_RuntimeError => intro t; cases t <;> kernel_rfl)
    (case kx_RuntimeError_BadNumber => kernel_rfl)
    (case kx_RuntimeError_BadFloor => kernel_rfl)
    (case kx_RuntimeError_BadCell => kernel_rfl)
    (case kx_RuntimeError_BadWall => kernel_rfl)
    (case kx_RuntimeError_BadMouse => kernel_rfl)
    (case kx_RuntimeError_BadTrip => kernel_rfl)
    (case kx_RuntimeError_BadScript => kernel_rfl)
    (case kx_RuntimeError_BadReckoner => kernel_rfl)
    (case kx_RuntimeError_Misfit => kernel_rfl)
    (case kx_RuntimeError_TooMany => kernel_rfl)
    (case kx_RuntimeError_BadText => kernel_rfl)
    (case kt_StoneError => intro t; cases t <;> kernel_rfl)
    (case kx_StoneError_BadNumber => kernel_rfl)
    (case kx_StoneError_BadFloor => kernel_rfl)
    (case kx_StoneError_BadCell => kernel_rfl)
    (case kx_StoneError_BadWall => kernel_rfl)
    (case kx_StoneError_BadMouse => kernel_rfl)
    (case kx_StoneError_BadTrip => kernel_rfl)
    (case kx_StoneError_BadScript => kernel_rfl)
    (case kx_StoneError_BadReckoner => kernel_rfl)
    (case kx_StoneError_Misfit => kernel_rfl)
    (case kx_StoneError_TooMany => kernel_rfl)
    (case kx_StoneError_BadText => kernel_rfl)
    (case kt_TooMany => intro t; cases t <;> kernel_rfl)
    (case kx_TooMany_BadNumber => kernel_rfl)
    (case kx_TooMany_BadFloor => kernel_rfl)
    (case kx_TooMany_BadCell => kernel_rfl)
    (case kx_TooMany_BadWall => kernel_rfl)
    (case kx_TooMany_BadMouse => kernel_rfl)
    (case kx_TooMany_BadTrip => kernel_rfl)
    (case kx_TooMany_BadScript => kernel_rfl)
    (case kx_TooMany_BadReckoner => kernel_rfl)
    (case kx_TooMany_Misfit => kernel_rfl)
    (case kx_TooMany_TooMany => kernel_rfl)
    (case kx_TooMany_BadText => kernel_rfl)
    (case kt_TypeError => intro t; cases t <;> kernel_rfl)
    (case kx_TypeError_BadNumber => kernel_rfl)
    (case kx_TypeError_BadFloor => kernel_rfl)
    (case kx_TypeError_BadCell => kernel_rfl)
    (case kx_TypeError_BadWall => kernel_rfl)
    (case kx_TypeError_BadMouse => kernel_rfl)
    (case kx_TypeError_BadTrip => kernel_rfl)
    (case kx_TypeError_BadScript => kernel_rfl)
    (case kx_TypeError_BadReckoner => kernel_rfl)
    (case kx_TypeError_Misfit => kernel_rfl)
    (case kx_TypeError_TooMany => kernel_rfl)
    (case kx_TypeError_BadText => kernel_rfl)
    (case kt_ValueError => intro t; cases t <;> kernel_rfl)
    (case kx_ValueError_BadNumber => kernel_rfl)
    (case kx_ValueError_BadFloor => kernel_rfl)
    (case kx_ValueError_BadCell => kernel_rfl)
    (case kx_ValueError_BadWall => kernel_rfl)
    (case kx_ValueError_BadMouse => kernel_rfl)
    (case kx_ValueError_BadTrip => kernel_rfl)
    (case kx_ValueError_BadScript => kernel_rfl)
    (case kx_ValueError_BadReckoner => kernel_rfl)
    (case kx_ValueError_Misfit => kernel_rfl)
    (case kx_ValueError_TooMany => kernel_rfl)
    (case kx_ValueError_BadText => kernel_rfl)
    (case ex_StoneError_BadNumber => kernel_rfl)
    (case ex_StoneError_BadFloor => kernel_rfl)
    (case ex_StoneError_BadCell => kernel_rfl)
    (case ex_StoneError_BadWall => kernel_rfl)
    (case ex_StoneError_BadMouse => kernel_rfl)
    (case ex_StoneError_BadTrip => kernel_rfl)
    (case ex_StoneError_BadScript => kernel_rfl)
    (case ex_StoneError_BadReckoner => kernel_rfl)
    (case ex_StoneError_Misfit => kernel_rfl)
    (case ex_StoneError_TooMany => kernel_rfl)
    (case ex_StoneError_BadText => kernel_rfl)
    (case n_ArithmeticError => k_is)
    (case n_AttributeError => k_is)
    (case n_LookupError => k_is)
    (case n_RuntimeError => k_is)
    (case n_TypeError => k_is)
    (case n_ValueError => k_is)
    (case n_abs => k_is)
    (case n_enumerate => k_is)
    (case n_int => k_is)
    (case n_isinstance => k_is)
    (case n_len => k_is)
    (case n_range => k_is)
    (case n_repr => k_is)
    (case n_super => k_is)
