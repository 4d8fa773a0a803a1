import PyProof.Rows.All
import Wide.All
import OpenK.AllK
import Wide.FinOn
import HandS.ForMost
import HandS.ForExc
import HandS.IsInst
import HandS.Style
import HandS.Flow
import HandS.Wide
import HandS.Walk
import HandS.Defaults
import HandS.ExcInit
import HandS.EndBits
import HandS.Nested
import KE.KExcSuper
import HandS.ExcIs
import HandS.ExcField
import KE.KExcIs
import KE.KCallOwn
import KE.KFmtOwn
import PyProof.InstEq
import PyProof.InstNe
import HandS.TupAny
import HandS.Star
import HandS.More
import HandS.RaiseMore
import HandS.WrittenGet
import KE.GoesZip
import KE.GoesMore
import HandS.Dict
import HandS.DictTup
import KE.KDictDisplayH
import HandS.DictComp
import HandS.SortRule
import HandS.Conv
import HandS.SortInts
import HandS.Deep
import HandS.Iter
import HandS.TupSets
import PySem.Challenge.RW_fourstones_k03_floors_and_their_cells
set_option Elab.async false
set_option linter.all false
set_option maxRecDepth 100000
set_option maxHeartbeats 4000000
/-! Mini: mirrors of Python functions over abstract values, and what ties them to the text. -/
namespace Mi
open PySem PySem.Spec PyProof.Rows L2

/-- values; tuples, and lists and dicts that nobody changes, by what they hold; ref n: the n-th object of the memory -/
inductive Wv where
  | non | bl (b : Bool) | int (i : Int) | str (s : Str) | ty (n : String) | adr (a : Addr)
  | tup (xs : List Wv) | lst (xs : List Wv) | rdl (xs : List Wv) | dct (ks : List Key) (xs : List Wv) | dtt (ks : List (List Key)) (xs : List Wv)
  | ins (C : Str) (ns : List Str) (xs : List Wv) | exc (C : Str) (ns : List Str) (xs : List Wv) | ref (n : Nat)
/-- objects that change -/
inductive Ob where
  | lst (xs : List Wv)
  | ins (C : Str) (ns : List Str) (xs : List Wv)
  | dct (ks : List Key) (xs : List Wv) | dtt (ks : List (List Key)) (xs : List Wv)
abbrev Mem := List Ob
structure Xc where
  cls : Str
  fs : List (Str × Wv)
inductive R (α : Type) where
  | ok (a : α) (M : Mem) | exc (x : Xc) (M : Mem) | no
def R.bind {α β : Type} (r : R α) (k : α → Mem → R β) : R β := match r with
  | .ok a M => k a M
  | .exc x M => .exc x M
  | .no => .no
abbrev Ev := List (Option Wv)
abbrev Me := Ev → Mem → R Wv
abbrev Ma := Ev → Mem → R (List Wv)
abbrev Mt := Ev → Mem → R Bool

/-- the addresses of the memory's objects; those that are being made and belong to none -/
structure Rn where
  l : List Addr
  f : List Addr
def Rn.no (ρ : Rn) (a : Addr) : Prop := a ∉ ρ.l ∧ a ∉ ρ.f
def Rn.add (ρ : Rn) (p : Addr) : Rn := ⟨ρ.l ++ [p], ρ.f⟩
/-- the class of a name -/
def clsNm (c : Str) : Obj → Bool
  | ⟨_, _, .cls cd, _⟩ => cd.name == c
  | _ => false
def clsAt (K : PySem.W.Frag) (c : Str) : Option Addr := (K.find? fun p => clsNm c p.2).map (·.1)
/-- at a: an exception of the class at D, its dict at d, whatever else its object holds -/
def exg (a D d : Addr) : HO := .ext fun h => ∃ (o : Obj) (vs : Array Value), h.get? a = some o ∧ o.cls = .ref D ∧ o.dict = some d ∧ o.data = .fields vs
def KT (K : PySem.W.Frag) (a : Addr) (xs : List V) : Prop := ∃ (o : Obj) (its : Array Value) (n : Nat), K.lookup a = some o ∧ o.cls = .type "tuple" ∧ o.data = .seq its n ∧ its.size ≤ sizeLine ∧ Vals xs its.toList
def KL (K : PySem.W.Frag) (a : Addr) (xs : List V) : Prop := ∃ (o : Obj) (its : Array Value) (n : Nat), K.lookup a = some o ∧ o.cls = .type "list" ∧ o.dict = none ∧ o.data = .seq its n ∧ its.size ≤ sizeLine ∧ Vals xs its.toList
mutual
def RV (K : PySem.W.Frag) (ρ : Rn) (H : Hp) : Wv → V → Prop
  | .non, v => v = .non
  | .bl b, v => v = .bl b
  | .int i, v => v = .int i
  | .str s, v => v = .str s
  | .ty n, v => v = .ty n
  | .adr a, v => v = .ref a
  | .tup xs, v => ∃ a vs, v = .ref a ∧ (H a = some (.tup vs) ∧ ρ.no a) ∧ RVs K ρ H xs vs
  | .lst xs, v => ∃ a vs, v = .ref a ∧ (H a = some (.lst vs) ∧ ρ.no a) ∧ RVs K ρ H xs vs
  | .rdl xs, v => ∃ a vs, v = .ref a ∧ ((Rd H a (.lst vs) ∧ ρ.no a) ∨ KL K a vs) ∧ RVs K ρ H xs vs
  | .dct ks xs, v => ∃ a kvs, v = .ref a ∧ (H a = some (.dK kvs) ∧ ρ.no a) ∧ kvs.map (·.1) = ks ∧ RVs K ρ H xs (kvs.map (·.2))
  | .dtt ks xs, v => ∃ a kvs, v = .ref a ∧ (H a = some (.dT kvs) ∧ ρ.no a) ∧ kvs.map (·.1) = ks ∧ RVs K ρ H xs (kvs.map (·.2))
  | .ins C ns xs, v => ∃ D a dx fs, clsAt K C = some D ∧ v = .ref a ∧ (H a = some (.ins D dx fs) ∧ ρ.no a) ∧ fs.map (·.1) = ns ∧ RVs K ρ H xs (fs.map (·.2))
  | .exc C ns xs, v => ∃ D a d fs, clsAt K C = some D ∧ v = .ref a ∧ (H a = some (exg a D d) ∧ ρ.no a) ∧ (H d = some (.xd fs) ∧ ρ.no d) ∧ fs.map (·.1) = ns ∧ RVs K ρ H xs (fs.map (·.2))
  | .ref n, v => ∃ a, v = .ref a ∧ ρ.l[n]? = some a
def RVs (K : PySem.W.Frag) (ρ : Rn) (H : Hp) : List Wv → List V → Prop
  | [], vs => vs = []
  | x :: xs, vs => ∃ v vr, vs = v :: vr ∧ RV K ρ H x v ∧ RVs K ρ H xs vr
end

structure Gr (ρ : Rn) (H : Hp) (ρ' : Rn) (H' : Hp) : Prop where
  pre : ∃ t, ρ'.l = ρ.l ++ t
  same : ρ'.f = ρ.f
  keep : ∀ a o, a ∉ ρ.l → H a = some o → H' a = some o
  new : ∀ a, a ∈ ρ'.l → a ∈ ρ.l ∨ H a = none
theorem Gr.refl (ρ : Rn) (H : Hp) : Gr ρ H ρ H := ⟨⟨[], by simp⟩, rfl, fun _ _ _ h => h, fun _ h => .inl h⟩
theorem Gr.outl {ρ ρ' : Rn} {H H' : Hp} (g : Gr ρ H ρ' H') {a : Addr} {o : HO} (h : a ∉ ρ.l) (e : H a = some o) : a ∉ ρ'.l := fun z => by
  rcases g.new a z with q | q
  · exact h q
  · rw [e] at q; cases q
theorem Gr.out {ρ ρ' : Rn} {H H' : Hp} (g : Gr ρ H ρ' H') {a : Addr} {o : HO} (h : ρ.no a) (e : H a = some o) : ρ'.no a := ⟨g.outl h.1 e, by rw [g.same]; exact h.2⟩
theorem Gr.trans {ρ ρ1 ρ2 : Rn} {H H1 H2 : Hp} (a : Gr ρ H ρ1 H1) (b : Gr ρ1 H1 ρ2 H2) : Gr ρ H ρ2 H2 := by
  refine ⟨?_, b.same.trans a.same, fun x o h e => b.keep x o (a.outl h e) (a.keep x o h e), fun x h => ?_⟩
  · obtain ⟨t, e1⟩ := a.pre
    obtain ⟨u, e2⟩ := b.pre
    exact ⟨t ++ u, by rw [e2, e1, List.append_assoc]⟩
  · rcases b.new x h with q | q
    · exact a.new x q
    · by_cases hx : x ∈ ρ.l
      · exact .inl hx
      · refine .inr ?_
        cases e : H x with
        | none => rfl
        | some o => rw [a.keep x o hx e] at q; cases q
theorem Gr.ix {ρ ρ' : Rn} {H H' : Hp} (g : Gr ρ H ρ' H') {n : Nat} {a : Addr} (h : ρ.l[n]? = some a) : ρ'.l[n]? = some a := by
  obtain ⟨t, e⟩ := g.pre
  rw [e, List.getElem?_append_left (List.getElem?_eq_some_iff.mp h).1]
  exact h
theorem Gr.rd {ρ ρ' : Rn} {H H' : Hp} (g : Gr ρ H ρ' H') {a : Addr} {u : HO} (h : Rd H a u ∧ ρ.no a) : Rd H' a u ∧ ρ'.no a := by
  obtain ⟨h | ⟨o, h⟩, n⟩ := h
  · exact ⟨.inl (g.keep _ _ n.1 h), g.out n h⟩
  · exact ⟨.inr ⟨o, g.keep _ _ n.1 h⟩, g.out n h⟩
theorem Gr.at {ρ ρ' : Rn} {H H' : Hp} (g : Gr ρ H ρ' H') {a : Addr} {u : HO} (h : H a = some u ∧ ρ.no a) : H' a = some u ∧ ρ'.no a := ⟨g.keep _ _ h.2.1 h.1, g.out h.2 h.1⟩
/-- a new object, not of the memory -/
theorem Gr.fresh {ρ : Rn} {H : Hp} {p : Addr} {o : HO} (h : H p = none) : Gr ρ H ρ (upd H p o) :=
  ⟨⟨[], by simp⟩, rfl, fun a u _ e => by rw [upd_ne (ne_of_none e h)]; exact e, fun _ h => .inl h⟩

/-- what is known of values stands -/
structure Mv (ρ : Rn) (H : Hp) (ρ' : Rn) (H' : Hp) : Prop where
  go : ∀ a u, H a = some u ∧ ρ.no a → H' a = some u ∧ ρ'.no a
  ix : ∀ (n : Nat) (a : Addr), ρ.l[n]? = some a → ρ'.l[n]? = some a
theorem Gr.mv {ρ ρ' : Rn} {H H' : Hp} (g : Gr ρ H ρ' H') : Mv ρ H ρ' H' := ⟨fun _ _ h => g.at h, fun _ _ h => g.ix h⟩
theorem Mv.refl {ρ : Rn} {H : Hp} : Mv ρ H ρ H := ⟨fun _ _ h => h, fun _ _ h => h⟩
theorem Mv.trans {ρ ρ1 ρ2 : Rn} {H H1 H2 : Hp} (a : Mv ρ H ρ1 H1) (b : Mv ρ1 H1 ρ2 H2) : Mv ρ H ρ2 H2 := ⟨fun x u h => b.go x u (a.go x u h), fun n x h => b.ix n x (a.ix n x h)⟩
theorem Mv.rd {ρ ρ' : Rn} {H H' : Hp} (g : Mv ρ H ρ' H') {a : Addr} {u : HO} (h : Rd H a u ∧ ρ.no a) : Rd H' a u ∧ ρ'.no a := by
  obtain ⟨h | ⟨o, h⟩, n⟩ := h
  · exact (g.go _ _ ⟨h, n⟩).imp .inl id
  · exact (g.go _ _ ⟨h, n⟩).imp (fun z => .inr ⟨o, z⟩) id
section
variable {K : PySem.W.Frag} {ρ ρ' : Rn} {H H' : Hp}
mutual
theorem RV.move (g : Mv ρ H ρ' H') : ∀ (w : Wv) {v : V}, RV K ρ H w v → RV K ρ' H' w v
  | .non, _, h => h
  | .bl _, _, h => h
  | .int _, _, h => h
  | .str _, _, h => h
  | .ty _, _, h => h
  | .adr _, _, h => h
  | .tup xs, _, ⟨a, vs, e, h, r⟩ => ⟨a, vs, e, g.go _ _ h, RVs.move g xs r⟩
  | .lst xs, _, ⟨a, vs, e, h, r⟩ => ⟨a, vs, e, g.go _ _ h, RVs.move g xs r⟩
  | .rdl xs, _, ⟨a, vs, e, h, r⟩ => ⟨a, vs, e, h.imp g.rd id, RVs.move g xs r⟩
  | .dct ks xs, _, ⟨a, kvs, e, h, ek, r⟩ => ⟨a, kvs, e, g.go _ _ h, ek, RVs.move g xs r⟩
  | .dtt ks xs, _, ⟨a, kvs, e, h, ek, r⟩ => ⟨a, kvs, e, g.go _ _ h, ek, RVs.move g xs r⟩
  | .ins C ks xs, _, ⟨D, a, dx, kvs, c, e, h, ek, r⟩ => ⟨D, a, dx, kvs, c, e, g.go _ _ h, ek, RVs.move g xs r⟩
  | .exc C ks xs, _, ⟨D, a, d, kvs, c, e, h, h2, ek, r⟩ => ⟨D, a, d, kvs, c, e, g.go _ _ h, g.go _ _ h2, ek, RVs.move g xs r⟩
  | .ref n, _, ⟨a, e, h⟩ => ⟨a, e, g.ix _ _ h⟩
theorem RVs.move (g : Mv ρ H ρ' H') : ∀ (ws : List Wv) {vs : List V}, RVs K ρ H ws vs → RVs K ρ' H' ws vs
  | [], _, h => h
  | x :: xs, _, ⟨v, vr, e, h, r⟩ => ⟨v, vr, e, RV.move g x h, RVs.move g xs r⟩
end
theorem RV.mono (g : Gr ρ H ρ' H') (w : Wv) {v : V} (h : RV K ρ H w v) : RV K ρ' H' w v := RV.move g.mv w h
theorem RVs.mono (g : Gr ρ H ρ' H') (ws : List Wv) {vs : List V} (h : RVs K ρ H ws vs) : RVs K ρ' H' ws vs := RVs.move g.mv ws h
theorem RVs.length : ∀ {ws : List Wv} {vs : List V}, RVs K ρ H ws vs → ws.length = vs.length
  | [], _, h => by cases h; rfl
  | x :: xs, _, ⟨v, vr, e, h, r⟩ => by subst e; simp [RVs.length r]
theorem RVs.get : ∀ {ws : List Wv} {vs : List V} {i : Nat} {w : Wv}, RVs K ρ H ws vs → ws[i]? = some w → ∃ v, vs[i]? = some v ∧ RV K ρ H w v
  | [], _, _, _, _, h => by simp at h
  | x :: xs, _, 0, w, ⟨v, vr, e, h, r⟩, q => by subst e; simp at q; subst q; exact ⟨v, rfl, h⟩
  | x :: xs, _, i + 1, w, ⟨v, vr, e, h, r⟩, q => by
    subst e
    obtain ⟨u, h1, h2⟩ := RVs.get (i := i) r (by simpa using q)
    exact ⟨u, by simpa using h1, h2⟩
theorem RVs.set : ∀ {ws : List Wv} {vs : List V} {i : Nat} {w : Wv} {v : V}, RVs K ρ H ws vs → RV K ρ H w v → RVs K ρ H (ws.set i w) (vs.set i v)
  | [], _, _, _, _, h, _ => by cases h; exact rfl
  | x :: xs, _, 0, w, u, ⟨v, vr, e, h, r⟩, q => by subst e; exact ⟨u, vr, rfl, q, r⟩
  | x :: xs, _, i + 1, w, u, ⟨v, vr, e, h, r⟩, q => by subst e; exact ⟨v, vr.set i u, rfl, h, RVs.set r q⟩
theorem RVs.append : ∀ {ws us : List Wv} {vs zs : List V}, RVs K ρ H ws vs → RVs K ρ H us zs → RVs K ρ H (ws ++ us) (vs ++ zs)
  | [], _, _, _, h, q => by cases h; exact q
  | x :: xs, us, _, zs, ⟨v, vr, e, h, r⟩, q => by subst e; exact ⟨v, vr ++ zs, rfl, h, RVs.append r q⟩
theorem RVs.take : ∀ (n : Nat) {ws : List Wv} {vs : List V}, RVs K ρ H ws vs → RVs K ρ H (ws.take n) (vs.take n)
  | 0, _, _, _ => rfl
  | n + 1, [], _, h => by cases h; exact rfl
  | n + 1, x :: xs, _, ⟨v, vr, e, h, r⟩ => by subst e; exact ⟨v, vr.take n, rfl, h, RVs.take n r⟩
theorem RVs.drop : ∀ (n : Nat) {ws : List Wv} {vs : List V}, RVs K ρ H ws vs → RVs K ρ H (ws.drop n) (vs.drop n)
  | 0, _, _, h => h
  | n + 1, [], _, h => by cases h; exact rfl
  | n + 1, x :: xs, _, ⟨v, vr, e, h, r⟩ => by subst e; exact RVs.drop n r
end

def RO (K : PySem.W.Frag) (ρ : Rn) (H : Hp) (a : Addr) : Ob → Prop
  | .lst ws => ∃ vs, H a = some (.lst vs) ∧ RVs K ρ H ws vs
  | .ins C ns xs => ∃ D dx fs, clsAt K C = some D ∧ H a = some (.ins D dx fs) ∧ fs.map (·.1) = ns ∧ RVs K ρ H xs (fs.map (·.2))
  | .dct ks xs => ∃ kvs, H a = some (.dK kvs) ∧ kvs.map (·.1) = ks ∧ RVs K ρ H xs (kvs.map (·.2))
  | .dtt ks xs => ∃ kvs, H a = some (.dT kvs) ∧ kvs.map (·.1) = ks ∧ RVs K ρ H xs (kvs.map (·.2))
/-- no tuple -/
def noTup : HO → Bool
  | .tup _ => false
  | _ => true
structure Rl (K : PySem.W.Frag) (ρ : Rn) (M : Mem) (H : Hp) : Prop where
  nd : ρ.l.Nodup
  len : ρ.l.length = M.length
  ob : ∀ (n : Nat) (o : Ob), M[n]? = some o → ∃ a, ρ.l[n]? = some a ∧ RO K ρ H a o
  fs : ∀ a, a ∈ ρ.f → a ∉ ρ.l ∧ ∃ u, H a = some u ∧ noTup u = true
def RE (K : PySem.W.Frag) (ρ : Rn) (H : Hp) (env : Ev) (σ : L2.St) : Prop :=
  env.length = σ.length ∧ ∀ (i : Nat) (w : Wv), env[i]? = some (some w) → ∃ v, σ[i]? = some (some v) ∧ RV K ρ H w v
theorem RE.move {K : PySem.W.Frag} {ρ ρ' : Rn} {H H' : Hp} {env : Ev} {σ : L2.St} (g : Mv ρ H ρ' H') (r : RE K ρ H env σ) : RE K ρ' H' env σ :=
  ⟨r.1, fun i w e => let ⟨v, h1, h2⟩ := r.2 i w e; ⟨v, h1, RV.move g w h2⟩⟩
theorem RE.mono {K : PySem.W.Frag} {ρ ρ' : Rn} {H H' : Hp} {env : Ev} {σ : L2.St} (g : Gr ρ H ρ' H') (r : RE K ρ H env σ) : RE K ρ' H' env σ :=
  ⟨r.1, fun i w e => let ⟨v, h1, h2⟩ := r.2 i w e; ⟨v, h1, RV.mono g w h2⟩⟩
theorem RE.set {K : PySem.W.Frag} {ρ : Rn} {H : Hp} {env : Ev} {σ : L2.St} (r : RE K ρ H env σ) {j : Nat} {w : Wv} {v : V} (h : RV K ρ H w v) : RE K ρ H (env.set j (some w)) (σ.set j (some v)) := by
  refine ⟨by rw [List.length_set, List.length_set]; exact r.1, fun i u e => ?_⟩
  by_cases hj : j = i
  · subst hj
    have hlt : j < env.length := by
      have := (List.getElem?_eq_some_iff.mp e).1
      simpa using this
    rw [List.getElem?_set_self hlt] at e
    cases e
    exact ⟨v, by rw [List.getElem?_set_self (by rw [← r.1]; exact hlt)], h⟩
  · rw [List.getElem?_set_ne hj] at e ⊢
    exact r.2 i u e

/-- fields -/
def RF (K : PySem.W.Frag) (ρ : Rn) (H : Hp) (fs : List (Str × Wv)) (vs : List (Str × V)) : Prop := vs.map (·.1) = fs.map (·.1) ∧ RVs K ρ H (fs.map (·.2)) (vs.map (·.2))
def Fin {α : Type} (K : PySem.W.Frag) (ρ : Rn) (H : Hp) (P : α → Mem → Rn → Hp → Prop) (E : XK) : R α → Prop
  | .ok a M' => ∀ ρ' H', Gr ρ H ρ' H' → Rl K ρ' M' H' → P a M' ρ' H'
  | .exc x M' => ∀ D ρ' H' d vs, clsAt K x.cls = some D → Gr ρ H ρ' H' → Rl K ρ' M' H' → H' d = some (.xd vs) → ρ'.no d → RF K ρ' H' x.fs vs → E (.ref D) (some d) H'
  | .no => False
section
variable {α β : Type} {K : PySem.W.Frag} {ρ ρ1 : Rn} {H H1 : Hp} {P P' : α → Mem → Rn → Hp → Prop} {E : XK} {r : R α}
theorem Fin.from (g : Gr ρ H ρ1 H1) (h : Fin K ρ H P E r) : Fin K ρ1 H1 P E r := by
  cases r with
  | ok a M => exact fun ρ' H' g' rl => h ρ' H' (g.trans g') rl
  | exc x M => exact fun D ρ' H' d vs c g' => h D ρ' H' d vs c (g.trans g')
  | no => exact h
theorem Fin.imp (h : Fin K ρ H P E r) (k : ∀ a M ρ' H', Gr ρ H ρ' H' → Rl K ρ' M H' → P a M ρ' H' → P' a M ρ' H') : Fin K ρ H P' E r := by
  cases r with
  | ok a M => exact fun ρ' H' g rl => k a M ρ' H' g rl (h ρ' H' g rl)
  | exc x M => exact h
  | no => exact h
theorem Fin.bind {Pb : β → Mem → Rn → Hp → Prop} {k : α → Mem → R β} (h : Fin K ρ H Pb E (r.bind k)) : Fin K ρ H (fun a M ρ' H' => Fin K ρ' H' Pb E (k a M)) E r := by
  cases r with
  | ok a M => exact fun ρ' H' g rl => Fin.from g h
  | exc x M => exact h
  | no => exact h
theorem Fin.here {a : α} {M : Mem} (h : Fin K ρ H P E (.ok a M)) (rl : Rl K ρ M H) : P a M ρ H := h ρ H (Gr.refl ρ H) rl
end
/-- a value comes -/
def PV (K : PySem.W.Frag) (Q : VK) : Wv → Mem → Rn → Hp → Prop := fun w _ ρ H => ∀ v, RV K ρ H w v → Q v H
def PB (Q : Bool → Hp → Prop) : Bool → Mem → Rn → Hp → Prop := fun b _ _ H => Q b H
def PVs (K : PySem.W.Frag) (Q : List V → Hp → Prop) : List Wv → Mem → Rn → Hp → Prop := fun ws _ ρ H => ∀ vs, RVs K ρ H ws vs → Q vs H
/-- the readings by a mirror -/
def te (K : PySem.W.Frag) (E : XK) (m : Me) : TE := fun σ H Q => ∃ ρ M env, Rl K ρ M H ∧ RE K ρ H env σ ∧ Fin K ρ H (PV K Q) E (m env M)
def ta (K : PySem.W.Frag) (E : XK) (m : Ma) : TA := fun σ H Q => ∃ ρ M env, Rl K ρ M H ∧ RE K ρ H env σ ∧ Fin K ρ H (PVs K Q) E (m env M)
def tt (K : PySem.W.Frag) (E : XK) (m : Mt) : TT := fun σ H Q => ∃ ρ M env, Rl K ρ M H ∧ RE K ρ H env σ ∧ Fin K ρ H (PB Q) E (m env M)
/-- a wish on a pair of values, with the memory -/
def r2 (K : PySem.W.Frag) (E : XK) (f : Wv → Wv → Mem → R Wv) : R2 := fun x y H Q => ∃ ρ M wx wy, Rl K ρ M H ∧ RV K ρ H wx x ∧ RV K ρ H wy y ∧ Fin K ρ H (PV K Q) E (f wx wy M)
def r1 (K : PySem.W.Frag) (E : XK) (f : Wv → Mem → R Wv) : V → Hp → VK → Prop := fun x H Q => ∃ ρ M wx, Rl K ρ M H ∧ RV K ρ H wx x ∧ Fin K ρ H (PV K Q) E (f wx M)
def rc (K : PySem.W.Frag) (E : XK) (f : List Wv → Mem → R Wv) : List V → Hp → VK → Prop := fun xs H Q => ∃ ρ M ws, Rl K ρ M H ∧ RVs K ρ H ws xs ∧ Fin K ρ H (PV K Q) E (f ws M)

theorem PE.imp {X : Cx} {e : Expr} {t t' : TE} (h : PE X e t) (k : ∀ σ H Q, t' σ H Q → t σ H Q) : PE X e t' := ⟨fun pins s σ H Q I q => h.run pins s σ H Q I (k σ H Q q)⟩
theorem PT.imp {X : Cx} {e : Expr} {t t' : TT} (h : PT X e t) (k : ∀ σ H Q, t' σ H Q → t σ H Q) : PT X e t' := ⟨fun pins s σ H Q I q => h.run pins s σ H Q I (k σ H Q q)⟩
theorem PW.imp {X : Cx} {e : Expr} {t t' : TT} (h : PW X e t) (k : ∀ σ H Q, t' σ H Q → t σ H Q) : PW X e t' := ⟨fun wh pins s σ H Q I q => h.run wh pins s σ H Q I (k σ H Q q)⟩
theorem PA.imp {X : Cx} {e : List Expr} {t t' : TA} (h : PA X e t) (k : ∀ σ H Q, t' σ H Q → t σ H Q) : PA X e t' := ⟨fun pos pins s σ H Q I q => h.run pos pins s σ H Q I (k σ H Q q)⟩
theorem PS.imp {X : Cx} {e : Stmt} {t t' : TS} (h : PS X e t) (k : ∀ D σ H, t' D σ H → t D σ H) : PS X e t' := ⟨fun pins s σ H D I q => h.run pins s σ H D I (k D σ H q)⟩
theorem PSs.imp {X : Cx} {e : List Stmt} {t t' : TS} (h : PSs X e t) (k : ∀ D σ H, t' D σ H → t D σ H) : PSs X e t' := ⟨fun pins s σ H D I q => h.run pins s σ H D I (k D σ H q)⟩

/-! ### composition -/
section
variable {K : PySem.W.Frag} {E : XK} {σ : L2.St} {H : Hp}
/-- one value, then what follows -/
theorem te_then {m : Me} {β : Type} {k : Wv → Mem → R β} {P : β → Mem → Rn → Hp → Prop} {ρ : Rn} {M : Mem} {env : Ev} (rl : Rl K ρ M H) (re : RE K ρ H env σ) (h : Fin K ρ H P E ((m env M).bind k)) {Q : VK}
    (q : ∀ w M1 ρ1 H1 v, Gr ρ H ρ1 H1 → Rl K ρ1 M1 H1 → RE K ρ1 H1 env σ → RV K ρ1 H1 w v → Fin K ρ1 H1 P E (k w M1) → Q v H1) : te K E m σ H Q :=
  ⟨ρ, M, env, rl, re, h.bind.imp fun w M1 ρ1 H1 g rl1 f v rv => q w M1 ρ1 H1 v g rl1 (re.mono g) rv f⟩
theorem ta_then {m : Ma} {β : Type} {k : List Wv → Mem → R β} {P : β → Mem → Rn → Hp → Prop} {ρ : Rn} {M : Mem} {env : Ev} (rl : Rl K ρ M H) (re : RE K ρ H env σ) (h : Fin K ρ H P E ((m env M).bind k)) {Q : List V → Hp → Prop}
    (q : ∀ ws M1 ρ1 H1 vs, Gr ρ H ρ1 H1 → Rl K ρ1 M1 H1 → RE K ρ1 H1 env σ → RVs K ρ1 H1 ws vs → Fin K ρ1 H1 P E (k ws M1) → Q vs H1) : ta K E m σ H Q :=
  ⟨ρ, M, env, rl, re, h.bind.imp fun w M1 ρ1 H1 g rl1 f v rv => q w M1 ρ1 H1 v g rl1 (re.mono g) rv f⟩
theorem tt_then {m : Mt} {β : Type} {k : Bool → Mem → R β} {P : β → Mem → Rn → Hp → Prop} {ρ : Rn} {M : Mem} {env : Ev} (rl : Rl K ρ M H) (re : RE K ρ H env σ) (h : Fin K ρ H P E ((m env M).bind k)) {Q : Bool → Hp → Prop}
    (q : ∀ b M1 ρ1 H1, Gr ρ H ρ1 H1 → Rl K ρ1 M1 H1 → RE K ρ1 H1 env σ → Fin K ρ1 H1 P E (k b M1) → Q b H1) : tt K E m σ H Q :=
  ⟨ρ, M, env, rl, re, h.bind.imp fun w M1 ρ1 H1 g rl1 f => q w M1 ρ1 H1 g rl1 (re.mono g) f⟩
end

/-! ### names, constants -/
def mVar (i : Nat) : Me := fun env M => match env[i]? with
  | some (some w) => .ok w M
  | _ => .no
def mC (w : Wv) : Me := fun _ M => .ok w M
section
variable {X : Cx} {E : XK}
theorem e_var {i : Nat} {e : Expr} (h : PE X e (tVar i)) : PE X e (te X.K E (mVar i)) := PE.imp h fun σ H Q ⟨ρ, M, env, rl, re, f⟩ => by
  unfold mVar at f
  cases q : env[i]? with
  | none => rw [q] at f; exact f.elim
  | some o =>
    cases o with
    | none => rw [q] at f; exact f.elim
    | some w =>
      rw [q] at f
      obtain ⟨v, h1, h2⟩ := re.2 i w q
      exact ⟨v, h1, f.here rl v h2⟩
theorem e_const {e : Expr} {v : V} (w : Wv) (h : PE X e (tC v)) (r : ∀ ρ H, RV X.K ρ H w v) : PE X e (te X.K E (mC w)) := PE.imp h fun σ H Q ⟨ρ, M, env, rl, re, f⟩ => f.here rl v (r ρ H)
theorem e_int {i : Int} {j pos} : PE X (.Constant (.int i) j pos) (te X.K E (mC (.int i))) := e_const _ pe_int fun _ _ => rfl
theorem e_bl {b : Bool} {j pos} : PE X (.Constant (.bool b) j pos) (te X.K E (mC (.bl b))) := e_const _ pe_bl fun _ _ => rfl
theorem e_non {j pos} : PE X (.Constant .none j pos) (te X.K E (mC .non)) := e_const _ pe_non fun _ _ => rfl
theorem e_str {s : Str} {j pos} : PE X (.Constant (.str s) j pos) (te X.K E (mC (.str s))) := e_const _ pe_str fun _ _ => rfl

/-! ### operators -/
def mBin (f : Wv → Wv → Mem → R Wv) (a b : Me) : Me := fun env M => (a env M).bind fun x M1 => (b env M1).bind fun y M2 => f x y M2
def mUn (f : Wv → Mem → R Wv) (a : Me) : Me := fun env M => (a env M).bind f
variable {a b : Expr} {ma mb : Me} {pos : Pos}
theorem te_two {K : PySem.W.Frag} {f : Wv → Wv → Mem → R Wv} {σ : L2.St} {H : Hp} {Q : VK} (h : te K E (mBin f ma mb) σ H Q) : tOp (r2 K E f) (te K E ma) (te K E mb) σ H Q := by
  obtain ⟨ρ, M, env, rl, re, h⟩ := h
  refine te_then rl re h fun x M1 ρ1 H1 v g1 rl1 re1 rv1 h1 => ?_
  refine te_then rl1 re1 h1 fun y M2 ρ2 H2 u g2 rl2 re2 rv2 h2 => ?_
  exact ⟨ρ2, M2, x, y, rl2, RV.mono g2 x rv1, rv2, h2⟩
theorem e_bin {op : Operator} {f : Wv → Wv → Mem → R Wv} (ho : OpR X (binaryOp op) (r2 X.K E f)) (ha : PE X a (te X.K E ma)) (hb : PE X b (te X.K E mb)) : PE X (.BinOp a op b pos) (te X.K E (mBin f ma mb)) :=
  PE.imp (pe_op ho ha hb) fun _ _ _ h => te_two h
theorem e_un {op : UnaryOp} {f : Wv → Mem → R Wv} (ho : UnR X (unaryOp op) (r1 X.K E f)) (ha : PE X a (te X.K E ma)) : PE X (.UnaryOp op a pos) (te X.K E (mUn f ma)) :=
  PE.imp (pe_un ho ha) fun _ _ _ ⟨ρ, M, env, rl, re, h⟩ => te_then rl re h fun x M1 ρ1 H1 v g1 rl1 re1 rv1 h1 => ⟨ρ1, M1, x, rl1, rv1, h1⟩
end
end Mi

namespace Mi
open PySem PySem.Spec PyProof.Rows L2

/-! ### new objects -/
section
variable {K : PySem.W.Frag} {ρ : Rn} {M : Mem} {H : Hp} {p : Addr} {o : HO}
theorem Rl.there (rl : Rl K ρ M H) {a : Addr} (h : a ∈ ρ.l) : ∃ u, H a = some u := by
  obtain ⟨n, hn⟩ := List.getElem?_of_mem h
  have hlt : n < M.length := by rw [← rl.len]; exact (List.getElem?_eq_some_iff.mp hn).1
  obtain ⟨b, h1, h2⟩ := rl.ob n _ (List.getElem?_eq_getElem hlt)
  have e : b = a := Option.some.inj (h1.symm.trans hn)
  subst e
  cases q : M[n] with
  | lst ws =>
    rw [q] at h2
    obtain ⟨vs, h3, _⟩ := h2
    exact ⟨_, h3⟩
  | ins C ns ws =>
    rw [q] at h2
    obtain ⟨D, dx, fs, _, h3, _⟩ := h2
    exact ⟨_, h3⟩
  | dct ks ws =>
    rw [q] at h2
    obtain ⟨kvs, h3, _⟩ := h2
    exact ⟨_, h3⟩
  | dtt ks ws =>
    rw [q] at h2
    obtain ⟨kvs, h3, _⟩ := h2
    exact ⟨_, h3⟩
theorem Rl.out (rl : Rl K ρ M H) (h : H p = none) : ρ.no p := by
  refine ⟨fun z => ?_, fun z => ?_⟩
  · obtain ⟨u, e⟩ := rl.there z
    rw [h] at e
    cases e
  · obtain ⟨_, u, e, _⟩ := rl.fs p z
    rw [h] at e
    cases e
theorem RO.mono {ρ' : Rn} {H' : Hp} (g : Gr ρ H ρ' H') {a : Addr} (ha : H' a = H a) {b : Ob} (h : RO K ρ H a b) : RO K ρ' H' a b := by
  cases b with
  | lst ws =>
    obtain ⟨vs, h1, h2⟩ := h
    exact ⟨vs, by rw [ha]; exact h1, RVs.mono g ws h2⟩
  | dct ks ws =>
    obtain ⟨kvs, h1, e, h2⟩ := h
    exact ⟨kvs, by rw [ha]; exact h1, e, RVs.mono g ws h2⟩
  | dtt ks ws =>
    obtain ⟨kvs, h1, e, h2⟩ := h
    exact ⟨kvs, by rw [ha]; exact h1, e, RVs.mono g ws h2⟩
  | ins C ns ws =>
    obtain ⟨D, dx, fs, c, h1, e, h2⟩ := h
    exact ⟨D, dx, fs, c, by rw [ha]; exact h1, e, RVs.mono g ws h2⟩
theorem Rl.upd (rl : Rl K ρ M H) (h : H p = none) : Rl K ρ M (upd H p o) := by
  refine ⟨rl.nd, rl.len, fun n b e => ?_, fun a ha => ?_⟩
  · obtain ⟨a, h1, h2⟩ := rl.ob n b e
    refine ⟨a, h1, RO.mono (Gr.fresh h) (upd_ne fun z => ?_) h2⟩
    subst z
    exact (rl.out h).1 (List.mem_of_getElem? h1)
  · obtain ⟨h1, u, h2, h3⟩ := rl.fs a ha
    exact ⟨h1, u, by rw [upd_ne (ne_of_none h2 h)]; exact h2, h3⟩
theorem Gr.mk1 (h : H p = none) : Gr ρ H (ρ.add p) (upd H p o) :=
  ⟨⟨[p], rfl⟩, rfl, fun a u _ e => by rw [upd_ne (ne_of_none e h)]; exact e, fun a z => by
    rcases List.mem_append.mp z with z | z
    · exact .inl z
    · rw [List.mem_singleton.mp z]; exact .inr h⟩
/-- the new object is of the memory -/
theorem Rl.new (rl : Rl K ρ M H) (h : H p = none) {b : Ob} (hb : RO K (ρ.add p) (L2.upd H p o) p b) : Rl K (ρ.add p) (M ++ [b]) (L2.upd H p o) := by
  refine ⟨?_, by simp [Rn.add, rl.len], fun n c e => ?_, fun a ha => ?_⟩
  · show (ρ.l ++ [p]).Nodup
    rw [List.nodup_append]
    refine ⟨rl.nd, by simp, fun x hx y hy z => ?_⟩
    rw [List.mem_singleton.mp hy] at z
    rw [z] at hx
    exact (rl.out h).1 hx
  · by_cases hn : n < M.length
    · rw [List.getElem?_append_left hn] at e
      obtain ⟨a, h1, h2⟩ := rl.ob n c e
      refine ⟨a, by show (ρ.l ++ [p])[n]? = _; rw [List.getElem?_append_left (by rw [rl.len]; exact hn)]; exact h1, RO.mono (Gr.mk1 h) (upd_ne fun z => ?_) h2⟩
      subst z
      exact (rl.out h).1 (List.mem_of_getElem? h1)
    · have hlt := (List.getElem?_eq_some_iff.mp e).1
      rw [List.length_append, List.length_singleton] at hlt
      have hn' : n = M.length := by omega
      subst hn'
      rw [List.getElem?_append_right (Nat.le_refl _), Nat.sub_self] at e
      have e' : b = c := by simpa using e
      subst e'
      refine ⟨p, ?_, hb⟩
      show (ρ.l ++ [p])[M.length]? = _
      rw [← rl.len, List.getElem?_append_right (Nat.le_refl _), Nat.sub_self]
      rfl
  · obtain ⟨h1, u, h2, h3⟩ := rl.fs a ha
    have ne := ne_of_none h2 h
    refine ⟨fun z => ?_, u, by rw [upd_ne ne]; exact h2, h3⟩
    rcases List.mem_append.mp z with z | z
    · exact h1 z
    · exact ne (List.mem_singleton.mp z)
theorem nodup_at : ∀ {l : List Addr} {i j : Nat} {a : Addr}, l.Nodup → l[i]? = some a → l[j]? = some a → i = j
  | [], _, _, _, _, h, _ => by simp at h
  | x :: xs, 0, 0, _, _, _, _ => rfl
  | x :: xs, 0, j + 1, a, n, h, k => by
    simp at h k
    subst h
    exact absurd (List.mem_of_getElem? k) (List.nodup_cons.mp n).1
  | x :: xs, i + 1, 0, a, n, h, k => by
    simp at h k
    subst k
    exact absurd (List.mem_of_getElem? h) (List.nodup_cons.mp n).1
  | x :: xs, i + 1, j + 1, a, n, h, k => by
    simp at h k
    rw [nodup_at (List.nodup_cons.mp n).2 h k]
/-- an object of the memory is changed -/
theorem Gr.write {n : Nat} (hp : ρ.l[n]? = some p) : Gr ρ H ρ (L2.upd H p o) :=
  ⟨⟨[], by simp⟩, rfl, fun a u ha e => by
    rw [upd_ne]
    · exact e
    · rintro rfl
      exact ha (List.mem_of_getElem? hp), fun _ h => .inl h⟩
theorem Rl.write (rl : Rl K ρ M H) {n : Nat} (hp : ρ.l[n]? = some p) {b : Ob} (hb : RO K ρ (L2.upd H p o) p b) : Rl K ρ (M.set n b) (L2.upd H p o) := by
  refine ⟨rl.nd, by simp [rl.len], fun m c e => ?_, fun a ha => ?_⟩
  · by_cases hm : n = m
    · subst hm
      have hlt : n < M.length := by rw [← rl.len]; exact (List.getElem?_eq_some_iff.mp hp).1
      rw [List.getElem?_set_self hlt] at e
      cases e
      exact ⟨p, hp, hb⟩
    · rw [List.getElem?_set_ne hm] at e
      obtain ⟨a, h1, h2⟩ := rl.ob m c e
      refine ⟨a, h1, RO.mono (Gr.write hp) (upd_ne fun z => ?_) h2⟩
      subst z
      exact hm (nodup_at rl.nd hp h1)
  · obtain ⟨h1, u, h2, h3⟩ := rl.fs a ha
    refine ⟨h1, u, ?_, h3⟩
    rw [upd_ne]
    · exact h2
    · rintro rfl
      exact h1 (List.mem_of_getElem? hp)
end

/-! ### sizes -/
def lim : Nat := 100000
theorem lim_le {n : Nat} (h : n ≤ lim) : n ≤ sizeLine := Nat.le_trans h (by decide)
theorem lim_lt {n : Nat} (h : n < lim) : n < sizeLine := Nat.lt_of_lt_of_le h (by decide)

/-! ### a value that is handed on -/
section
variable {K : PySem.W.Frag} {E : XK} {ρ : Rn} {M : Mem} {H : Hp} {Q : VK} {w : Wv}
theorem fin_val (h : Fin K ρ H (PV K Q) E (.ok w M)) (rl : Rl K ρ M H) {v : V} (r : RV K ρ H w v) : Q v H := h.here rl v r
theorem fin_lst {ws : List Wv} {vs : List V} (h : Fin K ρ H (PV K Q) E (.ok (.lst ws) M)) (rl : Rl K ρ M H) (r : RVs K ρ H ws vs) {p : Addr} (hp : H p = none) : Q (.ref p) (upd H p (.lst vs)) :=
  h ρ _ (Gr.fresh hp) (rl.upd hp) _ ⟨p, vs, rfl, ⟨upd_same, rl.out hp⟩, RVs.mono (Gr.fresh hp) ws r⟩
theorem fin_tup {ws : List Wv} {vs : List V} (h : Fin K ρ H (PV K Q) E (.ok (.tup ws) M)) (rl : Rl K ρ M H) (r : RVs K ρ H ws vs) {p : Addr} (hp : H p = none) : Q (.ref p) (upd H p (.tup vs)) :=
  h ρ _ (Gr.fresh hp) (rl.upd hp) _ ⟨p, vs, rfl, ⟨upd_same, rl.out hp⟩, RVs.mono (Gr.fresh hp) ws r⟩
theorem fin_new {ws : List Wv} {vs : List V} (h : Fin K ρ H (PV K Q) E (.ok (.ref M.length) (M ++ [.lst ws]))) (rl : Rl K ρ M H) (r : RVs K ρ H ws vs) {p : Addr} (hp : H p = none) : Q (.ref p) (upd H p (.lst vs)) :=
  h (ρ.add p) _ (Gr.mk1 hp) (rl.new hp ⟨vs, upd_same, RVs.mono (Gr.mk1 hp) ws r⟩) _ ⟨p, rfl, by show (ρ.l ++ [p])[M.length]? = _; rw [← rl.len, List.getElem?_append_right (Nat.le_refl _), Nat.sub_self]; rfl⟩
theorem sq_l {a : Addr} {vs : List V} (h : (Rd H a (.lst vs) ∧ ρ.no a) ∨ KL K a vs) : SqL K H a vs := h.imp (·.1) id
theorem sq_t {a : Addr} {vs : List V} (h : H a = some (.tup vs) ∧ ρ.no a) : SqT K H a vs := .inl (.inl h.1)
end

/-! ### ints and others by operators -/
def mulOk (i j : Int) : Bool := decide (i.natAbs < 2 ^ 64) || decide (j.natAbs < 2 ^ 64) || decide (i.natAbs.log2 + j.natAbs.log2 < 1000000)
def addW : Wv → Wv → Mem → R Wv
  | .int i, .int j, M => .ok (.int (i + j)) M
  | .str a, .str b, M => if a.length + b.length ≤ lim then .ok (.str (a ++ b)) M else .no
  | .lst xs, .lst ys, M => if xs.length + ys.length ≤ lim then .ok (.lst (xs ++ ys)) M else .no
  | .tup xs, .tup ys, M => if 0 < xs.length ∧ 0 < ys.length ∧ xs.length + ys.length ≤ lim then .ok (.tup (xs ++ ys)) M else .no
  | _, _, _ => .no
def subW : Wv → Wv → Mem → R Wv
  | .int i, .int j, M => .ok (.int (i - j)) M
  | _, _, _ => .no
def mulW : Wv → Wv → Mem → R Wv
  | .int i, .int j, M => if mulOk i j then .ok (.int (i * j)) M else .no
  | .lst xs, .int k, M => if 0 ≤ k ∧ k < 1000000 ∧ xs.length * k.toNat ≤ lim then .ok (.lst (List.replicate k.toNat xs).flatten) M else .no
  | _, _, _ => .no
def divW : Wv → Wv → Mem → R Wv
  | .int i, .int j, M => if 0 < j ∧ j < 1073741824 then .ok (.int (i / j)) M else .no
  | _, _, _ => .no
def modW : Wv → Wv → Mem → R Wv
  | .int i, .int j, M => if 0 < j then .ok (.int (i % j)) M else .no
  | _, _, _ => .no
def powW : Wv → Wv → Mem → R Wv
  | .int i, .int j, M => if 0 ≤ j ∧ j ≤ 1000000 ∧ i.natAbs < 2 ^ 64 then .ok (.int (i ^ j.toNat)) M else .no
  | _, _, _ => .no
def shlW : Wv → Wv → Mem → R Wv
  | .int i, .int j, M => if 0 ≤ j ∧ j ≤ 1000000 ∧ i.natAbs < 2 ^ 64 then .ok (.int (i * 2 ^ j.toNat)) M else .no
  | _, _, _ => .no
def negW : Wv → Mem → R Wv
  | .int i, M => .ok (.int (-i)) M
  | _, _ => .no
def cmpW (p : Int → Int → Bool) : Wv → Wv → Mem → R Bool
  | .int i, .int j, M => .ok (p i j) M
  | _, _, _ => .no
/-- a comparison's wish -/
def rb (K : PySem.W.Frag) (E : XK) (f : Wv → Wv → Mem → R Bool) : R2 := fun x y H Q => ∃ ρ M wx wy, Rl K ρ M H ∧ RV K ρ H wx x ∧ RV K ρ H wy y ∧ Fin K ρ H (PB fun b H' => Q (.bl b) H') E (f wx wy M)
theorem pick {β : Type} {α : Prop} {P : R β} {K : PySem.W.Frag} {E : XK} {ρ : Rn} {H : Hp} {Q : β → Mem → Rn → Hp → Prop} [Decidable α] (h : Fin K ρ H Q E (if α then P else .no)) : α ∧ Fin K ρ H Q E P := by
  by_cases ha : α
  · rw [if_pos ha] at h; exact ⟨ha, h⟩
  · rw [if_neg ha] at h; exact h.elim

section
variable {X : Cx} {E : XK}
theorem OpR.imp {f : Value → Value → Sem Value} {r r' : R2} (h : OpR X f r) (k : ∀ x y H Q, r' x y H Q → r x y H Q) : OpR X f r' := fun pins s σ H x y v u Q I rx ry q => h pins s σ H x y v u Q I rx ry (k x y H Q q)
theorem OpR.two {f : Value → Value → Sem Value} {r r' : R2} (h : OpR X f r) (h' : OpR X f r') : OpR X f (fun x y H Q => r x y H Q ∨ r' x y H Q) := fun pins s σ H x y v u Q I rx ry q =>
  q.elim (h pins s σ H x y v u Q I rx ry) (h' pins s σ H x y v u Q I rx ry)
theorem UnR.imp {f : Value → Sem Value} {r r' : V → Hp → VK → Prop} (h : UnR X f r) (k : ∀ x H Q, r' x H Q → r x H Q) : UnR X f r' := fun pins s σ H x v Q I rx q => h pins s σ H x v Q I rx (k x H Q q)
theorem CallR.imp {f : Value} {r r' : List V → Hp → VK → Prop} (h : CallR X f r) (k : ∀ xs H Q, r' xs H Q → r xs H Q) : CallR X f r' := fun pins s σ H xs us Q I rx q => h pins s σ H xs us Q I rx (k xs H Q q)

theorem o_add : OpR X (binaryOp .Add) (r2 X.K E addW) := by
  refine OpR.imp (OpR.two op_add (OpR.two op_add_str (OpR.two op_cat op_catT))) fun x y H Q ⟨ρ, M, wx, wy, rl, rx, ry, h⟩ => ?_
  cases wx <;> cases wy <;> first | exact h.elim | skip
  · exact .inl ⟨_, _, rx, ry, fin_val h rl rfl⟩
  · obtain ⟨h0, h⟩ := pick h
    exact .inr (.inl ⟨_, _, rx, ry, lim_le h0, fin_val h rl rfl⟩)
  · rename_i xs ys
    obtain ⟨⟨n1, n2, h0⟩, h⟩ := pick h
    obtain ⟨a, vs, rfl, ha, r1⟩ := rx
    obtain ⟨b, us, rfl, hb, r2⟩ := ry
    have l1 := r1.length
    have l2 := r2.length
    refine .inr (.inr (.inr ⟨a, b, vs, us, rfl, rfl, sq_t ha, sq_t hb, ?_, ?_, ?_, ?_⟩))
    · rintro rfl; rw [List.length_nil] at l1; omega
    · rw [← l1, ← l2]; exact lim_le h0
    · rintro rfl; rw [List.length_nil] at l2; omega
    · exact fun _ p hp => fin_tup h rl (r1.append r2) hp
  · obtain ⟨h0, h⟩ := pick h
    obtain ⟨a, vs, rfl, ha, r1⟩ := rx
    obtain ⟨b, us, rfl, hb, r2⟩ := ry
    exact .inr (.inr (.inl ⟨a, b, vs, us, rfl, rfl, ha.1, hb.1, by rw [← r1.length, ← r2.length]; exact lim_le h0, fun p hp => fin_lst h rl (r1.append r2) hp⟩))
theorem o_sub : OpR X (binaryOp .Sub) (r2 X.K E subW) := by
  refine OpR.imp op_sub fun x y H Q ⟨ρ, M, wx, wy, rl, rx, ry, h⟩ => ?_
  cases wx <;> cases wy <;> first | exact h.elim | skip
  exact ⟨_, _, rx, ry, fin_val h rl rfl⟩
theorem flatten_rep {K : PySem.W.Frag} {ρ : Rn} {H : Hp} {ws : List Wv} {vs : List V} (r : RVs K ρ H ws vs) : ∀ n, RVs K ρ H (List.replicate n ws).flatten (List.replicate n vs).flatten
  | 0 => rfl
  | n + 1 => by
    rw [List.replicate_succ, List.replicate_succ, List.flatten_cons, List.flatten_cons]
    exact r.append (flatten_rep r n)
theorem o_mul : OpR X (binaryOp .Mult) (r2 X.K E mulW) := by
  refine OpR.imp (OpR.two op_mul (OpR.two op_mulW op_rep)) fun x y H Q ⟨ρ, M, wx, wy, rl, rx, ry, h⟩ => ?_
  cases wx <;> cases wy <;> first | exact h.elim | skip
  · obtain ⟨h0, h⟩ := pick h
    unfold mulOk at h0
    rw [Bool.or_eq_true, Bool.or_eq_true, decide_eq_true_eq, decide_eq_true_eq, decide_eq_true_eq] at h0
    rcases h0 with (h0 | h0) | h0
    · exact .inl ⟨_, _, rx, ry, .inl (by omega), fin_val h rl rfl⟩
    · exact .inl ⟨_, _, rx, ry, .inr (by omega), fin_val h rl rfl⟩
    · exact .inr (.inl ⟨_, _, rx, ry, h0, fin_val h rl rfl⟩)
  · obtain ⟨⟨h0, h1, h2⟩, h⟩ := pick h
    obtain ⟨a, vs, rfl, ha, r1⟩ := rx
    exact .inr (.inr ⟨a, _, vs, rfl, ry, ha.1, by omega, by omega, by rw [← r1.length]; exact lim_le h2, fun p hp => fin_lst h rl (flatten_rep r1 _) hp⟩)
theorem o_div : OpR X (binaryOp .FloorDiv) (r2 X.K E divW) := by
  refine OpR.imp op_fdiv fun x y H Q ⟨ρ, M, wx, wy, rl, rx, ry, h⟩ => ?_
  cases wx <;> cases wy <;> first | exact h.elim | skip
  obtain ⟨h0, h⟩ := pick h
  exact ⟨_, _, rx, ry, h0, fin_val h rl rfl⟩
theorem o_mod : OpR X (binaryOp .Mod) (r2 X.K E modW) := by
  refine OpR.imp op_mod fun x y H Q ⟨ρ, M, wx, wy, rl, rx, ry, h⟩ => ?_
  cases wx <;> cases wy <;> first | exact h.elim | skip
  obtain ⟨h0, h⟩ := pick h
  exact ⟨_, _, rx, ry, h0, fin_val h rl rfl⟩
theorem o_pow : OpR X (binaryOp .Pow) (r2 X.K E powW) := by
  refine OpR.imp op_pow fun x y H Q ⟨ρ, M, wx, wy, rl, rx, ry, h⟩ => ?_
  cases wx <;> cases wy <;> first | exact h.elim | skip
  obtain ⟨h0, h⟩ := pick h
  exact ⟨_, _, rx, ry, h0, fin_val h rl rfl⟩
theorem o_shl : OpR X (binaryOp .LShift) (r2 X.K E shlW) := by
  refine OpR.imp op_shl fun x y H Q ⟨ρ, M, wx, wy, rl, rx, ry, h⟩ => ?_
  cases wx <;> cases wy <;> first | exact h.elim | skip
  obtain ⟨h0, h⟩ := pick h
  exact ⟨_, _, rx, ry, h0, fin_val h rl rfl⟩
theorem o_neg : UnR X (unaryOp .USub) (r1 X.K E negW) := by
  refine UnR.imp un_neg fun x H Q ⟨ρ, M, wx, rl, rx, h⟩ => ?_
  cases wx <;> first | exact h.elim | skip
  exact ⟨_, rx, fin_val h rl rfl⟩
theorem o_cmp {op : CmpOp} {p : Int → Int → Bool} (ho : OpR X (compareOp op) (rI0 fun i j => .bl (p i j))) : OpR X (compareOp op) (rb X.K E (cmpW p)) := by
  refine OpR.imp ho fun x y H Q ⟨ρ, M, wx, wy, rl, rx, ry, h⟩ => ?_
  cases wx <;> cases wy <;> first | exact h.elim | skip
  exact ⟨_, _, rx, ry, h.here rl⟩
abbrev ltW := cmpW fun i j => decide (i < j)
abbrev leW := cmpW fun i j => decide (i ≤ j)
abbrev gtW := cmpW fun i j => decide (j < i)
abbrev geW := cmpW fun i j => decide (j ≤ i)
theorem o_lt : OpR X (compareOp .Lt) (rb X.K E ltW) := o_cmp op_lt
theorem o_le : OpR X (compareOp .LtE) (rb X.K E leW) := o_cmp op_le
theorem o_gt : OpR X (compareOp .Gt) (rb X.K E gtW) := o_cmp op_gt
theorem o_ge : OpR X (compareOp .GtE) (rb X.K E geW) := o_cmp op_ge
end

/-! ### == of data -/
mutual
def toD : Wv → Option PyData
  | .non => some .none
  | .bl b => some (.bool b)
  | .int i => some (.int i)
  | .str s => some (.str s)
  | .tup xs => (toDs xs).map .tuple
  | .lst xs => (toDs xs).map .list
  | .rdl xs => (toDs xs).map .list
  | _ => none
def toDs : List Wv → Option (List PyData)
  | [] => some []
  | x :: xs => match toD x, toDs xs with
    | some d, some ds => some (d :: ds)
    | _, _ => none
end
/-- .. a list of the memory too -/
def toDM (M : Mem) : Wv → Option PyData
  | .ref n => match M[n]? with
    | some (.lst xs) => (toDs xs).map .list
    | _ => none
  | w => toD w
section
variable {K : PySem.W.Frag} {ρ : Rn} {H : Hp}
mutual
theorem dp_of : ∀ (w : Wv) {d : PyData} {v : V}, toD w = some d → RV K ρ H w v → Dp K H v d
  | .non, _, _, e, r => by cases e; cases r; exact .non
  | .bl b, _, _, e, r => by cases e; cases r; exact .bl b
  | .int i, _, _, e, r => by cases e; cases r; exact .int i
  | .str s, _, _, e, r => by cases e; cases r; exact .str s
  | .tup xs, _, _, e, r => by
    obtain ⟨ds, e1, rfl⟩ := Option.map_eq_some_iff.mp (show (toDs xs).map PyData.tuple = some _ from e)
    obtain ⟨a, vs, rfl, h, r⟩ := r
    exact .tup (sq_t h) (dps_of xs e1 r)
  | .lst xs, _, _, e, r => by
    obtain ⟨ds, e1, rfl⟩ := Option.map_eq_some_iff.mp (show (toDs xs).map PyData.list = some _ from e)
    obtain ⟨a, vs, rfl, h, r⟩ := r
    exact .lst (SqL.of h.1) (dps_of xs e1 r)
  | .rdl xs, _, _, e, r => by
    obtain ⟨ds, e1, rfl⟩ := Option.map_eq_some_iff.mp (show (toDs xs).map PyData.list = some _ from e)
    obtain ⟨a, vs, rfl, h, r⟩ := r
    exact .lst (sq_l h) (dps_of xs e1 r)
  | .ty _, _, _, e, _ => by cases e
  | .adr _, _, _, e, _ => by cases e
  | .dct _ _, _, _, e, _ => by cases e
  | .ref _, _, _, e, _ => by cases e
theorem dps_of : ∀ (ws : List Wv) {ds : List PyData} {vs : List V}, toDs ws = some ds → RVs K ρ H ws vs → DpAll K H vs ds
  | [], _, _, e, r => by cases e; cases r; exact .nil
  | x :: xs, _, _, e, r => by
    obtain ⟨v, vr, rfl, h, r⟩ := r
    have e : (match toD x, toDs xs with | some d, some ds => some (d :: ds) | _, _ => none) = some _ := e
    cases q1 : toD x with
    | none => rw [q1] at e; cases e
    | some d =>
      cases q2 : toDs xs with
      | none => rw [q1, q2] at e; cases e
      | some ds =>
        rw [q1, q2] at e
        cases e
        exact .cons (dp_of x q1 h) (dps_of xs q2 r)
end
theorem dpM_of {M : Mem} (rl : Rl K ρ M H) (w : Wv) {d : PyData} {v : V} (e : toDM M w = some d) (r : RV K ρ H w v) : Dp K H v d := by
  cases w with
  | ref n =>
    obtain ⟨a, rfl, ha⟩ := r
    have e : (match M[n]? with | some (Ob.lst xs) => (toDs xs).map PyData.list | _ => none) = some d := e
    cases q : M[n]? with
    | none => rw [q] at e; cases e
    | some o =>
      obtain ⟨b, h1, h2⟩ := rl.ob n o q
      have eb : b = a := Option.some.inj (h1.symm.trans ha)
      subst eb
      cases o with
      | lst xs =>
        rw [q] at e
        obtain ⟨ds, e1, rfl⟩ := Option.map_eq_some_iff.mp e
        obtain ⟨vs, h3, r⟩ := h2
        exact .lst (SqL.of h3) (dps_of xs e1 r)
      | _ => rw [q] at e; cases e
  | _ => exact dp_of _ e r
end
/-- a list of some items is not the empty one, whatever the items are -/
def eqNil : Wv → Wv → Mem → R Bool
  | .lst (_ :: _), .lst [], M => .ok false M
  | _, _, _ => .no
def eqW (neg : Bool) (x y : Wv) (M : Mem) : R Bool := match toDM M x, toDM M y with
  | some d, some e => if SeqAt.shaped d && SeqAt.shaped e then .ok (neg ^^ PyData.eqv d e) M else if neg then .no else eqNil x y M
  | _, _ => if neg then .no else eqNil x y M
section
variable {X : Cx} {E : XK}
theorem op_eq_len (hu : X.A.units + 64 < cLine) : OpR X (compareOp .Eq) (fun x y H Q => ∃ a b xs ys, x = .ref a ∧ y = .ref b ∧ SqL X.K H a xs ∧ SqL X.K H b ys ∧ xs.length ≠ ys.length ∧ Q (.bl false) H) := by
  intro pins s σ H x y v u Q I rx ry h
  obtain ⟨a, b, xs, ys, rfl, rfl, ha, hb, hl, q⟩ := h
  cases (show v = Value.ref a from rx)
  cases (show u = Value.ref b from ry)
  obtain ⟨us, r1, p1, _⟩ := I.list ha
  obtain ⟨ws, r2, p2, _⟩ := I.list hb
  refine PySem.EqBoolInt.of_rc (SeqAt.RcAt.lists_lengths p1.isList p2.isList ?_ (by omega)) ⟨.bl false, H, I, rfl, q⟩
  rw [List.size_toArray, List.size_toArray, ← r1.length, ← r2.length]
  simpa using hl
theorem eqNil_run (hu : X.A.units + 64 < cLine) {pins : List (Addr × Obj)} {σ : L2.St} {H : Hp} {s : Shared} {x y : V} {v u : Value} {Q : VK} {ρ : Rn} {M : Mem} {wx wy : Wv} (I : Inv X pins σ H s) (qx : RelV x v) (qy : RelV y u) (rl : Rl X.K ρ M H) (rx : RV X.K ρ H wx x) (ry : RV X.K ρ H wy y)
    (h : Fin X.K ρ H (PB fun b H' => Q (.bl b) H') E (eqNil wx wy M)) : wpAny (model X.prog X.w) X.A (compareOp .Eq v u) (EP X pins σ Q) X.xe s := by
  unfold eqNil at h
  split at h
  · obtain ⟨a, vs, rfl, ⟨ha, _⟩, r1⟩ := rx
    obtain ⟨b, ws, rfl, ⟨hb, _⟩, r2⟩ := ry
    obtain ⟨_, _, rfl, _⟩ := r1
    cases (show ws = [] from r2)
    exact op_eq_len hu pins s σ H _ _ v u Q I qx qy ⟨a, b, _, _, rfl, rfl, SqL.of ha, SqL.of hb, (by simp), h.here rl⟩
  · exact h.elim
/-- a list of some items is not the empty one -/
theorem zv_eq_nil (w : Wv) (ws : List Wv) (M : Mem) : eqW false (.lst (w :: ws)) (.lst []) M = .ok false M := by
  unfold eqW
  cases q1 : toDM M (.lst (w :: ws)) with
  | none => rfl
  | some d =>
    obtain ⟨ds, q2, rfl⟩ := Option.map_eq_some_iff.mp (show (toDs (w :: ws)).map PyData.list = some d from q1)
    show (if (SeqAt.shaped (.list ds) && SeqAt.shaped (.list [])) = true then R.ok (false ^^ PyData.eqv (.list ds) (.list [])) M else _) = _
    split
    · cases ds with
      | nil =>
        have q2 : (match toD w, toDs ws with | some d, some ds => some (d :: ds) | _, _ => none) = some [] := q2
        split at q2 <;> cases q2
      | cons d ds => rw [PyData.eqv, PyData.eqvAll]; rfl
    · rfl
theorem o_eq (hu : X.A.units + 64 < cLine) : OpR X (compareOp .Eq) (rb X.K E (eqW false)) := by
  intro pins s σ H x y v u Q I qx qy ⟨ρ, M, wx, wy, rl, rx, ry, h⟩
  unfold eqW at h
  cases q1 : toDM M wx with
  | none => rw [q1] at h; exact eqNil_run hu I qx qy rl rx ry h
  | some d =>
    cases q2 : toDM M wy with
    | none => rw [q1, q2] at h; exact eqNil_run hu I qx qy rl rx ry h
    | some e =>
      rw [q1, q2] at h
      by_cases h0 : (SeqAt.shaped d && SeqAt.shaped e) = true
      case neg =>
        have h : Fin X.K ρ H _ E (if (SeqAt.shaped d && SeqAt.shaped e) = true then _ else if false = true then R.no else eqNil wx wy M) := h
        rw [if_neg h0] at h
        exact eqNil_run hu I qx qy rl rx ry h
      have h : Fin X.K ρ H _ E (if (SeqAt.shaped d && SeqAt.shaped e) = true then _ else _) := h
      rw [if_pos h0] at h
      rw [Bool.and_eq_true] at h0
      exact op_eqD hu pins s σ H x y v u Q I qx qy ⟨d, e, dpM_of rl wx q1 rx, dpM_of rl wy q2 ry, h0.1, h0.2, (by have q := h.here rl; simpa [PB] using q)⟩
theorem o_ne (hu : X.A.units + 64 < cLine) : OpR X (compareOp .NotEq) (rb X.K E (eqW true)) := by
  refine OpR.imp (op_neD hu) fun x y H Q ⟨ρ, M, wx, wy, rl, rx, ry, h⟩ => ?_
  unfold eqW at h
  cases q1 : toDM M wx with
  | none => rw [q1] at h; exact h.elim
  | some d =>
    cases q2 : toDM M wy with
    | none => rw [q1, q2] at h; exact h.elim
    | some e =>
      rw [q1, q2] at h
      have h : Fin X.K ρ H _ E (if (SeqAt.shaped d && SeqAt.shaped e) = true then _ else R.no) := h
      obtain ⟨h0, h⟩ := pick h
      rw [Bool.and_eq_true] at h0
      exact ⟨d, e, dpM_of rl wx q1 rx, dpM_of rl wy q2 ry, h0.1, h0.2, (by have q := h.here rl; simpa [PB] using q)⟩
/-! ### is -/
def isNonW : Wv → Bool
  | .non => true
  | _ => false
def isNW (neg : Bool) : Wv → Wv → Mem → R Bool
  | x, .non, M => .ok (neg ^^ isNonW x) M
  | _, _, _ => .no
theorem non_iff {K : PySem.W.Frag} {ρ : Rn} {H : Hp} {w : Wv} {v : V} (r : RV K ρ H w v) : decide (v = .non) = isNonW w := by
  cases w with
  | non => cases r; rfl
  | bl b => cases r; rfl
  | int b => cases r; rfl
  | str b => cases r; rfl
  | ty b => cases r; rfl
  | adr b => cases r; rfl
  | tup b => obtain ⟨a, vs, rfl, _⟩ := r; rfl
  | lst b => obtain ⟨a, vs, rfl, _⟩ := r; rfl
  | rdl b => obtain ⟨a, vs, rfl, _⟩ := r; rfl
  | dct b c => obtain ⟨a, vs, rfl, _⟩ := r; rfl
  | dtt b c => obtain ⟨a, vs, rfl, _⟩ := r; rfl
  | ins C b c => obtain ⟨_, a, dx, vs, _, rfl, _⟩ := r; rfl
  | exc C b c => obtain ⟨_, a, dx, vs, _, rfl, _⟩ := r; rfl
  | ref b => obtain ⟨a, rfl, _⟩ := r; rfl
theorem o_isN : OpR X (compareOp .Is) (rb X.K E (isNW false)) := by
  refine OpR.imp op_isN fun x y H Q ⟨ρ, M, wx, wy, rl, rx, ry, h⟩ => ?_
  cases wy <;> first | exact h.elim | skip
  exact ⟨ry, by rw [non_iff rx]; have q := h.here rl; simpa [PB] using q⟩
theorem o_notN : OpR X (compareOp .IsNot) (rb X.K E (isNW true)) := by
  refine OpR.imp op_notN fun x y H Q ⟨ρ, M, wx, wy, rl, rx, ry, h⟩ => ?_
  cases wy <;> first | exact h.elim | skip
  exact ⟨ry, by rw [non_iff rx]; have q := h.here rl; simpa [PB] using q⟩
end
end Mi

namespace Mi
open PySem PySem.Spec PyProof.Rows L2

/-! ### arguments, displays -/
def maN : Ma := fun _ M => .ok [] M
def maC (a : Me) (r : Ma) : Ma := fun env M => (a env M).bind fun x M1 => (r env M1).bind fun xs M2 => .ok (x :: xs) M2
def mTup (a : Ma) : Me := fun env M => (a env M).bind fun ws M1 => if ws.length ≤ lim then .ok (.tup ws) M1 else .no
def mLst (a : Ma) : Me := fun env M => (a env M).bind fun ws M1 => if ws.length ≤ lim then .ok (.lst ws) M1 else .no
/-- a list that will be changed -/
def mNew (a : Ma) : Me := fun env M => (a env M).bind fun ws M1 => if ws.length ≤ lim then .ok (.ref M1.length) (M1 ++ [.lst ws]) else .no
section
variable {X : Cx} {E : XK} {e : Expr} {es : List Expr} {me : Me} {ma : Ma} {pos : Pos}
theorem a_nil : PA X [] (ta X.K E maN) := PA.imp pa_nil fun σ H Q ⟨ρ, M, env, rl, re, f⟩ => f.here rl [] rfl
theorem a_cons (h : PE X e (te X.K E me)) (hr : PA X es (ta X.K E ma)) (hs : starEach (e :: es) X.env = (false, eval e X.env) :: starEach es X.env := by rfl) : PA X (e :: es) (ta X.K E (maC me ma)) :=
  PA.imp (pa_cons h hr hs) fun σ H Q ⟨ρ, M, env, rl, re, f⟩ =>
    te_then rl re f fun x M1 ρ1 H1 v g1 rl1 re1 rv1 f1 => ta_then rl1 re1 f1 fun xs M2 ρ2 H2 vs g2 rl2 re2 rv2 f2 => f2.here rl2 (v :: vs) ⟨v, vs, rfl, RV.mono g2 x rv1, rv2⟩
theorem e_tup {k : Nat} (h : PA X es (ta X.K E ma)) : PE X (.Tuple es k pos) (te X.K E (mTup ma)) := PE.imp (pe_tup h) fun σ H Q ⟨ρ, M, env, rl, re, f⟩ =>
  ta_then rl re f fun ws M1 ρ1 H1 vs g1 rl1 re1 rv1 f1 => by
    obtain ⟨h0, f1⟩ := pick f1
    exact ⟨by rw [← rv1.length]; exact lim_le h0, fun p hp => fin_tup f1 rl1 rv1 hp⟩
theorem e_lst (h : PA X es (ta X.K E ma)) : PE X (.List es pos) (te X.K E (mLst ma)) := PE.imp (pe_lst h) fun σ H Q ⟨ρ, M, env, rl, re, f⟩ =>
  ta_then rl re f fun ws M1 ρ1 H1 vs g1 rl1 re1 rv1 f1 => by
    obtain ⟨h0, f1⟩ := pick f1
    exact ⟨by rw [← rv1.length]; exact lim_le h0, fun p hp => fin_lst f1 rl1 rv1 hp⟩
theorem e_new (h : PA X es (ta X.K E ma)) : PE X (.List es pos) (te X.K E (mNew ma)) := PE.imp (pe_lst h) fun σ H Q ⟨ρ, M, env, rl, re, f⟩ =>
  ta_then rl re f fun ws M1 ρ1 H1 vs g1 rl1 re1 rv1 f1 => by
    obtain ⟨h0, f1⟩ := pick f1
    exact ⟨by rw [← rv1.length]; exact lim_le h0, fun p hp => fin_new f1 rl1 rv1 hp⟩
end

/-! ### places -/
section
variable {K : PySem.W.Frag} {ρ : Rn} {H : Hp}
theorem RVs.at {ws : List Wv} {vs : List V} {i : Int} {w : Wv} (r : RVs K ρ H ws vs) (h : atI ws i = some w) : ∃ v, atI vs i = some v ∧ RV K ρ H w v := by
  unfold atI at h ⊢
  rw [← r.length]
  cases e : ixN ws.length i with
  | none => rw [e] at h; cases h
  | some j =>
    rw [e] at h
    exact r.get (i := j) h
theorem Rl.lst {M : Mem} (rl : Rl K ρ M H) {n : Nat} {ws : List Wv} (e : M[n]? = some (.lst ws)) {v : V} (r : RV K ρ H (.ref n) v) : ∃ a vs, v = .ref a ∧ ρ.l[n]? = some a ∧ H a = some (.lst vs) ∧ RVs K ρ H ws vs := by
  obtain ⟨a, rfl, ha⟩ := r
  obtain ⟨b, h1, vs, h2, h3⟩ := rl.ob n _ e
  have eb : b = a := Option.some.inj (h1.symm.trans ha)
  subst eb
  exact ⟨b, vs, rfl, h1, h2, h3⟩
end
/-- the items of a list or tuple -/
inductive Sq where
  | l (xs : List Wv) | t (xs : List Wv)
def Sq.xs : Sq → List Wv
  | .l xs => xs
  | .t xs => xs
def sqOf (M : Mem) : Wv → Option Sq
  | .tup xs => some (.t xs)
  | .lst xs => some (.l xs)
  | .rdl xs => some (.l xs)
  | .ref n => match M[n]? with
    | some (.lst xs) => some (.l xs)
    | _ => none
  | _ => none
theorem sq_l_of {K : PySem.W.Frag} {ρ : Rn} {H : Hp} {M : Mem} (rl : Rl K ρ M H) {w : Wv} {v : V} {xs : List Wv} (e : sqOf M w = some (.l xs)) (r : RV K ρ H w v) : ∃ a vs, v = .ref a ∧ SqL K H a vs ∧ RVs K ρ H xs vs := by
  cases w with
  | lst ys => cases e; obtain ⟨a, vs, rfl, h, r⟩ := r; exact ⟨a, vs, rfl, SqL.of h.1, r⟩
  | rdl ys => cases e; obtain ⟨a, vs, rfl, h, r⟩ := r; exact ⟨a, vs, rfl, sq_l h, r⟩
  | ref n =>
    have e : (match M[n]? with | some (Ob.lst xs) => some (Sq.l xs) | _ => none) = some (.l xs) := e
    cases q : M[n]? with
    | none => rw [q] at e; cases e
    | some o =>
      cases o with
      | lst ys =>
        rw [q] at e
        cases e
        obtain ⟨a, vs, rfl, _, h2, h3⟩ := rl.lst q r
        exact ⟨a, vs, rfl, SqL.of h2, h3⟩
      | _ => rw [q] at e; cases e
  | _ => cases e
theorem sq_t_of {K : PySem.W.Frag} {ρ : Rn} {H : Hp} {M : Mem} {w : Wv} {v : V} {xs : List Wv} (e : sqOf M w = some (.t xs)) (r : RV K ρ H w v) : ∃ a vs, v = .ref a ∧ SqT K H a vs ∧ RVs K ρ H xs vs := by
  cases w with
  | tup ys => cases e; obtain ⟨a, vs, rfl, h, r⟩ := r; exact ⟨a, vs, rfl, sq_t h, r⟩
  | ref n =>
    have e : (match M[n]? with | some (Ob.lst xs) => some (Sq.l xs) | _ => none) = some (.t xs) := e
    cases q : M[n]? with
    | none => rw [q] at e; cases e
    | some o => cases o <;> (rw [q] at e; cases e)
  | _ => cases e
def ixW (x y : Wv) (M : Mem) : R Wv := match y with
  | .int i => match x with
    | .str z => if z.length ≤ lim then (match atI z.cps.toList i with | some c => .ok (.str ⟨#[c]⟩) M | none => .no) else .no
    | x => match sqOf M x with
      | some s => match atI s.xs i with
        | some w => .ok w M
        | none => .no
      | none => .no
  | _ => .no
def setW (o i v : Wv) (M : Mem) : R Unit := match o, i with
  | .ref n, .int k => match M[n]? with
    | some (.lst xs) => match ixN xs.length k with
      | some j => .ok () (M.set n (.lst (xs.set j v)))
      | none => .no
    | _ => .no
  | _, _ => .no
section
variable {X : Cx} {E : XK} {a b : Expr} {ma mb : Me} {pos : Pos}
theorem IxR.imp {r r' : R2} (h : IxR X r) (k : ∀ x y H Q, r' x y H Q → r x y H Q) : IxR X r' := fun value slice pins s σ H x y v u Q I rx ry q hs => h value slice pins s σ H x y v u Q I rx ry (k x y H Q q) hs
theorem x_ix : IxR X (r2 X.K E ixW) := by
  refine IxR.imp ix_seq fun x y H Q ⟨ρ, M, wx, wy, rl, rx, ry, h⟩ => ?_
  cases wy with
  | int i =>
    cases ry
    by_cases hs : ∃ z, wx = .str z
    · obtain ⟨z, rfl⟩ := hs
      cases rx
      have h : Fin X.K ρ H (PV X.K Q) E (if z.length ≤ lim then (match atI z.cps.toList i with | some c => R.ok (Wv.str ⟨#[c]⟩) M | none => .no) else .no) := h
      obtain ⟨h0, h⟩ := pick h
      cases q : atI z.cps.toList i with
      | none => rw [q] at h; exact h.elim
      | some c =>
        rw [q] at h
        exact .inr (.inr ⟨z, i, c, rfl, rfl, lim_le h0, q, fin_val h rl rfl⟩)
    · have h' : Fin X.K ρ H (PV X.K Q) E (match sqOf M wx with | some s => (match atI s.xs i with | some w => R.ok w M | none => .no) | none => .no) := by
        cases wx with
        | str z => exact absurd ⟨z, rfl⟩ hs
        | _ => exact h
      cases q : sqOf M wx with
      | none => rw [q] at h'; exact h'.elim
      | some s =>
        rw [q] at h'
        have h' : Fin X.K ρ H (PV X.K Q) E (match atI s.xs i with | some w => R.ok w M | none => .no) := h'
        cases q2 : atI s.xs i with
        | none => rw [q2] at h'; exact h'.elim
        | some w =>
          rw [q2] at h'
          have h2 : Fin X.K ρ H (PV X.K Q) E (R.ok w M) := h'
          clear h' h
          cases s with
          | l xs =>
            obtain ⟨a, vs, rfl, h1, hr⟩ := sq_l_of rl q rx
            obtain ⟨v, h3, h4⟩ := hr.at q2
            exact .inl ⟨a, vs, i, v, rfl, rfl, h1, h3, fin_val h2 rl h4⟩
          | t xs =>
            obtain ⟨a, vs, rfl, h1, hr⟩ := sq_t_of q rx
            obtain ⟨v, h3, h4⟩ := hr.at q2
            exact .inr (.inl ⟨a, vs, i, v, rfl, rfl, h1, h3, fin_val h2 rl h4⟩)
  | _ => exact h.elim
theorem e_ix (ha : PE X a (te X.K E ma)) (hb : PE X b (te X.K E mb)) (hs : PlainIx b := by exact fun _ _ => rfl) : PE X (.Subscript a b pos) (te X.K E (mBin ixW ma mb)) := PE.imp (pe_ix x_ix ha hb hs) fun _ _ _ h => te_two h

/-! ### slices of lists -/
def cutW (xs : List Wv) (lo hi : Option Int) : List Wv := (xs.drop (HT.sIx xs.length 0 lo)).take (HT.sIx xs.length xs.length hi - HT.sIx xs.length 0 lo)
theorem RVs.cut {K : PySem.W.Frag} {ρ : Rn} {H : Hp} {ws : List Wv} {vs : List V} (r : RVs K ρ H ws vs) (lo hi : Option Int) : RVs K ρ H (cutW ws lo hi) (cutV vs lo hi) := by
  unfold cutW cutV
  rw [← r.length]
  exact RVs.take _ (RVs.drop _ r)
def optI : Wv → Option (Option Int)
  | .int i => some (some i)
  | _ => none
/-- xs[lo:hi] of a list; a bound that is left out: mNoB -/
abbrev Mo := Ev → Mem → R (Option Int)
def moN : Mo := fun _ M => .ok none M
def moS (a : Me) : Mo := fun env M => (a env M).bind fun w M1 => match w with
  | .int i => .ok (some i) M1
  | _ => .no
def mSl (a : Me) (lo hi : Mo) : Me := fun env M => (a env M).bind fun x M1 => (lo env M1).bind fun l M2 => (hi env M2).bind fun u M3 => match sqOf M3 x with
  | some (.l xs) => .ok (.lst (cutW xs l u)) M3
  | _ => .no
def PO' (o : Option Int) : Option Int → Mem → Rn → Hp → Prop := fun _ _ _ _ => True
def to (K : PySem.W.Frag) (E : XK) (m : Mo) : TO := fun σ H Q => ∃ ρ M env, Rl K ρ M H ∧ RE K ρ H env σ ∧ Fin K ρ H (fun o _ _ H' => Q o H') E (m env M)
theorem PO.imp {e : Option Expr} {t t' : TO} (h : PO X e t) (k : ∀ σ H Q, t' σ H Q → t σ H Q) : PO X e t' := ⟨fun pins s σ H Q I q => h.run pins s σ H Q I (k σ H Q q)⟩
theorem o_none : PO X none (to X.K E moN) := PO.imp po_none fun σ H Q ⟨ρ, M, env, rl, re, f⟩ => f.here rl
theorem o_some (h : PE X a (te X.K E ma)) : PO X (some a) (to X.K E (moS ma)) := PO.imp (po_some h) fun σ H Q ⟨ρ, M, env, rl, re, f⟩ =>
  te_then rl re f fun w M1 ρ1 H1 v g1 rl1 re1 rv1 f1 => by
    cases w with
    | int i => exact ⟨i, rv1, f1.here rl1⟩
    | _ => exact f1.elim
variable {lo hi : Option Expr} {ml mh : Mo} {p2 : Pos}
theorem e_sl (ha : PE X a (te X.K E ma)) (hl : PO X lo (to X.K E ml)) (hh : PO X hi (to X.K E mh)) : PE X (.Subscript a (.Slice lo hi none p2) pos) (te X.K E (mSl ma ml mh)) :=
  PE.imp (pe_slice sl_list ha hl hh) fun σ H Q ⟨ρ, M, env, rl, re, f⟩ => by
    refine te_then rl re f fun x M1 ρ1 H1 v g1 rl1 re1 rv1 f1 => ?_
    refine ⟨ρ1, M1, env, rl1, re1, f1.bind.imp fun l M2 ρ2 H2 g2 rl2 f2 => ?_⟩
    refine ⟨ρ2, M2, env, rl2, re1.mono g2, f2.bind.imp fun u M3 ρ3 H3 g3 rl3 f3 => ?_⟩
    have rv3 := RV.mono g3 x (RV.mono g2 x rv1)
    cases q : sqOf M3 x with
    | none => rw [q] at f3; exact f3.elim
    | some s =>
      cases s with
      | t xs => rw [q] at f3; exact f3.elim
      | l xs =>
        rw [q] at f3
        obtain ⟨a, vs, rfl, h1, h2⟩ := sq_l_of rl3 q rv3
        exact ⟨a, vs, rfl, h1, fun p hp => fin_lst f3 rl3 (h2.cut l u) hp⟩
end

/-! ### truth -/
def truW (M : Mem) : Wv → Option Bool
  | .non => some false
  | .bl b => some b
  | .int i => some (i != 0)
  | .str s => if s.length ≤ lim then some ((s.length : Int) != 0) else none
  | .dct ks _ => some (!ks.isEmpty)
  | w => (sqOf M w).map fun s => !s.xs.isEmpty
theorem isE {K : PySem.W.Frag} {ρ : Rn} {H : Hp} {ws : List Wv} {vs : List V} (r : RVs K ρ H ws vs) : ws.isEmpty = vs.isEmpty := by
  have := r.length
  cases ws <;> cases vs <;> simp at this ⊢
theorem tru_of {K : PySem.W.Frag} {ρ : Rn} {H : Hp} {M : Mem} (rl : Rl K ρ M H) {w : Wv} {v : V} {b : Bool} (e : truW M w = some b) (r : RV K ρ H w v) : TruV K v H b := by
  have seq : ∀ {s : Sq}, sqOf M w = some s → b = !s.xs.isEmpty → TruV K v H b := fun {s} q eb => by
    cases s with
    | l xs =>
      obtain ⟨a, vs, rfl, h1, h2⟩ := sq_l_of rl q r
      exact .inl ⟨vs, h1, by rw [eb, ← isE h2]; rfl⟩
    | t xs =>
      obtain ⟨a, vs, rfl, h1, h2⟩ := sq_t_of q r
      exact .inr (.inl ⟨vs, h1, by rw [eb, ← isE h2]; rfl⟩)
  cases w with
  | non => cases r; cases e; exact rfl
  | bl c => cases r; cases e; exact rfl
  | int i => cases r; cases e; exact rfl
  | str s =>
    cases r
    have e : (if s.length ≤ lim then some ((s.length : Int) != 0) else none) = some b := e
    by_cases h : s.length ≤ lim
    · rw [if_pos h] at e; cases e; exact ⟨lim_le h, rfl⟩
    · rw [if_neg h] at e; cases e
  | dct ks xs =>
    cases e
    obtain ⟨a, kvs, rfl, h, ek, r⟩ := r
    refine .inr (.inr ⟨kvs, h.1, ?_⟩)
    subst ek
    cases kvs <;> rfl
  | tup xs => obtain ⟨s, q, eb⟩ := Option.map_eq_some_iff.mp (show (sqOf M (.tup xs)).map (fun s => !s.xs.isEmpty) = some b from e); exact seq q eb.symm
  | lst xs => obtain ⟨s, q, eb⟩ := Option.map_eq_some_iff.mp (show (sqOf M (.lst xs)).map (fun s => !s.xs.isEmpty) = some b from e); exact seq q eb.symm
  | rdl xs => obtain ⟨s, q, eb⟩ := Option.map_eq_some_iff.mp (show (sqOf M (.rdl xs)).map (fun s => !s.xs.isEmpty) = some b from e); exact seq q eb.symm
  | ref xs => obtain ⟨s, q, eb⟩ := Option.map_eq_some_iff.mp (show (sqOf M (.ref xs)).map (fun s => !s.xs.isEmpty) = some b from e); exact seq q eb.symm
  | ty n => cases e
  | adr n => cases e
  | dtt ks xs => cases e
  | ins C ns xs => cases e
  | exc C ns xs => cases e
def asT (w : Wv) (M : Mem) : R Bool := match truW M w with
  | some b => .ok b M
  | none => .no
def mtE (a : Me) : Mt := fun env M => (a env M).bind asT
def mtNot (t : Mt) : Mt := fun env M => (t env M).bind fun b M1 => .ok (!b) M1
def mtAnd (t u : Mt) : Mt := fun env M => (t env M).bind fun b M1 => if b = true then u env M1 else .ok false M1
def mtOr (t u : Mt) : Mt := fun env M => (t env M).bind fun b M1 => if b = true then .ok true M1 else u env M1
def mAnd (a b : Me) : Me := fun env M => (a env M).bind fun w M1 => (asT w M1).bind fun c M2 => if c = true then b env M2 else .ok w M2
def mOr (a b : Me) : Me := fun env M => (a env M).bind fun w M1 => (asT w M1).bind fun c M2 => if c = true then .ok w M2 else b env M2
def mNot (a : Me) : Me := fun env M => (a env M).bind fun w M1 => (asT w M1).bind fun c M2 => .ok (.bl (!c)) M2
def mIf (t : Mt) (a b : Me) : Me := fun env M => (t env M).bind fun c M1 => if c = true then a env M1 else b env M1
section
variable {X : Cx} {E : XK} {a b c : Expr} {rest : List Expr} {ma mb : Me} {mt mu : Mt} {pos : Pos}
theorem fin_asT {K : PySem.W.Frag} {ρ : Rn} {H : Hp} {M : Mem} {w : Wv} {v : V} {P : Bool → Mem → Rn → Hp → Prop} (rl : Rl K ρ M H) (r : RV K ρ H w v) (f : Fin K ρ H P E (asT w M)) : ∃ k, TruV K v H k ∧ P k M ρ H := by
  unfold asT at f
  cases q : truW M w with
  | none => rw [q] at f; exact f.elim
  | some k => rw [q] at f; exact ⟨k, tru_of rl q r, f.here rl⟩
theorem t_val (ha : PE X a (te X.K E ma)) (he : ∀ whole, isTrue a X.env whole = (do let v ← whole; standAt a.pos; holding [v] (truthy v)) := by intro _; rfl) : PT X a (tt X.K E (mtE ma)) :=
  PT.imp (pt_truth ha he) fun σ H Q ⟨ρ, M, env, rl, re, f⟩ => te_then rl re f fun w M1 ρ1 H1 v g1 rl1 re1 rv1 f1 => fin_asT rl1 rv1 f1
/-! ### comparisons -/
def mCmp (f : Wv → Wv → Mem → R Bool) (a b : Me) : Me := fun env M => (a env M).bind fun x M1 => (b env M1).bind fun y M2 => (f x y M2).bind fun c M3 => .ok (.bl c) M3
def mtCmp (f : Wv → Wv → Mem → R Bool) (a b : Me) : Mt := fun env M => (a env M).bind fun x M1 => (b env M1).bind fun y M2 => f x y M2
theorem e_cmp {op : CmpOp} {f : Wv → Wv → Mem → R Bool} (ho : OpR X (compareOp op) (rb X.K E f)) (ha : PE X a (te X.K E ma)) (hb : PE X b (te X.K E mb)) (h1 : behindInMarks op b = false := by first | exact nomark _ | rfl) : PE X (.Compare a [op] [b] pos) (te X.K E (mCmp f ma mb)) :=
  PE.imp (pe_cmpR ho ha hb h1) fun _ _ _ ⟨ρ, M, env, rl, re, h⟩ =>
    te_then rl re h fun x M1 ρ1 H1 v g1 rl1 re1 rv1 h1 => te_then rl1 re1 h1 fun y M2 ρ2 H2 u g2 rl2 re2 rv2 h2 =>
      ⟨ρ2, M2, x, y, rl2, RV.mono g2 x rv1, rv2, h2.bind.imp fun c M3 ρ3 H3 g3 rl3 f3 => fin_val f3 rl3 rfl⟩
theorem t_cmp {op : CmpOp} {f : Wv → Wv → Mem → R Bool} (ho : OpR X (compareOp op) (rb X.K E f)) (ha : PE X a (te X.K E ma)) (hb : PE X b (te X.K E mb)) (h1 : behindInMarks op b = false := by first | exact nomark _ | rfl) : PT X (.Compare a [op] [b] pos) (tt X.K E (mtCmp f ma mb)) :=
  PT.imp (pt_cmpR ho ha hb h1) fun _ _ _ ⟨ρ, M, env, rl, re, h⟩ =>
    te_then rl re h fun x M1 ρ1 H1 v g1 rl1 re1 rv1 h1 => te_then rl1 re1 h1 fun y M2 ρ2 H2 u g2 rl2 re2 rv2 h2 =>
      ⟨ρ2, M2, x, y, rl2, RV.mono g2 x rv1, rv2, h2.imp fun c M3 ρ3 H3 g3 rl3 f3 => ⟨c, rfl, f3⟩⟩
theorem t_not (h : PT X a (tt X.K E mt)) : PT X (.UnaryOp .Not a pos) (tt X.K E (mtNot mt)) :=
  PT.imp (pt_not h) fun _ _ _ ⟨ρ, M, env, rl, re, f⟩ => tt_then rl re f fun b M1 ρ1 H1 g1 rl1 re1 f1 => f1.here rl1
/-- and, or in a test -/
theorem w_one {op} (h : PT X a (tt X.K E mt)) : op = .And ∨ op = .Or → PW X (.BoolOp op [a] pos) (tt X.K E mt)
  | .inl e => by subst e; exact pw_and1 h
  | .inr e => by subst e; exact pw_or1 h
theorem w_and (h : PT X a (tt X.K E mt)) (h2 : PW X (.BoolOp .And (b :: rest) pos) (tt X.K E mu)) : PW X (.BoolOp .And (a :: b :: rest) pos) (tt X.K E (mtAnd mt mu)) :=
  PW.imp (pw_and h h2) fun _ _ _ ⟨ρ, M, env, rl, re, f⟩ => tt_then rl re f fun b M1 ρ1 H1 g1 rl1 re1 f1 => by
    cases b with
    | true => exact ⟨ρ1, M1, env, rl1, re1, f1⟩
    | false => exact f1.here rl1
theorem w_or (h : PT X a (tt X.K E mt)) (h2 : PW X (.BoolOp .Or (b :: rest) pos) (tt X.K E mu)) : PW X (.BoolOp .Or (a :: b :: rest) pos) (tt X.K E (mtOr mt mu)) :=
  PW.imp (pw_or h h2) fun _ _ _ ⟨ρ, M, env, rl, re, f⟩ => tt_then rl re f fun b M1 ρ1 H1 g1 rl1 re1 f1 => by
    cases b with
    | true => exact f1.here rl1
    | false => exact ⟨ρ1, M1, env, rl1, re1, f1⟩
theorem t_w (h : PW X a (tt X.K E mt)) : PT X a (tt X.K E mt) := h.pt
/-- and, or, not as values -/
theorem e_one {op} (h : PE X a (te X.K E ma)) : PE X (.BoolOp op [a] pos) (te X.K E ma) := pe_one h
theorem e_and (h : PE X a (te X.K E ma)) (h2 : PE X (.BoolOp .And (b :: rest) pos) (te X.K E mb)) : PE X (.BoolOp .And (a :: b :: rest) pos) (te X.K E (mAnd ma mb)) :=
  PE.imp (pe_andT h h2) fun _ _ _ ⟨ρ, M, env, rl, re, f⟩ => te_then rl re f fun w M1 ρ1 H1 v g1 rl1 re1 rv1 f1 => by
    obtain ⟨k, h1, h2⟩ := fin_asT rl1 rv1 f1.bind
    refine ⟨k, h1, ?_⟩
    cases k with
    | true => exact ⟨ρ1, M1, env, rl1, re1, h2⟩
    | false => exact fin_val h2 rl1 rv1
theorem e_or (h : PE X a (te X.K E ma)) (h2 : PE X (.BoolOp .Or (b :: rest) pos) (te X.K E mb)) : PE X (.BoolOp .Or (a :: b :: rest) pos) (te X.K E (mOr ma mb)) :=
  PE.imp (pe_orT h h2) fun _ _ _ ⟨ρ, M, env, rl, re, f⟩ => te_then rl re f fun w M1 ρ1 H1 v g1 rl1 re1 rv1 f1 => by
    obtain ⟨k, h1, h2⟩ := fin_asT rl1 rv1 f1.bind
    refine ⟨k, h1, ?_⟩
    cases k with
    | false => exact ⟨ρ1, M1, env, rl1, re1, h2⟩
    | true => exact fin_val h2 rl1 rv1
theorem e_not (h : PE X a (te X.K E ma)) : PE X (.UnaryOp .Not a pos) (te X.K E (mNot ma)) :=
  PE.imp (pe_notT h) fun _ _ _ ⟨ρ, M, env, rl, re, f⟩ => te_then rl re f fun w M1 ρ1 H1 v g1 rl1 re1 rv1 f1 => by
    obtain ⟨k, h1, h2⟩ := fin_asT rl1 rv1 f1.bind
    exact ⟨k, h1, fin_val h2 rl1 rfl⟩
theorem e_if (hc : PT X c (tt X.K E mt)) (ha : PE X a (te X.K E ma)) (hb : PE X b (te X.K E mb)) : PE X (.IfExp c a b pos) (te X.K E (mIf mt ma mb)) :=
  PE.imp (pe_ifExp hc ha hb) fun _ _ _ ⟨ρ, M, env, rl, re, f⟩ => tt_then rl re f fun b M1 ρ1 H1 g1 rl1 re1 f1 => by
    cases b with
    | true => exact ⟨ρ1, M1, env, rl1, re1, f1⟩
    | false => exact ⟨ρ1, M1, env, rl1, re1, f1⟩
end
end Mi

namespace Mi
open PySem PySem.Spec PyProof.Rows L2

/-! ### built-ins by their names -/
def mCall (f : List Wv → Mem → R Wv) (a : Ma) : Me := fun env M => (a env M).bind f
section
variable {X : Cx} {E : XK} {e : Expr} {es : List Expr} {ma : Ma} {me : Me} {x : Str} {p pos : Pos} {nm T : String}
theorem e_bi {f : List Wv → Mem → R Wv} (hc : CallR X (.builtin nm) (rc X.K E f)) (hm : X.mg x = none) (hv : bootBuiltins x = some (.builtin nm)) (ha : PA X (e :: es) (ta X.K E ma)) (hg : Gl X x := by rfl) (hn : x ≠ "__name__" := by decide) (hdb : (x == ("__debug__" : Str)) = false := by decide)
    (he : starEach (e :: es) X.env = (false, eval e X.env) :: starEach es X.env := by rfl) (hpl : (backTo pos (starEach es X.env)).any (·.1) = false := by rfl) : PE X (.Call (.Name x p) (e :: es) [] pos) (te X.K E (mCall f ma)) :=
  PE.imp (pe_callB hc hg hm hv ha hn hdb he hpl) fun _ _ _ ⟨ρ, M, env, rl, re, h⟩ => ta_then rl re h fun ws M1 ρ1 H1 vs g1 rl1 re1 rv1 h1 => ⟨ρ1, M1, ws, rl1, rv1, h1⟩
theorem e_ty {f : List Wv → Mem → R Wv} (hc : CallR X (.type T) (rc X.K E f)) (hm : X.mg x = none) (hv : bootBuiltins x = some (.type T)) (ha : PA X (e :: es) (ta X.K E ma)) (hg : Gl X x := by rfl) (hn : x ≠ "__name__" := by decide) (hdb : (x == ("__debug__" : Str)) = false := by decide)
    (he : starEach (e :: es) X.env = (false, eval e X.env) :: starEach es X.env := by rfl) (hpl : (backTo pos (starEach es X.env)).any (·.1) = false := by rfl) : PE X (.Call (.Name x p) (e :: es) [] pos) (te X.K E (mCall f ma)) :=
  PE.imp (pe_callTy hc hg hm hv ha hn hdb he hpl) fun _ _ _ ⟨ρ, M, env, rl, re, h⟩ => ta_then rl re h fun ws M1 ρ1 H1 vs g1 rl1 re1 rv1 h1 => ⟨ρ1, M1, ws, rl1, rv1, h1⟩
/-- a constant of the module -/
theorem e_glob {v : V} {u : Value} (w : Wv) (hm : X.mg x = some u) (r : RelV v u) (rv : ∀ ρ H, RV X.K ρ H w v) (hg : Gl X x := by rfl) (hd : (x == ("__debug__" : Str)) = false := by decide) : PE X (.Name x pos) (te X.K E (mC w)) :=
  e_const w (pe_glob hg hm r hd) rv
theorem e_gint {i : Int} (hm : ∃ t, X.mg x = some (.int i t)) (hg : Gl X x := by rfl) (hd : (x == ("__debug__" : Str)) = false := by decide) : PE X (.Name x pos) (te X.K E (mC (.int i))) := let ⟨t, hm⟩ := hm; e_glob (v := .int i) _ hm ⟨t, rfl⟩ (fun _ _ => rfl) hg hd
theorem e_gstr {s : Str} (hm : ∃ t, X.mg x = some (.str s t)) (hg : Gl X x := by rfl) (hd : (x == ("__debug__" : Str)) = false := by decide) : PE X (.Name x pos) (te X.K E (mC (.str s))) := let ⟨t, hm⟩ := hm; e_glob (v := .str s) _ hm ⟨t, rfl⟩ (fun _ _ => rfl) hg hd

/-! len, abs, int, tuple, list, all -/
def un1 (f : Wv → Mem → R Wv) : List Wv → Mem → R Wv
  | [x], M => f x M
  | _, _ => .no
theorem rvs1 {K : PySem.W.Frag} {ρ : Rn} {H : Hp} {w : Wv} {vs : List V} (r : RVs K ρ H [w] vs) : ∃ v, vs = [v] ∧ RV K ρ H w v := by
  obtain ⟨v, vr, rfl, h, r⟩ := r
  cases r
  exact ⟨v, rfl, h⟩
theorem un1_in {K : PySem.W.Frag} {f : Wv → Mem → R Wv} {xs : List V} {H : Hp} {Q : VK} (h : rc K E (un1 f) xs H Q) : ∃ v ρ M w, xs = [v] ∧ Rl K ρ M H ∧ RV K ρ H w v ∧ Fin K ρ H (PV K Q) E (f w M) := by
  obtain ⟨ρ, M, ws, rl, rv, h⟩ := h
  match ws, rv, h with
  | [], _, h => exact h.elim
  | _ :: _ :: _, _, h => exact h.elim
  | [w], rv, h =>
    obtain ⟨v, rfl, r⟩ := rvs1 rv
    exact ⟨v, ρ, M, w, rfl, rl, r, h⟩
/-- a list or tuple: what is made of its items -/
def onSq (g : Sq → Mem → R Wv) (x : Wv) (M : Mem) : R Wv := match sqOf M x with
  | some s => g s M
  | none => .no
theorem onSq_in {K : PySem.W.Frag} {ρ : Rn} {M : Mem} {H : Hp} {Q : VK} {g : Sq → Mem → R Wv} {w : Wv} {v : V} (rl : Rl K ρ M H) (r : RV K ρ H w v) (h : Fin K ρ H (PV K Q) E (onSq g w M)) :
    ∃ s a vs, sqOf M w = some s ∧ v = .ref a ∧ RVs K ρ H s.xs vs ∧ Fin K ρ H (PV K Q) E (g s M) ∧ ((∃ xs, s = .l xs ∧ SqL K H a vs) ∨ (∃ xs, s = .t xs ∧ SqT K H a vs)) := by
  have h : Fin K ρ H (PV K Q) E (match sqOf M w with | some s => g s M | none => .no) := h
  cases q : sqOf M w with
  | none => rw [q] at h; exact h.elim
  | some s =>
    rw [q] at h
    have h2 : Fin K ρ H (PV K Q) E (g s M) := h
    cases s with
    | l xs =>
      obtain ⟨a, vs, rfl, h3, h4⟩ := sq_l_of rl q r
      exact ⟨_, a, vs, rfl, rfl, h4, h2, .inl ⟨xs, rfl, h3⟩⟩
    | t xs =>
      obtain ⟨a, vs, rfl, h3, h4⟩ := sq_t_of q r
      exact ⟨_, a, vs, rfl, rfl, h4, h2, .inr ⟨xs, rfl, h3⟩⟩
def len1 : Wv → Mem → R Wv
  | .str s, M => if s.length ≤ lim then .ok (.int s.length) M else .no
  | x, M => onSq (fun s M => .ok (.int s.xs.length) M) x M
abbrev lenW := un1 len1
theorem c_len : CallR X (.builtin "len") (rc X.K E lenW) := by
  refine CallR.imp (CallR.or call_len_seq call_len_str) fun xs H Q hh => ?_
  obtain ⟨v, ρ, M, w, rfl, rl, r, h⟩ := un1_in hh
  clear hh
  by_cases hs : ∃ z, w = .str z
  · obtain ⟨z, rfl⟩ := hs
    cases r
    obtain ⟨h0, h⟩ := pick h
    exact .inr ⟨z, rfl, lim_le h0, fin_val h rl rfl⟩
  · have h' : Fin X.K ρ H (PV X.K Q) E (onSq (fun s M => .ok (.int s.xs.length) M) w M) := by
      cases w with
      | str z => exact absurd ⟨z, rfl⟩ hs
      | _ => exact h
    obtain ⟨s, a, vs, q, rfl, h4, h2, h3⟩ := onSq_in rl r h'
    refine .inl ⟨a, vs, rfl, h3.imp (fun ⟨_, _, z⟩ => z) (fun ⟨_, _, z⟩ => z), fin_val h2 rl (by rw [← h4.length]; rfl)⟩
def abs1 : Wv → Mem → R Wv
  | .int i, M => .ok (.int (if i < 0 then -i else i)) M
  | _, _ => .no
abbrev absW := un1 abs1
theorem c_abs : CallR X (.builtin "abs") (rc X.K E absW) := by
  refine CallR.imp call_abs fun xs H Q hh => ?_
  obtain ⟨v, ρ, M, w, rfl, rl, r, h⟩ := un1_in hh
  clear hh
  cases w <;> first | exact h.elim | skip
  cases r
  exact ⟨_, rfl, fin_val h rl rfl⟩
def int1 : Wv → Mem → R Wv
  | .int i, M => .ok (.int i) M
  | .bl b, M => .ok (.int (if b then 1 else 0)) M
  | _, _ => .no
abbrev intW := un1 int1
theorem c_int : CallR X (.type "int") (rc X.K E intW) := by
  refine CallR.imp call_int1 fun xs H Q hh => ?_
  obtain ⟨v, ρ, M, w, rfl, rl, r, h⟩ := un1_in hh
  clear hh
  cases w <;> first | exact h.elim | skip
  · cases r; exact .inr ⟨_, rfl, fin_val h rl rfl⟩
  · cases r; exact .inl ⟨_, rfl, fin_val h rl rfl⟩
abbrev tupW := un1 (onSq fun s M => .ok (.tup s.xs) M)
theorem sq_tup {M : Mem} {w : Wv} {xs : List Wv} (q : sqOf M w = some (.t xs)) : w = .tup xs := by
  cases w with
  | tup ys => cases q; rfl
  | ref n =>
    have q' : (match M[n]? with | some (Ob.lst xs) => some (Sq.l xs) | _ => none) = some (.t xs) := q
    cases q3 : M[n]? with
    | none => rw [q3] at q'; cases q'
    | some o => cases o <;> (rw [q3] at q'; cases q')
  | _ => cases q
theorem c_tup : CallR X (.type "tuple") (rc X.K E tupW) := by
  refine CallR.imp call_tuple_of fun xs H Q hh => ?_
  obtain ⟨v, ρ, M, w, rfl, rl, r, h⟩ := un1_in hh
  clear hh
  obtain ⟨s, a, vs, q, rfl, h4, h2, h3⟩ := onSq_in rl r h
  rcases h3 with ⟨xs, rfl, h3⟩ | ⟨xs, rfl, h3⟩
  · exact ⟨a, vs, rfl, .inl ⟨h3, fun l hl => fin_tup h2 rl h4 hl⟩⟩
  · obtain rfl := sq_tup q
    exact ⟨a, vs, rfl, .inr ⟨h3, fin_val h2 rl r⟩⟩
abbrev lstW := un1 (onSq fun s M => .ok (.lst s.xs) M)
theorem c_lst : CallR X (.type "list") (rc X.K E lstW) := by
  refine CallR.imp call_list_of fun xs H Q hh => ?_
  obtain ⟨v, ρ, M, w, rfl, rl, r, h⟩ := un1_in hh
  clear hh
  obtain ⟨s, a, vs, q, rfl, h4, h2, h3⟩ := onSq_in rl r h
  exact ⟨a, vs, rfl, h3.imp (fun ⟨_, _, z⟩ => z) (fun ⟨_, _, z⟩ => z), fun l hl => fin_lst h2 rl h4 hl⟩
def bools : List Wv → Option (List Bool)
  | [] => some []
  | .bl b :: xs => (bools xs).map (b :: ·)
  | _ => none
theorem bools_of {K : PySem.W.Frag} {ρ : Rn} {H : Hp} : ∀ {ws : List Wv} {bs : List Bool} {vs : List V}, bools ws = some bs → RVs K ρ H ws vs → vs = bs.map V.bl
  | [], _, _, e, r => by cases e; cases r; rfl
  | w :: ws, _, _, e, r => by
    cases w with
    | bl b =>
      obtain ⟨cs, e1, rfl⟩ := Option.map_eq_some_iff.mp (show (bools ws).map (b :: ·) = some _ from e)
      obtain ⟨v, vr, rfl, h, r⟩ := r
      cases h
      rw [bools_of e1 r, List.map_cons]
    | _ => cases e
def all1 (any : Bool) (s : Sq) (M : Mem) : R Wv := match s with
  | .l xs => match bools xs with
    | some bs => .ok (.bl (if any then bs.any id else bs.all id)) M
    | none => .no
  | _ => .no
abbrev allW (any : Bool) := un1 (onSq (all1 any))
theorem all_in {K : PySem.W.Frag} {H : Hp} {Q : VK} {any : Bool} {xs : List V} (h : rc K E (allW any) xs H Q) :
    ∃ (a : Addr) (bs : List Bool), xs = [V.ref a] ∧ SqL K H a (bs.map V.bl) ∧ Q (.bl (if any then bs.any id else bs.all id)) H := by
  obtain ⟨v, ρ, M, w, rfl, rl, r, h⟩ := un1_in h
  obtain ⟨s, a, vs, q, rfl, h4, h2, h3⟩ := onSq_in rl r h
  rcases h3 with ⟨xs, rfl, h3⟩ | ⟨xs, rfl, h3⟩
  · have h : Fin K ρ H (PV K Q) E (match bools xs with | some bs => R.ok (Wv.bl (if any then bs.any id else bs.all id)) M | none => .no) := h2
    cases q2 : bools xs with
    | none => rw [q2] at h; exact h.elim
    | some bs =>
      rw [q2] at h
      have e := bools_of q2 h4
      subst e
      exact ⟨a, bs, rfl, h3, fin_val h rl rfl⟩
  · exact h2.elim
theorem c_all (hc : X.calm = true) : CallR X (.builtin "all") (rc X.K E (allW false)) := CallR.imp (cr_all hc) fun xs H Q h => all_in h
theorem c_any (hc : X.calm = true) : CallR X (.builtin "any") (rc X.K E (allW true)) := CallR.imp (cr_any hc) fun xs H Q h => all_in h

/-! is True, is not False: a value of any kind beside a bool -/
def blIs (b : Bool) : Wv → Bool
  | .bl a => a == b
  | _ => false
def blIsV (b : Bool) : V → Bool
  | .bl a => a == b
  | _ => false
def isBlW (neg : Bool) : Wv → Wv → Mem → R Bool
  | x, .bl b, M => .ok (neg ^^ blIs b x) M
  | _, _, _ => .no
theorem plain_bl {v : V} {u : Value} {b : Bool} (r : RelV v u) : plainIs u (.bool b) = true ∧ (u == Value.bool b) = blIsV b v := by
  cases v with
  | non => cases r; exact ⟨rfl, rfl⟩
  | bl a => cases r; cases a <;> cases b <;> exact ⟨rfl, rfl⟩
  | int _ => obtain ⟨t, rfl⟩ := r; exact ⟨rfl, rfl⟩
  | str _ => obtain ⟨t, rfl⟩ := r; exact ⟨rfl, rfl⟩
  | byt _ => obtain ⟨t, rfl⟩ := r; exact ⟨rfl, rfl⟩
  | flt _ => obtain ⟨t, rfl⟩ := r; exact ⟨rfl, rfl⟩
  | ref _ => cases r; exact ⟨rfl, rfl⟩
  | ty _ => cases r; exact ⟨rfl, rfl⟩
theorem isbl_v {K : PySem.W.Frag} {ρ : Rn} {H : Hp} {w : Wv} {v : V} {b : Bool} (r : RV K ρ H w v) : blIsV b v = blIs b w := by
  cases w with
  | non => cases r; rfl
  | bl b => cases r; rfl
  | int b => cases r; rfl
  | str b => cases r; rfl
  | ty b => cases r; rfl
  | adr b => cases r; rfl
  | tup b => obtain ⟨a, vs, rfl, _⟩ := r; rfl
  | lst b => obtain ⟨a, vs, rfl, _⟩ := r; rfl
  | rdl b => obtain ⟨a, vs, rfl, _⟩ := r; rfl
  | dct b c => obtain ⟨a, vs, rfl, _⟩ := r; rfl
  | dtt b c => obtain ⟨a, vs, rfl, _⟩ := r; rfl
  | ins C b c => obtain ⟨_, a, dx, vs, _, rfl, _⟩ := r; rfl
  | exc C b c => obtain ⟨_, a, dx, vs, _, rfl, _⟩ := r; rfl
  | ref b => obtain ⟨a, rfl, _⟩ := r; rfl
theorem o_isBl : OpR X (compareOp .Is) (rb X.K E (isBlW false)) := by
  intro pins s σ H x y v u Q I rx ry ⟨ρ, M, wx, wy, rl, rvx, rvy, h⟩
  cases wy <;> first | exact h.elim | skip
  rename_i b
  cases rvy
  obtain rfl : u = Value.bool b := ry
  obtain ⟨hp, e⟩ := plain_bl (b := b) rx
  refine wpAny_is_plain hp ⟨.bl (blIs b wx), H, I, ?_, ?_⟩
  · rw [e, isbl_v rvx]; exact rfl
  · have q := h.here rl
    simpa [PB] using q
theorem o_notBl : OpR X (compareOp .IsNot) (rb X.K E (isBlW true)) := by
  intro pins s σ H x y v u Q I rx ry ⟨ρ, M, wx, wy, rl, rvx, rvy, h⟩
  cases wy <;> first | exact h.elim | skip
  rename_i b
  cases rvy
  obtain rfl : u = Value.bool b := ry
  obtain ⟨hp, e⟩ := plain_bl (b := b) rx
  refine wpAny_isNot_plain hp ⟨.bl (!blIs b wx), H, I, ?_, ?_⟩
  · rw [e, isbl_v rvx]; exact rfl
  · have q := h.here rl
    simpa [PB] using q
end

/-! ### isinstance -/
inductive Ty where
  | non | bl | int | str | tup | lst | dct
def Ty.name : Ty → String
  | .non => "NoneType" | .bl => "bool" | .int => "int" | .str => "str" | .tup => "tuple" | .lst => "list" | .dct => "dict"
def Ty.sub : Ty → Ty → Bool
  | .non, .non => true | .bl, .bl => true | .bl, .int => true | .int, .int => true | .str, .str => true | .tup, .tup => true | .lst, .lst => true | .dct, .dct => true
  | _, _ => false
theorem kit_sub {K : PySem.W.Frag} (a b : Ty) : PySem.W.kitOne K (.type a.name) (.type b.name) = some (a.sub b) := kit_ty (by cases a <;> cases b <;> decide +kernel)
theorem kit_subs {K : PySem.W.Frag} (a : Ty) : ∀ bs : List Ty, PySem.W.kitAny K (.type a.name) (bs.map fun b => Value.type b.name) = some (bs.any a.sub)
  | [] => rfl
  | b :: bs => by
    refine kitAny_cons (kit_sub a b) (fun e => ?_) fun e => ?_
    · rw [List.any_cons, e, Bool.false_or]; exact kit_subs a bs
    · rw [List.any_cons, e, Bool.true_or]
def tyOf (M : Mem) : Wv → Option Ty
  | .non => some .non
  | .bl _ => some .bl
  | .int _ => some .int
  | .str _ => some .str
  | .tup _ => some .tup
  | .lst _ => some .lst
  | .dct _ _ => some .dct
  | .ref n => match M[n]? with
    | some (.lst _) => some .lst
    | _ => none
  | _ => none
theorem tyx_of {K : PySem.W.Frag} {ρ : Rn} {H : Hp} {M : Mem} (rl : Rl K ρ M H) {w : Wv} {v : V} {t : Ty} (e : tyOf M w = some t) (r : RV K ρ H w v) : TyX K H v (.type t.name) := by
  cases w with
  | non => cases e; cases r; exact .base .non
  | bl b => cases e; cases r; exact .base (.bl b)
  | int b => cases e; cases r; exact .base (.int b)
  | str b => cases e; cases r; exact .base (.str b)
  | tup xs => cases e; obtain ⟨a, vs, rfl, h, _⟩ := r; exact .base (.tup h.1)
  | lst xs => cases e; obtain ⟨a, vs, rfl, h, _⟩ := r; exact .base (.lst h.1)
  | dct ks xs => cases e; obtain ⟨a, vs, rfl, h, _⟩ := r; exact .base (.dK h.1)
  | ref n =>
    have e : (match M[n]? with | some (Ob.lst _) => some Ty.lst | _ => none) = some t := e
    cases q : M[n]? with
    | none => rw [q] at e; cases e
    | some o =>
      cases o with
      | lst xs =>
        rw [q] at e
        cases e
        obtain ⟨a, vs, rfl, _, h2, _⟩ := rl.lst q r
        exact .base (.lst h2)
      | _ => rw [q] at e; cases e
  | _ => cases e
def isW (ts : List Ty) (x : Wv) (M : Mem) : R Wv := match tyOf M x with
  | some t => .ok (.bl (ts.any t.sub)) M
  | none => .no
section
variable {X : Cx} {E : XK} {a : Expr} {ma : Me} {x : Str} {p pos p1 p2 p3 : Pos} {es : List Expr} {k : Nat}
/-- the built-in class T as an argument -/
structure IsTy (X : Cx) (e : Expr) (t : Ty) : Prop where
  pe : PE X e (tC (.ty t.name))
  st : ∀ es, starEach (e :: es) X.env = (false, eval e X.env) :: starEach es X.env
theorem isTy {t : Ty} (hg : Gl X x) (hm : X.mg x = none) (hv : bootBuiltins x = some (.type t.name)) (hn : x ≠ "__name__" := by decide) (hdb : (x == ("__debug__" : Str)) = false := by decide) : IsTy X (.Name x pos) t :=
  ⟨pe_bltn hg hm hv rfl hn hdb, fun _ => rfl⟩
inductive IsTys (X : Cx) : List Expr → List Ty → Prop
  | nil : IsTys X [] []
  | cons {e : Expr} {es : List Expr} {t : Ty} {ts : List Ty} (h : IsTy X e t) (r : IsTys X es ts) : IsTys X (e :: es) (t :: ts)
def tCs (vs : List V) : TA := fun _ H Q => Q vs H
theorem IsTys.pa : ∀ {es : List Expr} {ts : List Ty}, IsTys X es ts → PA X es (tCs (ts.map fun t => V.ty t.name))
  | _, _, .nil => PA.imp pa_nil fun _ _ _ h => h
  | _, _, .cons h r => PA.imp (pa_cons h.pe r.pa (h.st _)) fun _ _ _ q => q
theorem IsTys.cls (ts : List Ty) : Paired ClsV (ts.map fun t => V.ty t.name) (ts.map fun t => Value.type t.name) := by
  induction ts with
  | nil => exact .nil
  | cons t ts ih => exact .cons (.ty _) ih
theorem fin_is {K : PySem.W.Frag} {ρ : Rn} {M : Mem} {H : Hp} {Q : VK} {ts : List Ty} {w : Wv} (h : Fin K ρ H (PV K Q) E (isW ts w M)) : ∃ t, tyOf M w = some t ∧ Fin K ρ H (PV K Q) E (.ok (.bl (ts.any t.sub)) M) := by
  unfold isW at h
  cases q : tyOf M w with
  | none => rw [q] at h; exact h.elim
  | some t => rw [q] at h; exact ⟨t, rfl, h⟩
/-- isinstance(a, T) -/
theorem e_is {b : Expr} {t : Ty} (hm : X.mg "isinstance" = none) (ha : PE X a (te X.K E ma)) (hb : IsTy X b t) (hg : Gl X "isinstance" := by rfl) (hs : starEach (a :: [b]) X.env = (false, eval a X.env) :: starEach [b] X.env := by rfl) (hpl : (backTo pos (starEach [b] X.env)).any (·.1) = false := by rfl) :
    PE X (.Call (.Name "isinstance" p) [a, b] [] pos) (te X.K E (mUn (isW [t]) ma)) :=
  PE.imp (pe_callB call_isi hg hm PyProof.Rows.boot_isinstance (pa_cons ha (pa_cons hb.pe pa_nil (hb.st _)) hs) (by decide) (by decide) hs hpl) fun σ H Q ⟨ρ, M, env, rl, re, f⟩ => by
    refine te_then rl re f fun w M1 ρ1 H1 v g1 rl1 re1 rv1 f1 => ?_
    obtain ⟨u, e, f1⟩ := fin_is f1
    exact ⟨v, .ty t.name, .type u.name, .type t.name, _, rfl, .ty _, tyx_of rl1 e rv1, kit_sub u t, fin_val f1 rl1 (by simp [RV])⟩
/-- isinstance(a, (T, U, ..)) -/
theorem e_ist {ts : List Ty} (hm : X.mg "isinstance" = none) (ha : PE X a (te X.K E ma)) (hb : IsTys X es ts) (hg : Gl X "isinstance" := by rfl) (hlen : ts.length ≤ lim := by decide) (hs : starEach (a :: [.Tuple es k p1]) X.env = (false, eval a X.env) :: starEach [.Tuple es k p1] X.env := by rfl)
    (hpl : (backTo pos (starEach [.Tuple es k p1] X.env)).any (·.1) = false := by rfl) : PE X (.Call (.Name "isinstance" p) [a, .Tuple es k p1] [] pos) (te X.K E (mUn (isW ts) ma)) :=
  PE.imp (pe_callB call_isiT hg hm PyProof.Rows.boot_isinstance (pa_cons ha (pa_cons (pe_tup hb.pa) pa_nil) hs) (by decide) (by decide) hs hpl) fun σ H Q ⟨ρ, M, env, rl, re, f⟩ => by
    refine te_then rl re f fun w M1 ρ1 H1 v g1 rl1 re1 rv1 f1 => ?_
    obtain ⟨u, e, f1⟩ := fin_is f1
    refine ⟨by rw [List.length_map]; exact lim_le hlen, fun q hq => ?_⟩
    have g2 : Gr ρ1 H1 ρ1 (upd H1 q (.tup (ts.map fun t => V.ty t.name))) := Gr.fresh hq
    exact ⟨v, q, _, .type u.name, _, _, rfl, upd_same, IsTys.cls ts, tyx_of (rl1.upd hq) e (RV.mono g2 w rv1), kit_subs u ts, f1 ρ1 _ g2 (rl1.upd hq) _ rfl⟩
end
end Mi

namespace Mi
open PySem PySem.Spec PyProof.Rows L2

/-! ### repr of data -/
def reprOk (d : PyData) : Bool := d.showable && !d.hasDict && decide (d.shown.length ≤ lim) && decide (d.depth ≤ 60)
def repr1 (w : Wv) (M : Mem) : R Wv := match toDM M w with
  | some d => if reprOk d then .ok (.str d.shown) M else .no
  | none => .no
abbrev reprW := un1 repr1
section
variable {X : Cx} {E : XK}
theorem c_repr (hg : X.A.guards = some []) (hu : X.A.units + 64 < cLine) : CallR X (.builtin "repr") (rc X.K E reprW) := by
  intro pins s σ H xs us Q I r hh
  obtain ⟨v, ρ, M, w, rfl, rl, rv, h⟩ := un1_in hh
  clear hh
  obtain ⟨u, rfl, ru⟩ := vals1 r
  unfold repr1 at h
  cases q : toDM M w with
  | none => rw [q] at h; exact h.elim
  | some d =>
    rw [q] at h
    obtain ⟨h0, h⟩ := pick h
    unfold reprOk at h0
    rw [Bool.and_eq_true, Bool.and_eq_true, Bool.and_eq_true] at h0
    obtain ⟨⟨⟨h1, h2⟩, h3⟩, h4⟩ := h0
    have h3 := of_decide_eq_true h3
    have h4 := of_decide_eq_true h4
    have hz := lim_le h3
    have fin : Q (.str d.shown) H := fin_val h rl rfl
    have D := dpM_of rl w q rv
    obtain ⟨as, rd⟩ := Dp.reads I d v u D ru
    cases D with
    | non => cases ru; exact PySem.P.repr_of_none ⟨.str _, H, I.tok _, ⟨_, rfl⟩, fin⟩
    | bl b => cases ru; exact PySem.P.repr_of_bool ⟨.str _, H, I.tok _, ⟨_, rfl⟩, fin⟩
    | int i =>
      obtain ⟨t, rfl⟩ := ru
      exact PySem.P.repr_of_int (of_decide_eq_true h1) ⟨.str _, H, I.tok _, ⟨_, rfl⟩, fin⟩
    | str x =>
      obtain ⟨t, rfl⟩ := ru
      exact PySem.P.repr_of_str ⟨.str _, H, I.tok _, ⟨_, rfl⟩, fin⟩ hz
    | lst _ _ =>
      cases ru
      exact repr_of_reads' rd h1 (fun z => absurd z (by simp at h2; simp [h2])) hg (by omega) (fun _ _ e => e) (fun h' u' tk hk => ⟨.str _, H, I.kept hk, ⟨_, rfl⟩, fin⟩) hz
    | tup _ _ =>
      cases ru
      exact repr_of_reads' rd h1 (fun z => absurd z (by simp at h2; simp [h2])) hg (by omega) (fun _ _ e => e) (fun h' u' tk hk => ⟨.str _, H, I.kept hk, ⟨_, rfl⟩, fin⟩) hz
end

/-! ### statements -/
inductive Fl where
  | nx (env : Ev) | ret (w : Wv) | bk (env : Ev) | ct (env : Ev)
abbrev Ms := Ev → Mem → R Fl
def PF (K : PySem.W.Frag) (D : Ends) : Fl → Mem → Rn → Hp → Prop
  | .nx env, _, ρ, H => ∀ σ, RE K ρ H env σ → D.nx σ H
  | .ret w, _, ρ, H => ∀ v, RV K ρ H w v → D.rt v H
  | .bk env, _, ρ, H => ∀ σ, RE K ρ H env σ → D.bk σ H
  | .ct env, _, ρ, H => ∀ σ, RE K ρ H env σ → D.ct σ H
def ts (K : PySem.W.Frag) (E : XK) (m : Ms) : TS := fun D σ H => ∃ ρ M env, Rl K ρ M H ∧ RE K ρ H env σ ∧ Fin K ρ H (PF K D) E (m env M)
def sNil : Ms := fun env M => .ok (.nx env) M
def andThen (fl : Fl) (k : Ev → Mem → R Fl) (M : Mem) : R Fl := match fl with
  | .nx env => k env M
  | fl => .ok fl M
def sSeq (a b : Ms) : Ms := fun env M => (a env M).bind fun fl M1 => andThen fl b M1
def sSet (i : Nat) (a : Me) : Ms := fun env M => (a env M).bind fun w M1 => .ok (.nx (env.set i (some w))) M1
def sRet (a : Me) : Ms := fun env M => (a env M).bind fun w M1 => .ok (.ret w) M1
def sRetN : Ms := fun _ M => .ok (.ret .non) M
def sIf (t : Mt) (a b : Ms) : Ms := fun env M => (t env M).bind fun c M1 => if c = true then a env M1 else b env M1
def sExp (a : Me) : Ms := fun env M => (a env M).bind fun _ M1 => .ok (.nx env) M1
def sBrk : Ms := fun env M => .ok (.bk env) M
def sCnt : Ms := fun env M => .ok (.ct env) M
def sPut (a o i : Me) : Ms := fun env M => (a env M).bind fun w M1 => (o env M1).bind fun ov M2 => (i env M2).bind fun iv M3 => (setW ov iv w M3).bind fun _ M4 => .ok (.nx env) M4
def sPar2 (i j : Nat) (a : Ma) : Ms := fun env M => (a env M).bind fun ws M1 => match ws with
  | [u, v] => .ok (.nx ((env.set i (some u)).set j (some v))) M1
  | _ => .no
def sPar3 (i j l : Nat) (a : Ma) : Ms := fun env M => (a env M).bind fun ws M1 => match ws with
  | [u, v, w] => .ok (.nx (((env.set i (some u)).set j (some v)).set l (some w))) M1
  | _ => .no
section
variable {X : Cx} {E : XK} {e o i' : Expr} {st : Stmt} {rest : List Stmt} {me mo mi : Me} {ma : Ma} {mt : Mt} {m1 m2 : Ms} {pos : Pos} {i j l : Nat} {x y z : Str}
theorem s_nil : PSs X [] (ts X.K E sNil) := PSs.imp pss_nil fun D σ H ⟨ρ, M, env, rl, re, f⟩ => f.here rl σ re
theorem pf_then {K : PySem.W.Frag} {ρ : Rn} {M : Mem} {H : Hp} {D : Ends} {k : Ms} {fl : Fl} (rl : Rl K ρ M H) (f : Fin K ρ H (PF K D) E (andThen fl k M)) : PF K { D with nx := ts K E k D } fl M ρ H := by
  cases fl with
  | nx env => exact fun σ re => ⟨ρ, M, env, rl, re, f⟩
  | ret w => exact f.here rl
  | bk env => exact f.here rl
  | ct env => exact f.here rl
theorem s_cons (h1 : PS X st (ts X.K E m1)) (h2 : PSs X rest (ts X.K E m2)) : PSs X (st :: rest) (ts X.K E (sSeq m1 m2)) := PSs.imp (pss_cons h1 h2) fun D σ H ⟨ρ, M, env, rl, re, f⟩ =>
  ⟨ρ, M, env, rl, re, f.bind.imp fun fl M1 ρ1 H1 g1 rl1 f1 => pf_then rl1 f1⟩
theorem s_one (h1 : PS X st (ts X.K E m1)) : PSs X [st] (ts X.K E m1) := pss_one h1
theorem s_set {pos' : Pos} (hN : X.N.Nodup) (he : PE X e (te X.K E me)) (hi : X.N[i]? = some x := by rfl) (hx : Loc X.env.scope x := by first | exact Or.inl rfl | exact Or.inr rfl) (hs : swapsWith e (some (.Name x pos')) pos.line X.env = pure false := by rfl) (hf : X.fn x = true ∨ X.env.scope.names.lookup x = some .local := by first | exact .inl rfl | exact .inr rfl) :
    PS X (.Assign [.Name x pos'] e pos) (ts X.K E (sSet i me)) := PS.imp (ps_set (i := i) hN hi hx he hs hf) fun D σ H ⟨ρ, M, env, rl, re, f⟩ =>
  te_then rl re f fun w M1 ρ1 H1 v g1 rl1 re1 rv1 f1 => f1.here rl1 _ (re1.set rv1)
theorem s_ret (he : PE X e (te X.K E me)) : PS X (.Return (some e) pos) (ts X.K E (sRet me)) := PS.imp (ps_ret he) fun D σ H ⟨ρ, M, env, rl, re, f⟩ =>
  te_then rl re f fun w M1 ρ1 H1 v g1 rl1 re1 rv1 f1 => f1.here rl1 v rv1
theorem s_retN : PS X (.Return none pos) (ts X.K E sRetN) := PS.imp ps_retN fun D σ H ⟨ρ, M, env, rl, re, f⟩ => f.here rl .non rfl
theorem s_if {a b : List Stmt} (hc : PT X e (tt X.K E mt)) (ha : PSs X a (ts X.K E m1)) (hb : PSs X b (ts X.K E m2)) : PS X (.If e a b pos) (ts X.K E (sIf mt m1 m2)) := PS.imp (ps_if hc ha hb) fun D σ H ⟨ρ, M, env, rl, re, f⟩ =>
  tt_then rl re f fun b M1 ρ1 H1 g1 rl1 re1 f1 => by
    cases b with
    | true => exact ⟨ρ1, M1, env, rl1, re1, f1⟩
    | false => exact ⟨ρ1, M1, env, rl1, re1, f1⟩
theorem s_expr (he : PE X e (te X.K E me)) (hs : swapsWith e none pos.line X.env = pure false := by rfl) : PS X (.Expr e pos) (ts X.K E (sExp me)) := PS.imp (ps_expr he hs) fun D σ H ⟨ρ, M, env, rl, re, f⟩ =>
  te_then rl re f fun w M1 ρ1 H1 v g1 rl1 re1 rv1 f1 => f1.here rl1 _ re1
theorem s_brk : PS X (.Break pos) (ts X.K E sBrk) := PS.imp ps_break fun D σ H ⟨ρ, M, env, rl, re, f⟩ => f.here rl σ re
theorem s_cnt : PS X (.Continue pos) (ts X.K E sCnt) := PS.imp ps_continue fun D σ H ⟨ρ, M, env, rl, re, f⟩ => f.here rl σ re
theorem s_pass : PS X (.Pass pos) (ts X.K E sNil) := PS.imp ps_pass fun D σ H ⟨ρ, M, env, rl, re, f⟩ => f.here rl σ re
theorem set_in {K : PySem.W.Frag} {ρ : Rn} {M : Mem} {H : Hp} {wo wi w : Wv} {o i v : V} {P : Unit → Mem → Rn → Hp → Prop} {Q : Hp → Prop} (rl : Rl K ρ M H) (ro : RV K ρ H wo o) (ri : RV K ρ H wi i) (rv : RV K ρ H w v) (f : Fin K ρ H P E (setW wo wi w M))
    (q : ∀ M1 H1, Gr ρ H ρ H1 → Rl K ρ M1 H1 → P () M1 ρ H1 → Q H1) : rSetL o i v H Q := by
  cases wo <;> cases wi <;> first | exact f.elim | skip
  rename_i k n
  cases ri
  cases e : M[k]? with
  | none =>
    have f : Fin K ρ H P E (match M[k]? with | some (Ob.lst xs) => (match ixN xs.length n with | some j => R.ok () (M.set k (.lst (xs.set j w))) | none => .no) | _ => .no) := f
    rw [e] at f; exact f.elim
  | some ob =>
    have f : Fin K ρ H P E (match M[k]? with | some (Ob.lst xs) => (match ixN xs.length n with | some j => R.ok () (M.set k (.lst (xs.set j w))) | none => .no) | _ => .no) := f
    rw [e] at f
    cases ob with
    | lst xs =>
      have f : Fin K ρ H P E (match ixN xs.length n with | some j => R.ok () (M.set k (.lst (xs.set j w))) | none => .no) := f
      obtain ⟨a, vs, rfl, ha, h1, h2⟩ := rl.lst e ro
      cases ej : ixN xs.length n with
      | none => rw [ej] at f; exact f.elim
      | some j =>
        rw [ej] at f
        have gg : Gr ρ H ρ (upd H a (.lst (vs.set j v))) := Gr.write ha
        have rl2 : Rl K ρ (M.set k (.lst (xs.set j w))) (upd H a (.lst (vs.set j v))) := rl.write ha ⟨_, upd_same, RVs.set (RVs.mono gg xs h2) (RV.mono gg w rv)⟩
        exact ⟨a, vs, n, j, rfl, rfl, h1, by rw [← h2.length]; exact ej, q _ _ gg rl2 (f ρ _ gg rl2)⟩
    | _ => exact f.elim
theorem s_put {p2 : Pos} (he : PE X e (te X.K E me)) (ho : PE X o (te X.K E mo)) (hi : PE X i' (te X.K E mi)) (hs : swapsWithSole [.Subscript o i' p2] e pos.line X.env = pure false := by rfl) (hw : swappedStores [.Subscript o i' p2] e X.env = pure none := by rfl)
    (h1 : (assignEach [.Subscript o i' p2] X.env).map (·.2) = [assign (.Subscript o i' p2) X.env] := by rfl)
    (ha : ∀ v, assign (.Subscript o i' p2) X.env v = (do
      let ov ← holding [v] (eval o X.env)
      let iv ← holding [v, ov] (eval i' X.env)
      standAt p2
      holding [v, ov, iv] (setItem ov iv v)
      release [v, ov, iv] []) := by intro _; rfl) : PS X (.Assign [.Subscript o i' p2] e pos) (ts X.K E (sPut me mo mi)) :=
  PS.imp (ps_asg he (pg_sub ho hi set_list ha) hs hw h1) fun D σ H ⟨ρ, M, env, rl, re, f⟩ => by
    refine te_then rl re f fun w M1 ρ1 H1 v g1 rl1 re1 rv1 f1 => ?_
    refine te_then rl1 re1 f1 fun wo M2 ρ2 H2 ov g2 rl2 re2 rv2 f2 => ?_
    refine te_then rl2 re2 f2 fun wi M3 ρ3 H3 iv g3 rl3 re3 rv3 f3 => ?_
    exact set_in rl3 (RV.mono g3 wo rv2) rv3 (RV.mono g3 w (RV.mono g2 w rv1)) f3.bind fun M4 H4 g4 rl4 f4 => f4.here rl4 _ (re3.mono g4)
theorem s_par2 {a b : Expr} {px py pt : Pos} {kt k2 pt2} (hc : X.calm = true) (hN : X.N.Nodup) (ha : PA X [a, b] (ta X.K E ma)) (hi : X.N[i]? = some x := by rfl) (hj : X.N[j]? = some y := by rfl) (hij : i ≠ j := by decide)
    (hx : X.env.scope.names.lookup x = some .local := by rfl) (hy : X.env.scope.names.lookup y = some .local := by rfl) (hw : swappedStores [.Tuple [.Name x px, .Name y py] kt pt] (.Tuple [a, b] k2 pt2) X.env = pure (some [x, y]) := by rfl)
    (hs : swapsWithSole [.Tuple [.Name x px, .Name y py] kt pt] (.Tuple [a, b] k2 pt2) pos.line X.env = pure false := by rfl) : PS X (.Assign [.Tuple [.Name x px, .Name y py] kt pt] (.Tuple [a, b] k2 pt2) pos) (ts X.K E (sPar2 i j ma)) :=
  PS.imp (ps_par hc hN hi hj hij hx hy ha hw hs) fun D σ H ⟨ρ, M, env, rl, re, f⟩ => ta_then rl re f fun ws M1 ρ1 H1 vs g1 rl1 re1 rv1 f1 => by
    match ws, rv1, f1 with
    | [], _, f1 => exact f1.elim
    | [_], _, f1 => exact f1.elim
    | _ :: _ :: _ :: _, _, f1 => exact f1.elim
    | [u, v], rv, f1 =>
      obtain ⟨v1, _, rfl, r1, v2, _, rfl, r2, rfl⟩ := rv
      exact ⟨v1, v2, rfl, f1.here rl1 _ ((re1.set r1).set r2)⟩
theorem s_par3 {a b c : Expr} {px py pz pt : Pos} {kt k2 pt2} (hc : X.calm = true) (hN : X.N.Nodup) (ha : PA X [a, b, c] (ta X.K E ma)) (hi : X.N[i]? = some x := by rfl) (hj : X.N[j]? = some y := by rfl) (hl : X.N[l]? = some z := by rfl) (hij : i ≠ j := by decide) (hil : i ≠ l := by decide) (hjl : j ≠ l := by decide)
    (hx : X.env.scope.names.lookup x = some .local := by rfl) (hy : X.env.scope.names.lookup y = some .local := by rfl) (hz : X.env.scope.names.lookup z = some .local := by rfl)
    (hw : swappedStores [.Tuple [.Name x px, .Name y py, .Name z pz] kt pt] (.Tuple [a, b, c] k2 pt2) X.env = pure (some [x, y, z]) := by rfl)
    (hs : swapsWithSole [.Tuple [.Name x px, .Name y py, .Name z pz] kt pt] (.Tuple [a, b, c] k2 pt2) pos.line X.env = pure false := by rfl) :
    PS X (.Assign [.Tuple [.Name x px, .Name y py, .Name z pz] kt pt] (.Tuple [a, b, c] k2 pt2) pos) (ts X.K E (sPar3 i j l ma)) :=
  PS.imp (ps_par3 hc hN hi hj hl hij hil hjl hx hy hz ha hw hs) fun D σ H ⟨ρ, M, env, rl, re, f⟩ => ta_then rl re f fun ws M1 ρ1 H1 vs g1 rl1 re1 rv1 f1 => by
    match ws, rv1, f1 with
    | [], _, f1 => exact f1.elim
    | [_], _, f1 => exact f1.elim
    | [_, _], _, f1 => exact f1.elim
    | _ :: _ :: _ :: _ :: _, _, f1 => exact f1.elim
    | [u, v, w], rv, f1 =>
      obtain ⟨v1, _, rfl, r1, v2, _, rfl, r2, v3, _, rfl, r3, rfl⟩ := rv
      exact ⟨v1, v2, v3, rfl, f1.here rl1 _ (((re1.set r1).set r2).set r3)⟩
end

abbrev WE1 (E : XK) : WX := fun cls d _ H => E cls d H
/-! ### functions; nothing is being shown meanwhile (guards) -/
structure FnG (P : Program) (w : World) (K : PySem.W.Frag) (mg : Str → Option Value) (base : Heap) (k : Nat) (f : Addr) (fd : FuncData) (ps : List Str) (m : List Wv → Mem → R Wv) : Prop where
  go : ∀ (A : Around) (outer : List Env) (s : Shared) (H : Hp) (as : Args) (us : List Value) (vs : List V) (ws : List Wv) (ρ : Rn) (M : Mem) (Q : VK) (E : XK), Room k A → A.guards = some [] → Env0 P w K mg base A outer s H → BindsTo s fd as (ps.zip us) → Vals vs us →
    vs.length = ps.length → Rl K ρ M H → RVs K ρ H ws vs → Fin K ρ H (PV K Q) E (m ws M) → codeAny (model P w) A (.call (.ref f) as) (CR (L2.CX P w) outer P w H s Q E) s
theorem FnG.up {P : Program} {w : World} {K : PySem.W.Frag} {mg : Str → Option Value} {base : Heap} {j k : Nat} {f : Addr} {fd : FuncData} {ps : List Str} {m : List Wv → Mem → R Wv} (F : FnG P w K mg base j f fd ps m) (h : j ≤ k) : FnG P w K mg base k f fd ps m :=
  ⟨fun A outer s H as us vs ws ρ M Q E hr => F.go A outer s H as us vs ws ρ M Q E (hr.mono h)⟩
def evStart (n : Nat) (ws : List Wv) : Ev := ws.map some ++ List.replicate (n - ws.length) none
def mFn (n : Nat) (b : Ms) : List Wv → Mem → R Wv := fun ws M => (b (evStart n ws) M).bind fun fl M1 => match fl with
  | .nx _ => .ok .non M1
  | .ret w => .ok w M1
  | _ => .no
theorem re_start {K : PySem.W.Frag} {ρ : Rn} {H : Hp} {N : List Str} {ws : List Wv} {vs : List V} (r : RVs K ρ H ws vs) : RE K ρ H (evStart N.length ws) (L2.start N vs) := by
  unfold evStart L2.start
  refine ⟨by simp [r.length], fun i w e => ?_⟩
  have hl := r.length
  by_cases hi : i < ws.length
  · rw [List.getElem?_append_left (by simpa using hi), List.getElem?_map] at e
    obtain ⟨u, h1, h2⟩ := Option.map_eq_some_iff.mp e
    cases h2
    obtain ⟨v, h3, h4⟩ := r.get h1
    exact ⟨v, by rw [List.getElem?_append_left (by simpa [← hl] using hi), List.getElem?_map, h3]; rfl, h4⟩
  · rw [List.getElem?_append_right (by simpa using hi)] at e
    have := List.mem_of_getElem? e
    simp at this
section
variable {P : Program} {w : World} {K : PySem.W.Frag} {mg : Str → Option Value} {base : Heap}
theorem FnG.of {x qual : Str} {st : Stmt} {f : Addr} {fd : FuncData} {N ps : List Str} {k : Nat} {b : Ms} (F : Fun K x qual st f fd) (S : FnScope N ps (defScope st))
    (body : ∀ (cdv : Value) (A : Around) (outer : List Env) (s : Shared) (H : Hp) (E : XK), Room k (A.deeper (envOfC qual (defScope st) s.heap.objs.size f cdv)) → A.guards = some [] →
      Passes (L2.CX P w) (cxOf (L2.CX P w) P w K mg base N qual (defScope st) f cdv A outer s H E) E → Takes (cxOf (L2.CX P w) P w K mg base N qual (defScope st) f cdv A outer s H E) (WE1 E) →
      PSs (cxOf (L2.CX P w) P w K mg base N qual (defScope st) f cdv A outer s H E) (defBody st) (ts K E b)) : FnG P w K mg base (k + 1) f fd ps (mFn N.length b) := by
  obtain ⟨oc, od, kV, doc, pm, an, cdv, ct, osl, rfl, lk, hcd⟩ := F.ex
  refine ⟨fun A outer s H as us vs ws ρ M Q E hr hgd e0 hb r hl rl rv fin => ?_⟩
  have KX : K.In s.heap := e0.mod.kin.keeps fun c o q => (e0.bs c o q).1
  have noL : s.heap.NoLimit := e0.mod.nolimit.keeps fun c o q => (e0.bs c o q).1
  have kinds : ∀ y ∈ ps.zip us, (defScope st).names.lookup y.1 = some .local ∨ ((defScope st).names.lookup y.1 = some .cell ∧ ((cellsFrom (s.heap.objs.size + 1) (defScope st).names []).lookup y.1).isSome = true) := by
    rintro ⟨n, v⟩ hy
    refine (S.par n (List.of_mem_zip hy).1).imp id fun q => ?_
    exact ⟨q, PySem.W.cellsFrom_some _ _ _ (.inl q)⟩
  refine codeAny_call_function hr.depth (KX _ _ lk) rfl S.co S.gen rfl (PySem.W.codeRec_of KX hcd) (hb _ _ _ _ (wpAny_newFunctionEnv_cells S.kind kinds fun env he s1 inC => ?_))
  subst he
  refine ⟨noL.keeps inC.toInCall.keep, codeAny_func ?_⟩
  have I : Inv (cxOf (L2.CX P w) P w K mg base N qual (defScope st) f cdv A outer s H E) [] (L2.start N vs) H s1 := inv_start S hr.hd e0 hl r inC
  have hx : Passes (L2.CX P w) (cxOf (L2.CX P w) P w K mg base N qual (defScope st) f cdv A outer s H E) E := passes_call (takes_of rfl rfl rfl rfl) fun _ _ _ _ z => z
  have tk : Takes (cxOf (L2.CX P w) P w K mg base N qual (defScope st) f cdv A outer s H E) (WE1 E) := takes_of rfl rfl rfl rfl
  have ht := body cdv A outer s H E (hr.deeper _) hgd hx tk
  have hw : ts K E b { nx := fun _ H' => Q .non H', rt := Q } (L2.start N vs) H := by
    refine ⟨ρ, M, evStart N.length ws, rl, re_start rv, fin.bind.imp fun fl M1 ρ1 H1 g1 rl1 f1 => ?_⟩
    cases fl with
    | nx env => exact fun σ _ => f1.here rl1 .non rfl
    | ret v => exact f1.here rl1
    | bk env => exact f1.elim
    | ct env => exact f1.elim
  refine wpAny_mono (ht.run [] s1 (L2.start N vs) H _ I hw) (fun fl s' hs => ?_) fun _ _ z => z
  cases fl with
  | ret u =>
    obtain ⟨v, σ', H', J, rv', q⟩ := hs
    exact ⟨v, H', J.os, J.bare, J.base, J.hok, rv', q⟩
  | next =>
    obtain ⟨σ', H', J, q⟩ := hs
    exact ⟨V.non, H', J.os, J.bare, J.base, J.hok, rfl, q⟩
  | brk => obtain ⟨_, _, _, q⟩ := hs; exact q.elim
  | cont => obtain ⟨_, _, _, q⟩ := hs; exact q.elim
end
section
variable {X : Cx} {E : XK} {k : Nat} {f : Addr} {fd : FuncData} {ps ks : List Str} {m : List Wv → Mem → R Wv} {x : Str} {p pos : Pos} {e : Expr} {es : List Expr} {ma mk : Ma} {kws : List Keyword}
theorem callG (F : FnG X.prog X.w X.K X.mg X.base k f fd ps m) (hr : Room k X.A) (hgd : X.A.guards = some []) (hx : Passes (L2.CX X.prog X.w) X E) {pins : List (Addr × Obj)} {σ : L2.St} {H : Hp} {s : Shared} {Q : VK} {kw : List (Str × Value)} {us us' : List Value} {vs : List V} {ws : List Wv} {ρ : Rn} {M : Mem}
    (I : Inv X pins σ H s) (hb : BindsTo s fd ⟨us, kw⟩ (ps.zip us')) (r : Vals vs us') (hl : vs.length = ps.length) (rl : Rl X.K ρ M H) (rv : RVs X.K ρ H ws vs) (fin : Fin X.K ρ H (PV X.K Q) E (m ws M)) : wpAny (model X.prog X.w) X.A (call (.ref f) us kw) (EP X pins σ Q) X.xe s := by
  refine wpAny_call (codeAny_mono (F.go X.A X.stack s H ⟨us, kw⟩ us' vs ws ρ M Q E hr hgd I.env0 hb r hl rl rv fin) fun res s' hq => ?_)
  cases res with
  | error er => exact hx pins σ H s er s' I hq
  | ok fl =>
    cases fl with
    | ret u => exact I.after hq
    | next => exact hq.elim
    | brk => exact hq.elim
    | cont => exact hq.elim
/-- f(e, ..); n the number of arguments -/
def mApp (n : Nat) (f : List Wv → Mem → R Wv) (a : Ma) : Me := fun env M => (a env M).bind fun ws M1 => if ws.length = n then f ws M1 else .no
theorem e_call (F : FnG X.prog X.w X.K X.mg X.base k f fd ps m) (hr : Room k X.A) (hgd : X.A.guards = some []) (hx : Passes (L2.CX X.prog X.w) X E) (hm : X.mg x = some (.ref f)) (hk : PySem.W.keepIn X.K (.ref f) = true) (hb : Binds X.K fd ps []) (ha : PA X (e :: es) (ta X.K E ma))
    (hg : Gl X x := by rfl) (hdb : (x == ("__debug__" : Str)) = false := by decide) (he : starEach (e :: es) X.env = (false, eval e X.env) :: starEach es X.env := by rfl) (hpl : (backTo pos (starEach es X.env)).any (·.1) = false := by rfl) {n : Nat} (hn : ps.length = n := by rfl) :
    PE X (.Call (.Name x p) (e :: es) [] pos) (te X.K E (mApp n m ma)) := by
  subst hn
  refine ⟨fun pins s σ H Q I ⟨ρ, M, env, rl, re, h⟩ => wpAny_Call_Name_kw (ld_glob I hg hm ?_ hdb)⟩
  refine PySem.W.callWith_K (h₀ := X.base) I.ok.mod.kin hk (thn (ha.run pos pins s σ H (fun vs H1 => ∃ ρ1 M1 ws, Rl X.K ρ1 M1 H1 ∧ RVs X.K ρ1 H1 ws vs ∧ ws.length = ps.length ∧ Fin X.K ρ1 H1 (PV X.K Q) E (m ws M1)) I
    (ta_then rl re h fun ws M1 ρ1 H1 vs g1 rl1 re1 rv1 f1 => by obtain ⟨h0, f1⟩ := pick f1; exact ⟨ρ1, M1, ws, rl1, rv1, h0, f1⟩)) fun us s1 ⟨vs, H1, I1, r, ρ1, M1, ws, rl1, rv1, hl, f1⟩ => ⟨I1.kIn, ?_⟩) he hpl
  have h1 : vs.length = ps.length := by rw [← rv1.length]; exact hl
  have h2 := hb s1 us I1.kIn (by rw [List.append_nil, ← r.length]; exact h1)
  rw [List.append_nil] at h2
  exact callG F hr hgd hx I1 h2 r h1 rl1 rv1 f1
end
end Mi

namespace Mi
open PySem PySem.Spec PyProof.Rows L2

/-! ### keywords -/
def pick' {α : Type} (p : List Nat) (l : List α) : List α := p.filterMap fun i => l[i]?
theorem pick_vals : ∀ (p : List Nat) {vs : List V} {us : List Value}, Vals vs us → Vals (pick' p vs) (pick' p us)
  | [], _, _, _ => .nil
  | i :: p, vs, us, r => by
    unfold pick'
    rw [List.filterMap_cons, List.filterMap_cons]
    cases e : vs[i]? with
    | none => rw [r.none_of e]; exact pick_vals p r
    | some v =>
      obtain ⟨u, h1, h2⟩ := r.get e
      rw [h1]
      exact .cons h2 (pick_vals p r)
theorem pick_rvs {K : PySem.W.Frag} {ρ : Rn} {H : Hp} : ∀ (p : List Nat) {ws : List Wv} {vs : List V}, RVs K ρ H ws vs → RVs K ρ H (pick' p ws) (pick' p vs)
  | [], _, _, _ => rfl
  | i :: p, ws, vs, r => by
    unfold pick'
    rw [List.filterMap_cons, List.filterMap_cons]
    cases e : ws[i]? with
    | none =>
      have : vs[i]? = none := by
        rw [List.getElem?_eq_none_iff] at e ⊢
        rw [← r.length]; exact e
      rw [this]; exact pick_rvs p r
    | some w =>
      obtain ⟨v, h1, h2⟩ := r.get e
      rw [h1]
      exact ⟨v, _, rfl, h2, pick_rvs p r⟩
/-- a call with n written values, the keywords ks; perm: where each parameter's value stands among them -/
structure BK (fd : FuncData) (ps : List Str) (n : Nat) (ks : List Str) (perm : List Nat) : Prop where
  to : ∀ (s : Shared) (us ws : List Value), us.length = n → ws.length = ks.length → BindsTo s fd ⟨us, ks.zip ws⟩ (ps.zip (pick' perm (us ++ ws)))
theorem BK.of {K : PySem.W.Frag} {x qual : Str} {st : Stmt} {f : Addr} {fd : FuncData} {ps ks : List Str} {n : Nat} {perm : List Nat} (F : Fun K x qual st f fd)
    (h : ∀ (kV doc pm : Value) (an : Option Addr) (cdv ct : Value) (us ws : List Value), us.length = n → ws.length = ks.length → bindArgs (PySem.W.fnOf x qual (defArgs st) (defBody st) (defScope st) .none kV doc pm an cdv ct) ⟨us, ks.zip ws⟩ = pure (ps.zip (pick' perm (us ++ ws)))) : BK fd ps n ks perm := by
  obtain ⟨oc, od, kV, doc, pm, an, cdv, ct, osl, rfl, lk, hcd⟩ := F.ex
  exact ⟨fun s us ws h1 h2 => .of_eq (h kV doc pm an cdv ct us ws h1 h2)⟩
def mAppK (n j l : Nat) (perm : List Nat) (f : List Wv → Mem → R Wv) (a k : Ma) : Me := fun env M => (a env M).bind fun us M1 => (k env M1).bind fun ws M2 =>
  if us.length = j ∧ ws.length = l ∧ (pick' perm (us ++ ws)).length = n then f (pick' perm (us ++ ws)) M2 else .no
section
variable {X : Cx} {E : XK} {k n : Nat} {f : Addr} {fd : FuncData} {ps ks : List Str} {perm : List Nat} {m : List Wv → Mem → R Wv} {x : Str} {p pos kpos : Pos} {e : Expr} {es : List Expr} {ma mk : Ma} {me : Me} {kws : List Keyword} {nm : Option Str}
theorem k_nil : PK X [] (ta X.K E maN) := ⟨fun pos pins s σ H Q I ⟨ρ, M, env, rl, re, f⟩ => pk_nil.run pos pins s σ H Q I (f.here rl [] rfl)⟩
theorem k_cons (h : PE X e (te X.K E me)) (hr : PK X kws (ta X.K E ma)) : PK X (⟨nm, e, kpos⟩ :: kws) (ta X.K E (maC me ma)) := ⟨fun pos pins s σ H Q I ⟨ρ, M, env, rl, re, f⟩ =>
  (pk_cons h hr).run pos pins s σ H Q I (te_then rl re f fun x M1 ρ1 H1 v g1 rl1 re1 rv1 f1 => ta_then rl1 re1 f1 fun xs M2 ρ2 H2 vs g2 rl2 re2 rv2 f2 => f2.here rl2 (v :: vs) ⟨v, vs, rfl, RV.mono g2 x rv1, rv2⟩)⟩
/-- f(k = v, ..) -/
theorem e_callK0 (F : FnG X.prog X.w X.K X.mg X.base k f fd ps m) (hr : Room k X.A) (hgd : X.A.guards = some []) (hx : Passes (L2.CX X.prog X.w) X E) (hm : X.mg x = some (.ref f)) (hk : PySem.W.keepIn X.K (.ref f) = true) (hb : BK fd ps 0 ks perm) (hkw : PK X kws (ta X.K E mk))
    (hall : (backToKw pos (keywordEach kws X.env)).all (·.1.isSome) = true := by rfl) (hks : (backToKw pos (keywordEach kws X.env)).filterMap (·.1) = ks := by rfl)
    (hg : Gl X x := by rfl) (hdb : (x == ("__debug__" : Str)) = false := by decide) (hpl : ((backTo pos (starEach [] X.env)).any (·.1) || (backToKw pos (keywordEach kws X.env)).any (·.1.isNone)) = false := by rfl) {j l : Nat} (hj : ps.length = j := by rfl) (hl : ks.length = l := by rfl) :
    PE X (.Call (.Name x p) [] kws pos) (te X.K E (mAppK j 0 l perm m maN mk)) := by
  subst hj hl
  refine ⟨fun pins s σ H Q I ⟨ρ, M, env, rl, re, h⟩ => wpAny_Call_Name_kw (ld_glob I hg hm ?_ hdb)⟩
  have h : Fin X.K ρ H (PV X.K Q) E ((mk env M).bind fun ws M2 => if ([] : List Wv).length = 0 ∧ ws.length = ks.length ∧ (pick' perm ws).length = ps.length then m (pick' perm ws) M2 else .no) := h
  refine PySem.W.callWith_KW0 (h₀ := X.base) I.ok.mod.kin hk hall (thn (hkw.run pos pins s σ H (fun vs H1 => ∃ ρ1 M1 ws, Rl X.K ρ1 M1 H1 ∧ RVs X.K ρ1 H1 ws vs ∧ ws.length = ks.length ∧ (pick' perm ws).length = ps.length ∧ Fin X.K ρ1 H1 (PV X.K Q) E (m (pick' perm ws) M1)) I
    (ta_then rl re h fun ws M1 ρ1 H1 vs g1 rl1 re1 rv1 f1 => by obtain ⟨⟨_, h0, h2⟩, f1⟩ := pick f1; exact ⟨ρ1, M1, ws, rl1, rv1, h0, h2, f1⟩)) fun us s1 ⟨vs, H1, I1, r, ρ1, M1, ws, rl1, rv1, hl, hl2, f1⟩ => ⟨I1.kIn, ?_⟩) hpl
  have h1 : us.length = ks.length := by rw [← r.length, ← rv1.length]; exact hl
  have h2 := hb.to s1 [] us rfl h1
  rw [hks]
  exact callG F hr hgd hx I1 h2 (pick_vals perm r) (by rw [← (pick_rvs perm rv1).length]; exact hl2) rl1 (pick_rvs perm rv1) f1
/-- f(e, .., k = v, ..) -/
theorem e_callK (F : FnG X.prog X.w X.K X.mg X.base k f fd ps m) (hr : Room k X.A) (hgd : X.A.guards = some []) (hx : Passes (L2.CX X.prog X.w) X E) (hm : X.mg x = some (.ref f)) (hk : PySem.W.keepIn X.K (.ref f) = true) (hb : BK fd ps n ks perm) (ha : PA X (e :: es) (ta X.K E ma)) (hkw : PK X kws (ta X.K E mk))
    (hall : (backToKw pos (keywordEach kws X.env)).all (·.1.isSome) = true := by rfl) (hks : (backToKw pos (keywordEach kws X.env)).filterMap (·.1) = ks := by rfl)
    (hg : Gl X x := by rfl) (hdb : (x == ("__debug__" : Str)) = false := by decide) (he : starEach (e :: es) X.env = (false, eval e X.env) :: starEach es X.env := by rfl)
    (hpl : ((backTo pos (starEach (e :: es) X.env)).any (·.1) || (backToKw pos (keywordEach kws X.env)).any (·.1.isNone)) = false := by rfl) {j l : Nat} (hj : ps.length = j := by rfl) (hl : ks.length = l := by rfl) :
    PE X (.Call (.Name x p) (e :: es) kws pos) (te X.K E (mAppK j n l perm m ma mk)) := by
  subst hj hl
  refine ⟨fun pins s σ H Q I ⟨ρ, M, env, rl, re, h⟩ => wpAny_Call_Name_kw (ld_glob I hg hm ?_ hdb)⟩
  refine PySem.W.callWith_KW (h₀ := X.base) I.ok.mod.kin hk hall (thn (ha.run pos pins s σ H (fun us H1 => ∃ ρ1 M1 wu, Rl X.K ρ1 M1 H1 ∧ RVs X.K ρ1 H1 wu us ∧ RE X.K ρ1 H1 env σ ∧ Fin X.K ρ1 H1 (PV X.K Q) E ((mk env M1).bind fun ws M2 => if wu.length = n ∧ ws.length = ks.length ∧ (pick' perm (wu ++ ws)).length = ps.length then m (pick' perm (wu ++ ws)) M2 else .no)) I
    (ta_then rl re h fun wu M1 ρ1 H1 vs g1 rl1 re1 rv1 f1 => ⟨ρ1, M1, wu, rl1, rv1, re1, f1⟩)) fun us s1 ⟨vs, H1, I1, r, ρ1, M1, wu, rl1, rv1, re1, f1⟩ => ?_) hpl he
  refine thn (hkw.run pos pins s1 σ H1 (fun zs H2 => ∃ ρ2 M2 ws, Rl X.K ρ2 M2 H2 ∧ RVs X.K ρ2 H2 (wu ++ ws) (vs ++ zs) ∧ wu.length = n ∧ ws.length = ks.length ∧ (pick' perm (wu ++ ws)).length = ps.length ∧ RVs X.K ρ2 H2 ws zs ∧ Fin X.K ρ2 H2 (PV X.K Q) E (m (pick' perm (wu ++ ws)) M2)) I1
    (ta_then rl1 re1 f1 fun ws M2 ρ2 H2 zs g2 rl2 re2 rv2 f2 => by obtain ⟨⟨h0, h1, h2⟩, f2⟩ := pick f2; exact ⟨ρ2, M2, ws, rl2, (RVs.mono g2 wu rv1).append rv2, h0, h1, h2, rv2, f2⟩)) fun zu s2 ⟨zs, H2, I2, rz, ρ2, M2, ws, rl2, rv2, h0, h1, h2, rvz, f2⟩ => ⟨I2.kIn, ?_⟩
  have q0 : us.length = n := by rw [← r.length, ← rv1.length]; exact h0
  have q1 : zu.length = ks.length := by rw [← rz.length, ← rvz.length]; exact h1
  have hbb := hb.to s2 us zu q0 q1
  rw [hks]
  exact callG F hr hgd hx I2 hbb (pick_vals perm (r.append rz)) (by rw [← (pick_rvs perm rv2).length]; exact h2) rl2 (pick_rvs perm rv2) f2
end

/-! ### targets of loops -/
inductive Tg where
  | nm (i : Nat) | tp (is : List Nat)
def setAll {α : Type} (e : List (Option α)) : List Nat → List α → List (Option α)
  | i :: is, w :: ws => setAll (e.set i (some w)) is ws
  | _, _ => e
def Tg.set : Tg → Wv → Ev → Mem → R Ev
  | .nm i, w, env, M => .ok (env.set i (some w)) M
  | .tp is, w, env, M => match sqOf M w with
    | some (.t xs) => if xs.length = is.length then .ok (setAll env is xs) M else .no
    | _ => .no
def Tg.slots : Tg → List Nat
  | .nm i => [i]
  | .tp is => is
/-- what HandS reads of such a target -/
def tgR (K : PySem.W.Frag) : Tg → TG
  | .nm i => gName i
  | .tp is => fun v σ H Q => ∃ a vs, v = .ref a ∧ SqT K H a vs ∧ vs.length = is.length ∧ Q (setAll σ is vs) H
theorem re_all {K : PySem.W.Frag} {ρ : Rn} {H : Hp} : ∀ (is : List Nat) {ws : List Wv} {vs : List V} {env : Ev} {σ : L2.St}, RE K ρ H env σ → RVs K ρ H ws vs → RE K ρ H (setAll env is ws) (setAll σ is vs)
  | [], _, _, _, _, re, _ => re
  | i :: is, [], _, _, _, re, r => by cases r; exact re
  | i :: is, w :: ws, _, _, _, re, ⟨v, vr, e, h, r⟩ => by subst e; exact re_all is (re.set h) r
section
variable {X : Cx} {pos : Pos}
theorem g_nm {i : Nat} {x : Str} (hN : X.N.Nodup) (hi : X.N[i]? = some x := by rfl) (hx : Loc X.env.scope x := by first | exact Or.inl rfl | exact Or.inr rfl) (hf : X.fn x = true ∨ X.env.scope.names.lookup x = some .local := by first | exact .inl rfl | exact .inr rfl) : PG X (.Name x pos) (tgR X.K (.nm i)) := pg_name hN hi hx hf
/-- several names -/
def gAll (is : List Nat) : TGs := fun vs σ H Q => vs.length = is.length ∧ Q (setAll σ is vs) H
theorem PGs.imp {e : List Expr} {t t' : TGs} (h : PGs X e t) (k : ∀ vs σ H Q, t' vs σ H Q → t vs σ H Q) : PGs X e t' := ⟨fun pins s σ H vs us Q I r q => h.run pins s σ H vs us Q I r (k vs σ H Q q)⟩
theorem PG.imp {e : Expr} {t t' : TG} (h : PG X e t) (k : ∀ vs σ H Q, t' vs σ H Q → t vs σ H Q) : PG X e t' := ⟨fun pins s σ H vs us Q I r q => h.run pins s σ H vs us Q I r (k vs σ H Q q)⟩
theorem gs_nil : PGs X [] (gAll []) := PGs.imp pgs_nil fun vs σ H Q ⟨h, q⟩ => ⟨List.length_eq_zero_iff.mp h, by cases vs <;> exact q⟩
theorem gs_cons {i : Nat} {is : List Nat} {e : Expr} {es : List Expr} (h1 : PG X e (tgR X.K (.nm i))) (h2 : PGs X es (gAll is)) (hs : (assignEach (e :: es) X.env).map (·.2) = assign e X.env :: (assignEach es X.env).map (·.2) := by rfl) : PGs X (e :: es) (gAll (i :: is)) :=
  PGs.imp (pgs_cons h1 h2 hs) fun vs σ H Q ⟨h, q⟩ => by
    cases vs with
    | nil => cases h
    | cons v vs => exact ⟨v, vs, rfl, Nat.succ.inj h, q⟩
theorem g_tp {is : List Nat} {es : List Expr} {k : Nat} (hc : X.calm = true) (h : PGs X es (gAll is)) (hn : (assignEach es X.env).length = is.length := by rfl) (hst : (assignEach es X.env).findIdx? (·.1) = none := by rfl) : PG X (.Tuple es k pos) (tgR X.K (.tp is)) :=
  PG.imp (pg_tup hc h hn hst) fun v σ H Q ⟨a, vs, e, h1, h2, q⟩ => ⟨a, vs, e, h1, h2, h2, q⟩
end
theorem tg_in {K : PySem.W.Frag} {E : XK} {T : Tg} {ρ : Rn} {M : Mem} {H : Hp} {env : Ev} {σ : L2.St} {w : Wv} {v : V} {β : Type} {k : Ev → Mem → R β} {P : β → Mem → Rn → Hp → Prop} {Q : L2.St → Hp → Prop} (rl : Rl K ρ M H) (re : RE K ρ H env σ) (rv : RV K ρ H w v) (f : Fin K ρ H P E ((T.set w env M).bind k))
    (q : ∀ env1 σ1, RE K ρ H env1 σ1 → Fin K ρ H P E (k env1 M) → (∀ vs, (∀ i ∈ T.slots, i ∈ vs) → wipe σ1 vs = wipe σ vs) → Q σ1 H) : tgR K T v σ H Q := by
  have ws : ∀ (is : List Nat) (us : List V) (σ : L2.St) (vs : List Nat), (∀ i ∈ is, i ∈ vs) → wipe (setAll σ is us) vs = wipe σ vs := by
    have one : ∀ (vs : List Nat) (σ : L2.St) (i : Nat) (u : V), i ∈ vs → wipe (σ.set i (some u)) vs = wipe σ vs := by
      intro vs
      induction vs with
      | nil => intro σ i u h; cases h
      | cons x xs ih =>
        intro σ i u h
        unfold wipe
        by_cases hx : i ∈ xs
        · rw [ih σ i u hx]
        · have e : i = x := (List.mem_cons.mp h).resolve_right hx
          subst e
          have gen : ∀ (ys : List Nat) (τ : L2.St), (wipe (τ.set i (some u)) ys).set i none = (wipe τ ys).set i none := by
            intro ys
            induction ys with
            | nil => intro τ; simp [wipe]
            | cons y ys ih2 =>
              intro τ
              unfold wipe
              by_cases hy : y = i
              · subst hy; rw [List.set_set, List.set_set]; exact ih2 τ
              · rw [List.set_comm _ _ hy, List.set_comm _ _ hy, ih2 τ]
          exact gen xs σ
    intro is
    induction is with
    | nil => intro us σ vs _; cases us <;> rfl
    | cons i is ih =>
      intro us σ vs h
      cases us with
      | nil => rfl
      | cons u us =>
        show wipe (setAll (σ.set i (some u)) is us) vs = _
        rw [ih us _ vs fun j hj => h j (List.mem_cons_of_mem _ hj), one vs σ i u (h i List.mem_cons_self)]
  cases T with
  | nm i => exact q _ _ (re.set rv) f fun vs h => ws [i] [v] σ vs h
  | tp is =>
    have f : Fin K ρ H P E ((match sqOf M w with | some (.t xs) => (if xs.length = is.length then R.ok (setAll env is xs) M else .no) | _ => .no : R Ev).bind k) := f
    cases e : sqOf M w with
    | none => rw [e] at f; exact f.elim
    | some s =>
      cases s with
      | l xs => rw [e] at f; exact f.elim
      | t xs =>
        rw [e] at f
        have f : Fin K ρ H P E ((if xs.length = is.length then R.ok (setAll env is xs) M else .no : R Ev).bind k) := f
        by_cases hl : xs.length = is.length
        · rw [if_pos hl] at f
          obtain ⟨a, vs, rfl, h1, h2⟩ := sq_t_of e rv
          exact ⟨a, vs, rfl, h1, by rw [← h2.length]; exact hl, q _ _ (re_all is re h2) f fun vs' h => ws is vs σ vs' h⟩
        · rw [if_neg hl] at f; exact f.elim

/-! ### what loops walk -/
/-- the iterator J gives just ws, whatever else happens -/
structure ItOk (K : PySem.W.Frag) (J : It) (ws : List Wv) (ρ : Rn) (H : Hp) : Prop where
  go : ∀ ρ' H', Mv ρ H ρ' H' → ∀ i, i < ws.length → J.go i H'
  yld : ∀ ρ' H', Mv ρ H ρ' H' → ∀ (i : Nat) x H2 w, ws[i]? = some w → J.yld i H' x H2 → Gr ρ' H' ρ' H2 ∧ ∀ M, Rl K ρ' M H' → Rl K ρ' M H2 ∧ RV K ρ' H2 w x
  stop : ∀ ρ' H', Mv ρ H ρ' H' → J.stop ws.length H'
abbrev Mi' := Ev → Mem → R (List Wv)
def ti (K : PySem.W.Frag) (E : XK) (m : Mi') : TI := fun σ H R => ∃ ρ M env, Rl K ρ M H ∧ RE K ρ H env σ ∧ Fin K ρ H (fun ws _ ρ' H' => ∀ J, ItOk K J ws ρ' H' → R J H') E (m env M)
theorem PI.imp {X : Cx} {tg e : Expr} {t t' : TI} (h : PI X tg e t) (k : ∀ σ H R, t' σ H R → t σ H R) : PI X tg e t' := ⟨fun pins s σ H R I q => h.run pins s σ H R I (k σ H R q)⟩
section
variable {X : Cx} {E : XK} {tg l a b : Expr} {ml ma mb : Me} {p pos : Pos}
/-- a list or tuple that nobody changes -/
def mSeqI (a : Me) : Mi' := fun env M => (a env M).bind fun w M1 => match w with
  | .lst xs => .ok xs M1
  | .rdl xs => .ok xs M1
  | .tup xs => .ok xs M1
  | _ => .no
def iSeq (K : PySem.W.Frag) (tl : TE) : TI := fun σ H R => tl σ H fun x H1 => ∃ a, x = .ref a ∧ (((∃ xs, SqL K H1 a xs) ∧ R (Itl K a) H1) ∨ ((∃ xs, SqT K H1 a xs) ∧ R (Itt K a) H1))
theorem pi_seq {tl : TE} (hl : PE X l tl) : PI X tg l (iSeq X.K tl) := by
  refine ⟨fun pins s σ H R I h => thn (hl.run pins s σ H _ I h) fun v s1 ⟨x, H1, I1, rx, a, ex, q⟩ => ?_⟩
  subst ex
  cases rx
  have new : ∀ b ∈ [s1.heap.objs.size], FpOk X pins H1 b := fun b hb => by
    rw [List.mem_singleton.mp hb]
    exact I1.fpOk (Nat.le_refl _) (I1.hok.fresh (Nat.le_refl _))
  rcases q with ⟨⟨xs, hq⟩, q⟩ | ⟨⟨xs, hq⟩, q⟩
  · obtain ⟨its, _, pl, _⟩ := I1.list hq
    exact wpAny_pyIter_list pl.isList ⟨_, [s1.heap.objs.size], _, _, H1, rfl, I1.kept (t' := s1.toks) fun b o z => Heap.get?_push_of_some _ z, turn_list a _, ⟨_, Heap.get?_push_size _ rfl, rfl, rfl⟩, new, q⟩
  · obtain ⟨its, _, pl, _⟩ := I1.tuple hq
    exact wpAny_pyIter_tuple pl ⟨_, [s1.heap.objs.size], _, _, H1, rfl, I1.kept (t' := s1.toks) fun b o z => Heap.get?_push_of_some _ z, turn_tuple a _, ⟨_, Heap.get?_push_size _ rfl, rfl, rfl⟩, new, q⟩
theorem it_l {K : PySem.W.Frag} {ρ : Rn} {H : Hp} {a : Addr} {vs : List V} {ws : List Wv} (h : ∀ ρ' H', Mv ρ H ρ' H' → SqL K H' a vs) (r : RVs K ρ H ws vs) : ItOk K (Itl K a) ws ρ H :=
  ⟨fun ρ' H' g i hi => walk_list.goes i H' (by rw [← r.length]; exact hi) (h ρ' H' g), fun ρ' H' g i x H2 w hw y => by
    obtain ⟨rfl, hx⟩ := walk_list.yields i H' x H2 (by rw [← r.length]; exact (List.getElem?_eq_some_iff.mp hw).1) (h ρ' H' g) y
    obtain ⟨v, h1, h2⟩ := (RVs.move g ws r).get hw
    have e : x = v := Option.some.inj (hx.symm.trans h1)
    subst e
    exact ⟨Gr.refl _ _, fun _ z => ⟨z, h2⟩⟩, fun ρ' H' g => by rw [r.length]; exact walk_list.stops H' (h ρ' H' g)⟩
theorem it_t {K : PySem.W.Frag} {ρ : Rn} {H : Hp} {a : Addr} {vs : List V} {ws : List Wv} (h : ∀ ρ' H', Mv ρ H ρ' H' → SqT K H' a vs) (r : RVs K ρ H ws vs) : ItOk K (Itt K a) ws ρ H :=
  ⟨fun ρ' H' g i hi => walk_tup.goes i H' (by rw [← r.length]; exact hi) (h ρ' H' g), fun ρ' H' g i x H2 w hw y => by
    obtain ⟨rfl, hx⟩ := walk_tup.yields i H' x H2 (by rw [← r.length]; exact (List.getElem?_eq_some_iff.mp hw).1) (h ρ' H' g) y
    obtain ⟨v, h1, h2⟩ := (RVs.move g ws r).get hw
    have e : x = v := Option.some.inj (hx.symm.trans h1)
    subst e
    exact ⟨Gr.refl _ _, fun _ z => ⟨z, h2⟩⟩, fun ρ' H' g => by rw [r.length]; exact walk_tup.stops H' (h ρ' H' g)⟩
theorem i_seq (hl : PE X l (te X.K E ml)) : PI X tg l (ti X.K E (mSeqI ml)) := PI.imp (pi_seq hl) fun σ H R ⟨ρ, M, env, rl, re, f⟩ => te_then rl re f fun w M1 ρ1 H1 v g1 rl1 re1 rv1 f1 => by
  cases w with
  | lst xs =>
    obtain ⟨a, vs, rfl, h, r⟩ := rv1
    exact ⟨a, rfl, .inl ⟨⟨vs, SqL.of h.1⟩, f1.here rl1 _ (it_l (fun ρ' H' g => SqL.of (g.go _ _ h).1) r)⟩⟩
  | rdl xs =>
    obtain ⟨a, vs, rfl, h, r⟩ := rv1
    exact ⟨a, rfl, .inl ⟨⟨vs, sq_l h⟩, f1.here rl1 _ (it_l (fun ρ' H' g => sq_l (h.imp g.rd id)) r)⟩⟩
  | tup xs =>
    obtain ⟨a, vs, rfl, h, r⟩ := rv1
    exact ⟨a, rfl, .inr ⟨⟨vs, sq_t h⟩, f1.here rl1 _ (it_t (fun ρ' H' g => sq_t (g.go _ _ h)) r)⟩⟩
  | _ => exact f1.elim
/-- range -/
def rng (lo : Int) (n : Nat) : List Wv := (List.range n).map fun i => Wv.int (lo + (i : Nat))
def mRng1 (a : Me) : Mi' := fun env M => (a env M).bind fun w M1 => match w with
  | .int j => if -1000000 ≤ j ∧ j ≤ 1000000 then .ok (rng 0 j.toNat) M1 else .no
  | _ => .no
def mRng2 (a b : Me) : Mi' := fun env M => (a env M).bind fun u M1 => (b env M1).bind fun w M2 => match u, w with
  | .int i, .int j => if -1000000 ≤ i ∧ i ≤ 1000000 ∧ -1000000 ≤ j ∧ j ≤ 1000000 then .ok (rng i (j - i).toNat) M2 else .no
  | _, _ => .no
theorem it_r {K : PySem.W.Frag} {ρ : Rn} {H : Hp} {lo : Int} {n : Nat} : ItOk K (Itr lo n) (rng lo n) ρ H := by
  have hl : (rng lo n).length = n := by simp [rng]
  refine ⟨fun ρ' H' g i hi => by rw [hl] at hi; exact hi, fun ρ' H' g i x H2 w hw y => ?_, fun ρ' H' g => by rw [hl]; exact Nat.le_refl _⟩
  obtain ⟨rfl, rfl⟩ := y
  have e : Wv.int (lo + (i : Nat)) = w := by
    unfold rng at hw
    rw [List.getElem?_map] at hw
    obtain ⟨j, h1, h2⟩ := Option.map_eq_some_iff.mp hw
    obtain ⟨h3, h4⟩ := List.getElem?_eq_some_iff.mp h1
    rw [List.getElem_range] at h4
    subst h4
    exact h2
  subst e
  exact ⟨Gr.refl _ _, fun _ z => ⟨z, rfl⟩⟩
theorem i_rng1 (hm : X.mg "range" = none) (ha : PE X a (te X.K E ma)) (hg : Gl X "range" := by rfl) (hs : starEach [a] X.env = [(false, eval a X.env)] := by rfl) : PI X tg (.Call (.Name "range" p) [a] [] pos) (ti X.K E (mRng1 ma)) :=
  PI.imp (pi_range1 hg hm (pa_cons ha pa_nil hs) hs) fun σ H R ⟨ρ, M, env, rl, re, f⟩ => te_then rl re f fun w M1 ρ1 H1 v g1 rl1 re1 rv1 f1 => by
    cases w with
    | int j =>
      obtain ⟨h0, f1⟩ := pick f1
      cases rv1
      exact ⟨j, rfl, by omega, by omega, f1.here rl1 _ it_r⟩
    | _ => exact f1.elim
theorem i_rng2 (hm : X.mg "range" = none) (ha : PE X a (te X.K E ma)) (hb : PE X b (te X.K E mb)) (hg : Gl X "range" := by rfl) (hs : starEach [a, b] X.env = [(false, eval a X.env), (false, eval b X.env)] := by rfl) (hs2 : starEach [b] X.env = [(false, eval b X.env)] := by rfl) : PI X tg (.Call (.Name "range" p) [a, b] [] pos) (ti X.K E (mRng2 ma mb)) :=
  PI.imp (pi_range2 hg hm (pa_cons ha (pa_cons hb pa_nil hs2) (hs.trans (by rw [hs2]))) hs hs2) fun σ H R ⟨ρ, M, env, rl, re, f⟩ => te_then rl re f fun u M1 ρ1 H1 x g1 rl1 re1 rv1 f1 => te_then rl1 re1 f1 fun w M2 ρ2 H2 y g2 rl2 re2 rv2 f2 => by
    cases u <;> cases w <;> first | exact f2.elim | skip
    obtain ⟨h0, f2⟩ := pick f2
    cases rv1
    cases rv2
    exact ⟨_, _, rfl, ⟨by omega, by omega, by omega, by omega⟩, f2.here rl2 _ it_r⟩
end

/-! ### for, while -/
def forW (T : Tg) (b : Ms) : List Wv → Ms
  | [], env, M => .ok (.nx env) M
  | w :: ws, env, M => (T.set w env M).bind fun env1 M1 => (b env1 M1).bind fun fl M2 => match fl with
    | .nx env2 => forW T b ws env2 M2
    | .ct env2 => forW T b ws env2 M2
    | .bk env2 => .ok (.nx env2) M2
    | .ret v => .ok (.ret v) M2
def sFor (T : Tg) (m : Mi') (b : Ms) : Ms := fun env M => (m env M).bind fun ws M1 => forW T b ws env M1
def whileW (t : Mt) (b : Ms) : Nat → Ms
  | 0, _, _ => .no
  | n + 1, env, M => (t env M).bind fun c M1 => if c = true then (b env M1).bind fun fl M2 => match fl with
      | .nx env2 => whileW t b n env2 M2
      | .ct env2 => whileW t b n env2 M2
      | .bk env2 => .ok (.nx env2) M2
      | .ret v => .ok (.ret v) M2
    else .ok (.nx env) M1
section
variable {X : Cx} {E : XK} {tg iter c : Expr} {body : List Stmt} {T : Tg} {mi : Mi'} {b : Ms} {t : Mt} {pos : Pos}
theorem s_for (hp : PassesOwn (model X.prog X.w) X.A X.env X.xe) (hc : X.calm = true) (hi : PI X tg iter (ti X.K E mi)) (hg : PG X tg (tgR X.K T)) (hb : PSs X body (ts X.K E b)) (hs : ∀ x, foldedSetIterable iter X.env x = pure x := by intro _; rfl) :
    PS X (.For tg iter body [] pos) (ts X.K E (sFor T mi b)) := PS.imp (ps_for hp hc hi hg hb hs) fun D σ H ⟨ρ, M, env, rl, re, f⟩ => by
  refine ⟨ρ, M, env, rl, re, f.bind.imp fun ws M1 ρ1 H1 g1 rl1 f1 J hJ => ?_⟩
  refine ⟨fun i m σ' H' => m = ws.length - i ∧ i ≤ ws.length ∧ ∃ ρ' M' env', Gr ρ1 H1 ρ' H' ∧ Rl X.K ρ' M' H' ∧ RE X.K ρ' H' env' σ' ∧ Fin X.K ρ' H' (PF X.K D) E (forW T b (ws.drop i) env' M'), ⟨ws.length, by simp, Nat.zero_le _, ρ1, M1, env, Gr.refl _ _, rl1, re.mono g1, f1⟩, ?_⟩
  rintro i m σ' H' ⟨rfl, hi, ρ', M', env', g', rl', re', f'⟩
  by_cases hlt : i < ws.length
  · refine .inr ⟨hJ.go ρ' H' g'.mv i hlt, fun σ2 H2 => ∃ ρ2 M2 env2, Gr ρ1 H1 ρ2 H2 ∧ Rl X.K ρ2 M2 H2 ∧ RE X.K ρ2 H2 env2 σ2 ∧ Fin X.K ρ2 H2 (PF X.K D) E (forW T b (ws.drop (i + 1)) env2 M2), fun σ2 H2 z => ⟨ws.length - (i + 1), by omega, rfl, hlt, z⟩, fun x H2 y => ?_⟩
    obtain ⟨g2, k2⟩ := hJ.yld ρ' H' g'.mv i x H2 ws[i] (List.getElem?_eq_getElem hlt) y
    obtain ⟨k2, rv2⟩ := k2 M' rl'
    rw [List.drop_eq_getElem_cons hlt] at f'
    refine tg_in k2 (re'.mono g2) rv2 (Fin.from g2 f') fun env3 σ3 re3 f3 _ => ?_
    refine ⟨ρ', M', env3, k2, re3, f3.bind.imp fun fl M4 ρ4 H4 g4 rl4 f4 => ?_⟩
    cases fl with
    | nx env4 => exact fun σ4 re4 => ⟨ρ4, M4, env4, (g'.trans g2).trans g4, rl4, re4, f4⟩
    | ct env4 => exact fun σ4 re4 => ⟨ρ4, M4, env4, (g'.trans g2).trans g4, rl4, re4, f4⟩
    | bk env4 => exact fun σ4 re4 => f4.here rl4 σ4 re4
    | ret w => exact f4.here rl4
  · have e : i = ws.length := by omega
    subst e
    rw [List.drop_length] at f'
    exact .inl ⟨hJ.stop ρ' H' g'.mv, f'.here rl' σ' re'⟩
theorem s_while (n : Nat) (hp : PassesOwn (model X.prog X.w) X.A X.env X.xe) (hc : PT X c (tt X.K E t)) (hb : PSs X body (ts X.K E b)) : PS X (.While c body [] pos) (ts X.K E (whileW t b n)) := PS.imp (ps_while hp hc hb) fun D σ H h => by
  refine ⟨fun m σ H => ts X.K E (whileW t b m) D σ H, ⟨n, h⟩, fun m σ H ⟨ρ, M, env, rl, re, f⟩ => ?_⟩
  cases m with
  | zero => exact f.elim
  | succ m =>
    refine tt_then rl re f fun c M1 ρ1 H1 g1 rl1 re1 f1 => ?_
    cases c with
    | false => exact f1.here rl1 _ re1
    | true =>
      refine ⟨fun σ' H' => ts X.K E (whileW t b m) D σ' H', fun σ' H' z => ⟨m, Nat.lt_succ_self _, z⟩, ?_⟩
      refine ⟨ρ1, M1, env, rl1, re1, f1.bind.imp fun fl M2 ρ2 H2 g2 rl2 f2 => ?_⟩
      cases fl with
      | nx env2 => exact fun σ2 re2 => ⟨ρ2, M2, env2, rl2, re2, f2⟩
      | ct env2 => exact fun σ2 re2 => ⟨ρ2, M2, env2, rl2, re2, f2⟩
      | bk env2 => exact fun σ2 re2 => f2.here rl2 σ2 re2
      | ret w => exact f2.here rl2
end
end Mi

namespace Mi
open PySem PySem.Spec PyProof.Rows L2

/-! ### comprehensions: the new list is locked while it is made -/
def Rn.lock (ρ : Rn) (D : Addr) : Rn := ⟨ρ.l, D :: ρ.f⟩
section
variable {K : PySem.W.Frag} {ρ ρ' : Rn} {M : Mem} {H H' : Hp} {D : Addr} {o : HO}
theorem RO.move (g : Mv ρ H ρ' H') {a : Addr} (ha : H' a = H a) {b : Ob} (h : RO K ρ H a b) : RO K ρ' H' a b := by
  cases b with
  | lst ws =>
    obtain ⟨vs, h1, h2⟩ := h
    exact ⟨vs, by rw [ha]; exact h1, RVs.move g ws h2⟩
  | dct ks ws =>
    obtain ⟨kvs, h1, e, h2⟩ := h
    exact ⟨kvs, by rw [ha]; exact h1, e, RVs.move g ws h2⟩
  | dtt ks ws =>
    obtain ⟨kvs, h1, e, h2⟩ := h
    exact ⟨kvs, by rw [ha]; exact h1, e, RVs.move g ws h2⟩
  | ins C ns ws =>
    obtain ⟨D, dx, fs, c, h1, e, h2⟩ := h
    exact ⟨D, dx, fs, c, by rw [ha]; exact h1, e, RVs.move g ws h2⟩
theorem mv_lock (h : H D = none) : Mv ρ H (ρ.lock D) (upd H D o) := ⟨fun a u ⟨h1, h2⟩ => by
  have ne := ne_of_none h1 h
  refine ⟨by rw [upd_ne ne]; exact h1, h2.1, fun z => ?_⟩
  rcases List.mem_cons.mp z with z | z
  · exact ne z
  · exact h2.2 z, fun _ _ h => h⟩
theorem mv_turn (hD : D ∈ ρ.f) : Mv ρ H ρ (upd H D o) := ⟨fun a u ⟨h1, h2⟩ => ⟨by rw [upd_ne (fun z => h2.2 (by rw [z]; exact hD))]; exact h1, h2⟩, fun _ _ h => h⟩
theorem rl_lock (rl : Rl K ρ M H) (h : H D = none) (ho : noTup o = true := by rfl) : Rl K (ρ.lock D) M (upd H D o) := by
  refine ⟨rl.nd, rl.len, fun n b e => ?_, fun a ha => ?_⟩
  · obtain ⟨a, h1, h2⟩ := rl.ob n b e
    refine ⟨a, h1, RO.move (mv_lock h) (upd_ne fun z => ?_) h2⟩
    subst z
    exact (rl.out h).1 (List.mem_of_getElem? h1)
  · rcases List.mem_cons.mp ha with z | z
    · subst z
      exact ⟨(rl.out h).1, _, upd_same, ho⟩
    · obtain ⟨h1, u, h2, h3⟩ := rl.fs a z
      exact ⟨h1, u, by rw [upd_ne (ne_of_none h2 h)]; exact h2, h3⟩
theorem rl_turn (rl : Rl K ρ M H) (hD : D ∈ ρ.f) (ho : noTup o = true := by rfl) : Rl K ρ M (upd H D o) := by
  refine ⟨rl.nd, rl.len, fun n b e => ?_, fun a ha => ?_⟩
  · obtain ⟨a, h1, h2⟩ := rl.ob n b e
    refine ⟨a, h1, RO.move (mv_turn hD) (upd_ne fun z => ?_) h2⟩
    subst z
    exact (rl.fs a hD).1 (List.mem_of_getElem? h1)
  · obtain ⟨h1, u, h2, h3⟩ := rl.fs a ha
    by_cases z : a = D
    · subst z
      exact ⟨h1, _, upd_same, ho⟩
    · exact ⟨h1, u, by rw [upd_ne z]; exact h2, h3⟩
end
def noX {α : Type} (r : R α) : R α := match r with
  | .ok a M => .ok a M
  | _ => .no
def wipeE (e : Ev) : List Nat → Ev
  | [] => e
  | v :: vs => (wipeE e vs).set v none
theorem re_wipe {K : PySem.W.Frag} {ρ : Rn} {H : Hp} {env : Ev} {σ : L2.St} (r : RE K ρ H env σ) : ∀ vs, RE K ρ H (wipeE env vs) (wipe σ vs)
  | [] => r
  | v :: vs => by
    have ih := re_wipe r vs
    refine ⟨by unfold wipeE wipe; rw [List.length_set, List.length_set]; exact ih.1, fun i w e => ?_⟩
    unfold wipeE at e
    unfold wipe
    by_cases hv : v = i
    · subst hv
      rw [List.getElem?_set] at e
      split at e
      · split at e <;> cases e
      · rename_i q; exact absurd rfl q
    · rw [List.getElem?_set_ne hv] at e ⊢
      exact ih.2 i w e
def lcW (T : Tg) (t : Mt) (e : Me) (env : Ev) : List Wv → List Wv → Mem → R Wv
  | [], acc, M => .ok (.lst acc) M
  | w :: ws, acc, M => (noX (T.set w env M)).bind fun env1 M1 => (noX (t env1 M1)).bind fun c M2 =>
    if c = true then (noX (e env1 M2)).bind fun x M3 => if acc.length < lim then lcW T t e env ws (acc ++ [x]) M3 else .no
    else lcW T t e env ws acc M2
def mLc (vs : List Nat) (T : Tg) (m : Mi') (t : Mt) (e : Me) : Me := fun env M => (m env M).bind fun ws M1 => lcW T t e (wipeE env vs) ws [] M1
def mtYes : Mt := fun _ M => .ok true M
theorem fin_noX {α β : Type} {K : PySem.W.Frag} {ρ ρ' : Rn} {H H' : Hp} {P : β → Mem → Rn → Hp → Prop} {E E' : XK} {r : R α} {k : α → Mem → R β} (h : Fin K ρ H P E ((noX r).bind k)) : Fin K ρ' H' (fun a M _ _ => Fin K ρ H P E (k a M)) E' r := by
  cases r with
  | ok a M => exact fun _ _ _ _ => h
  | exc x M => exact h.elim
  | no => exact h.elim
/-- from a state with the lock to the one without -/
structure Lk (D : Addr) (ρ : Rn) (H : Hp) (ρ' : Rn) (H' : Hp) : Prop where
  f : ρ'.f = D :: ρ.f
  pre : ∃ t, ρ'.l = ρ.l ++ t
  keep : ∀ a o, a ∉ ρ.l → H a = some o → H' a = some o
  new : ∀ a, a ∈ ρ'.l → a ∈ ρ.l ∨ H a = none
theorem Lk.on {D : Addr} {ρ ρ1 ρ2 : Rn} {H H1 H2 : Hp} (a : Lk D ρ H ρ1 H1) (b : Gr ρ1 H1 ρ2 H2) : Lk D ρ H ρ2 H2 := by
  have hl : ∀ x o, x ∉ ρ.l → H x = some o → x ∉ ρ1.l := fun x o h e z => (a.new x z).elim h fun q => by rw [e] at q; cases q
  refine ⟨b.same.trans a.f, ?_, fun x o h e => b.keep x o (hl x o h e) (a.keep x o h e), fun x h => ?_⟩
  · obtain ⟨t, e1⟩ := a.pre
    obtain ⟨u, e2⟩ := b.pre
    exact ⟨t ++ u, by rw [e2, e1, List.append_assoc]⟩
  · rcases b.new x h with q | q
    · exact a.new x q
    · by_cases hx : x ∈ ρ.l
      · exact .inl hx
      · refine .inr ?_
        cases e : H x with
        | none => rfl
        | some o => rw [a.keep x o hx e] at q; cases q
theorem Lk.turn {D : Addr} {ρ ρ1 : Rn} {H H1 : Hp} {o : HO} (hD : H D = none) (a : Lk D ρ H ρ1 H1) : Lk D ρ H ρ1 (upd H1 D o) :=
  ⟨a.f, a.pre, fun x u h e => by rw [upd_ne (ne_of_none e hD)]; exact a.keep x u h e, a.new⟩
theorem Lk.mv {D : Addr} {ρ ρ1 : Rn} {H H1 : Hp} (hD : H D = none) (a : Lk D ρ H ρ1 H1) : Mv ρ H ρ1 H1 := by
  refine ⟨fun x u ⟨h1, h2⟩ => ⟨a.keep x u h2.1 h1, fun z => ?_, fun z => ?_⟩, fun n x h => ?_⟩
  · rcases a.new x z with q | q
    · exact h2.1 q
    · rw [h1] at q; cases q
  · rw [a.f] at z
    rcases List.mem_cons.mp z with q | q
    · rw [q, hD] at h1; cases h1
    · exact h2.2 q
  · obtain ⟨t, e⟩ := a.pre
    rw [e, List.getElem?_append_left (List.getElem?_eq_some_iff.mp h).1]
    exact h
theorem Lk.off {D : Addr} {ρ ρ1 : Rn} {H H1 : Hp} (a : Lk D ρ H ρ1 H1) : Gr ρ H ⟨ρ1.l, ρ.f⟩ H1 := ⟨a.pre, rfl, a.keep, a.new⟩
section
variable {X : Cx} {E : XK} {elt tg iter : Expr} {ifs : List Expr} {scope : Scope} {own : List (Str × Nat)} {pos spos : Pos} {T : Tg} {mi : Mi'} {mt : Mt} {me : Me} {vs : List Nat}
theorem lc_in {K : PySem.W.Frag} {σ : L2.St} {H : Hp} {Q : VK} (hT : ∀ i ∈ T.slots, i ∈ vs) (h : te K E (mLc vs T mi mt me) σ H Q) : tLc (ti K E mi) (tgR K T) (tt K E0 mt) (te K E0 me) vs σ H Q := by
  obtain ⟨ρ, M, env, rl, re, f⟩ := h
  refine ⟨ρ, M, env, rl, re, f.bind.imp fun ws M1 ρ1 H1 g1 rl1 f1 J hJ D hD => ?_⟩
  refine ⟨fun i m H' => m = ws.length - i ∧ i ≤ ws.length ∧ ∃ ρ' M' acc us, Lk D ρ1 H1 ρ' H' ∧ Rl K ρ' M' H' ∧ H' D = some (.lst us) ∧ RVs K ρ' H' acc us ∧ RE K ρ' H' (wipeE env vs) (wipe σ vs) ∧ Fin K ρ1 H1 (PV K Q) E (lcW T mt me (wipeE env vs) (ws.drop i) acc M'),
    ⟨ws.length, by simp, Nat.zero_le _, ρ1.lock D, M1, [], [], ⟨rfl, ⟨[], by simp [Rn.lock]⟩, fun a o _ e => by rw [upd_ne (ne_of_none e hD)]; exact e, fun a z => .inl z⟩, rl_lock rl1 hD, upd_same, rfl, (re_wipe (re.mono g1) vs).move (mv_lock hD), f1⟩, ?_⟩
  rintro i m H' ⟨rfl, hi, ρ', M', acc, us, lk, rl', hu, rv', re', f'⟩
  have hDf : D ∈ ρ'.f := by rw [lk.f]; exact List.mem_cons_self
  by_cases hlt : i < ws.length
  · refine .inr ⟨hJ.go ρ' H' (lk.mv hD) i hlt, fun H2 => ∃ ρ2 M2 acc us, Lk D ρ1 H1 ρ2 H2 ∧ Rl K ρ2 M2 H2 ∧ H2 D = some (.lst us) ∧ RVs K ρ2 H2 acc us ∧ RE K ρ2 H2 (wipeE env vs) (wipe σ vs) ∧ Fin K ρ1 H1 (PV K Q) E (lcW T mt me (wipeE env vs) (ws.drop (i + 1)) acc M2),
      fun H2 z => ⟨ws.length - (i + 1), by omega, rfl, hlt, z⟩, fun x H2 y => ?_⟩
    obtain ⟨g2, k2⟩ := hJ.yld ρ' H' (lk.mv hD) i x H2 ws[i] (List.getElem?_eq_getElem hlt) y
    obtain ⟨k2, rv2⟩ := k2 M' rl'
    rw [List.drop_eq_getElem_cons hlt] at f'
    have wi : wipe (wipe σ vs) vs = wipe σ vs := by
      have one : ∀ (xs : List Nat) (τ : L2.St) (i : Nat), i ∈ xs → (wipe τ xs).set i none = wipe τ xs := by
        intro xs
        induction xs with
        | nil => intro τ i h; cases h
        | cons x xs ih =>
          intro τ i h
          unfold wipe
          by_cases hx : i = x
          · subst hx; rw [List.set_set]
          · rw [List.set_comm _ _ (Ne.symm hx), ih τ i ((List.mem_cons.mp h).resolve_left hx)]
      have sub : ∀ (xs : List Nat), (∀ i ∈ xs, i ∈ vs) → wipe (wipe σ vs) xs = wipe σ vs := by
        intro xs
        induction xs with
        | nil => intro _; rfl
        | cons x xs ih =>
          intro h
          show (wipe (wipe σ vs) xs).set x none = _
          rw [ih fun j hj => h j (List.mem_cons_of_mem _ hj)]
          exact one vs σ x (h x List.mem_cons_self)
      exact sub vs fun _ h => h
    refine tg_in (E := E0) (β := Ev) (P := fun env1 M2 _ _ => Fin K ρ1 H1 (PV K Q) E ((noX (mt env1 M2)).bind fun c M2 => if c = true then (noX (me env1 M2)).bind fun x M3 => if acc.length < lim then lcW T mt me (wipeE env vs) (ws.drop (i + 1)) (acc ++ [x]) M3 else .no else lcW T mt me (wipeE env vs) (ws.drop (i + 1)) acc M2)) (k := fun e M => .ok e M)
      k2 (re'.mono g2) rv2 ?_ fun env3 σ3 re3 f3 hw => ?_
    · have z := fin_noX (ρ' := ρ') (H' := H2) (E' := E0) f'
      have f' : Fin K ρ1 H1 (PV K Q) E ((noX (T.set ws[i] (wipeE env vs) M')).bind fun env1 M1 => (noX (mt env1 M1)).bind fun c M2 => if c = true then (noX (me env1 M2)).bind fun x M3 => if acc.length < lim then lcW T mt me (wipeE env vs) (ws.drop (i + 1)) (acc ++ [x]) M3 else .no else lcW T mt me (wipeE env vs) (ws.drop (i + 1)) acc M2) := f'
      cases q : T.set ws[i] (wipeE env vs) M' with
      | ok a M => rw [q] at z; exact fun ρ3 H3 g3 rl3 => z ρ3 H3 g3 rl3
      | exc a M => rw [q] at f'; exact f'.elim
      | no => rw [q] at f'; exact f'.elim
    have f3 := f3.here k2
    refine ⟨(hw vs hT).trans wi, ρ', M', env3, k2, re3, (fin_noX f3).imp fun c M4 ρ4 H4 g4 rl4 f4 => ?_⟩
    have gg := g2.trans g4
    have lk4 := lk.on gg
    have hu4 : H4 D = some (.lst us) := gg.keep D _ (rl'.fs D hDf).1 hu
    have rv4 := RVs.mono gg acc rv'
    have re4 := re'.mono gg
    cases c with
    | false => exact ⟨ρ4, M4, acc, us, lk4, rl4, hu4, rv4, re4, f4⟩
    | true =>
      have f4 : Fin K ρ1 H1 (PV K Q) E ((noX (me env3 M4)).bind fun x M3 => if acc.length < lim then lcW T mt me (wipeE env vs) (ws.drop (i + 1)) (acc ++ [x]) M3 else .no) := f4
      refine ⟨ρ4, M4, env3, rl4, re3.mono g4, (fin_noX f4).imp fun y M5 ρ5 H5 g5 rl5 f5 v rv5 => ?_⟩
      obtain ⟨h0, f5⟩ := pick f5
      have hDf4 : D ∈ ρ4.f := by rw [lk4.f]; exact List.mem_cons_self
      have hDf5 : D ∈ ρ5.f := by rw [g5.same]; exact hDf4
      have hu5 : H5 D = some (.lst us) := g5.keep D _ (rl4.fs D hDf4).1 hu4
      refine ⟨us, hu5, by rw [← rv4.length]; exact lim_lt h0, ρ5, M5, acc ++ [y], us ++ [v], (lk4.on g5).turn hD, rl_turn rl5 hDf5, upd_same, ?_, (re4.mono g5).move (mv_turn hDf5), f5⟩
      exact RVs.move (mv_turn hDf5) _ ((RVs.mono g5 acc rv4).append ⟨v, [], rfl, rv5, rfl⟩)
  · have e : i = ws.length := by omega
    subst e
    rw [List.drop_length] at f'
    refine .inl ⟨hJ.stop ρ' H' (lk.mv hD), ?_⟩
    have off : Mv ρ' H' ⟨ρ'.l, ρ1.f⟩ H' := ⟨fun a u ⟨h1, h2⟩ => ⟨h1, h2.1, fun z => h2.2 (by rw [lk.f]; exact List.mem_cons_of_mem _ z)⟩, fun _ _ h => h⟩
    have rl2 : Rl K ⟨ρ'.l, ρ1.f⟩ M' H' := by
      refine ⟨rl'.nd, rl'.len, fun n b e => ?_, fun a ha => rl'.fs a (by rw [lk.f]; exact List.mem_cons_of_mem _ ha)⟩
      obtain ⟨a, h1, h2⟩ := rl'.ob n b e
      exact ⟨a, h1, RO.move off rfl h2⟩
    exact f' ⟨ρ'.l, ρ1.f⟩ H' lk.off rl2 _ ⟨D, us, rfl, ⟨hu, (rl'.fs D hDf).1, (rl1.out hD).2⟩, RVs.move off acc rv'⟩
theorem e_lc (hc : X.calm = true) (hN : X.N.Nodup) (hi : PI X tg iter (ti X.K E mi)) (ok : BlkOk X.N X.env.scope scope own) (hT : ∀ i ∈ T.slots, i ∈ vs)
    (hg : ∀ (s : Shared) (H : Hp) (C : Addr) (cl : List (Str × Addr)) (fp : List Addr), PG (X.blk s H scope (compEnvC scope cl C X.env) fp) tg (tgR X.K T)) (ht : ∀ (s : Shared) (H : Hp) (C : Addr) (cl : List (Str × Addr)) (fp : List Addr), PTs (X.blk s H scope (compEnvC scope cl C X.env) fp) ifs (tt X.K E0 mt))
    (he : ∀ (s : Shared) (H : Hp) (C : Addr) (cl : List (Str × Addr)) (fp : List Addr), PE (X.blk s H scope (compEnvC scope cl C X.env) fp) elt (te X.K E0 me)) (hs : ∀ x, foldedSetIterable iter X.env x = pure x := by intro _; rfl) (hv : own.map (·.2) = vs := by rfl) :
    PE X (.ListComp elt [⟨tg, iter, ifs, 0⟩] scope pos) (te X.K E (mLc vs T mi mt me)) := by
  subst hv
  exact PE.imp (pe_lc hc hN hi ok hg ht he hs) fun _ _ _ h => lc_in hT h
theorem s_setLc {i : Nat} {y : Str} {py : Pos} (hc : X.calm = true) (hN : X.N.Nodup) (hsw : swapsWith (.ListComp elt [⟨tg, iter, ifs, 0⟩] scope pos) (some (.Name y py)) spos.line X.env = pure true) (hi : PI X tg iter (ti X.K E mi)) (ok : BlkOk X.N X.env.scope scope own) (hT : ∀ i ∈ T.slots, i ∈ vs)
    (hg : ∀ (s : Shared) (H : Hp) (C : Addr) (cl : List (Str × Addr)) (fp : List Addr), PG (X.blk s H scope (compEnvC scope cl C X.env) fp) tg (tgR X.K T)) (ht : ∀ (s : Shared) (H : Hp) (C : Addr) (cl : List (Str × Addr)) (fp : List Addr), PTs (X.blk s H scope (compEnvC scope cl C X.env) fp) ifs (tt X.K E0 mt))
    (he : ∀ (s : Shared) (H : Hp) (C : Addr) (cl : List (Str × Addr)) (fp : List Addr), PE (X.blk s H scope (compEnvC scope cl C X.env) fp) elt (te X.K E0 me)) (hs : ∀ x, foldedSetIterable iter X.env x = pure x := by intro _; rfl)
    (hy : X.N[i]? = some y := by rfl) (hyl : X.env.scope.names.lookup y = some .local := by rfl) (hv : own.map (·.2) = vs := by rfl) :
    PS X (.Assign [.Name y py] (.ListComp elt [⟨tg, iter, ifs, 0⟩] scope pos) spos) (ts X.K E (sSet i (mLc vs T mi mt me))) := by
  subst hv
  refine PS.imp (ps_setLc hc hN hy hyl hsw hi ok hg ht he hs) fun D σ H ⟨ρ, M, env, rl, re, f⟩ => ?_
  refine lc_in (mi := mi) (mt := mt) (me := me) hT (te_then (m := mLc (own.map (·.2)) T mi mt me) rl re f fun w M1 ρ1 H1 v g1 rl1 re1 rv1 f1 => f1.here rl1 _ (re1.set rv1))
theorem ts_nil : PTs X [] (tt X.K E mtYes) := ⟨fun pins s σ H Q I ⟨ρ, M, env, rl, re, f⟩ => pts_nil.run pins s σ H Q I (f.here rl)⟩
theorem ts_one {c : Expr} (h : PT X c (tt X.K E mt)) : PTs X [c] (tt X.K E mt) := pts_one h
end
end Mi

namespace Mi
open PySem PySem.Spec PyProof.Rows L2

/-! ### the law's end -/
theorem rvs_ints {K : PySem.W.Frag} {ρ : Rn} {H : Hp} : ∀ ns : List Int, RVs K ρ H (ns.map Wv.int) (ns.map V.int)
  | [] => rfl
  | n :: ns => ⟨.int n, _, rfl, rfl, rvs_ints ns⟩
theorem law_in {P : Program} {w : World} {K : PySem.W.Frag} {mg mb : Str → Option Value} {k : Nat} {fa a : Addr} {fd : FuncData} {x : Str} {m : List Wv → Mem → R Wv} {s : Shared} {vs : List Value} {ns : List Int}
    (kin : K.In s.heap) (hmg : s.heap.Ns mainGlobals mg) (hmb : s.heap.Ns builtinsNs mb) (boot : ∀ y : Str, y ≠ "__name__" → mb y = bootBuiltins y) (noL : s.heap.NoLimit) (noG : s.gens = #[])
    (at_a : s.heap.get? a = some { cls := .type "list", data := .seq vs.toArray }) (hin : IntsAre vs ns) (few : ns.length ≤ sizeLine) (room : Room k callerA)
    (F : ∀ base : Heap, K.In base → base.Ns mainGlobals mg → FnG P w K mg base k fa fd [x] m) (bind : ∀ (s' : Shared) (u : Value), BindsTo s' fd ⟨[u], []⟩ [(x, u)]) (res : ∃ M, m [.rdl (ns.map Wv.int)] [] = .ok (.bl true) M) :
    codeAny (model P w) callerA (.call (.ref fa) ⟨[.ref a], []⟩) (fun r s' => r = .ok (.ret (.bool true)) ∧ OldK s.heap s'.heap ∧ s'.os = s.os ∧ AllBare s'.gens) s := by
  obtain ⟨M, res⟩ := res
  have rel := vals_ints hin
  -- what is known of the heap: the script, if the module has it not
  let H : Hp := fun b => if b = a ∧ (K.lookup a).isNone = true then some (.frz { cls := .type "list", data := .seq vs.toArray } (.lst (ns.map V.int))) else none
  have onlyA : ∀ {b u}, H b = some u → b = a ∧ (K.lookup a).isNone = true ∧ u = .frz { cls := .type "list", data := .seq vs.toArray } (.lst (ns.map V.int)) := by
    intro b u e
    by_cases hb : b = a ∧ (K.lookup a).isNone = true
    · have e : (if b = a ∧ (K.lookup a).isNone = true then some (HO.frz { cls := .type "list", data := .seq vs.toArray } (.lst (ns.map V.int))) else none) = some u := e
      rw [if_pos hb] at e
      exact ⟨hb.1, hb.2, (Option.some.inj e).symm⟩
    · have e : (if b = a ∧ (K.lookup a).isNone = true then some (HO.frz { cls := .type "list", data := .seq vs.toArray } (.lst (ns.map V.int))) else none) = some u := e
      rw [if_neg hb] at e
      cases e
  have hok : HOk P w H s.heap := by
    intro b u e
    obtain ⟨rfl, _, rfl⟩ := onlyA e
    exact ⟨at_a, by rw [List.length_map]; exact few, vs, _, rel, at_a⟩
  have below : ∀ {b o}, s.heap.get? b = some o → H b = none → (hidT s.heap H).get? b = some o := fun e n => hidT_get e n
  have ns_below : ∀ {b} {f : Str → Option Value}, s.heap.Ns b f → (hidT s.heap H).Ns b f := by
    rintro b f ⟨o, es, ep, e, d, r⟩
    refine ⟨o, es, ep, below e ?_, d, r⟩
    cases q : H b with
    | none => rfl
    | some u =>
      obtain ⟨rfl, _, _⟩ := onlyA q
      rw [at_a] at e
      cases e
      cases d
  have kin' : K.In (hidT s.heap H) := by
    intro b o e
    refine below (kin b o e) ?_
    cases q : H b with
    | none => rfl
    | some u =>
      obtain ⟨rfl, z, _⟩ := onlyA q
      rw [e] at z
      cases z
  obtain ⟨mc, lim1, lim2⟩ := noL
  have e0 : Env0 P w K mg (hidT s.heap H) callerA [] s H := {
    frames := rfl
    mod := ⟨kin', ns_below hmg, ⟨mb, ns_below hmb, boot⟩, ⟨mc, ns_below lim1, lim2⟩⟩
    bs := fun b o e => of_hidT e
    bsz := Nat.le_of_eq (hidT_size _ _)
    funs := trivial
    frf := fun b hb => by cases hb
    hok := hok
    bare := .of_eq noG }
  have rl : Rl K ⟨[], []⟩ [] H := ⟨List.nodup_nil, rfl, fun n o e => by simp at e, fun a ha => by cases ha⟩
  have rv : RVs K ⟨[], []⟩ H [.rdl (ns.map Wv.int)] [.ref a] := by
    refine ⟨.ref a, [], rfl, ⟨a, ns.map V.int, rfl, ?_, rvs_ints ns⟩, rfl⟩
    cases q : K.lookup a with
    | none => exact .inl ⟨.inr ⟨_, if_pos ⟨rfl, by rw [q]; rfl⟩⟩, by simp [Rn.no]⟩
    | some o =>
      have e := kin a o q
      rw [at_a] at e
      cases e
      exact .inr ⟨_, vs.toArray, _, q, rfl, rfl, rfl, by rw [List.size_toArray, hin.length]; exact few, by simpa using rel⟩
  refine codeAny_mono ((F _ kin' (ns_below hmg)).go callerA [] s H ⟨[.ref a], []⟩ [.ref a] [.ref a] _ ⟨[], []⟩ [] (fun v _ => v = .bl true) (fun _ _ _ => False) room rfl e0 (bind s (.ref a)) (.cons rfl .nil) rfl rl rv ?_) fun r s' h => ?_
  · rw [res]
    exact fun ρ' H' _ _ v rv => rv
  · cases r with
    | error e =>
      obtain ⟨_, _, _, _, _, _, _, _, _, _, _, _, z⟩ := h
      exact z.elim
    | ok fl =>
      cases fl with
      | ret u =>
        obtain ⟨v, H', os, bare, un, hok', rv', q⟩ := h
        have q : v = .bl true := q
        subst q
        cases rv'
        refine ⟨rfl, OldK.of_keep fun b o e => ?_, os, bare⟩
        cases hb : H b with
        | none => exact un.keep b o e hb (fun z => by cases z) (fun z => by cases z)
        | some u =>
          obtain ⟨rfl, _, rfl⟩ := onlyA hb
          obtain ⟨e1, _⟩ := hok' b _ (un.frzs b _ _ hb)
          rw [at_a] at e
          cases e
          exact e1
      | next => exact h.elim
      | brk => exact h.elim
      | cont => exact h.elim
theorem walkG {l : PySem.W.OpenLaw} {n k : Nat} {q : Program} {loose : List Str} {XP : (Str → Option Value) → Heap → Prop} {YP : World → Heap → Prop} {d : DefRec} {K : Params → PySem.W.Frag} {x : Str} (hn : l.most = some n) (hn2 : n ≤ sizeLine) (hdf : d.params.defaults = []) (room : Room k callerA)
    (hY : ∀ (w : World) (h : Heap), YP w h → (K w.params).In h)
    (F : ∀ (w : World) (mg : Str → Option Value) (fa : Addr) (h : Heap), (K w.params).In h → h.Ns mainGlobals mg → mg d.name = some (.ref fa) →
      ∃ (fd : FuncData) (m : List Wv → Mem → R Wv), (∀ (s : Shared) (u : Value), BindsTo s fd ⟨[u], []⟩ [(x, u)]) ∧ (∀ base : Heap, (K w.params).In base → base.Ns mainGlobals mg → FnG l.prog w (K w.params) mg base k fa fd [x] m) ∧
        ∀ ns : List Int, ns.length ≤ n → (∀ z ∈ ns, Builtin.Int.intBits z ≤ 1048576) → ∃ M, m [.rdl (ns.map Wv.int)] [] = .ok (.bl true) M) :
    PySem.W.WalkO q loose XP YP l.row.toRowW d [] (fun f vs => PySem.call f vs) := by
  refine Att.attach_callB hn hdf fun w s₀ s₁ mg mb fa o pm cd doc a vs ns G Y ho hd hcd hmg hobj hints hlen hbits hg => ?_
  obtain ⟨fd, m, hb, hF, hm⟩ := F w mg fa _ (hY w _ Y) G.T.g hmg
  exact law_in (hY w _ Y) G.T.g G.T.b G.T.builtins G.T.nolimit hg hobj hints (Nat.le_trans hlen hn2) room hF hb (hm ns hlen hbits)
end Mi

namespace Mi
open PySem PySem.Spec PyProof.Rows L2

/-! ### in, of flat values -/
def flatW : Wv → Bool
  | .non => true | .bl _ => true | .int _ => true | .str _ => true
  | _ => false
def eqF : Wv → Wv → Bool
  | .non, .non => true
  | .bl a, .bl b => a == b
  | .bl a, .int b => (if a then 1 else 0) == b
  | .int a, .bl b => a == (if b then 1 else 0)
  | .int a, .int b => a == b
  | .str a, .str b => a == b
  | _, _ => false
def inW (neg : Bool) (x y : Wv) (M : Mem) : R Bool := match sqOf M y with
  | some s => if flatW x && s.xs.all flatW then .ok (neg ^^ s.xs.any fun z => eqF z x) M else .no
  | none => .no
section
variable {K : PySem.W.Frag} {ρ : Rn} {H : Hp}
theorem flat_v {w : Wv} {v : V} (h : flatW w = true) (r : RV K ρ H w v) : flatV v = true ∧ (∀ {w' v'}, flatW w' = true → RV K ρ H w' v' → eqV v v' = eqF w w') := by
  cases w <;> first | cases h | skip
  all_goals (cases r; refine ⟨rfl, fun {w' v'} h' r' => ?_⟩; cases w' <;> first | cases h' | skip)
  all_goals (cases r'; rfl)
theorem flats_v : ∀ {ws : List Wv} {vs : List V}, ws.all flatW = true → RVs K ρ H ws vs → vs.all flatV = true ∧ ∀ {w v}, flatW w = true → RV K ρ H w v → inV v vs = ws.any fun z => eqF z w
  | [], _, _, r => by cases r; exact ⟨rfl, fun _ _ => rfl⟩
  | x :: xs, _, h, ⟨u, ur, e, r1, r2⟩ => by
    subst e
    rw [List.all_cons, Bool.and_eq_true] at h
    obtain ⟨h1, h2⟩ := flats_v h.2 r2
    obtain ⟨h3, h4⟩ := flat_v h.1 r1
    refine ⟨by rw [List.all_cons, h3, h1]; rfl, fun {w v} hw rw' => ?_⟩
    show (eqV u v || inV v ur) = _
    rw [List.any_cons, h4 hw rw', h2 hw rw']
end
section
variable {X : Cx} {E : XK}
theorem in_in {K : PySem.W.Frag} {neg : Bool} {x y : V} {H : Hp} {Q : VK} (h : rb K E (inW neg) x y H Q) : rIn K neg x y H Q := by
  obtain ⟨ρ, M, wx, wy, rl, rx, ry, h⟩ := h
  unfold inW at h
  cases q : sqOf M wy with
  | none => rw [q] at h; exact h.elim
  | some s =>
    rw [q] at h
    obtain ⟨h0, h⟩ := pick h
    rw [Bool.and_eq_true] at h0
    obtain ⟨a, vs, e, h1, h2⟩ : ∃ a vs, y = .ref a ∧ (SqL K H a vs ∨ SqT K H a vs) ∧ RVs K ρ H s.xs vs := by
      cases s with
      | l xs => obtain ⟨a, vs, e, h1, h2⟩ := sq_l_of rl q ry; exact ⟨a, vs, e, .inl h1, h2⟩
      | t xs => obtain ⟨a, vs, e, h1, h2⟩ := sq_t_of q ry; exact ⟨a, vs, e, .inr h1, h2⟩
    obtain ⟨h3, h4⟩ := flats_v h0.2 h2
    refine ⟨a, vs, e, h1, (flat_v h0.1 rx).1, h3, ?_⟩
    rw [h4 h0.1 rx]
    have z := h.here rl
    cases neg <;> simpa [PB] using z
theorem o_in (hu : X.A.units + 64 < cLine) : OpR X (compareOp .In) (rb X.K E (inW false)) := OpR.imp op_in_seq fun _ _ _ _ h => in_in h
theorem o_ni (hu : X.A.units + 64 < cLine) : OpR X (compareOp .NotIn) (rb X.K E (inW true)) := OpR.imp op_notIn_seq fun _ _ _ _ h => in_in h
end

/-! ### dicts of constants -/
def mDct (kws : List (Key × Wv)) : Me := fun _ M => .ok (.dct (kws.map (·.1)) (kws.map (·.2))) M
structure PDc (X : Cx) (pos : Pos) (keys : List (Option Expr)) (values : List Expr) (kws : List (Key × Wv)) : Prop where
  ex : ∃ kvs : List (Key × V), PPs X pos keys values (kvs.map fun kv => (tC (kV kv.1), tC kv.2)) ∧ kvs.map (·.1) = kws.map (·.1) ∧ ∀ ρ H, RVs X.K ρ H (kws.map (·.2)) (kvs.map (·.2))
section
variable {X : Cx} {E : XK} {pos : Pos} {keys : List (Option Expr)} {values : List Expr} {kws : List (Key × Wv)} {k v : Expr} {key : Key} {w : Wv} {u : V}
theorem p_nil : PDc X pos [] [] [] := ⟨[], pps_nil, rfl, fun _ _ => rfl⟩
theorem p_cons (hk : PE X k (tC (kV key))) (hv : PE X v (tC u)) (r : ∀ ρ H, RV X.K ρ H w u) (h : PDc X pos keys values kws) : PDc X pos (some k :: keys) (v :: values) ((key, w) :: kws) := by
  obtain ⟨kvs, h1, h2, h3⟩ := h.ex
  exact ⟨(key, u) :: kvs, pps_cons hk hv h1, by rw [List.map_cons, List.map_cons, h2], fun ρ H => ⟨u, _, rfl, r ρ H, h3 ρ H⟩⟩
theorem pairs_c {σ : L2.St} {H : Hp} : ∀ {kvs : List (Key × V)} {Q : List (V × V) → Hp → Prop}, Q (kvs.map fun kv => (kV kv.1, kv.2)) H → tPairs (kvs.map fun kv => (tC (kV kv.1), tC kv.2)) σ H Q
  | [], _, h => h
  | kv :: kvs, Q, h => pairs_c (kvs := kvs) (Q := fun r H1 => Q ((kV kv.1, kv.2) :: r) H1) h
theorem merge_new : ∀ {kvs acc : List (Key × V)}, ((acc ++ kvs).map (·.1)).Nodup → mergeK acc kvs = acc ++ kvs
  | [], acc, _ => by simp [mergeK]
  | (k, v) :: kvs, acc, h => by
    have e : putK acc k v = acc ++ [(k, v)] := by
      have nk : (acc.any fun kv => decide (kv.1 = k)) = false := by
        rw [List.any_eq_false]
        intro kv hkv z
        rw [List.map_append, List.map_cons, List.nodup_append] at h
        exact h.2.2 k (by rw [← of_decide_eq_true z]; exact List.mem_map_of_mem hkv) k List.mem_cons_self rfl
      unfold putK
      rw [nk, if_neg Bool.false_ne_true]
    show mergeK (putK acc k v) kvs = _
    rw [e, merge_new (by rw [List.append_assoc]; exact h), List.append_assoc]
    rfl
theorem e_dct (h : PDc X pos keys values kws) (nd : (kws.map (·.1)).Nodup := by decide) (hk : kws.length ≤ 15 := by decide) (h15 : keys.length ≤ 15 := by decide) (hall : keys.all (·.isSome) = true := by rfl) (hl : keys.length = values.length := by rfl) (h0 : keys ≠ [] := by exact fun z => by cases z) : PE X (.Dict keys values pos) (te X.K E (mDct kws)) := by
  obtain ⟨kvs, h1, h2, h3⟩ := h.ex
  have hlen : kvs.length ≤ 15 := by
    have e := congrArg List.length h2
    rw [List.length_map, List.length_map] at e
    omega
  refine PE.imp (pe_disp h1 hall hl h0 h15) fun σ H Q ⟨ρ, M, env, rl, re, f⟩ p hp => pairs_c ⟨upd_same, kvs, rfl, hlen, ?_⟩
  rw [upd_upd, merge_new (by simpa [h2] using nd)]
  exact f ρ _ (Gr.fresh hp) (rl.upd hp) _ ⟨p, kvs, rfl, ⟨upd_same, rl.out hp⟩, h2, h3 ρ _⟩
theorem e_dct0 : PE X (.Dict [] [] pos) (te X.K E (mDct [])) := PE.imp pe_dnewK fun σ H Q ⟨ρ, M, env, rl, re, f⟩ p hp => f ρ _ (Gr.fresh hp) (rl.upd hp) _ ⟨p, [], rfl, ⟨upd_same, rl.out hp⟩, rfl, rfl⟩
end
end Mi

namespace Mi
open PySem PySem.Spec PyProof.Rows L2 NdefX

/-- what the written part says of an exception's class C whose own __init__, F at fI, begins super().__init__(..) -/
structure XIni (P : Program) (K : PySem.W.Frag) (mg : Str → Option Value) (C fI cc : Addr) (F : NF) : Prop where
  T : OexC K C
  iC : PySem.W.findIn K (.ref C) "__init__" = some (some (.ref fI))
  tI : PySem.W.typeIn K (.ref fI) = some (.type "function")
  lk : ∃ (oc : Value) (od : Option Addr) (osl : Array (Option Value)) (dV kV doc pm ct : Value) (an : Option Addr), K.lookup fI = some ⟨oc, od, .func (PySem.W.fnX F.name F.qual F.params F.body F.scope [("__class__", cc)] dV kV doc pm an (.ref F.c) ct), osl⟩
  cl : F.cl = [(("__class__" : Str), cc)]
  cd : PySem.W.codeIn K (.ref F.c) F.qual = true
  code : ∃ (ccl : Value) (cdd : Option Addr) (vs : Array Value) (ccs : Array (Option Value)) (file : Str) (tf : Tok), K.lookup F.c = some ⟨ccl, cdd, .fields vs, ccs⟩ ∧ vs[2]? = some (.str file tf) ∧ ((P.main.file : Str) == file) = true
  cell : ∃ (cl : Value) (cld : Option Addr) (csl : Array (Option Value)), K.lookup cc = some ⟨cl, cld, .cell (some (.ref C)), csl⟩
  sup : PySem.W.ks_superIn K C C "__init__" = some (some (.builtin "ValueError.__init__"))
  sub : PySem.W.subIn K (.ref C) (.type "ValueError") = some true
  self : PySem.W.mroIn K C (.ref C) = some true
  stat : PySem.W.nsIn K cStatics "thirdparty.any" = some none
  noSup : mg "super" = none
  top : (P.main.scope.names.lookup ("super" : Str)).isSome = false
section
variable {X : Cx} {pins : List (Addr × Obj)} {σ : L2.St} {H : Hp} {s : Shared} {C fI cc a : Addr} {F : NF} {p0 p1 p2 p3 p4 p5 : Pos} {txt slf : Str} {j : Nat} {ar : Arg}
theorem clsAt_get (T : OexC X.K C) (I : Inv X pins σ H s) : ∃ cd oC, PySem.W.clsIn X.K C = some cd ∧ s.heap.get? C = some oC ∧ oC.data = .cls cd := by
  obtain ⟨nm, q, N, bs, bm, sn, sub, ab, col, dd, k0, k1, k2, k3, k5, hC, hbm⟩ := T.cls
  exact ⟨_, _, by unfold PySem.W.clsIn; rw [hC] <;> rfl, I.kIn _ _ hC, rfl⟩
theorem super_first (W : XIni X.prog X.K X.mg C fI cc F) {body : List Stmt} (he : X.env = envF F fI X.env.locals) (hk : F.scope.kind = .function) (hks : F.scope.names.lookup ("super" : Str) = some .globalImplicit) (hkc : F.scope.names.lookup ("__class__" : Str) = some .free)
    (hp : (F.params.posonlyargs ++ F.params.args).head? = some ar) (hka : F.scope.names.lookup ar.arg = some .local) (hN : X.N[0]? = some ar.arg) (hs : σ[0]? = some (some (.ref a))) (ea : H a = some (exo a C none)) (I : Inv X pins σ H s)
    {pl : Sem Bool} (hev : eval (.Call (.Attribute (.Call (.Name "super" p0) [] [] p1) "__init__" p2) [.Constant (.str txt) j p3] [] p4) X.env = (do
      let ov ← attributeBase (.Call (.Name "super" p0) [] [] p1) "__init__" X.env (eval (.Call (.Name "super" p0) [] [] p1) X.env)
      standAt p2.atName
      let (f, first) ← holding [ov] (getMethod ov "__init__" pl)
      callWith p4 f first (backTo p4 (starEach [.Constant (.str txt) j p3] X.env)) []))
    (hi : interactive X.env = false) (hsw : swapsWith (.Call (.Attribute (.Call (.Name "super" p0) [] [] p1) "__init__" p2) [.Constant (.str txt) j p3] [] p4) none p5.line X.env = pure false) {Q : Flow → Shared → Prop} (hq : ∀ s', Inv X pins σ H s' → Q .next s') :
    _root_.PySem.wpAt (model X.prog X.w) X.A (.func body X.env) (exec (.Expr (.Call (.Attribute (.Call (.Name "super" p0) [] [] p1) "__init__" p2) [.Constant (.str txt) j p3] [] p4) p5) X.env) Q X.xe s := by
  obtain ⟨oc, od, osl, dV, kV, doc, pm, ct, an, hf⟩ := W.lk
  obtain ⟨ccl, cdd, vs, ccs, file, tf, hcode, hvs, hfile⟩ := W.code
  obtain ⟨ccl', cld, csl, hcell⟩ := W.cell
  obtain ⟨cd, oC, hcls, hD1, hD2⟩ := clsAt_get W.T I
  have KX := I.kIn
  refine ks_wpAt_Expr_any ?_ hi hsw
  refine ks_wpAt_MethodCall ?_ hev
  have hkE : X.env.scope.kind = .function := by rw [he]; exact hk
  have hksE : X.env.kindOf ("super" : Str) = some .globalImplicit := by rw [he]; exact hks
  have hkcE : X.env.kindOf ("__class__" : Str) = some .free := by rw [he]; exact hkc
  have hkaE : X.env.kindOf ar.arg = some .local := by rw [he]; exact hka
  have hclE : X.env.cells.lookup ("__class__" : Str) = some cc := by rw [he]; show F.cl.lookup _ = _; rw [W.cl]; rfl
  refine ks_wpAt_super_base hksE hkcE rfl (by rw [he]) (KX _ _ hf) rfl hp (by rw [he]) (KX _ _ hcode) rfl hvs hfile W.top ?_
  obtain ⟨mb, h1, h2⟩ := I.mod.blt
  refine PySem.W.ks_loadName_global hkE hksE (Calls.loadGlobal_builtin (by rw [I.ok.glob]; exact I.mod.glob.keeps I.bk) W.noSup (by rw [I.ok.blt]; exact h1.keeps I.bk) ((h2 _ (by decide)).trans (show bootBuiltins "super" = some (.type "super") from by decide +kernel)) ⟨rfl, ?_⟩)
  refine wpAny_loadName_free hkE hkcE hclE ⟨_, KX _ _ hcell, rfl⟩ ?_
  obtain ⟨m, hn, hl⟩ := I.loc
  obtain ⟨u, ru, lu⟩ := hl 0 ar.arg (.ref a) hN hs (.inl (by rw [he]; exact hka))
  obtain rfl : u = Value.ref a := ru
  have hm : m ar.arg = some (.ref a) := by
    rcases lu with ⟨_, z⟩ | ⟨z | z, _⟩
    · exact z
    · rw [hkaE] at z; cases z
    · rw [hkaE] at z; cases z
  refine wpAny_loadName_local hkE hkaE hn hm ?_
  obtain ⟨t1, ho⟩ := exo_at I.hok ea
  obtain ⟨hp0, g0, d0, tk0, os0⟩ := s
  refine ks_wpAny_isType_cls hD1 hD2 ⟨rfl, ?_⟩
  refine ks_wpAny_call_super hD1 hD2 ho rfl (fun c e => by cases e) (PySem.W.looks_mroIn KX W.self) (fun h' e k => ?_)
  have I1 : Inv X pins σ H ⟨h', g0, d0, tk0, os0⟩ := I.kept k
  have ho1 := k _ _ ho
  have IA : PySem.W.InstAt h' a ({ cls := .ref C, dict := none, data := .fields #[.ref t1, .none, .none, .none, .bool false, .none] } : Obj) C none := ⟨ho1, rfl, rfl, trivial⟩
  have hsup : PySem.W.alongIn X.K "__init__" ((cd.mro.dropWhile (· != .ref C)).drop 1) = some (some (.builtin "ValueError.__init__")) := by
    have z := W.sup
    unfold PySem.W.ks_superIn at z
    rw [hcls] at z
    exact z
  refine PySem.W.kxs_getMethod PySem.W.kxs_ValueError (K := X.K) e (PySem.W.looks_opaque I1.kIn W.stat) (l₀ := cd.mro) (fun A Q E s k q => wpAny_bind ((PySem.W.looks_clsIn I1.kIn hcls) A _ E s k (wpAny_pure q))) rfl I1.kIn hsup (IA.type.andThen (PySem.W.looks_subIn I1.kIn W.sub)) (PySem.W.ks_ne I1.kIn IA hcls) rfl ?_
  have hmw : (h'.push (PySem.W.kxs_mw "ValueError.__init__" a)).get? h'.objs.size = some (PySem.W.kxs_mw "ValueError.__init__" a) := Heap.get?_push_at rfl rfl
  have I2 : Inv X pins σ H ⟨h'.push (PySem.W.kxs_mw "ValueError.__init__" a), g0, d0, tk0 + 1, os0⟩ := (I1.kept (t' := tk0 + 1) fun b o z => Heap.get?_push_of_some _ z)
  have I3 : Inv X ((h'.objs.size, PySem.W.kxs_mw "ValueError.__init__" a) :: pins) σ H ⟨h'.push (PySem.W.kxs_mw "ValueError.__init__" a), g0, d0, tk0 + 1, os0⟩ := I2.pins_of fun p hp => by
    rcases List.mem_cons.mp hp with rfl | hp
    · exact ⟨hmw, I1.hok.fresh (Nat.le_refl _), fun z => Nat.lt_irrefl _ (by have y := I1.lt; rw [← z] at y; exact y), I1.nofs (Nat.le_refl _), fun v z => by cases z⟩
    · exact I2.pin p (List.mem_append_right _ hp)
  refine PySem.W.kxs_callWith (i := "ValueError.__init__") (x := a) rfl ?_
  refine PySem.Calls.evalArgs_plain ?_
  have ha : PA X [.Constant (.str txt) j p3] (tCons (tC (.str txt)) tNil) := pa_cons pe_str pa_nil
  refine thn (ha.run p4 _ _ σ H (fun vs H1 => vs = [V.str txt] ∧ H = H1) I3 ⟨rfl, rfl⟩) fun us s1 hh => ?_
  obtain ⟨vs, H1, I4, r1, ev, eH⟩ := hh
  subst ev
  rw [← eH] at I4
  have hu := (I4.pin (h'.objs.size, PySem.W.kxs_mw "ValueError.__init__" a) (by simp)).1
  refine ⟨hu, ?_⟩
  cases r1 with
  | @cons _ u0 _ ur ru rn =>
    cases rn
    obtain ⟨hp1, g1, d1, tk1, os1⟩ := s1
    show wpAny _ _ (call (.ref h'.objs.size) [u0]) _ _ _
    obtain ⟨nm, q, N, bs, bm, sn, sub, ab, col, dd, k0, k1, k2, k3, k5, hC, hbm⟩ := W.T.cls
    obtain ⟨t4, ho4⟩ := exo_at I4.hok ea
    refine wpAny_call (codeAny_of_tree ?_)
    show wpAny _ _ (callAny (.ref h'.objs.size) ⟨[u0], []⟩) _ _ _
    simp only [callAny]
    refine wpAny_bind (wpAny_load hu ?_)
    simp only [PySem.W.kxs_mw, show (Value.type "method-wrapper" == Value.type "method" || Value.type "method-wrapper" == Value.type "builtin_function_or_method" || Value.type "method-wrapper" == Value.type "method-wrapper") = true by decide, if_true]
    refine PySem.W.KFB.if_so (by decide) ?_
    refine wpAny_bind (PySem.W.check_bound_init PySem.F.excBase_ValueError.toExcCallFacts (I4.kIn _ _ hC) ho4 rfl ?_)
    refine wpAny_bind (wpAny_pure (wpAny_pure ?_))
    refine ⟨plainId_quiet PySem.F.excBase_ValueError.init.plain _, codeAny_builtin PySem.F.excBase_ValueError.initEntry ?_⟩
    refine PySem.W.exc_init_tree (cls := .ref C) (t0 := t4) (dv := none) (c2 := .none) (c3 := .none) (b4 := .bool false) ho4 (by show 1 ≤ sizeLine; rw [sizeLine_eq]; omega) fun h2 k2 e2 _ => ?_
    have I5 := I4.write (t' := tk1) (x := a) (e := a) (o := exo a C none) (by rw [ea]; exact True.intro) (.inl rfl) k2 ⟨_, e2⟩ (exo_ok e2)
    have eu : upd H a (exo a C none) = H := by
      funext b
      by_cases hb : b = a
      · rw [hb, upd_same, ea]
      · rw [upd_ne hb]
    rw [eu] at I5
    exact hq _ (I5.pins_of fun p hp => I5.pin p (by simp only [List.mem_append, List.mem_cons]; exact .inr (.inr hp)))
end
end Mi

namespace Mi
open PySem PySem.Spec PyProof.Rows L2 NdefX

/-- self.f = x, each x the slot i -/
inductive Sets (F : NF) (fI : Addr) (N : List Str) : List Stmt → List (Str × Nat) → Prop
  | nil : Sets F fI N [] []
  | cons {st : Stmt} {rest : List Stmt} {f slf x : Str} {i : Nat} {p1 p2 p3 pos : Pos} {l : List (Str × Nat)} (e : st = .Assign [.Attribute (.Name slf p1) f p2] (.Name x p3) pos) (h0 : N[0]? = some slf) (hi : N[i]? = some x)
      (v0 : F.scope.names.lookup slf = some .local) (vi : F.scope.names.lookup x = some .local) (hs : ∀ L, swapsWith (.Name x p3) (some (.Attribute (.Name slf p1) f p2)) pos.line (envF F fI L) = pure false)
      (d0 : (slf == ("__debug__" : Str)) = false) (c0 : (slf == ("__classdict__" : Str)) = false) (di : (x == ("__debug__" : Str)) = false) (ci : (x == ("__classdict__" : Str)) = false)
      (r : Sets F fI N rest l) : Sets F fI N (st :: rest) ((f, i) :: l)
def tSets (K : PySem.W.Frag) : List (Str × Nat) → TS
  | [] => tNext
  | (f, i) :: l => tSeq (tOst K f (tVar 0) (tVar i)) (tSets K l)
theorem Sets.pss {X : Cx} {F : NF} {fI : Addr} {L : Addr} (he : X.env = envF F fI L) : ∀ {rest : List Stmt} {l : List (Str × Nat)}, Sets F fI X.N rest l → PSs X rest (tSets X.K l)
  | _, _, .nil => pss_nil
  | _, _, .cons e h0 hi v0 vi hs d0 c0 di ci r => by
    subst e
    exact pss_cons (ps_ost (pe_var h0 (.inl (by rw [he]; exact v0)) d0 c0) (pe_var hi (.inl (by rw [he]; exact vi)) di ci) (by rw [he]; exact hs L)) (Sets.pss he r)
/-- the fields with their values, the last one first -/
def fldsV : List (Str × Nat) → List V → List (Str × V) → List (Str × V)
  | (f, _) :: l, y :: ys, fs => fldsV l ys ((f, y) :: fs)
  | _, _, fs => fs
theorem upd_swap {H : Hp} {a d : Addr} {o1 o2 o3 : HO} (h : d ≠ a) : upd (upd (upd H d o1) a o2) d o3 = upd (upd H d o3) a o2 := by
  funext b
  by_cases h1 : b = a
  · subst h1; rw [upd_ne (Ne.symm h), upd_same, upd_same]
  · rw [upd_ne (o := o2) (H := upd H d o3) h1]
    by_cases h2 : b = d
    · subst h2; rw [upd_same, upd_same]
    · rw [upd_ne h2, upd_ne h1, upd_ne h2, upd_ne h2]
theorem sets_old {K : PySem.W.Frag} {C a d : Addr} (T : OexC K C) (hda : d ≠ a) {D : Ends} {σ : L2.St} {H : Hp} (h0 : σ[0]? = some (some (.ref a))) : ∀ {l : List (Str × Nat)} {ys : List V} {fs : List (Str × V)}, (∀ p ∈ l, PySem.W.findIn K (.ref C) p.1 = some none) → l.length = ys.length → fs.length + l.length ≤ 900 →
    (∀ (k : Nat) (p : Str × Nat) (y : V), l[k]? = some p → ys[k]? = some y → σ[p.2]? = some (some y)) → D.nx σ (upd (upd H d (exd d (fldsV l ys fs))) a (exo a C (some d))) →
    tSets K l D σ (upd (upd H d (exd d fs)) a (exo a C (some d)))
  | [], [], fs, _, _, _, _, q => q
  | (f, i) :: l, y :: ys, fs, hn, hl, hz, hy, q => by
    simp only [List.length_cons] at hl hz
    refine ⟨y, hy 0 (f, i) y rfl rfl, .ref a, h0, a, C, rfl, T, hn _ List.mem_cons_self, .inr ⟨d, fs, upd_same, by rw [upd_ne hda, upd_same], by omega, ?_⟩⟩
    show tSets K l D σ _
    rw [upd_swap hda]
    exact sets_old T hda h0 (fun p hp => hn p (List.mem_cons_of_mem _ hp)) (by omega) (by simp only [List.length_cons]; omega) (fun k p y e1 e2 => hy (k + 1) p y e1 e2) q
  | [], _ :: _, _, _, hl, _, _, _ => by simp at hl
  | _ :: _, [], _, _, hl, _, _, _ => by simp at hl
theorem sets_new {K : PySem.W.Frag} {C a : Addr} (T : OexC K C) {D : Ends} {σ : L2.St} {H : Hp} (h0 : σ[0]? = some (some (.ref a))) (ea : H a = some (exo a C none)) {l : List (Str × Nat)} {ys : List V} (hne : l ≠ []) (hn : ∀ p ∈ l, PySem.W.findIn K (.ref C) p.1 = some none) (hl : l.length = ys.length) (hz : l.length ≤ 900)
    (hy : ∀ (k : Nat) (p : Str × Nat) (y : V), l[k]? = some p → ys[k]? = some y → σ[p.2]? = some (some y)) (q : ∀ d, H d = none → d ≠ a → D.nx σ (upd (upd H d (exd d (fldsV l ys []))) a (exo a C (some d)))) : tSets K l D σ H := by
  cases l with
  | nil => exact absurd rfl hne
  | cons p l =>
    obtain ⟨f, i⟩ := p
    cases ys with
    | nil => simp at hl
    | cons y ys =>
      simp only [List.length_cons] at hl hz
      refine ⟨y, hy 0 (f, i) y rfl rfl, .ref a, h0, a, C, rfl, T, hn _ List.mem_cons_self, .inl ⟨ea, fun dx hd hda => ?_⟩⟩
      show tSets K l D σ _
      exact sets_old T hda h0 (fun p hp => hn p (List.mem_cons_of_mem _ hp)) (by omega) (by simp only [List.length_cons, List.length_nil]; omega) (fun k p y e1 e2 => hy (k + 1) p y e1 e2) (q dx hd hda)
/-- the words of the first statement -/
structure Sup (F : NF) (fI : Addr) (rest : List Stmt) (slf : Str) : Prop where
  ex : ∃ (p0 p1 p2 p3 p4 p5 : Pos) (txt : Str) (j : Nat) (ar : Arg) (pl : Sem Bool), F.body = .Expr (.Call (.Attribute (.Call (.Name "super" p0) [] [] p1) "__init__" p2) [.Constant (.str txt) j p3] [] p4) p5 :: rest ∧ ar.arg = slf ∧
    (F.params.posonlyargs ++ F.params.args).head? = some ar ∧
    (∀ L, eval (.Call (.Attribute (.Call (.Name "super" p0) [] [] p1) "__init__" p2) [.Constant (.str txt) j p3] [] p4) (envF F fI L) = (do
      let ov ← attributeBase (.Call (.Name "super" p0) [] [] p1) "__init__" (envF F fI L) (eval (.Call (.Name "super" p0) [] [] p1) (envF F fI L))
      standAt p2.atName
      let (f, first) ← holding [ov] (getMethod ov "__init__" pl)
      callWith p4 f first (backTo p4 (starEach [.Constant (.str txt) j p3] (envF F fI L))) [])) ∧
    (∀ L, interactive (envF F fI L) = false) ∧ ∀ L, swapsWith (.Call (.Attribute (.Call (.Name "super" p0) [] [] p1) "__init__" p2) [.Constant (.str txt) j p3] [] p4) none p5.line (envF F fI L) = pure false
  sup : F.scope.names.lookup ("super" : Str) = some .globalImplicit
  cls : F.scope.names.lookup ("__class__" : Str) = some .free
  slf : F.scope.names.lookup slf = some .local
section
variable {P : Program} {w : World} {K : PySem.W.Frag} {mg : Str → Option Value} {base : Heap} {C fI cc : Addr} {F : NF} {N ps : List Str} {rest : List Stmt} {slf : Str} {l : List (Str × Nat)}
theorem init_run (W : XIni P K mg C fI cc F) (S : NScope N ps ["__class__"] F.scope) (U : Sup F fI rest slf) (hN0 : N[0]? = some slf) (Z : Sets F fI N rest l) (hno : ∀ p ∈ l, PySem.W.findIn K (.ref C) p.1 = some none) (hne : l ≠ []) (hz : l.length ≤ 900)
    {k : Nat} {A : Around} {outer : List Env} {s : Shared} {H : Hp} {as : Args} {us : List Value} {vs ys : List V} {a : Addr} {Q : VK} {E : XK} {fd : FuncData} {oc : Value} {od : Option Addr} {osl : Array (Option Value)} (lf : K.lookup fI = some ⟨oc, od, .func fd, osl⟩)
    (hr : Room (k + 1) A) (e0 : Env0 P w K mg base A outer s H) (hb : BindsTo s fd as (ps.zip us)) (r : Vals vs us) (hl : vs.length = ps.length) (h0 : vs[0]? = some (.ref a)) (ea : H a = some (exo a C none))
    (hly : l.length = ys.length) (hy : ∀ (k : Nat) (p : Str × Nat) (y : V), l[k]? = some p → ys[k]? = some y → vs[p.2]? = some y)
    (hq : ∀ d, H d = none → d ≠ a → Q .non (upd (upd H d (exd d (fldsV l ys []))) a (exo a C (some d)))) : codeAny (model P w) A (.call (.ref fI) as) (CR (L2.CX P w) outer P w H s Q E) s := by
  obtain ⟨p0, p1, p2, p3, p4, p5, txt, j, ar, pl, eb, rfl, hp, hev, hi, hsw⟩ := U.ex
  obtain ⟨oc', od', osl', dV, kV, doc, pm, ct, an, hf⟩ := W.lk
  rw [hf] at lf
  cases lf
  have KX : K.In s.heap := e0.mod.kin.keeps fun b o e => (e0.bs b o e).1
  have lim : s.heap.NoLimit := e0.mod.nolimit.keeps fun b o e => (e0.bs b o e).1
  obtain ⟨name, qual, params, body, scope, cl, c⟩ := F
  have hcl : cl = [(("__class__" : Str), cc)] := W.cl
  subst hcl
  have eb : body = _ := eb
  refine ks_codeAny_call_defAt (body := body) (binds := ps.zip us) hr.depth (KX _ _ hf) rfl lim (PySem.W.codeRec_of KX W.cd) rfl hb (fun x hx => S.nocell x hx) (fun x hx => S.par x.1 (List.of_mem_zip hx).1) (fun h₀ hns kp => ?_) S.co S.gen S.kind
  obtain ⟨ccl, cld, csl, hcell⟩ := W.cell
  have hCc : CellsAt [(("__class__" : Str), cc)] ["__class__"] [some (.ref C)] s.heap H := by
    refine ⟨rfl, fun y c e => ?_, fun x y c e1 e2 => ?_, fun i y e => ?_⟩
    · have : c = cc := by
        simp only [List.lookup] at e
        split at e
        · cases e; rfl
        · cases e
      subst this
      exact ⟨(e0.bs _ _ (e0.mod.kin _ _ hcell)).2, _, _, KX _ _ hcell, rfl⟩
    · have ex : ∀ z : Str, List.lookup z [(("__class__" : Str), cc)] = some c → z = "__class__" := fun z e => by
        simp only [List.lookup] at e
        split at e
        · rename_i h; exact beq_iff_eq.mp h
        · cases e
      rw [ex x e1, ex y e2]
    · cases i with
      | zero =>
        cases e
        exact ⟨cc, rfl, fun v e => by cases e; exact ⟨.ref C, rfl, _, KX _ _ hcell, rfl⟩⟩
      | succ i => cases i <;> cases e
  have I := inv_startN (CX := L2.CX P w) (F := ⟨name, qual, params, body, scope, [(("__class__" : Str), cc)], c⟩) (f := fI) (E := E) (tk := s.toks + (ps.zip us).length) S hr.hd e0 hl r hCc hns kp
  rw [eb]
  have hs0 : (startF N vs [some (V.ref C)])[0]? = some (some (.ref a)) := by
    cases vs with
    | nil => cases h0
    | cons v vs => cases h0; rfl
  refine ks_wpAt_execs_cons (super_first (X := ncx (L2.CX P w) P w K mg base N ⟨name, qual, params, body, scope, [(("__class__" : Str), cc)], c⟩ fI A outer s H E) W rfl S.kind U.sup U.cls hp U.slf hN0 hs0 ea I (hev _) (hi _) (hsw _) (fun s' I' => ?_))
  refine wpAt_of_wpAny ?_
  have ht := Z.pss (X := ncx (L2.CX P w) P w K mg base N ⟨name, qual, params, body, scope, [(("__class__" : Str), cc)], c⟩ fI A outer s H E) rfl
  have hw : tSets K l { nx := fun _ H' => Q .non H', rt := Q } (startF N vs [some (V.ref C)]) H := by
    refine sets_new W.T hs0 ea hne hno hly hz (fun k p y e1 e2 => ?_) hq
    have e := hy k p y e1 e2
    unfold startF
    rw [List.getElem?_append_left (by simpa using (List.getElem?_eq_some_iff.mp e).1), List.getElem?_map, e]
    rfl
  refine wpAny_mono (ht.run [] s' _ H _ I' hw) (fun fl s' hs => ?_) fun _ _ z => z
  cases fl with
  | ret u =>
    obtain ⟨v, σ', H', J, rv', q⟩ := hs
    exact ⟨v, H', J.os, J.bare, J.base, J.hok, rv', q⟩
  | next =>
    obtain ⟨σ', H', J, q⟩ := hs
    exact ⟨V.non, H', J.os, J.bare, J.base, J.hok, rfl, q⟩
  | brk => obtain ⟨_, _, _, q⟩ := hs; exact q.elim
  | cont => obtain ⟨_, _, _, q⟩ := hs; exact q.elim
end
end Mi

/-! an own exception made with keywords too -/
namespace Mi.XK
open PySem PySem.Spec PySem.Calls
open PySem.HandSPX (excO)
section
variable {M : Model} {A : Around} {E : Value → Shared → Prop} {h : Heap} {g : Array GenState} {d : Drawn} {t : Nat} {os : OsState}
variable {nm q : Str} {C N : Addr} {bs bm bT : List Value} {hdct : Bool} {sn : List Str} {sub : List Value} {ab : Bool} {col : Option Bool} {dd : Option Addr} {k0 k1 k2 k3 k5 : Option Value} {B nI iI : String} {kw : List (Str × Value)} {rest : List Value}
abbrev clsX (nm q : Str) (C N : Addr) (bs bm : List Value) (hdct : Bool) (sn : List Str) (sub : List Value) (ab : Bool) (col : Option Bool) (dd : Option Addr) (k0 k1 k2 k3 k5 : Option Value) (nI : String) : Obj := excClassObj nm q C N bs bm hdct sn sub ab col dd k0 k1 k2 k3 k5 nI
theorem has_in {Y : String} (hT : ∀ X : String, bm.contains (.type X) = bT.contains (.type X)) {b : Bool} (e : bT.contains (.type Y) = b) : (Value.ref C :: bm).contains (.type Y) = b := by
  rw [List.contains_cons, hT, e]
  rfl
theorem chk_new (F : ExcBaseFacts B nI iI bT) (hT : ∀ X : String, bm.contains (.type X) = bT.contains (.type X)) {Q : Unit → Shared → Prop} (hC : h.get? C = some (clsX nm q C N bs bm hdct sn sub ab col dd k0 k1 k2 k3 k5 nI)) (hq : Q () ⟨h, g, d, t, os⟩) :
    wpAny M A (checkBuiltinCall nI ⟨.ref C :: rest, kw⟩) Q E ⟨h, g, d, t, os⟩ := by
  have c1 := has_in (C := C) hT F.hasB
  have c2 := F.noStar
  simp only [checkBuiltinCall, F.newKind, F.newSplit, F.newRow]
  repeat (first
    | refine wpAny_loadPart_at hC ?_
    | (refine wpAny_isSubtype_exc hC ?_; rw [c1])
    | refine wpAny_staticBase_exc hC ?_
    | refine wpAny_madeBy_exc hC ?_
    | simp only [bne_self_eq_false, Bool.false_eq_true, if_false]
    | wp_step)
  exact hq
end
section
variable {prog : Program} {w : World} {A : Around} {E : Value → Shared → Prop} {R : Result → Shared → Prop} {h : Heap} {g : Array GenState} {d : Drawn} {t : Nat} {os : OsState}
variable {nm q : Str} {C N : Addr} {bs bm bT : List Value} {hdct : Bool} {sn : List Str} {sub : List Value} {ab : Bool} {col : Option Bool} {dd : Option Addr} {k0 k1 k2 k3 k5 : Option Value} {B nI iI : String} {kw : List (Str × Value)} {rest : List Value}
abbrev made (h : Heap) (C : Addr) (rest : List Value) : Heap := (h.push (PySem.W.kdv_tup rest)).push (excO C h.objs.size)
theorem do_new (F : ExcBaseFacts B nI iI bT) (hT : ∀ X : String, bm.contains (.type X) = bT.contains (.type X)) (hC : h.get? C = some (clsX nm q C N bs bm hdct sn sub ab col dd k0 k1 k2 k3 k5 nI))
    (hq : R (.ok (.ret (.ref (h.objs.size + 1)))) ⟨made h C rest, g, d, t, os⟩) (hl : rest.length ≤ sizeLine) : codeAny (model prog w) A (.builtin nI ⟨.ref C :: rest, kw⟩) R ⟨h, g, d, t, os⟩ := by
  have c0 := F.ends
  have c1 := has_in (C := C) hT F.hasB
  have c2 := has_in (C := C) hT F.noAttr
  have c3 := has_in (C := C) hT F.noName
  refine codeAny_builtinAt F.entry ?_
  unfold Builtin.«BaseException.__new__»
  refine wpAt_bind ?_
  show wpAt _ _ _ (stack >>= _) _ _ _
  refine wpAt_bind (wpAt_stack fun p below => wpAt_of_wpAny ?_)
  wp_walk
  refine wpAt_of_wpAny ?_
  rw [F.owner]
  repeat (first
    | with_reducible refine wpAny_madeHere_exc F.canon hC ?_
    | with_reducible refine wpAny_loadPart_at hC ?_
    | (with_reducible refine wpAny_isSubtype_exc hC ?_; first | rw [c1] | rw [c2] | rw [c3])
    | wp_step)
  show R _ _
  rw [Heap.size_push]
  exact hq
theorem do_type (F : ExcBaseFacts B nI iI bT) (hT : ∀ X : String, bm.contains (.type X) = bT.contains (.type X)) {fI : Addr} {Q : PySem.Fin → Shared → Prop} (hC : h.get? C = some (clsX nm q C N bs bm hdct sn sub ab col dd k0 k1 k2 k3 k5 nI))
    (hi : W.Looks (model prog w) h (typeLookup (.ref C) "__init__") (some (.ref fI))) (hb : ∀ self, W.Looks (model prog w) h (bindSpecial (.ref fI) self) (.ref fI, [self])) (hl : rest.length ≤ sizeLine)
    (hq : codeAny (model prog w) A (.call (.ref fI) ⟨.ref (h.objs.size + 1) :: rest, kw⟩)
      (fun r s' => match r with | .ok (.ret v) => v = .none ∧ Q (.done (.ret (.ref (h.objs.size + 1)))) s' | .ok _ => False | .error e => E e s') ⟨made h C rest, g, d, t, os⟩) :
    wpAny (model prog w) A (Builtin.«type.__call__» ⟨.ref C :: rest, kw⟩) Q E ⟨h, g, d, t, os⟩ := by
  repeat (first
    | with_reducible refine wpAny_loadPart_at hC ?_
    | with_reducible refine wpAny_madeBy_exc hC ?_
    | wp_step)
  refine codeAny_call_builtin_code (Code.quiet_builtin _ F.quiet) (chk_new F hT hC (do_new F hT hC ?_ hl))
  show wpAny _ _ _ _ _ _
  have up : ∀ b o, h.get? b = some o → (made h C rest).get? b = some o := fun b o e => Heap.get?_push_of_some _ (Heap.get?_push_of_some _ e)
  have hC2 := up _ _ hC
  have hx : (made h C rest).get? (h.objs.size + 1) = some (excO C h.objs.size) := by heap_get
  have cC : (Value.ref C :: bm).contains (.ref C) = true := by simp
  have i1 := hi.keeps up
  have b1 := (hb (.ref (h.objs.size + 1))).keeps up
  unfold isInstance
  repeat (first
    | with_reducible refine wpAny_loadPart_at hx ?_
    | (with_reducible refine wpAny_isSubtype_exc hC2 ?_; rw [cC])
    | wp_step)
  show wpAny _ _ (typeLookup (.ref C) _) _ _ _
  refine i1.at ?_
  refine wpAny_holding (wpAny_bind (b1.at ?_))
  refine wpAny_bind (wpAny_call (codeAny_mono hq fun r s' z => ?_))
  rcases r with e | (v | _ | _ | _) <;> first | exact z | exact z.elim | skip
  obtain ⟨rfl, z⟩ := z
  first
    | exact wpAny_pure (wpAny_pure z)
    | (wp_walk; exact z)
theorem do_call (F : ExcBaseFacts B nI iI bT) (hT : ∀ X : String, bm.contains (.type X) = bT.contains (.type X)) {fI : Addr} (hC : h.get? C = some (clsX nm q C N bs bm hdct sn sub ab col dd k0 k1 k2 k3 k5 nI))
    (hi : W.Looks (model prog w) h (typeLookup (.ref C) "__init__") (some (.ref fI))) (hb : ∀ self, W.Looks (model prog w) h (bindSpecial (.ref fI) self) (.ref fI, [self])) (hl : rest.length ≤ sizeLine)
    (hq : codeAny (model prog w) (A.under (.builtin "type.__call__" ⟨.ref C :: rest, kw⟩)) (.call (.ref fI) ⟨.ref (h.objs.size + 1) :: rest, kw⟩) (W.InitBack (h.objs.size + 1) R) ⟨made h C rest, g, d, t, os⟩) :
    codeAny (model prog w) A (.call (.ref C) ⟨rest, kw⟩) R ⟨h, g, d, t, os⟩ := by
  have f1 := tc_lookup
  have f2 := tc_bind (.ref C)
  have ty : (⟨h, g, d, t, os⟩ : Shared).TypeIs (.ref C) "type" := ⟨_, hC, rfl⟩
  refine codeAny_of_tree ?_
  show wpAny _ _ (callAny (.ref C) _) _ _ _
  repeat (any_goals (first
    | assumption
    | with_reducible refine wpAny_loadPart_at hC ?_
    | wp_step))
  refine ⟨rfl, ?_⟩
  refine codeAny_call_builtin_at (Code.quiet_builtin _ (by decide +kernel)) entry_typeCall (wpAny_check_type_call_sub hC (do_type F hT hC hi hb hl ?_))
  refine codeAny_mono hq fun r s' z => ?_
  rcases r with e | (v | _ | _ | _) <;> exact z
end
end Mi.XK

namespace Mi
open PySem PySem.Spec PyProof.Rows L2 NdefX

/-- all that is known of an exception's class: its fields l, from which slots of its __init__ -/
structure XOk (P : Program) (K : PySem.W.Frag) (mg : Str → Option Value) (C : Addr) (ps : List Str) (l : List (Str × Nat)) (fd : FuncData) : Prop where
  ex : ∃ (fI cc : Addr) (F : NF) (N : List Str) (rest : List Stmt) (slf : Str) (oc : Value) (od : Option Addr) (osl : Array (Option Value)), XIni P K mg C fI cc F ∧ NScope N ps ["__class__"] F.scope ∧ Sup F fI rest slf ∧ N[0]? = some slf ∧ Sets F fI N rest l ∧
    K.lookup fI = some ⟨oc, od, .func fd, osl⟩
  no : ∀ p ∈ l, PySem.W.findIn K (.ref C) p.1 = some none
  ne : l ≠ []
  sz : l.length ≤ 900
  T : OexC K C
theorem exg_ok {P : Program} {w : World} {H : Hp} {h : Heap} {a D d : Addr} {o : Obj} {vs : Array Value} (e : h.get? a = some o) (hc : o.cls = .ref D) (hd : o.dict = some d) (hv : o.data = .fields vs) : ObjOk P w H h a (exg a D d) :=
  ⟨⟨o, vs, e, hc, hd, hv⟩, ⟨o, e⟩, fun h1 h2 z k => let ⟨o, vs, e, c⟩ := z; ⟨o, vs, k _ e, c⟩⟩
theorem exg_at {P : Program} {w : World} {H : Hp} {h : Heap} {a D d : Addr} (hok : HOk P w H h) (e : H a = some (exg a D d)) : ∃ (o : Obj) (vs : Array Value), h.get? a = some o ∧ o.cls = .ref D ∧ o.dict = some d ∧ o.data = .fields vs := (hok a _ e).1
section
variable {X : Cx} {E : XK} {k : Nat} {C : Addr} {ps : List Str} {l : List (Str × Nat)} {fd : FuncData}
/-- an exception that was made is a value -/
theorem exo_done {pins : List (Addr × Obj)} {σ : L2.St} {H : Hp} {s : Shared} {a d : Addr} {fs : List (Str × V)} (hda : d ≠ a) (I : Inv X pins σ (upd (upd H d (exd d fs)) a (exo a C (some d))) s) : Inv X pins σ (upd (upd H d (.xd fs)) a (exg a C d)) s := by
  obtain ⟨t1, ho⟩ := exo_at I.hok (upd_same (H := upd H d (exd d fs)))
  obtain ⟨mA, hn, rel⟩ := exd_at (fs := fs) (dx := d) I.hok (by rw [upd_ne hda, upd_same])
  obtain ⟨o, es, ep, hd, _⟩ := id hn
  have I1 := I.write (h' := s.heap) (t' := s.toks) (x := d) (e := d) (o := .xd fs) (by rw [upd_ne hda, upd_same]; exact True.intro) (.inl rfl) (fun b u _ z => z) ⟨_, hd⟩ ⟨mA, hn, rel⟩
  rw [upd_swap hda] at I1
  have I2 := I1.write (h' := s.heap) (t' := s.toks) (x := a) (e := a) (o := exg a C d) (by rw [upd_same]; exact True.intro) (.inl rfl) (fun b u _ z => z) ⟨_, ho⟩ (exg_ok ho rfl rfl rfl)
  rw [upd_upd] at I2
  exact I2
theorem exo_laid {pins : List (Addr × Obj)} {σ : L2.St} {H : Hp} {hp : Heap} {g : Array GenState} {d : Drawn} {t : Nat} {os : OsState} (us : List Value) (I : Inv X pins σ H ⟨hp, g, d, t, os⟩) :
    Inv X pins σ (upd H (hp.objs.size + 1) (exo (hp.objs.size + 1) C none)) ⟨XK.made hp C us, g, d, t, os⟩ := by
  have e : (XK.made hp C us).get? (hp.objs.size + 1) = some (PySem.HandSPX.excO C hp.objs.size) := by heap_get
  exact I.laid (t' := t) (h' := XK.made hp C us) (fun b o z => Heap.get?_push_of_some _ (Heap.get?_push_of_some _ z)) (Nat.le_succ _) (exo_ok e)
/-- C(..): what its __init__ leaves -/
theorem xmk_code (W : XOk X.prog X.K X.mg C ps l fd) (hr : Room (k + 2) X.A) {pins : List (Addr × Obj)} {σ : L2.St} {H : Hp} {hp : Heap} {g : Array GenState} {d : Drawn} {t : Nat} {os : OsState} {us us' : List Value} {kw : List (Str × Value)} {vs ys : List V} {R : Result → Shared → Prop}
    (I : Inv X pins σ H ⟨hp, g, d, t, os⟩) (hb : ∀ s : Shared, X.K.In s.heap → BindsTo s fd ⟨.ref (hp.objs.size + 1) :: us, kw⟩ (ps.zip (.ref (hp.objs.size + 1) :: us'))) (r : Vals vs us') (hl : vs.length + 1 = ps.length) (hu : us.length ≤ sizeLine) (hly : l.length = ys.length)
    (hy : ∀ (k : Nat) (p : Str × Nat) (y : V), l[k]? = some p → ys[k]? = some y → (V.ref (hp.objs.size + 1) :: vs)[p.2]? = some y)
    (hq : ∀ (dx : Addr) (s' : Shared), CE X.stack X.prog X.w (upd H (hp.objs.size + 1) (exo (hp.objs.size + 1) C none)) ⟨XK.made hp C us, g, d, t, os⟩ (fun v H2 => v = .non ∧ H dx = none ∧ dx ≠ hp.objs.size + 1 ∧ H2 = upd (upd (upd H (hp.objs.size + 1) (exo (hp.objs.size + 1) C none)) dx (exd dx (fldsV l ys []))) (hp.objs.size + 1) (exo (hp.objs.size + 1) C (some dx))) .none s' → R (.ok (.ret (.ref (hp.objs.size + 1)))) s')
    (hx : ∀ er s', L2.CX X.prog X.w X.stack (upd H (hp.objs.size + 1) (exo (hp.objs.size + 1) C none)) ⟨XK.made hp C us, g, d, t, os⟩ E er s' → R (.error er) s') :
    codeAny (model X.prog X.w) X.A (.call (.ref C) ⟨us, kw⟩) R ⟨hp, g, d, t, os⟩ := by
  obtain ⟨fI, cc, F, N, rest, slf, oc, od, osl, W1, S, U, hN0, Z, lf⟩ := W.ex
  obtain ⟨nm, q, N', bs, bm, sn, sub, ab, col, dd, k0, k1, k2, k3, k5, hC, hbm⟩ := W1.T.cls
  have I2 := exo_laid (C := C) us I
  refine XK.do_call PySem.F.excBase_ValueError (fun Y => PySem.HandSPX.refsVE_contains Y bm hbm) (I.kIn _ _ hC) (PySem.W.looks_findIn I.kIn W1.iC) (fun self => PySem.W.bind_fn I.kIn self W1.tI) hu
    (codeAny_mono (init_run W1 S U hN0 Z W.no W.ne W.sz (us := .ref (hp.objs.size + 1) :: us') (vs := V.ref (hp.objs.size + 1) :: vs) (ys := ys) (a := hp.objs.size + 1) (Q := fun v H2 => v = .non ∧ ∃ dx, H dx = none ∧ dx ≠ hp.objs.size + 1 ∧ H2 = upd (upd (upd H (hp.objs.size + 1) (exo (hp.objs.size + 1) C none)) dx (exd dx (fldsV l ys []))) (hp.objs.size + 1) (exo (hp.objs.size + 1) C (some dx))) (E := E) lf (hr.make C us kw) (I2.env0.make C us kw) (hb _ I2.kIn) (.cons rfl r) (by rw [List.length_cons]; exact hl) rfl upd_same hly hy
      (fun dx hd hda => ⟨rfl, dx, by rw [upd_ne hda] at hd; exact hd, hda, rfl⟩)) fun res s' z => ?_)
  cases res with
  | error er => exact hx er s' z
  | ok fl =>
    cases fl with
    | ret u =>
      obtain ⟨v, H2, os2, bare2, un2, hok2, rv, ev, dx, hd, hda, eH⟩ := z
      subst ev
      cases (show u = Value.none from rv)
      exact ⟨rfl, hq dx s' ⟨.non, H2, os2, bare2, un2, hok2, rfl, rfl, hd, hda, eH⟩⟩
    | next => exact z.elim
    | brk => exact z.elim
    | cont => exact z.elim
/-- an exception as a value -/
theorem xmk_run (W : XOk X.prog X.K X.mg C ps l fd) (hr : Room (k + 2) X.A) (hx : Passes (L2.CX X.prog X.w) X E) {pins : List (Addr × Obj)} {σ : L2.St} {H : Hp} {s : Shared} {us us' : List Value} {kw : List (Str × Value)} {vs ys : List V} {Q : VK}
    (I : Inv X pins σ H s) (hb : ∀ (a : Addr) (s : Shared), X.K.In s.heap → BindsTo s fd ⟨.ref a :: us, kw⟩ (ps.zip (.ref a :: us'))) (r : Vals vs us') (hl : vs.length + 1 = ps.length) (hu : us.length ≤ sizeLine) (hly : l.length = ys.length)
    (hy : ∀ (a : Addr) (k : Nat) (p : Str × Nat) (y : V), l[k]? = some p → ys[k]? = some y → (V.ref a :: vs)[p.2]? = some y)
    (hq : ∀ a d, H a = none → H d = none → d ≠ a → Q (.ref a) (upd (upd H d (.xd (fldsV l ys []))) a (exg a C d))) :
    wpAny (model X.prog X.w) X.A (call (.ref C) us kw) (EP X pins σ Q) X.xe s := by
  obtain ⟨hp, g, d, t, os⟩ := s
  have I2 := exo_laid (C := C) us I
  have hn : H (hp.objs.size + 1) = none := I.hok.fresh (Nat.le_succ _)
  refine wpAny_call (xmk_code W hr (E := E) I (hb _) r hl hu hly (hy _) (fun dx s' z => ?_) fun er s' z => hx pins σ _ _ er s' I2 z)
  obtain ⟨v, H', I3, rv, ev, hd, hda, eH⟩ := I2.after z
  have e2 : H' = upd (upd H dx (exd dx (fldsV l ys []))) (hp.objs.size + 1) (exo (hp.objs.size + 1) C (some dx)) := by
    rw [eH]
    funext b
    by_cases h1 : b = hp.objs.size + 1
    · subst h1; rw [upd_same, upd_same]
    · rw [upd_ne h1, upd_ne h1]
      by_cases h2 : b = dx
      · subst h2; rw [upd_same, upd_same]
      · rw [upd_ne h2, upd_ne h2, upd_ne h1]
  rw [e2] at I3
  exact ⟨.ref (hp.objs.size + 1), _, exo_done hda I3, rfl, hq _ dx hn hd hda⟩
end
end Mi

namespace Mi
open PySem PySem.Spec PyProof.Rows L2 NdefX

/-- the fields of a new exception: names and values, the last one first -/
def fldsW (ws : List Wv) : List (Str × Nat) → List Str → List Wv → Option (List Str × List Wv)
  | [], ns, xs => some (ns, xs)
  | (f, i + 1) :: l, ns, xs => match ws[i]? with
    | some w => fldsW ws l (f :: ns) (w :: xs)
    | none => none
  | (_, 0) :: _, _, _ => none
def xmkW (C : Str) (l : List (Str × Nat)) (ws : List Wv) (M : Mem) : R Wv := match fldsW ws l [] [] with
  | some (ns, xs) => .ok (.exc C ns xs) M
  | none => .no
section
variable {K : PySem.W.Frag} {ρ : Rn} {H : Hp}
theorem flds_rel {ws : List Wv} {vs : List V} (r : RVs K ρ H ws vs) : ∀ {l : List (Str × Nat)} {ns : List Str} {xs : List Wv} {ns' : List Str} {xs' : List Wv}, fldsW ws l ns xs = some (ns', xs') →
    ∃ ys : List V, l.length = ys.length ∧ (∀ (a : Addr) (k : Nat) (p : Str × Nat) (y : V), l[k]? = some p → ys[k]? = some y → (V.ref a :: vs)[p.2]? = some y) ∧ ∀ fs : List (Str × V), fs.map (·.1) = ns → RVs K ρ H xs (fs.map (·.2)) → (fldsV l ys fs).map (·.1) = ns' ∧ RVs K ρ H xs' ((fldsV l ys fs).map (·.2))
  | [], ns, xs, _, _, e => by
    cases e
    exact ⟨[], rfl, fun a k p y z => by simp at z, fun fs h1 h2 => ⟨h1, h2⟩⟩
  | (f, 0) :: l, _, _, _, _, e => by cases e
  | (f, i + 1) :: l, ns, xs, ns', xs', e => by
    have e : (match ws[i]? with | some w => fldsW ws l (f :: ns) (w :: xs) | none => none) = some (ns', xs') := e
    cases q : ws[i]? with
    | none => rw [q] at e; cases e
    | some w =>
      rw [q] at e
      obtain ⟨v, hv, rv⟩ := r.get q
      obtain ⟨ys, h1, h2, h3⟩ := flds_rel r e
      refine ⟨v :: ys, by simp [h1], fun a k p y e1 e2 => ?_, fun fs e1 e2 => h3 ((f, v) :: fs) (by simp [e1]) ⟨v, _, rfl, rv, e2⟩⟩
      cases k with
      | zero =>
        cases e1
        cases e2
        exact hv
      | succ k => exact h2 a k p y e1 e2
theorem gr_two {a d : Addr} {o u : HO} (ha : H a = none) (hd : H d = none) (hda : d ≠ a) : Gr ρ H ρ (upd (upd H d o) a u) :=
  (Gr.fresh hd).trans (Gr.fresh (by rw [upd_ne (Ne.symm hda)]; exact ha))
theorem rl_two {M : Mem} (rl : Rl K ρ M H) {a d : Addr} {o u : HO} (ha : H a = none) (hd : H d = none) (hda : d ≠ a) : Rl K ρ M (upd (upd H d o) a u) :=
  (rl.upd hd).upd (by rw [upd_ne (Ne.symm hda)]; exact ha)
theorem pick_self {α : Type} (x : α) (perm : List Nat) (l : List α) : pick' (0 :: perm.map (· + 1)) (x :: l) = x :: pick' perm l := by
  unfold pick'
  rw [List.filterMap_cons]
  show x :: _ = _
  rw [List.filterMap_map]
  congr 1
end
section
variable {X : Cx} {E : XK} {k : Nat} {C : Addr} {nm : Str} {ps ks : List Str} {perm : List Nat} {l : List (Str × Nat)} {fd : FuncData} {x : Str} {p pos : Pos} {e : Expr} {es : List Expr} {ma mk : Ma} {kws : List Keyword}
theorem xmkG (W : XOk X.prog X.K X.mg C ps l fd) (hr : Room (k + 2) X.A) (hx : Passes (L2.CX X.prog X.w) X E) (hc : clsAt X.K nm = some C) {pins : List (Addr × Obj)} {σ : L2.St} {H : Hp} {s : Shared} {us us' : List Value} {kw : List (Str × Value)} {vs : List V} {ws : List Wv} {ρ : Rn} {M : Mem} {Q : VK}
    (I : Inv X pins σ H s) (hb : ∀ (a : Addr) (s : Shared), X.K.In s.heap → BindsTo s fd ⟨.ref a :: us, kw⟩ (ps.zip (.ref a :: us'))) (r : Vals vs us') (hl : vs.length + 1 = ps.length) (hu : us.length ≤ sizeLine) (rl : Rl X.K ρ M H) (rv : RVs X.K ρ H ws vs) (f : Fin X.K ρ H (PV X.K Q) E (xmkW nm l ws M)) :
    wpAny (model X.prog X.w) X.A (call (.ref C) us kw) (EP X pins σ Q) X.xe s := by
  unfold xmkW at f
  cases q : fldsW ws l [] [] with
  | none => rw [q] at f; exact f.elim
  | some z =>
    obtain ⟨ns, xs⟩ := z
    rw [q] at f
    obtain ⟨ys, h1, h2, h3⟩ := flds_rel rv q
    obtain ⟨h4, h5⟩ := h3 [] rfl rfl
    refine xmk_run W hr hx I hb r hl hu h1 h2 fun a d ha hd hda => ?_
    have g : Gr ρ H ρ (upd (upd H d (.xd (fldsV l ys []))) a (exg a C d)) := gr_two ha hd hda
    have rl2 : Rl X.K ρ M (upd (upd H d (.xd (fldsV l ys []))) a (exg a C d)) := rl_two rl ha hd hda
    refine f ρ _ g rl2 (.ref a) ⟨C, a, d, _, hc, rfl, ⟨upd_same, rl.out ha⟩, ⟨by rw [upd_ne hda, upd_same], rl.out hd⟩, h4, RVs.mono g _ h5⟩
/-- C(e, ..), an exception -/
theorem e_mkx (W : XOk X.prog X.K X.mg C ps l fd) (hr : Room (k + 2) X.A) (hx : Passes (L2.CX X.prog X.w) X E) (hm : X.mg x = some (.ref C)) (hc : clsAt X.K nm = some C) (hb : Binds X.K fd ps []) (ha : PA X (e :: es) (ta X.K E ma))
    (hg : Gl X x := by rfl) (hdb : (x == ("__debug__" : Str)) = false := by decide) (he : starEach (e :: es) X.env = (false, eval e X.env) :: starEach es X.env := by rfl) (hpl : (backTo pos (starEach es X.env)).any (·.1) = false := by rfl) {n : Nat} (hn : ps.length = n + 1 := by rfl) (hz : n ≤ 1000 := by decide) :
    PE X (.Call (.Name x p) (e :: es) [] pos) (te X.K E (mApp n (xmkW nm l) ma)) := by
  refine ⟨fun pins s σ H Q I ⟨ρ, M, env, rl, re, h⟩ => wpAny_Call_Name_kw (ld_glob I hg hm ?_ hdb)⟩
  refine PySem.W.callWith_K (h₀ := X.base) I.ok.mod.kin W.T.kC (thn (ha.run pos pins s σ H (fun vs H1 => ∃ ρ1 M1 ws, Rl X.K ρ1 M1 H1 ∧ RVs X.K ρ1 H1 ws vs ∧ ws.length = n ∧ Fin X.K ρ1 H1 (PV X.K Q) E (xmkW nm l ws M1)) I
    (ta_then rl re h fun ws M1 ρ1 H1 vs g1 rl1 re1 rv1 f1 => by obtain ⟨h0, f1⟩ := pick f1; exact ⟨ρ1, M1, ws, rl1, rv1, h0, f1⟩)) fun us s1 ⟨vs, H1, I1, r, ρ1, M1, ws, rl1, rv1, hl, f1⟩ => ⟨I1.kIn, ?_⟩) he hpl
  have h1 : vs.length = n := by rw [← rv1.length]; exact hl
  have h2 : us.length = n := by rw [← r.length]; exact h1
  refine xmkG W hr hx hc I1 (fun a s z => ?_) r (by rw [h1, hn]) (by show us.length ≤ _; rw [h2, sizeLine_eq]; omega) rl1 rv1 f1
  have hbb := hb s (.ref a :: us) z (by rw [List.append_nil, List.length_cons, h2, hn])
  rw [List.append_nil] at hbb
  exact hbb
/-- C(k = v, ..) -/
theorem e_mkxK (W : XOk X.prog X.K X.mg C ps l fd) (hr : Room (k + 2) X.A) (hx : Passes (L2.CX X.prog X.w) X E) (hm : X.mg x = some (.ref C)) (hc : clsAt X.K nm = some C) (hb : BK fd ps 1 ks (0 :: perm.map (· + 1))) (hkw : PK X kws (ta X.K E mk))
    (hall : (backToKw pos (keywordEach kws X.env)).all (·.1.isSome) = true := by rfl) (hks : (backToKw pos (keywordEach kws X.env)).filterMap (·.1) = ks := by rfl)
    (hg : Gl X x := by rfl) (hdb : (x == ("__debug__" : Str)) = false := by decide) (hpl : ((backTo pos (starEach [] X.env)).any (·.1) || (backToKw pos (keywordEach kws X.env)).any (·.1.isNone)) = false := by rfl) {j m : Nat} (hj : ps.length = j + 1 := by rfl) (hl : ks.length = m := by rfl) :
    PE X (.Call (.Name x p) [] kws pos) (te X.K E (mAppK j 0 m perm (xmkW nm l) maN mk)) := by
  subst hl
  refine ⟨fun pins s σ H Q I ⟨ρ, M, env, rl, re, h⟩ => wpAny_Call_Name_kw (ld_glob I hg hm ?_ hdb)⟩
  have h : Fin X.K ρ H (PV X.K Q) E ((mk env M).bind fun ws M2 => if ([] : List Wv).length = 0 ∧ ws.length = ks.length ∧ (pick' perm ws).length = j then xmkW nm l (pick' perm ws) M2 else .no) := h
  refine PySem.W.callWith_KW0 (h₀ := X.base) I.ok.mod.kin W.T.kC hall (thn (hkw.run pos pins s σ H (fun vs H1 => ∃ ρ1 M1 ws, Rl X.K ρ1 M1 H1 ∧ RVs X.K ρ1 H1 ws vs ∧ ws.length = ks.length ∧ (pick' perm ws).length = j ∧ Fin X.K ρ1 H1 (PV X.K Q) E (xmkW nm l (pick' perm ws) M1)) I
    (ta_then rl re h fun ws M1 ρ1 H1 vs g1 rl1 re1 rv1 f1 => by obtain ⟨⟨_, h0, h2⟩, f1⟩ := pick f1; exact ⟨ρ1, M1, ws, rl1, rv1, h0, h2, f1⟩)) fun us s1 ⟨vs, H1, I1, r, ρ1, M1, ws, rl1, rv1, hl, hl2, f1⟩ => ⟨I1.kIn, ?_⟩) hpl
  have h1 : us.length = ks.length := by rw [← r.length, ← rv1.length]; exact hl
  rw [hks]
  have h3 : (pick' perm vs).length = j := by rw [← (pick_rvs perm rv1).length]; exact hl2
  refine xmkG W hr hx hc I1 (us := []) (us' := pick' perm us) (fun a s z => ?_) (pick_vals perm r) (by rw [h3, hj]) (Nat.zero_le _) rl1 (pick_rvs perm rv1) f1
  have hbb := hb.to s [.ref a] us rfl h1
  rw [show [Value.ref a] ++ us = .ref a :: us from rfl, pick_self] at hbb
  exact hbb
end
end Mi

namespace Mi
open PySem PySem.Spec PyProof.Rows L2 NdefX

/-! ### attributes -/
def getF (ns : List Str) (xs : List Wv) (f : Str) (M : Mem) : R Wv := match (ns.zip xs).lookup f with
  | some w => .ok w M
  | none => .no
def fldW (es is : List Str) (f : Str) : Wv → Mem → R Wv
  | .exc C ns xs, M => if es.contains C = true then getF ns xs f M else .no
  | .ins C ns xs, M => if is.contains C = true then getF ns xs f M else .no
  | .ref n, M => match M[n]? with
    | some (.ins C ns xs) => if is.contains C = true then getF ns xs f M else .no
    | _ => .no
  | _, _ => .no
def FldE (K : PySem.W.Frag) (es : List Str) (f : Str) : Prop := ∀ C ∈ es, ∀ D, clsAt K C = some D → XfC K D ∧ PySem.W.findIn K (.ref D) f = some none
def FldI (K : PySem.W.Frag) (is : List Str) (f : Str) : Prop := ∀ C ∈ is, ∀ D, clsAt K C = some D → Cls K D ∧ NoAttr K D f
section
variable {K : PySem.W.Frag} {ρ : Rn} {H : Hp} {M : Mem} {E : XK}
theorem lookup_rel : ∀ {fs : List (Str × V)} {ns : List Str} {xs : List Wv} {f : Str} {w : Wv}, fs.map (·.1) = ns → RVs K ρ H xs (fs.map (·.2)) → (ns.zip xs).lookup f = some w → ∃ v, fs.lookup f = some v ∧ RV K ρ H w v
  | [], _, xs, f, w, e, r, h => by
    subst e
    cases h
  | (g, v) :: fs, _, [], f, w, e, r, h => by
    subst e
    cases h
  | (g, v) :: fs, _, x :: xs, f, w, e, r, h => by
    subst e
    obtain ⟨v', vr, e2, r1, r2⟩ := r
    rw [List.map_cons] at e2
    cases e2
    rw [List.map_cons, List.zip_cons_cons, List.lookup_cons] at h
    rw [List.lookup_cons]
    cases q : f == g with
    | true =>
      have h : some x = some w := by simpa [q] using h
      cases h
      exact ⟨v, rfl, r1⟩
    | false => exact lookup_rel rfl r2 (by simpa [q] using h)
theorem getF_in {P : Wv → Mem → Rn → Hp → Prop} {fs : List (Str × V)} {ns : List Str} {xs : List Wv} {f : Str} (e : fs.map (·.1) = ns) (r : RVs K ρ H xs (fs.map (·.2))) (h : Fin K ρ H P E (getF ns xs f M)) : ∃ w v, fs.lookup f = some v ∧ RV K ρ H w v ∧ Fin K ρ H P E (.ok w M) := by
  unfold getF at h
  cases q : (ns.zip xs).lookup f with
  | none => rw [q] at h; exact h.elim
  | some w =>
    rw [q] at h
    obtain ⟨v, h1, h2⟩ := lookup_rel e r q
    exact ⟨w, v, h1, h2, h⟩
end
section
variable {X : Cx} {E : XK} {e : Expr} {me : Me} {f : Str} {es is : List Str} {pos : Pos}
theorem e_fld (he : PE X e (te X.K E me)) (hE : FldE X.K es f) (hI : FldI X.K is f) (hb : attributeBase e f X.env (eval e X.env) = eval e X.env := by rfl) : PE X (.Attribute e f pos) (te X.K E (mUn (fldW es is f) me)) := by
  refine ⟨fun pins s σ H Q I ⟨ρ, M, env, rl, re, h⟩ => ?_⟩
  refine attr_of hb (thn (he.run pins s σ H (fun v H1 => ∃ ρ1 M1 w, Rl X.K ρ1 M1 H1 ∧ RV X.K ρ1 H1 w v ∧ Fin X.K ρ1 H1 (PV X.K Q) E (fldW es is f w M1)) I (te_then rl re h fun w M1 ρ1 H1 v g1 rl1 re1 rv1 f1 => ⟨ρ1, M1, w, rl1, rv1, f1⟩)) fun u s1 ⟨v, H1, I1, ru, ρ1, M1, w, rl1, rv1, f1⟩ => ?_)
  have own : ∀ {C : Str} {D a dx : Addr} {fs : List (Str × V)} {ns : List Str} {xs : List Wv}, v = .ref a → clsAt X.K C = some D → H1 a = some (.ins D dx fs) → fs.map (·.1) = ns → RVs X.K ρ1 H1 xs (fs.map (·.2)) → Fin X.K ρ1 H1 (PV X.K Q) E (if is.contains C = true then getF ns xs f M1 else .no) →
      wpAny (model X.prog X.w) X.A (getAttr u f true) (EP X pins σ Q) X.xe s1 := by
    intro C D a dx fs ns xs ev c ea en r f2
    subst ev
    obtain rfl : u = Value.ref a := ru
    obtain ⟨hc, f2⟩ := pick f2
    obtain ⟨k1, k2⟩ := hI C (by simpa using hc) D c
    obtain ⟨w', v', l, rw', f3⟩ := getF_in en r f2
    exact getattr_ok I1 ea k1 k2 l fun u' s2 I2 ru' => ⟨v', H1, I2, ru', f3.here rl1 v' rw'⟩
  cases w with
  | ins C ns xs =>
    obtain ⟨D, a, dx, fs, c, ev, ⟨ea, _⟩, en, r⟩ := rv1
    exact own ev c ea en r f1
  | ref n =>
    obtain ⟨a, ev, ha⟩ := rv1
    have f1 : Fin X.K ρ1 H1 (PV X.K Q) E (match M1[n]? with | some (Ob.ins C ns xs) => if is.contains C = true then getF ns xs f M1 else .no | _ => .no) := f1
    cases q : M1[n]? with
    | none => rw [q] at f1; exact f1.elim
    | some o =>
      rw [q] at f1
      obtain ⟨b, h1, h2⟩ := rl1.ob n o q
      have eb : b = a := Option.some.inj (h1.symm.trans ha)
      subst eb
      cases o with
      | ins C ns xs =>
        obtain ⟨D, dx, fs, c, ea, en, r⟩ := h2
        exact own ev c ea en r f1
      | _ => exact f1.elim
  | exc C ns xs =>
    obtain ⟨D, a, d, fs, c, ev, ⟨ea, _⟩, ⟨ed, _⟩, en, r⟩ := rv1
    subst ev
    obtain rfl : u = Value.ref a := ru
    obtain ⟨hc, f2⟩ := pick (show Fin X.K ρ1 H1 (PV X.K Q) E (if es.contains C = true then getF ns xs f M1 else .no) from f1)
    obtain ⟨T, hno⟩ := hE C (by simpa using hc) D c
    obtain ⟨w', v', l, rw', f3⟩ := getF_in en r f2
    obtain ⟨o, vs, ho, hcl, hdi, hda⟩ := exg_at I1.hok ea
    obtain ⟨mA, hns, hr⟩ := (show ObjOk X.prog X.w H1 s1.heap d (.xd fs) from I1.hok d _ ed)
    obtain ⟨od, hod, hl⟩ := lookIn_ns hns
    obtain ⟨u', hu, ru'⟩ := RelO.some_of (v := v') (o := mA f) (by rw [← l]; exact hr f)
    have J : PySem.W.InstAt s1.heap a o D (some od) := ⟨ho, hcl, by unfold PySem.W.notCls; rw [hda] <;> rfl, by rw [hdi]; exact hod⟩
    exact PySem.HandSPX.exc_get I1.kIn J T.ga T.gg T.exC (PySem.W.findObj_own T.hdC hno rfl (by rw [hl, hu])) (handed_of ru') ⟨v', H1, I1.tok _, ru', f3.here rl1 v' rw'⟩
  | _ => exact f1.elim
end
end Mi

namespace Mi
open PySem PySem.Spec PyProof.Rows L2 NdefX

/-! ### isinstance, with classes of one's own -/
inductive Kd where
  | t (t : Ty) | i (C : Str) | e (C : Str)
def kdOf (M : Mem) : Wv → Option Kd
  | .exc C _ _ => some (.e C)
  | .ins C _ _ => some (.i C)
  | .dtt _ _ => some (.t .dct)
  | .ref n => match M[n]? with
    | some (.lst _) => some (.t .lst)
    | some (.ins C _ _) => some (.i C)
    | _ => none
  | w => (tyOf M w).map .t
/-- a class that is asked for: a built-in type of Ty, or none such; which of the own classes are beneath it -/
structure Cl where
  ty : Option Ty
  ow : List (Str × Bool)
  ex : List (Str × Bool)
def Cl.ans (c : Cl) : Kd → Option Bool
  | .t t => some (match c.ty with | some u => t.sub u | none => false)
  | .i C => c.ow.lookup C
  | .e C => c.ex.lookup C
def anyC : List Cl → Kd → Option Bool
  | [], _ => some false
  | c :: cs, k => match c.ans k with
    | some true => some true
    | some false => anyC cs k
    | none => none
def isO (cs : List Cl) (w : Wv) (M : Mem) : R Wv := match kdOf M w with
  | some k => match anyC cs k with
    | some b => .ok (.bl b) M
    | none => .no
  | none => .no
/-- what the class of a value is -/
def KdIs (K : PySem.W.Frag) : Kd → Value → Prop
  | .t t, v => v = .type t.name
  | .i C, v => ∃ D, clsAt K C = some D ∧ v = .ref D
  | .e C, v => ∃ D, clsAt K C = some D ∧ v = .ref D
/-- what the class must say so that isinstance may ask its instances -/
structure InsC (K : PySem.W.Frag) (D : Addr) : Prop where
  c : Cls K D
  ha : PySem.W.findIn K (.ref D) "__class__" = some (some (.builtin "object.__class__"))
  hn : PySem.W.specialIn K (.builtin "object.__class__") "__get__" = some (some (.builtin "getset_descriptor.__get__"))
  ht : PySem.W.takesIn K (.builtin "object.__class__") = some true
  hm : PySem.W.mroIn K D (.type "object") = some true
structure ClOk (K : PySem.W.Frag) (c : Cl) (u : Value) : Prop where
  t : ∀ t : Ty, PySem.W.kitOne K (.type t.name) u = some (match c.ty with | some x => t.sub x | none => false)
  o : ∀ C b, c.ow.lookup C = some b → ∃ D, clsAt K C = some D ∧ PySem.W.kitOne K (.ref D) u = some b ∧ InsC K D
  x : ∀ C b, c.ex.lookup C = some b → ∃ D, clsAt K C = some D ∧ PySem.W.kitOne K (.ref D) u = some b ∧ ExcC K D
inductive ClsOk (K : PySem.W.Frag) : List Cl → List Value → Prop
  | nil : ClsOk K [] []
  | cons {c : Cl} {u : Value} {cs : List Cl} {us : List Value} (h : ClOk K c u) (r : ClsOk K cs us) : ClsOk K (c :: cs) (u :: us)
section
variable {K : PySem.W.Frag} {ρ : Rn} {H : Hp} {M : Mem}
theorem ClsOk.any {k : Kd} {v : Value} (hk : KdIs K k v) : ∀ {cs : List Cl} {us : List Value} {b : Bool}, ClsOk K cs us → anyC cs k = some b → PySem.W.kitAny K v us = some b
  | _, _, _, .nil, h => by cases h; rfl
  | _, _, b, .cons (c := c) (u := u) h r, e => by
    have one : ∀ x, c.ans k = some x → PySem.W.kitOne K v u = some x := fun x q => by
      cases k with
      | t t => cases hk; cases q; exact h.t t
      | i C => obtain ⟨D, h1, rfl⟩ := hk; obtain ⟨D', h2, h3, _⟩ := h.o C x q; rw [h1] at h2; cases h2; exact h3
      | e C => obtain ⟨D, h1, rfl⟩ := hk; obtain ⟨D', h2, h3, _⟩ := h.x C x q; rw [h1] at h2; cases h2; exact h3
    have e : (match c.ans k with | some true => some true | some false => anyC _ k | none => none) = some b := e
    cases q : c.ans k with
    | none => rw [q] at e; cases e
    | some x =>
      rw [q] at e
      refine kitAny_cons (one x q) (fun hx => ?_) fun hx => ?_
      · subst hx; exact r.any hk e
      · subst hx; cases e; rfl
/-- what isinstance asks of the value -/
theorem kit_own {X : Cx} {pins : List (Addr × Obj)} {σ : L2.St} {s : Shared} {cs : List Cl} {us : List Value} (I : Inv X pins σ H s) (rl : Rl X.K ρ M H) {w : Wv} {v : V} {u : Value} {k : Kd} {b : Bool} (hne : cs ≠ []) (hcs : ClsOk X.K cs us) (e : kdOf M w = some k) (hb : anyC cs k = some b) (r : RV X.K ρ H w v) (ru : RelV v u) :
    ∃ (t : Value) (P : Heap → Prop), KdIs X.K k t ∧ PySem.W.KitX X.K u t P ∧ P s.heap ∧ u ≠ .builtin "__main__.__loader__#opaque" := by
  have base : ∀ {t : Ty}, tyOf M w = some t → k = .t t → ∃ (t : Value) (P : Heap → Prop), KdIs X.K k t ∧ PySem.W.KitX X.K u t P ∧ P s.heap ∧ u ≠ .builtin "__main__.__loader__#opaque" := fun {t} h hk => by
    subst hk
    obtain ⟨P, h1, h2, h3⟩ := kit_of I ru (tyx_of rl h r)
    exact ⟨_, P, rfl, h1, h2, h3⟩
  have fst : ∀ {kk : Kd}, anyC cs kk = some b → ∃ c u' x, ClOk X.K c u' ∧ c.ans kk = some x := fun {kk} h => by
    cases hcs with
    | nil => exact absurd rfl hne
    | @cons c u' cs' us' h1 h2 =>
      have h' : (match c.ans kk with | some true => some true | some false => anyC cs' kk | none => none) = some b := h
      cases q : c.ans kk with
      | none => rw [q] at h'; cases h'
      | some x => exact ⟨c, u', x, h1, q⟩
  have ins : ∀ {C : Str} {D a dx : Addr} {fs : List (Str × V)}, k = .i C → clsAt X.K C = some D → v = .ref a → H a = some (.ins D dx fs) → ∃ (t : Value) (P : Heap → Prop), KdIs X.K k t ∧ PySem.W.KitX X.K u t P ∧ P s.heap ∧ u ≠ .builtin "__main__.__loader__#opaque" := fun {C D a dx fs} hk hc hv ha => by
    subst hk hv
    obtain ⟨c, u', x, h1, h2⟩ := fst hb
    obtain ⟨D', z1, _, z2⟩ := h1.o C x h2
    rw [hc] at z1
    cases z1
    obtain ⟨P, h3, h4, h5⟩ := kit_of I ru (.base (.ins ha z2.c z2.ha z2.hn z2.ht z2.hm))
    exact ⟨_, P, ⟨D, hc, rfl⟩, h3, h4, h5⟩
  cases w with
  | ins C ns xs =>
    cases e
    obtain ⟨D, a, dx, fs, c, ev, ⟨ea, _⟩, en, r⟩ := r
    exact ins rfl c ev ea
  | exc C ns xs =>
    cases e
    obtain ⟨D, a, d, fs, hc, ev, ⟨ea, _⟩, ⟨ed, _⟩, en, r⟩ := r
    subst ev
    obtain rfl : u = Value.ref a := ru
    obtain ⟨c, u', x, h1, h2⟩ := fst hb
    obtain ⟨D', z1, _, z2⟩ := h1.x C x h2
    rw [hc] at z1
    cases z1
    obtain ⟨o, vs, ho, hcl, hdi, hda⟩ := exg_at I.hok ea
    obtain ⟨mA, hns, hr⟩ := (show ObjOk X.prog X.w H s.heap d (.xd fs) from I.hok d _ ed)
    obtain ⟨od, hod, hl⟩ := lookIn_ns hns
    have J : PySem.W.InstAt s.heap a o D (some od) := ⟨ho, hcl, by unfold PySem.W.notCls; rw [hda] <;> rfl, by rw [hdi]; exact hod⟩
    have hcd : (PySem.W.clsIn X.K D).isSome = true := by
      obtain ⟨cd, q, _⟩ := PySem.W.any_some z2.hd
      rw [q]
      rfl
    exact ⟨_, _, ⟨D, hc, rfl⟩, PySem.W.kitx_exc hcd z2.hg z2.hk z2.hs z2.ha z2.hn z2.ht z2.hm, J, fun z => nomatch z⟩
  | ref n =>
    have e : (match M[n]? with | some (Ob.lst _) => some (Kd.t .lst) | some (Ob.ins C _ _) => some (.i C) | _ => none) = some k := e
    obtain ⟨a, ev, ha⟩ := id r
    cases q : M[n]? with
    | none => rw [q] at e; cases e
    | some o =>
      rw [q] at e
      obtain ⟨b, h1, h2⟩ := rl.ob n o q
      have eb : b = a := Option.some.inj (h1.symm.trans ha)
      subst eb
      cases o with
      | lst xs =>
        cases e
        exact base (show (match M[n]? with | some (Ob.lst _) => some Ty.lst | _ => none) = some Ty.lst from by rw [q]) rfl
      | ins C ns xs =>
        cases e
        obtain ⟨D, dx, fs, c, ea, en, r⟩ := h2
        exact ins rfl c ev ea
      | _ => cases e
  | dtt ks xs =>
    cases e
    obtain ⟨a, kvs, ev, ⟨ea, _⟩, _⟩ := r
    subst ev
    obtain ⟨P, h3, h4, h5⟩ := kit_of I ru (.base (.dT ea))
    exact ⟨_, P, rfl, h3, h4, h5⟩
  | _ => first | (cases e; done) | (cases e; exact base rfl rfl)
end
/-- a class named as an argument -/
structure IsCl (X : Cx) (e : Expr) (c : Cl) (v : V) (u : Value) : Prop where
  pe : PE X e (tC v)
  st : ∀ es, starEach (e :: es) X.env = (false, eval e X.env) :: starEach es X.env
  cl : ClsV v u
  ok : ClOk X.K c u
theorem isClO {X : Cx} {x : Str} {pos : Pos} {D : Addr} {c : Cl} (hg : Gl X x) (hm : X.mg x = some (.ref D)) (h : ClOk X.K c (.ref D)) (hdb : (x == ("__debug__" : Str)) = false := by decide) : IsCl X (.Name x pos) c (.ref D) (.ref D) :=
  ⟨pe_glob hg hm rfl hdb, fun _ => rfl, .own D, h⟩
theorem isClT {X : Cx} {x : Str} {pos : Pos} {T : String} {c : Cl} (hg : Gl X x) (hm : X.mg x = none) (hv : bootBuiltins x = some (.type T)) (h : ClOk X.K c (.type T)) (hn : x ≠ "__name__" := by decide) (hdb : (x == ("__debug__" : Str)) = false := by decide) : IsCl X (.Name x pos) c (.ty T) (.type T) :=
  ⟨pe_bltn hg hm hv rfl hn hdb, fun _ => rfl, .ty T, h⟩
inductive IsCls (X : Cx) : List Expr → List Cl → List V → List Value → Prop
  | nil : IsCls X [] [] [] []
  | cons {e : Expr} {es : List Expr} {c : Cl} {cs : List Cl} {v : V} {vs : List V} {u : Value} {us : List Value} (h : IsCl X e c v u) (r : IsCls X es cs vs us) : IsCls X (e :: es) (c :: cs) (v :: vs) (u :: us)
theorem IsCls.pa {X : Cx} : ∀ {es : List Expr} {cs : List Cl} {vs : List V} {us : List Value}, IsCls X es cs vs us → PA X es (tCs vs)
  | _, _, _, _, .nil => PA.imp pa_nil fun _ _ _ h => h
  | _, _, _, _, .cons h r => PA.imp (pa_cons h.pe r.pa (h.st _)) fun _ _ _ q => q
theorem IsCls.pr {X : Cx} : ∀ {es : List Expr} {cs : List Cl} {vs : List V} {us : List Value}, IsCls X es cs vs us → Paired ClsV vs us ∧ ClsOk X.K cs us ∧ cs.length = vs.length
  | _, _, _, _, .nil => ⟨.nil, .nil, rfl⟩
  | _, _, _, _, .cons h r => ⟨.cons h.cl r.pr.1, .cons h.ok r.pr.2.1, by simp [r.pr.2.2]⟩
section
variable {X : Cx} {E : XK} {a b : Expr} {ma : Me} {x : Str} {p pos p1 : Pos} {es : List Expr} {k : Nat} {c : Cl} {cs : List Cl} {v : V} {vs : List V} {u : Value} {us : List Value}
theorem fin_isO {K : PySem.W.Frag} {ρ : Rn} {M : Mem} {H : Hp} {Q : VK} {w : Wv} (h : Fin K ρ H (PV K Q) E (isO cs w M)) : ∃ kd b, kdOf M w = some kd ∧ anyC cs kd = some b ∧ Fin K ρ H (PV K Q) E (.ok (.bl b) M) := by
  unfold isO at h
  cases q : kdOf M w with
  | none => rw [q] at h; exact h.elim
  | some kd =>
    rw [q] at h
    have h : Fin K ρ H (PV K Q) E (match anyC cs kd with | some b => R.ok (Wv.bl b) M | none => .no) := h
    cases q2 : anyC cs kd with
    | none => rw [q2] at h; exact h.elim
    | some b => rw [q2] at h; exact ⟨kd, b, rfl, q2, h⟩
/-- isinstance(x, c), as my mirrors wish it -/
def rIsO (K : PySem.W.Frag) (E : XK) (cs : List Cl) (one : Bool) (vs : List V) : List V → Hp → VK → Prop := fun xs H Q => ∃ ρ M w x, Rl K ρ M H ∧ RV K ρ H w x ∧ Fin K ρ H (PV K Q) E (isO cs w M) ∧
  if one = true then ∃ v, vs = [v] ∧ xs = [x, v] else ∃ tp, xs = [x, .ref tp] ∧ H tp = some (.tup vs)
theorem call_isO1 (hp : ClsV v u) (hc : ClOk X.K c u) : CallR X (.builtin "isinstance") (rIsO X.K E [c] true [v]) := by
  intro pins s σ H xs zs Q I r h
  obtain ⟨ρ, M, w, x, rl, rw', f, h⟩ := h
  obtain ⟨v', ev, rfl⟩ := (if_pos rfl).mp h
  cases ev
  obtain ⟨u1, u2, rfl, r1, r2⟩ := vals2 r
  have e2 := hp.eq r2
  subst e2
  obtain ⟨kd, b, q1, q2, f⟩ := fin_isO f
  obtain ⟨t, P, h1, Z, pp, hx⟩ := kit_own I rl (by simp) (.cons hc .nil) q1 q2 rw' r1
  have q3 : PySem.W.kitOne X.K t u2 = some b := by
    have z := ClsOk.any h1 (.cons hc .nil) q2
    have z : (match PySem.W.kitOne X.K t u2 with | some true => some true | some false => PySem.W.kitAny X.K t [] | none => none) = some b := z
    cases q : PySem.W.kitOne X.K t u2 with
    | none => rw [q] at z; cases z
    | some y => rw [q] at z; cases y <;> (cases z; rfl)
  exact PySem.W.kia_one Z I.kIn pp q3 hx fun tk => ⟨.bl b, H, I.tok tk, rfl, f.here rl _ rfl⟩
theorem call_isOT (hp : Paired ClsV vs us) (hc : ClsOk X.K cs us) (hne : cs ≠ []) : CallR X (.builtin "isinstance") (rIsO X.K E cs false vs) := by
  intro pins s σ H xs zs Q I r h
  obtain ⟨ρ, M, w, x, rl, rw', f, h⟩ := h
  obtain ⟨tp, rfl, hT⟩ := (if_neg (by simp)).mp h
  obtain ⟨u1, u2, rfl, r1, r2⟩ := vals2 r
  cases (show u2 = Value.ref tp from r2)
  obtain ⟨kd, b, q1, q2, f⟩ := fin_isO f
  obtain ⟨t, P, h1, Z, pp, hx⟩ := kit_own I rl hne hc q1 q2 rw' r1
  obtain ⟨_, its, rv, o, h3, h4, n, h5⟩ := (show ObjOk X.prog X.w H s.heap tp (.tup vs) from I.hok tp _ hT)
  have e3 := ClsV.all hp rv
  subst e3
  obtain ⟨oc, od, dt, sl⟩ := o
  simp only at h4 h5
  subst h4 h5
  exact PySem.W.kia_tup Z I.kIn pp h3 (ClsOk.any h1 hc q2) hx fun tk => ⟨.bl b, H, I.tok tk, rfl, f.here rl _ rfl⟩
theorem e_iso (hm : X.mg "isinstance" = none) (ha : PE X a (te X.K E ma)) (hb : IsCl X b c v u) (hg : Gl X "isinstance" := by rfl) (hs : starEach (a :: [b]) X.env = (false, eval a X.env) :: starEach [b] X.env := by rfl) (hpl : (backTo pos (starEach [b] X.env)).any (·.1) = false := by rfl) :
    PE X (.Call (.Name "isinstance" p) [a, b] [] pos) (te X.K E (mUn (isO [c]) ma)) :=
  PE.imp (pe_callB (call_isO1 (E := E) hb.cl hb.ok) hg hm PyProof.Rows.boot_isinstance (pa_cons ha (pa_cons hb.pe pa_nil (hb.st _)) hs) (by decide) (by decide) hs hpl) fun σ H Q ⟨ρ, M, env, rl, re, f⟩ =>
    te_then rl re f fun w M1 ρ1 H1 y g1 rl1 re1 rv1 f1 => ⟨ρ1, M1, w, y, rl1, rv1, f1, (if_pos rfl).mpr ⟨v, rfl, rfl⟩⟩
theorem e_isot (hm : X.mg "isinstance" = none) (ha : PE X a (te X.K E ma)) (hb : IsCls X es cs vs us) (hne : cs ≠ [] := by simp) (hlen : cs.length ≤ lim := by decide) (hg : Gl X "isinstance" := by rfl) (hs : starEach (a :: [.Tuple es k p1]) X.env = (false, eval a X.env) :: starEach [.Tuple es k p1] X.env := by rfl)
    (hpl : (backTo pos (starEach [.Tuple es k p1] X.env)).any (·.1) = false := by rfl) : PE X (.Call (.Name "isinstance" p) [a, .Tuple es k p1] [] pos) (te X.K E (mUn (isO cs) ma)) :=
  PE.imp (pe_callB (call_isOT (E := E) hb.pr.1 hb.pr.2.1 hne) hg hm PyProof.Rows.boot_isinstance (pa_cons ha (pa_cons (pe_tup hb.pa) pa_nil) hs) (by decide) (by decide) hs hpl) fun σ H Q ⟨ρ, M, env, rl, re, f⟩ => by
    refine te_then rl re f fun w M1 ρ1 H1 y g1 rl1 re1 rv1 f1 => ?_
    refine ⟨by rw [← hb.pr.2.2]; exact lim_le hlen, fun q hq => ?_⟩
    have g2 : Gr ρ1 H1 ρ1 (upd H1 q (.tup vs)) := Gr.fresh hq
    exact ⟨ρ1, M1, w, y, rl1.upd hq, RV.mono g2 w rv1, Fin.from g2 f1, (if_neg (by simp)).mpr ⟨q, rfl, upd_same⟩⟩
end
end Mi

namespace Mi
open PySem PySem.Spec PyProof.Rows L2 NdefX

/-! ### raise C(e, ..) -/
def sRaise (C : Str) (l : List (Str × Nat)) (n : Nat) (a : Ma) : Ms := fun env M => (a env M).bind fun ws M1 => if ws.length = n then (match fldsW ws l [] [] with
  | some (ns, xs) => .exc ⟨C, ns.zip xs⟩ M1
  | none => .no) else .no
section
variable {X : Cx} {E : XK} {k : Nat} {C : Addr} {nm : Str} {ps : List Str} {l : List (Str × Nat)} {fd : FuncData} {x : Str} {p pos pos' : Pos} {e : Expr} {es : List Expr} {ma : Ma}
theorem zip_fst {ns : List Str} {xs : List Wv} (h : ns.length = xs.length) : (ns.zip xs).map (·.1) = ns := List.map_fst_zip (Nat.le_of_eq h)
theorem zip_snd {ns : List Str} {xs : List Wv} (h : ns.length = xs.length) : (ns.zip xs).map (·.2) = xs := List.map_snd_zip (Nat.le_of_eq h.symm)
theorem pmk_x (W : XOk X.prog X.K X.mg C ps l fd) (hr : Room (k + 2) X.A) (hm : X.mg x = some (.ref C)) (hc : clsAt X.K nm = some C) (hb : Binds X.K fd ps []) (ha : PA X (e :: es) (ta X.K E ma)) {n : Nat} (hn : ps.length = n + 1) (hz : n ≤ 1000)
    (hg : Gl X x) (hdb : (x == ("__debug__" : Str)) = false) (he : starEach (e :: es) X.env = (false, eval e X.env) :: starEach es X.env) (hpl : (backTo pos (starEach es X.env)).any (·.1) = false) :
    PMk X (.Call (.Name x p) (e :: es) [] pos) (fun σ H Q => (∀ cls d H', E cls d H' → Q cls d H') ∧ ∃ (PP : Fl → Mem → Rn → Hp → Prop) (ρ : Rn) (M : Mem) (env : Ev), Rl X.K ρ M H ∧ RE X.K ρ H env σ ∧ Fin X.K ρ H PP E (sRaise nm l n ma env M)) := by
  rintro pins s σ H Q I ⟨hEQ, PP, ρ, M, env, rl, re, h⟩
  refine wpAny_Call_Name_kw (ld_glob I hg hm ?_ hdb)
  refine PySem.W.callWith_K (h₀ := X.base) I.ok.mod.kin W.T.kC (thn (ha.run pos pins s σ H (fun vs H1 => ∃ ρ1 M1 ws, Rl X.K ρ1 M1 H1 ∧ RVs X.K ρ1 H1 ws vs ∧ ws.length = n ∧ Fin X.K ρ1 H1 PP E (match fldsW ws l [] [] with | some (ns, xs) => R.exc ⟨nm, ns.zip xs⟩ M1 | none => .no)) I
    (ta_then rl re h fun ws M1 ρ1 H1 vs g1 rl1 re1 rv1 f1 => by obtain ⟨h0, f1⟩ := pick f1; exact ⟨ρ1, M1, ws, rl1, rv1, h0, f1⟩)) fun us s1 ⟨vs, H1, I1, r, ρ1, M1, ws, rl1, rv1, hl, f1⟩ => ⟨I1.kIn, ?_⟩) he hpl
  have h1 : vs.length = n := by rw [← rv1.length]; exact hl
  have h2 : us.length = n := by rw [← r.length]; exact h1
  cases q : fldsW ws l [] [] with
  | none => rw [q] at f1; exact f1.elim
  | some z =>
    obtain ⟨ns, xs⟩ := z
    rw [q] at f1
    obtain ⟨ys, g1, g2, g3⟩ := flds_rel rv1 q
    obtain ⟨g4, g5⟩ := g3 [] rfl rfl
    have hlen : ns.length = xs.length := by rw [g5.length, ← g4, List.length_map, List.length_map]
    show wpAny _ _ (call (.ref C) us) _ _ _
    obtain ⟨hp, g, d, t, os⟩ := s1
    have hn1 : H1 (hp.objs.size + 1) = none := I1.hok.fresh (Nat.le_succ _)
    refine wpAny_call (xmk_code W hr (E := fun _ _ _ => False) I1 (fun s z => ?_) r (by rw [h1, hn]) (by show us.length ≤ _; rw [h2, sizeLine_eq]; omega) g1 (g2 _) (fun dx s' zz => ?_) fun er s' zz => ?_)
    · have hbb := hb s (.ref (hp.objs.size + 1) :: us) z (by rw [List.append_nil, List.length_cons, h2, hn])
      rw [List.append_nil] at hbb
      exact hbb
    · obtain ⟨v, H2, os2, bare2, un2, hok2, rv, ev, hd, hda, eH⟩ := zz
      obtain ⟨hh2, gg2, dd2, tt2, oo2⟩ := s'
      have ea : H2 (hp.objs.size + 1) = some (exo (hp.objs.size + 1) C (some dx)) := by rw [eH, upd_same]
      have ed : H2 dx = some (exd dx (fldsV l ys [])) := by rw [eH, upd_ne hda, upd_same]
      have eF : upd (del H2 (hp.objs.size + 1)) dx (.xd (fldsV l ys [])) = upd H1 dx (.xd (fldsV l ys [])) := by
        funext b
        by_cases y1 : b = dx
        · subst y1; rw [upd_same, upd_same]
        · rw [upd_ne y1, upd_ne y1]
          by_cases y2 : b = hp.objs.size + 1
          · subst y2; rw [del_same, hn1]
          · rw [del_ne y2, eH, upd_ne y2, upd_ne y1, upd_ne y2]
      refine mk_end (hp2 := XK.made hp C us) (raises_own W.T.exC W.T.tyC) I1 (Nat.le_succ _) (fun b o z => Heap.get?_push_of_some _ (Heap.get?_push_of_some _ z)) un2 hok2 os2 bare2 ea ed hd (hEQ _ _ _ ?_)
      rw [eF]
      have gg : Gr ρ1 H1 ρ1 (upd H1 dx (.xd (fldsV l ys []))) := Gr.fresh hd
      exact f1 C ρ1 _ dx (fldsV l ys []) hc gg (rl1.upd hd) upd_same (rl1.out hd) ⟨by show _ = (ns.zip xs).map (·.1); rw [zip_fst hlen]; exact g4, by show RVs _ _ _ ((ns.zip xs).map (·.2)) _; rw [zip_snd hlen]; exact RVs.mono gg _ g5⟩
    · obtain ⟨a, B, H', cls, d', _, _, _, _, _, _, _, z⟩ := zz
      exact z.elim
theorem s_raise (hcalm : X.calm = true) (tk : Takes X (WE1 E)) (W : XOk X.prog X.K X.mg C ps l fd) (hr : Room (k + 2) X.A) (hm : X.mg x = some (.ref C)) (hc : clsAt X.K nm = some C) (hb : Binds X.K fd ps []) (ha : PA X (e :: es) (ta X.K E ma)) {n : Nat} (hn : ps.length = n + 1 := by rfl) (hz : n ≤ 1000 := by decide)
    (hg : Gl X x := by rfl) (hdb : (x == ("__debug__" : Str)) = false := by decide) (he : starEach (e :: es) X.env = (false, eval e X.env) :: starEach es X.env := by rfl) (hpl : (backTo pos (starEach es X.env)).any (·.1) = false := by rfl) :
    PS X (.Raise (some (.Call (.Name x p) (e :: es) [] pos)) none pos') (ts X.K E (sRaise nm l n ma)) :=
  PS.imp (ps_raise hcalm tk (pmk_x W hr hm hc hb ha hn hz hg hdb he hpl)) fun D σ H ⟨ρ, M, env, rl, re, f⟩ => ⟨fun _ _ _ h => h, _, ρ, M, env, rl, re, f⟩
end
end Mi

namespace Mi
open PySem PySem.Spec PyProof.Rows L2 NdefX

/-! ### try: .. except c as n: ..; behind the raise nothing is known of the names but n -/
def Fl.cut (i : Nat) : Fl → Fl
  | .nx env => .nx (env.set i none)
  | .ret w => .ret w
  | .bk env => .bk (env.set i none)
  | .ct env => .ct (env.set i none)
def sTry (body : Ms) (tab : List (Str × Bool)) (i : Nat) (suite : Ms) : Ms := fun env M => match body env M with
  | .ok fl M1 => .ok fl M1
  | .exc x M1 => match tab.lookup x.cls with
    | some true => (noX (suite ((List.replicate env.length none).set i (some (.exc x.cls (x.fs.map (·.1)) (x.fs.map (·.2))))) M1)).bind fun fl M2 => .ok (fl.cut i) M2
    | some false => .exc x M1
    | none => .no
  | .no => .no
def E0 : XK := fun _ _ _ => False
/-- the ends of the suite -/
def cutD (i : Nat) (D : Ends) : Ends := { nx := fun σ H => D.nx (σ.set i none) H, rt := D.rt, bk := fun σ H => D.bk (σ.set i none) H, ct := fun σ H => D.ct (σ.set i none) H }
theorem re_cut {K : PySem.W.Frag} {ρ : Rn} {H : Hp} {env : Ev} {σ : L2.St} (r : RE K ρ H env σ) (i : Nat) : RE K ρ H (env.set i none) (σ.set i none) := by
  refine ⟨by rw [List.length_set, List.length_set]; exact r.1, fun j w e => ?_⟩
  by_cases h : i = j
  · subst h
    have hlt : i < env.length := by have := (List.getElem?_eq_some_iff.mp e).1; simpa using this
    rw [List.getElem?_set_self hlt] at e
    cases e
  · rw [List.getElem?_set_ne h] at e ⊢
    exact r.2 j w e
theorem pf_cut {K : PySem.W.Frag} {ρ : Rn} {H : Hp} {M : Mem} {D : Ends} {i : Nat} {fl : Fl} (h : PF K D (fl.cut i) M ρ H) : PF K (cutD i D) fl M ρ H := by
  cases fl with
  | nx env => exact fun σ re => h _ (re_cut re i)
  | ret w => exact h
  | bk env => exact fun σ re => h _ (re_cut re i)
  | ct env => exact fun σ re => h _ (re_cut re i)
/-- what the body wishes of an exception -/
def tryE (K : PySem.W.Frag) (N : List Str) (c : Value) (i : Nat) (ms : Ms) (E : XK) (D : Ends) : XK := fun cls d H => ∀ σ : L2.St, σ.length = N.length → ∃ b, PySem.W.exmOne K cls c = some b ∧
  (b = true → ∃ Dc dd, cls = .ref Dc ∧ d = some dd ∧ ∀ a, H a = none → ts K E0 ms (cutD i D) (σ.set i (some (.ref a))) (upd H a (exg a Dc dd))) ∧ (b = false → E cls d H)
section
variable {K : PySem.W.Frag} {ρ : Rn} {H : Hp} {M : Mem} {E : XK} {D : Ends} {N : List Str} {c : Value} {i : Nat} {ms mb : Ms} {tab : List (Str × Bool)} {env : Ev}
theorem try_fin (hN : env.length = N.length) (ht : ∀ nm b, tab.lookup nm = some b → ∀ Dc, clsAt K nm = some Dc → PySem.W.exmOne K (.ref Dc) c = some b) (h : Fin K ρ H (PF K D) E (sTry mb tab i ms env M)) : Fin K ρ H (PF K D) (tryE K N c i ms E D) (mb env M) := by
  unfold sTry at h
  cases q : mb env M with
  | ok fl M1 => rw [q] at h; exact h
  | no => rw [q] at h; exact h.elim
  | exc x M1 =>
    rw [q] at h
    have h : Fin K ρ H (PF K D) E (match tab.lookup x.cls with
      | some true => (noX (ms ((List.replicate env.length none).set i (some (.exc x.cls (x.fs.map (·.1)) (x.fs.map (·.2))))) M1)).bind fun fl M2 => .ok (fl.cut i) M2
      | some false => .exc x M1
      | none => .no) := h
    intro Dc ρ' H' d vs hc g rl hd hno rf σ hσ
    cases q2 : tab.lookup x.cls with
    | none => rw [q2] at h; exact h.elim
    | some b =>
      rw [q2] at h
      refine ⟨b, ht _ _ q2 Dc hc, fun e => ?_, fun e => ?_⟩
      · subst e
        refine ⟨Dc, d, rfl, rfl, fun a ha => ?_⟩
        have g2 : Gr ρ' H' ρ' (upd H' a (exg a Dc d)) := Gr.fresh ha
        have hda : d ≠ a := fun z => by rw [z, ha] at hd; cases hd
        have re : RE K ρ' (upd H' a (exg a Dc d)) ((List.replicate env.length none).set i (some (.exc x.cls (x.fs.map (·.1)) (x.fs.map (·.2))))) (σ.set i (some (.ref a))) := by
          refine RE.set ⟨by rw [List.length_replicate, hN, hσ], fun j w e => ?_⟩ ⟨Dc, a, d, vs, hc, rfl, ⟨upd_same, rl.out ha⟩, ⟨by rw [upd_ne hda]; exact hd, hno⟩, rf.1, RVs.mono g2 _ rf.2⟩
          have := List.mem_of_getElem? e
          simp at this
        refine ⟨ρ', M1, _, rl.upd ha, re, ?_⟩
        have f := Fin.from (g.trans g2) h
        have f2 := fin_noX (E' := E0) (ρ' := ρ') (H' := upd H' a (exg a Dc d)) f
        refine f2.imp fun fl M2 ρ2 H2 g3 rl3 f3 => ?_
        exact pf_cut (f3 ρ2 H2 g3 rl3)
      · subst e
        exact h Dc ρ' H' d vs hc g rl hd hno rf
end
section
variable {X : Cx} {pins : List (Addr × Obj)} {σ : L2.St} {H : Hp} {s : Shared}
/-- an object that no one knew is known from here on -/
theorem track (hex : X.ex = []) (I : Inv X pins σ H s) {a D d : Addr} {o : Obj} {vs : Array Value} (na : H a = none) (n0 : X.s_0.heap.get? a = none) (nL : a ≠ X.env.locals) (nC : ∀ y c, X.env.cells.lookup y = some c → c ≠ a) (nP : ∀ p ∈ X.pn ++ pins, p.1 ≠ a) (e : s.heap.get? a = some o) (hc : o.cls = .ref D) (hd : o.dict = some d) (hv : o.data = .fields vs) :
    Inv X pins σ (upd H a (exg a D d)) s := by
  have ne : ∀ {b : Addr} {u : HO}, H b = some u → b ≠ a := fun {b u} h z => by rw [z, na] at h; cases h
  refine ⟨I.ok, I.os, I.bare, ⟨fun b u h n h1 h2 => I.base.keep b u h n h1 h2, fun b u h n h1 h2 => I.base.slot b u h n h1 h2, fun b u h n h2 => ?_, I.base.there, fun b xs h => ?_, fun b u v h => ?_, fun b ps h => ?_⟩, I.loc, I.cell, by rw [upd_ne (Ne.symm nL)]; exact I.free, fun y c h => by rw [upd_ne (nC y c h)]; exact I.freeC y c h,
    fun p hp => by rw [upd_ne (nP p hp)]; exact I.pin p hp, fun b u h => ?_, I.len⟩
  · rw [upd_ne (fun z => by rw [z, n0] at h; cases h)]
    exact I.base.free b u h n h2
  · have h := I.base.tups b xs h
    rw [upd_ne (ne h)]; exact h
  · have h := I.base.frzs b u v h
    rw [upd_ne (ne h)]; exact h
  · obtain ⟨more, h⟩ := I.base.tbls b ps h
    exact ⟨more, by rw [upd_ne (ne h)]; exact h⟩
  · by_cases z : b = a
    · subst z
      rw [upd_same] at h
      cases h
      exact exg_ok e hc hd hv
    · rw [upd_ne z] at h
      exact (I.hok b u h).stay (fun c o' _ h => h) (fun c h => by rw [upd_ne (ne h)]; exact h) (fun c xs h => by rw [upd_ne (ne h)]; exact h)
theorem toSuite (I : Inv X pins σ H s) (a : Addr) : Inv (X.suite a (X.pn ++ pins)) [] σ H s :=
  ⟨I.ok.suite _ _, I.os, I.bare, I.base, I.loc, I.cell, I.free, I.freeC, fun p hp => I.pin p (by rw [List.append_nil] at hp; exact hp), I.hok, I.len⟩
theorem ofSuite {a : Addr} {pn' : List (Addr × Obj)} (ok : X.Ok) (I : Inv (X.suite a (X.pn ++ pins)) pn' σ H s) : Inv X pins σ H s :=
  ⟨ok, I.os, I.bare, I.base, I.loc, I.cell, I.free, I.freeC, fun p hp => I.pin p (List.mem_append_left _ hp), I.hok, I.len⟩
end
section
variable {X : Cx} {E : XK} {x n : Str} {c : Value} {i : Nat} {body suite : List Stmt} {b₀ : Stmt} {np pos pos' : Pos} {mb ms : Ms} {tab : List (Str × Bool)}
theorem s_try (hs : X.stack = X.env :: X.outer) (hf : X.env.frame = some X.env.locals) (hex : X.ex = []) (hN : X.N.Nodup) (hi : X.N[i]? = some n) (hln : X.env.kindOf n = some .local) (hc : Names X x c) (tk : Takes X (WE1 E))
    (ht : ∀ nm b, tab.lookup nm = some b → ∀ Dc, clsAt X.K nm = some Dc → PySem.W.exmOne X.K (.ref Dc) c = some b)
    (hb : ∀ (E' : XK) (pn : List (Addr × Obj)) (xe : Value → Shared → Prop), Takes (X.tr pn xe) (WE1 E') → PassesOwn (model X.prog X.w) X.A X.env xe → PSs (X.tr pn xe) body (ts X.K E' mb))
    (hsu : ∀ (a : Addr) (pn : List (Addr × Obj)), PSs (X.suite a pn) (b₀ :: suite) (ts X.K E0 ms)) :
    PS X (.Try body [.ExceptHandler (some (.Name x np)) (some n) (b₀ :: suite) pos'] [] [] pos) (ts X.K E (sTry mb tab i ms)) := by
  refine ⟨fun pins s σ H D I h => ?_⟩
  obtain ⟨ρ, M, env, rl, re, f⟩ := h
  have ok := I.ok
  have fr0 : X.A.frames = some (X.env :: X.outer) := by rw [ok.frames, hs]
  have f1 := try_fin (N := X.N) (c := c) (by rw [re.1, I.len]) ht f
  refine wpAny_Try_except ?_
  let xe : Value → Shared → Prop := fun e s₁ => wpAny (model X.prog X.w) X.A (noteFrame e X.env) (fun _ s₂ => wpAny (model X.prog X.w) X.A (setFlight e none) (fun _ s₃ => wpAny (model X.prog X.w) X.A (handleBy e X.env [.ExceptHandler (some (.Name x np)) (some n) (b₀ :: suite) pos']) (SP X pins D) X.xe s₃) X.xe s₂) X.xe s₁
  have run := (hb (tryE X.K X.N c i ms E D) (X.pn ++ pins) xe (fun u s' xx => ?_) PassesOwn.looking).run [] s σ H D (I.toTry _) ⟨ρ, M, env, rl, re, f1⟩
  · refine wpAny_mono run (fun fl s1 hsp => ?_) (fun e s1 he => he)
    cases fl with
    | next => obtain ⟨σ', H', J, q⟩ := hsp; exact wpAny_execs_nil ⟨σ', H', J.ofTry ok, q⟩
    | brk => obtain ⟨σ', H', J, q⟩ := hsp; exact ⟨σ', H', J.ofTry ok, q⟩
    | cont => obtain ⟨σ', H', J, q⟩ := hsp; exact ⟨σ', H', J.ofTry ok, q⟩
    | ret u => obtain ⟨v, σ', H', J, r, q⟩ := hsp; exact ⟨v, σ', H', J.ofTry ok, r, q⟩
  · obtain ⟨a, B, sI, pl, σ1, H1, cls, d, rfl, J0, nb, up, sky, na, os, ag, w⟩ := xx
    obtain ⟨b, hb1, hyes, hno⟩ := w σ1 J0.len
    have J : Inv X pins σ1 H1 sI := J0.ofTry ok
    have sky1 : Sky B (X.env :: X.outer) a (Zc cls d) X.env.locals s'.heap := by rw [← hs]; exact sky
    show wpAny (model X.prog X.w) X.A (noteFrame (.ref a) X.env) _ _ _
    refine Sky.land Zc.steady fr0 hf sky1 fun h3 fl3 up3 => ?_
    have J3 : Inv X pins σ1 H1 { s' with heap := h3 } := J.landed nb fl3.1 (up.trans up3) os ag
    obtain ⟨o3, v3, he3, hz3, hd3⟩ := fl3.there
    have outF : ∀ {h : Heap} {o : Obj} {vs : Array Value}, h.FunFrames B (X.env :: X.outer) → h.get? a = some o → o.data = .fields vs → a ∉ frs (X.env :: X.outer) := fun {h o vs} ff e dd hm => by
      obtain ⟨_, o', e', bad⟩ := ff.mem hm
      rw [e] at e'
      cases e'
      exact bad _ dd
    have nfr := outF fl3.2.2.1 he3 hd3
    have noI : sI.heap.get? a = none := by
      cases z : sI.heap.get? a with
      | none => rfl
      | some o =>
        have y := nb a o z (by rw [hs]; exact nfr)
        rw [fl3.2.1] at y
        cases y
    have no0 : X.s_0.heap.get? a = none := by
      cases z : X.s_0.heap.get? a with
      | none => rfl
      | some o =>
        obtain ⟨o', y⟩ := J.base.there a o z (by rw [hex]; simp)
        rw [noI] at y
        cases y
    have noL : a ≠ X.env.locals := fun z => nfr (List.mem_filterMap.mpr ⟨X.env, List.mem_cons_self, by rw [hf, z]⟩)
    have noF : a ∉ X.fs := fun hm => by
      obtain ⟨e, he, q⟩ := List.mem_filterMap.mp hm
      exact nfr (List.mem_filterMap.mpr ⟨e, List.mem_cons_of_mem _ he, q⟩)
    have noC : ∀ y c, X.env.cells.lookup y = some c → c ≠ a := fun y c e z => by
      obtain ⟨v, o, ho, _⟩ := J.cell y c e
      rw [z, noI] at ho
      cases ho
    have noP : ∀ p ∈ X.pn ++ pins, p.1 ≠ a := fun p hp z => by
      have y := (J.pin p hp).1
      rw [z, noI] at y
      cases y
    have S3 := J3.suite he3 hd3 na noL noF
    refine wpAny_handleBy_cons (codeAny_handlers_test ?_) (by intro q; cases q)
    have LT : PySem.W.Looks (model X.prog X.w) h3 (typeOf (.ref a)) cls := fun A Q E s k q => wpAny_typeOf_ref (k _ _ he3) (by rw [hz3.1]; exact q)
    have LM := PySem.W.exm_one (M := model X.prog X.w) (J3.kIn) LT hb1
    have tst : ∀ {Q : Value → Shared → Prop} {E : Value → Shared → Prop}, Q c { s' with heap := h3 } → wpAny (model X.prog X.w) (X.A.mark (some (.ref a))) (eval (.Name x np) X.env) Q E { s' with heap := h3 } := fun {Q E} q => by
      obtain ⟨y1, y2, y3 | ⟨y3, y4, y5⟩⟩ := hc
      · exact ld_glob (X := X.suite a ((a, o3) :: (X.pn ++ pins))) S3 y1 y3 q y2
      · exact ld_blt (X := X.suite a ((a, o3) :: (X.pn ++ pins))) S3 y1 y3 y4 q y5 y2
    refine tst (LM.here ?_)
    cases b with
    | false =>
      show wpAny _ X.A (handleBy (.ref a) X.env []) _ _ _
      refine wpAny_handleBy_nil ?_
      obtain ⟨_, _, _, o, vs, T, _, _, he, hz, hd, h1, _⟩ := id fl3
      have fin : wpAny (model X.prog X.w) X.A (setFlight (.ref a) X.env.frame) (fun _ s4 => wpAny (model X.prog X.w) X.A (throw (.ref a) : Sem Flow) (SP X pins D) X.xe s4) X.xe { s' with heap := h3 } := by
        rw [hf]
        refine PySem.HandSPX.setFlight_upZ fl3 fun h4 k4 up4 => wpAny_throw (tk _ _ ⟨a, B, sI, pins, σ1, H1, cls, d, rfl, J, nb, (up.trans up3).trans up4, ?_, na, os, ag, hno rfl⟩)
        rw [hs]
        exact .inr (.inr k4)
      unfold PySem.passOn
      refine wpAny_bind (wpAny_field he hd h1 ?_)
      rw [if_neg (by simp)]
      first
        | exact wpAny_bind (wpAny_pure (wpAny_bind fin))
        | exact wpAny_bind fin
    | true =>
      obtain ⟨Dc, dd, rfl, rfl, hw⟩ := hyes rfl
      refine codeAny_handlers_suite_as ?_
      refine PySem.HandSPX.lands_againZ fl3 fun h4 fl4 up4 => ?_
      have J4 : Inv X pins σ1 H1 { s' with heap := h4 } := J.landed nb fl4.1 ((up.trans up3).trans up4) os ag
      obtain ⟨o4, v4, he4, hz4, hd4⟩ := fl4.there
      have J5 := track hex J4 na no0 noL noC noP he4 hz4.1 hz4.2 hd4
      have S5 := toSuite J5 a
      refine store_ok (X := X.suite a (X.pn ++ pins)) (v := .ref a) S5 hN hi (.inl hln) rfl (fun s6 S6 => ?_) (.inr hln)
      refine wpAny_mono ((hsu a (X.pn ++ pins)).run [] s6 _ _ (cutD i D) S6 (hw a na)) (fun fl s7 hsp => ?_) (fun _ _ z => z.elim)
      have leave : ∀ {σ7 : L2.St} {H7 : Hp} {Q : Shared → Prop}, Inv (X.suite a (X.pn ++ pins)) [] σ7 H7 s7 → (∀ s8, Inv X pins (σ7.set i none) H7 s8 → Q s8) → wpAny (model X.prog X.w) X.A (do bindName X.env n .none; unbindBehindTheSuite X.env n pos') (fun _ s8 => Q s8) X.xe s7 :=
        fun {σ7 H7 Q} z hq => gone_ok (ofSuite ok z) hN hi hln hq
      cases fl with
      | next => obtain ⟨σ7, H7, z, q⟩ := hsp; exact leave z fun s8 y => ⟨_, _, y, q⟩
      | brk => obtain ⟨σ7, H7, z, q⟩ := hsp; exact leave z fun s8 y => ⟨_, _, y, q⟩
      | cont => obtain ⟨σ7, H7, z, q⟩ := hsp; exact leave z fun s8 y => ⟨_, _, y, q⟩
      | ret u => obtain ⟨v7, σ7, H7, z, r, q⟩ := hsp; exact leave z fun s8 y => ⟨_, _, _, y, r, q⟩
end
end Mi

/-! repr of data with dicts in it: only a dict must not be sys.modules -/
namespace Mi.RP
open PySem PySem.Spec
mutual
inductive Rd (h : Heap) : Value → PyData → Prop
  | none : Rd h .none .none
  | bool (b) : Rd h (.bool b) (.bool b)
  | int (i t) : Rd h (.int i t) (.int i)
  | str (x t) : Rd h (.str x t) (.str x)
  | list {a o vs n xs} : h.get? a = some o → o.cls = .type "list" → o.data = .seq vs n → RdAll h vs.toList xs → Rd h (.ref a) (.list xs)
  | tuple {a o vs n xs} : h.get? a = some o → o.cls = .type "tuple" → o.data = .seq vs n → RdAll h vs.toList xs → Rd h (.ref a) (.tuple xs)
  | dict {a o es n kvs} : h.get? a = some o → o.cls = .type "dict" → o.data = .dict es n → (a == sysModules) = false → RdAll h (es.toList.map (·.key)) (kvs.map (·.1)) → RdAll h (es.toList.map (·.val)) (kvs.map (·.2)) → Rd h (.ref a) (.dict kvs)
inductive RdAll (h : Heap) : List Value → List PyData → Prop
  | nil : RdAll h [] []
  | cons {v vs d ds} : Rd h v d → RdAll h vs ds → RdAll h (v :: vs) (d :: ds)
end
mutual
theorem Rd.reads {h : Heap} : ∀ {v : Value} {d : PyData}, Rd h v d → ∃ as, Reads h v d as
  | _, _, .none => ⟨_, .none⟩
  | _, _, .bool b => ⟨_, .bool b⟩
  | _, _, .int i t => ⟨_, .int i t⟩
  | _, _, .str x t => ⟨_, .str x t⟩
  | _, _, .list h1 h2 h3 h4 => let ⟨_, r⟩ := h4.reads; ⟨_, .list h1 h2 h3 r⟩
  | _, _, .tuple h1 h2 h3 h4 => let ⟨_, r⟩ := h4.reads; ⟨_, .tuple h1 h2 h3 r⟩
  | _, _, .dict h1 h2 h3 _ h4 h5 => let ⟨_, r⟩ := h4.reads; let ⟨_, q⟩ := h5.reads; ⟨_, .dict h1 h2 h3 r q⟩
theorem RdAll.reads {h : Heap} : ∀ {v : List Value} {d : List PyData}, RdAll h v d → ∃ as, ReadsAll h v d as
  | _, _, .nil => ⟨_, .nil⟩
  | _, _, .cons a b => let ⟨_, r⟩ := a.reads; let ⟨_, q⟩ := b.reads; ⟨_, .cons r q⟩
end
section
variable {prog : Program} {w : World} {h₀ : Heap}
abbrev Sh (prog : Program) (w : World) (h₀ : Heap) (n : Nat) (v : Value) (t : Str) : Prop := ∃ bs, ReadAtMost h₀ n bs ∧ ReprK prog w bs h₀ n v t
abbrev ShA (prog : Program) (w : World) (h₀ : Heap) (n : Nat) (vs : List Value) (ts : List Str) : Prop := ∃ bs, ReadAtMost h₀ n bs ∧ ReprAllK prog w bs h₀ n vs ts
mutual
theorem Rd.sh : ∀ {v : Value} {d : PyData}, Rd h₀ v d → d.showable = true → d.shown.length ≤ sizeLine → Sh prog w h₀ d.depth v d.shown
  | _, _, .none, _, _ => ⟨[], (fun _ h => nomatch h), by simp only [PyData.shown]; exact .of_is ReprIs.none _ _ _⟩
  | _, _, .bool b, _, _ => ⟨[], (fun _ h => nomatch h), by simp only [PyData.shown]; exact .of_is (ReprIs.bool b) _ _ _⟩
  | _, _, .int i t, hs, _ => ⟨[], (fun _ h => nomatch h), by simp only [PyData.shown]; exact .of_is (ReprIs.int t (by simpa [PyData.showable] using hs)) _ _ _⟩
  | _, _, .str x t, _, hz => ⟨[], (fun _ h => nomatch h), by simp only [PyData.shown]; exact .of_is (ReprIs.str x t (by simpa only [PyData.shown] using hz)) _ _ _⟩
  | _, _, .list (a := a) (vs := vs) (xs := xs) h1 h2 h3 h4, hs, hz => by
    have hz1 : (listText (PyData.shownAll xs)).length ≤ sizeLine := by simpa only [PyData.shown] using hz
    obtain ⟨bs, hb, hk⟩ := h4.sh (by simpa [PyData.showable] using hs) (fun t ht => Nat.le_trans (listText_mem_le ht) hz1)
    obtain ⟨as, ra⟩ := h4.reads
    have r := Reads.list h1 h2 h3 ra
    have out : a ∉ bs := not_mem_of_deeper r (by simp only [PyData.depth]; omega) hb
    refine ⟨a :: bs, ReadAtMost.cons r (by simp only [PyData.depth]; omega) hb, ?_⟩
    simp only [PyData.depth, PyData.shown]
    obtain ⟨l⟩ := vs
    cases l with
    | nil =>
      have z : RdAll h₀ [] xs := h4
      cases z
      simp only [PyData.shownAll, listText_nil]
      exact .listEmpty h1 h2 h3
    | cons x l => exact .list h1 h2 h3 out (by simpa using hk.length_eq) (fun i y e => hk.item i y (by simpa using e))
  | _, _, .tuple (a := a) (xs := xs) h1 h2 h3 h4, hs, hz => by
    have hz1 : (tupleText (PyData.shownAll xs)).length ≤ sizeLine := by simpa only [PyData.shown] using hz
    obtain ⟨bs, hb, hk⟩ := h4.sh (by simpa [PyData.showable] using hs) (fun t ht => Nat.le_trans (tupleText_mem_le ht) hz1)
    obtain ⟨as, ra⟩ := h4.reads
    have r := Reads.tuple h1 h2 h3 ra
    have out : a ∉ bs := not_mem_of_deeper r (by simp only [PyData.depth]; omega) hb
    refine ⟨a :: bs, ReadAtMost.cons r (by simp only [PyData.depth]; omega) hb, ?_⟩
    simp only [PyData.depth, PyData.shown]
    exact .tuple h1 h2 h3 out hk
  | _, _, .dict (a := a) (es := es) (kvs := kvs) h1 h2 h3 hsys h4 h5, hs, hz => by
    have hz1 : (dictText (PyData.shownKv kvs)).length ≤ sizeLine := by simpa only [PyData.shown] using hz
    obtain ⟨s1, s2⟩ := PyData.showableKv_split kvs (by simpa [PyData.showable] using hs)
    obtain ⟨b1, hb1, k1⟩ := h4.sh s1 (fun t ht => let ⟨p, hp, hl⟩ := PyData.shownKv_key_le kvs t ht; Nat.le_trans hl (Nat.le_trans (dictText_mem_le hp) hz1))
    obtain ⟨b2, hb2, k2⟩ := h5.sh s2 (fun t ht => let ⟨p, hp, hl⟩ := PyData.shownKv_val_le kvs t ht; Nat.le_trans hl (Nat.le_trans (dictText_mem_le hp) hz1))
    obtain ⟨as, ra⟩ := h4.reads
    obtain ⟨cs, rc⟩ := h5.reads
    have r := Reads.dict h1 h2 h3 ra rc
    have hb : ReadAtMost h₀ (PyData.depthKv kvs) (b1 ++ b2) := (hb1.mono (PyData.depthAll_keys_le kvs)).append (hb2.mono (PyData.depthAll_vals_le kvs))
    have out : a ∉ b1 ++ b2 := not_mem_of_deeper r (by simp only [PyData.depth]; omega) hb
    refine ⟨a :: (b1 ++ b2), ReadAtMost.cons r (by simp only [PyData.depth]; omega) hb, ?_⟩
    simp only [PyData.depth, PyData.shown, PyData.shownKv_eq]
    exact .dict h1 h2 h3 hsys out (.of_two es.toList _ _ (k1.more_le (fun b hb => List.mem_append_left _ hb) (PyData.depthAll_keys_le kvs)) (k2.more_le (fun b hb => List.mem_append_right _ hb) (PyData.depthAll_vals_le kvs)))
theorem RdAll.sh : ∀ {vs : List Value} {ds : List PyData}, RdAll h₀ vs ds → PyData.showableAll ds = true → (∀ t ∈ PyData.shownAll ds, t.length ≤ sizeLine) → ShA prog w h₀ (PyData.depthAll ds) vs (PyData.shownAll ds)
  | _, _, .nil, _, _ => ⟨[], (fun _ h => nomatch h), by simp only [PyData.shownAll]; exact .nil⟩
  | _, _, .cons (d := d) (ds := ds) r rs, hs, hz => by
    have hs1 : d.showable = true ∧ PyData.showableAll ds = true := by simpa [PyData.showableAll] using hs
    obtain ⟨b1, hb1, k1⟩ := r.sh hs1.1 (hz _ (by simp only [PyData.shownAll]; exact List.mem_cons_self ..))
    obtain ⟨b2, hb2, k2⟩ := rs.sh hs1.2 (fun t ht => hz t (by simp only [PyData.shownAll]; exact List.mem_cons_of_mem _ ht))
    refine ⟨b1 ++ b2, ?_, ?_⟩
    · simp only [PyData.depthAll]
      exact (hb1.mono (Nat.le_max_left _ _)).append (hb2.mono (Nat.le_max_right _ _))
    · simp only [PyData.depthAll, PyData.shownAll]
      exact .cons ((k1.more fun b hb => List.mem_append_left _ hb).level_le (Nat.le_max_left _ _)) (k2.more_le (fun b hb => List.mem_append_right _ hb) (Nat.le_max_right _ _))
end
end
end Mi.RP

namespace Mi
open PySem PySem.Spec PyProof.Rows L2
open RP (Rd RdAll)
def keyD : Key → PyData
  | .inl i => .int i
  | .inr x => .str x
mutual
/-- a value as data, dicts too -/
def toDD : Wv → Option PyData
  | .non => some .none
  | .bl b => some (.bool b)
  | .int i => some (.int i)
  | .str s => some (.str s)
  | .tup xs => (toDDs xs).map .tuple
  | .lst xs => (toDDs xs).map .list
  | .rdl xs => (toDDs xs).map .list
  | .dct ks xs => (toDDs xs).map fun ds => .dict ((ks.map keyD).zip ds)
  | _ => none
def toDDs : List Wv → Option (List PyData)
  | [] => some []
  | x :: xs => match toDD x, toDDs xs with
    | some d, some ds => some (d :: ds)
    | _, _ => none
end
section
variable {X : Cx} {pins : List (Addr × Obj)} {σ : L2.St} {H : Hp} {s : Shared} {ρ : Rn}
theorem toDDs_len : ∀ {ws : List Wv} {ds : List PyData}, toDDs ws = some ds → ds.length = ws.length
  | [], _, e => by cases e; rfl
  | x :: xs, ds, e => by
    have e : (match toDD x, toDDs xs with | some d, some ds => some (d :: ds) | _, _ => none) = some ds := e
    cases q1 : toDD x with
    | none => rw [q1] at e; cases e
    | some d =>
      cases q2 : toDDs xs with
      | none => rw [q1, q2] at e; cases e
      | some ds' => rw [q1, q2] at e; cases e; simp [toDDs_len q2]
theorem key_rd {h : Heap} {k : Key} {v : Value} (e : keyIs k v = true) : Rd h v (keyD k) := by
  rcases keyIs_shape e with ⟨i, t, rfl, rfl⟩ | ⟨x, t, rfl, rfl⟩
  · exact .int i t
  · exact .str x t
theorem keys_rd {P : Program} {w : World} {h : Heap} : ∀ {es : List DictEntry} {vs : List (Key × Value)} {kvs : List (Key × V)}, Pairs (mixKind P w) es vs → KV kvs vs → RdAll h (es.map (·.key)) ((kvs.map (·.1)).map keyD) ∧ Vals (kvs.map (·.2)) (es.map (·.val))
  | _, _, _, .nil, .nil => ⟨.nil, .nil⟩
  | _, _, _, .cons h1 h2 hp, .cons hr rr => by
    obtain ⟨z1, z2⟩ := keys_rd (h := h) hp rr
    obtain ⟨r1, r2⟩ := hr
    exact ⟨.cons (key_rd (by dsimp only; rw [r1]; exact h1)) z1, .cons (by dsimp only; rw [h2]; exact r2) z2⟩
mutual
theorem rd_of (I : Inv X pins σ H s) : ∀ (w : Wv) {v : V} {u : Value} {d : PyData}, toDD w = some d → RV X.K ρ H w v → RelV v u → Rd s.heap u d
  | .non, _, _, _, e, r, q => by cases e; cases r; cases q; exact .none
  | .bl b, _, _, _, e, r, q => by cases e; cases r; cases q; exact .bool b
  | .int i, _, _, _, e, r, q => by cases e; cases r; obtain ⟨t, rfl⟩ := q; exact .int i t
  | .str x, _, _, _, e, r, q => by cases e; cases r; obtain ⟨t, rfl⟩ := q; exact .str x t
  | .lst xs, _, _, _, e, r, q => by
    obtain ⟨ds, e1, rfl⟩ := Option.map_eq_some_iff.mp (show (toDDs xs).map PyData.list = some _ from e)
    obtain ⟨a, vs, rfl, h, r⟩ := r
    cases q
    obtain ⟨its, rv, ⟨o, n, ho, hc, _, hd⟩, _⟩ := I.list (SqL.of h.1)
    exact .list ho hc hd (rds_of I xs e1 r rv)
  | .rdl xs, _, _, _, e, r, q => by
    obtain ⟨ds, e1, rfl⟩ := Option.map_eq_some_iff.mp (show (toDDs xs).map PyData.list = some _ from e)
    obtain ⟨a, vs, rfl, h, r⟩ := r
    cases q
    obtain ⟨its, rv, ⟨o, n, ho, hc, _, hd⟩, _⟩ := I.list (sq_l h)
    exact .list ho hc hd (rds_of I xs e1 r rv)
  | .tup xs, _, _, _, e, r, q => by
    obtain ⟨ds, e1, rfl⟩ := Option.map_eq_some_iff.mp (show (toDDs xs).map PyData.tuple = some _ from e)
    obtain ⟨a, vs, rfl, h, r⟩ := r
    cases q
    obtain ⟨its, rv, ⟨o, ho, hc, n, hd⟩, _⟩ := I.tuple (sq_t h)
    exact .tuple ho hc hd (rds_of I xs e1 r rv)
  | .dct ks xs, _, _, _, e, r, q => by
    obtain ⟨ds, e1, rfl⟩ := Option.map_eq_some_iff.mp (show (toDDs xs).map (fun ds => PyData.dict ((ks.map keyD).zip ds)) = some _ from e)
    obtain ⟨a, kvs, rfl, ⟨h, _⟩, ek, r⟩ := r
    cases q
    obtain ⟨_, hsys, vs, rkv, o, es, ep, ho, hx, hd, _, hp, _⟩ := dk_of I.hok h
    obtain ⟨z1, z2⟩ := keys_rd (h := s.heap) hp rkv
    have hl : ds.length = ks.length := by rw [toDDs_len e1, r.length, List.length_map, ← ek, List.length_map]
    refine .dict ho hx.1 hd hsys ?_ ?_
    · rw [List.map_fst_zip (by rw [List.length_map, hl]; exact Nat.le_refl _), ← ek]
      exact z1
    · rw [List.map_snd_zip (by rw [List.length_map, hl]; exact Nat.le_refl _)]
      exact rds_of I xs e1 r z2
theorem rds_of (I : Inv X pins σ H s) : ∀ (ws : List Wv) {vs : List V} {us : List Value} {ds : List PyData}, toDDs ws = some ds → RVs X.K ρ H ws vs → Vals vs us → RdAll s.heap us ds
  | [], _, _, _, e, r, q => by cases e; cases r; cases q; exact .nil
  | x :: xs, _, _, _, e, ⟨v, vr, ev, r1, r2⟩, q => by
    subst ev
    cases q with
    | cons q1 q2 =>
      have e : (match toDD x, toDDs xs with | some d, some ds => some (d :: ds) | _, _ => none) = some _ := e
      cases z1 : toDD x with
      | none => rw [z1] at e; cases e
      | some d =>
        cases z2 : toDDs xs with
        | none => rw [z1, z2] at e; cases e
        | some ds' =>
          rw [z1, z2] at e
          cases e
          exact .cons (rd_of I x z1 r1 q1) (rds_of I xs z2 r2 q2)
end
end
end Mi

namespace Mi.RP
open PySem PySem.Spec
section
variable {prog : Program} {w : World} {A : Around} {E : Value → Shared → Prop} {Q : Value → Shared → Prop} {s : Shared}
theorem repr_rd {v : Value} {d : PyData} (r : Rd s.heap v d) (hs : d.showable = true) (hz : d.shown.length ≤ sizeLine) (hg : A.guards = some []) (hu : A.units + (d.depth + 1) < cLine)
    (hQ : ∀ h' u tk, (∀ b o, s.heap.get? b = some o → h'.get? b = some o) → Q (.str d.shown u) { s with heap := h', toks := tk }) : wpAny (model prog w) A (call (.builtin "repr") [v]) Q E s := by
  obtain ⟨bs, hb, hk⟩ := Rd.sh (prog := prog) (w := w) r hs hz
  have kk : ∀ b o, s.heap.get? b = some o → s.heap.get? b = some o := fun _ _ e => e
  cases r with
  | none => exact PySem.P.repr_of_none (hQ s.heap _ _ kk)
  | bool b => exact PySem.P.repr_of_bool (hQ s.heap _ _ kk)
  | int i t => exact PySem.P.repr_of_int (by simpa [PyData.showable] using hs) (hQ s.heap _ _ kk)
  | str x t => exact PySem.P.repr_of_str (hQ s.heap _ _ kk) hz
  | @list a o vs n xs h1 h2 h3 h4 =>
    have hz1 : (listText (PyData.shownAll xs)).length ≤ sizeLine := by simpa only [PyData.shown] using hz
    obtain ⟨bs, hb, hk⟩ := RdAll.sh (prog := prog) (w := w) h4 (by simpa [PyData.showable] using hs) (fun t ht => Nat.le_trans (listText_mem_le ht) hz1)
    obtain ⟨as, ra⟩ := h4.reads
    have out : a ∉ bs := not_mem_of_deeper (.list h1 h2 h3 ra) (by simp only [PyData.depth]; omega) hb
    simp only [PyData.depth] at hu
    simp only [PyData.shown] at hQ
    refine call_repr_slot (by omega) ⟨o, h1, h2⟩ F.slot_list_repr.toG ?_
    obtain ⟨l⟩ := vs
    cases l with
    | nil =>
      have z : RdAll s.heap [] xs := h4
      cases z
      simp only [PyData.shownAll, listText_nil] at hQ
      exact call_list_repr_empty ⟨o, h1, h2⟩ h1 h3 ⟨_, _, rfl, hQ s.heap _ _ kk⟩
    | cons x l => exact call_list_reprK h1 h2 h3 out (by simpa using hk.length_eq) (fun i y e => hk.item i y (by simpa using e)) hg (fun b _ => Clear.nil b) (by show A.units + 1 + _ < cLine; omega) kk (fun h' u tk k => ⟨_, _, rfl, hQ h' u tk k⟩) hz1
  | @tuple a o vs n xs h1 h2 h3 h4 =>
    have hz1 : (tupleText (PyData.shownAll xs)).length ≤ sizeLine := by simpa only [PyData.shown] using hz
    obtain ⟨bs, hb, hk⟩ := RdAll.sh (prog := prog) (w := w) h4 (by simpa [PyData.showable] using hs) (fun t ht => Nat.le_trans (tupleText_mem_le ht) hz1)
    obtain ⟨as, ra⟩ := h4.reads
    have out : a ∉ bs := not_mem_of_deeper (.tuple h1 h2 h3 ra) (by simp only [PyData.depth]; omega) hb
    simp only [PyData.depth] at hu
    simp only [PyData.shown] at hQ
    refine call_repr_slot (by omega) ⟨o, h1, h2⟩ F.slot_tuple_repr ?_
    exact call_tuple_reprK h1 h2 h3 out hk hg (fun b _ => Clear.nil b) (by show A.units + 1 + _ < cLine; omega) kk (fun h' u tk k => ⟨_, _, rfl, hQ h' u tk k⟩) hz1
  | @dict a o es n kvs h1 h2 h3 hsys h4 h5 =>
    have hz1 : (dictText (PyData.shownKv kvs)).length ≤ sizeLine := by simpa only [PyData.shown] using hz
    obtain ⟨s1, s2⟩ := PyData.showableKv_split kvs (by simpa [PyData.showable] using hs)
    obtain ⟨b1, hb1, k1⟩ := RdAll.sh (prog := prog) (w := w) h4 s1 (fun t ht => let ⟨p, hp, hl⟩ := PyData.shownKv_key_le kvs t ht; Nat.le_trans hl (Nat.le_trans (dictText_mem_le hp) hz1))
    obtain ⟨b2, hb2, k2⟩ := RdAll.sh (prog := prog) (w := w) h5 s2 (fun t ht => let ⟨p, hp, hl⟩ := PyData.shownKv_val_le kvs t ht; Nat.le_trans hl (Nat.le_trans (dictText_mem_le hp) hz1))
    obtain ⟨as, ra⟩ := h4.reads
    obtain ⟨cs, rc⟩ := h5.reads
    have both : ReadAtMost s.heap (PyData.depthKv kvs) (b1 ++ b2) := (hb1.mono (PyData.depthAll_keys_le kvs)).append (hb2.mono (PyData.depthAll_vals_le kvs))
    have out : a ∉ b1 ++ b2 := not_mem_of_deeper (.dict h1 h2 h3 ra rc) (by simp only [PyData.depth]; omega) both
    simp only [PyData.depth] at hu
    simp only [PyData.shown, PyData.shownKv_eq] at hQ
    refine call_repr_slot (by omega) ⟨o, h1, h2⟩ F.slot_dict_repr ?_
    exact call_dict_reprK h1 h2 h3 hsys out (.of_two es.toList _ _ (k1.more_le (fun b hb => List.mem_append_left _ hb) (PyData.depthAll_keys_le kvs)) (k2.more_le (fun b hb => List.mem_append_right _ hb) (PyData.depthAll_vals_le kvs))) hg (fun b _ => Clear.nil b)
      (by show A.units + 1 + _ < cLine; omega) kk (fun h' u tk k => ⟨_, _, rfl, hQ h' u tk k⟩) (by rw [← PyData.shownKv_eq]; exact hz1)
end
end Mi.RP
namespace Mi
open PySem PySem.Spec PyProof.Rows L2
def toDDM (M : Mem) : Wv → Option PyData
  | .ref n => match M[n]? with
    | some (.lst xs) => (toDDs xs).map .list
    | _ => none
  | w => toDD w
def reprOkD (d : PyData) : Bool := d.showable && decide (d.shown.length ≤ lim) && decide (d.depth ≤ 60)
def repr2 (w : Wv) (M : Mem) : R Wv := match toDDM M w with
  | some d => if reprOkD d then .ok (.str d.shown) M else .no
  | none => .no
abbrev reprD := un1 repr2
section
variable {X : Cx} {E : XK}
theorem c_reprD (hg : X.A.guards = some []) (hu : X.A.units + 64 < cLine) : CallR X (.builtin "repr") (rc X.K E reprD) := by
  intro pins s σ H xs us Q I r hh
  obtain ⟨v, ρ, M, w, rfl, rl, rv, h⟩ := un1_in hh
  clear hh
  obtain ⟨u, rfl, ru⟩ := vals1 r
  unfold repr2 at h
  cases q : toDDM M w with
  | none => rw [q] at h; exact h.elim
  | some d =>
    rw [q] at h
    obtain ⟨h0, h⟩ := pick h
    unfold reprOkD at h0
    rw [Bool.and_eq_true, Bool.and_eq_true] at h0
    obtain ⟨⟨h1, h3⟩, h4⟩ := h0
    have h4 := of_decide_eq_true h4
    have fin : Q (.str d.shown) H := fin_val h rl rfl
    have rd : RP.Rd s.heap u d := by
      cases w with
      | ref n =>
        obtain ⟨a, rfl, ha⟩ := id rv
        cases ru
        have q : (match M[n]? with | some (Ob.lst xs) => (toDDs xs).map PyData.list | _ => none) = some d := q
        cases z : M[n]? with
        | none => rw [z] at q; cases q
        | some o =>
          rw [z] at q
          cases o with
          | ins C ns xs => cases q
          | dct _ _ => cases q
          | dtt _ _ => cases q
          | lst xs =>
            obtain ⟨ds, e1, rfl⟩ := Option.map_eq_some_iff.mp q
            obtain ⟨b, vs, eb, hb, h5, h6⟩ := rl.lst z rv
            cases eb
            obtain ⟨its, rv', ⟨o, n', ho, hc, _, hd⟩, _⟩ := I.list (SqL.of h5)
            exact .list ho hc hd (rds_of I xs e1 h6 rv')
      | _ => exact rd_of I _ q rv ru
    exact RP.repr_rd rd h1 (lim_le (of_decide_eq_true h3)) hg (by omega) fun h' u' tk k => ⟨.str _, H, I.kept k, ⟨_, rfl⟩, fin⟩
end
end Mi

namespace Mi
open PySem PySem.Spec PyProof.Rows L2
/-- enumerate -/
def enumL (ws : List Wv) : List Wv := ws.mapIdx fun i w => Wv.tup [.int (i : Nat), w]
def mEnum (a : Me) : Mi' := fun env M => (a env M).bind fun w M1 => match w with
  | .lst xs => .ok (enumL xs) M1
  | .rdl xs => .ok (enumL xs) M1
  | _ => .no
section
variable {X : Cx} {E : XK} {tg a : Expr} {elts : List Expr} {kk : Nat} {ma : Me} {p pos tpos : Pos}
theorem it_e {K : PySem.W.Frag} {ρ : Rn} {H : Hp} {b : Addr} {vs : List V} {ws : List Wv} (h : ∀ ρ' H', Mv ρ H ρ' H' → SqL K H' b vs) (r : RVs K ρ H ws vs) : ItOk K (Ite K b) (enumL ws) ρ H := by
  have hl : (enumL ws).length = vs.length := by unfold enumL; rw [List.length_mapIdx]; exact r.length
  refine ⟨fun ρ' H' g i hi => ?_, fun ρ' H' g i x H2 w hw y => ?_, fun ρ' H' g => ⟨vs, h ρ' H' g, by rw [hl]; exact Nat.le_refl _⟩⟩
  · rw [hl] at hi
    exact ⟨vs, vs[i], h ρ' H' g, List.getElem?_eq_getElem hi⟩
  · obtain ⟨T, z, rfl, hT, rfl, hz⟩ := y
    unfold enumL at hw
    rw [List.getElem?_mapIdx] at hw
    obtain ⟨w', h1, rfl⟩ := Option.map_eq_some_iff.mp hw
    obtain ⟨v, h2, h3⟩ := (RVs.move g ws r).get h1
    have e : z = v := Option.some.inj ((hz vs (h ρ' H' g)).symm.trans h2)
    subst e
    have gg : Gr ρ' H' ρ' (upd H' T (.tup [.int (i : Nat), z])) := Gr.fresh hT
    refine ⟨gg, fun M rl => ⟨rl.upd hT, T, [.int (i : Nat), z], rfl, ⟨upd_same, rl.out hT⟩, .int (i : Nat), [z], rfl, rfl, z, [], rfl, RV.mono gg w' h3, rfl⟩⟩
theorem i_enum (hm : X.mg "enumerate" = none) (ha : PE X a (te X.K E ma)) (hg : Gl X "enumerate" := by rfl) (hs : starEach [a] X.env = [(false, eval a X.env)] := by rfl) : PI X (.Tuple elts kk tpos) (.Call (.Name "enumerate" p) [a] [] pos) (ti X.K E (mEnum ma)) :=
  PI.imp (pi_enum hg hm (pa_cons ha pa_nil hs) hs) fun σ H R ⟨ρ, M, env, rl, re, f⟩ => te_then rl re f fun w M1 ρ1 H1 v g1 rl1 re1 rv1 f1 => by
    cases w with
    | lst xs =>
      obtain ⟨b, vs, rfl, h, r⟩ := rv1
      exact ⟨b, vs, rfl, SqL.of h.1, f1.here rl1 _ (it_e (fun ρ' H' g => SqL.of (g.go _ _ h).1) r)⟩
    | rdl xs =>
      obtain ⟨b, vs, rfl, h, r⟩ := rv1
      exact ⟨b, vs, rfl, sq_l h, f1.here rl1 _ (it_e (fun ρ' H' g => sq_l (h.imp g.rd id)) r)⟩
    | _ => exact f1.elim
end
end Mi

namespace Mi
open PySem PySem.Spec PyProof.Rows L2 NdefX
abbrev xNF (qn : Str) (st : Stmt) (cc c : Addr) : NF := ⟨"__init__", qn, defArgs st, defBody st, defScope st, [("__class__", cc)], c⟩
/-- the written part of an own exception class C with the __init__ st -/
structure XF (P : Program) (K : PySem.W.Frag) (nm qn : Str) (st : Stmt) (fs : List Str) (C : Addr) (fd : FuncData) : Prop where
  ex : ∃ (fI cc c : Addr) (oc : Value) (od : Option Addr) (osl : Array (Option Value)) (dV kV doc pm ct : Value) (an : Option Addr), fd = PySem.W.fnX "__init__" qn (defArgs st) (defBody st) (defScope st) [("__class__", cc)] dV kV doc pm an (.ref c) ct ∧ dV = .none ∧
    K.lookup fI = some ⟨oc, od, .func fd, osl⟩ ∧ PySem.W.findIn K (.ref C) "__init__" = some (some (.ref fI)) ∧ PySem.W.typeIn K (.ref fI) = some (.type "function") ∧ PySem.W.codeIn K (.ref c) qn = true ∧
    (∃ (ccl : Value) (cdd : Option Addr) (vs : Array Value) (ccs : Array (Option Value)) (file : Str) (tf : Tok), K.lookup c = some ⟨ccl, cdd, .fields vs, ccs⟩ ∧ vs[2]? = some (.str file tf) ∧ ((P.main.file : Str) == file) = true) ∧
    ∃ (cl : Value) (cld : Option Addr) (csl : Array (Option Value)), K.lookup cc = some ⟨cl, cld, .cell (some (.ref C)), csl⟩
  T : OexC K C
  sup : PySem.W.ks_superIn K C C "__init__" = some (some (.builtin "ValueError.__init__"))
  sub : PySem.W.subIn K (.ref C) (.type "ValueError") = some true
  self : PySem.W.mroIn K C (.ref C) = some true
  stat : PySem.W.nsIn K cStatics "thirdparty.any" = some none
  top : (P.main.scope.names.lookup ("super" : Str)).isSome = false
  no : ∀ f ∈ fs, PySem.W.findIn K (.ref C) f = some none
  loc : clsAt K nm = some C
  xf : XfC K C
  xc : ExcC K C
section
variable {P : Program} {K : PySem.W.Frag} {mg : Str → Option Value} {nm qn slf : Str} {st : Stmt} {fs : List Str} {C : Addr} {fd : FuncData} {N ps : List Str} {rest : List Stmt} {l : List (Str × Nat)}
theorem XF.ok (Z : XF P K nm qn st fs C fd) (hs : mg "super" = none) (S : NScope N ps ["__class__"] (defScope st)) (hN0 : N[0]? = some slf) (U : ∀ fI cc c, Sup (xNF qn st cc c) fI rest slf) (W : ∀ fI cc c, Sets (xNF qn st cc c) fI N rest l) (hl : l.map (·.1) = fs) (ne : l ≠ []) (sz : l.length ≤ 900) : XOk P K mg C ps l fd := by
  obtain ⟨fI, cc, c, oc, od, osl, dV, kV, doc, pm, ct, an, rfl, _, h1, h2, h3, h4, h5, h6⟩ := Z.ex
  exact ⟨⟨fI, cc, xNF qn st cc c, N, rest, slf, oc, od, osl, ⟨Z.T, h2, h3, ⟨oc, od, osl, dV, kV, doc, pm, ct, an, h1⟩, rfl, h4, h5, h6, Z.sup, Z.sub, Z.self, Z.stat, hs, Z.top⟩, S, U fI cc c, hN0, W fI cc c, h1⟩,
    fun p hp => Z.no _ (by rw [← hl]; exact List.mem_map_of_mem hp), ne, sz, Z.T⟩
theorem XF.binds (Z : XF P K nm qn st fs C fd) (h : ∀ (cc : Addr) (kV doc pm : Value) (an : Option Addr) (cdv ct : Value) (us : List Value), us.length = ps.length → bindArgs (PySem.W.fnX "__init__" qn (defArgs st) (defBody st) (defScope st) [("__class__", cc)] .none kV doc pm an cdv ct) ⟨us, []⟩ = pure (ps.zip us)) : Binds K fd ps [] := by
  obtain ⟨fI, cc, c, oc, od, osl, dV, kV, doc, pm, ct, an, rfl, rfl, h1, h2, h3, h4, h5, h6⟩ := Z.ex
  exact .all (h cc kV doc pm an (.ref c) ct)
theorem XF.bk (Z : XF P K nm qn st fs C fd) {n : Nat} {ks : List Str} {perm : List Nat} (h : ∀ (cc : Addr) (kV doc pm : Value) (an : Option Addr) (cdv ct : Value) (us ws : List Value), us.length = n → ws.length = ks.length → bindArgs (PySem.W.fnX "__init__" qn (defArgs st) (defBody st) (defScope st) [("__class__", cc)] .none kV doc pm an cdv ct) ⟨us, ks.zip ws⟩ = pure (ps.zip (pick' perm (us ++ ws)))) : BK fd ps n ks perm := by
  obtain ⟨fI, cc, c, oc, od, osl, dV, kV, doc, pm, ct, an, rfl, rfl, h1, h2, h3, h4, h5, h6⟩ := Z.ex
  exact ⟨fun s us ws z1 z2 => .of_eq (h cc kV doc pm an (.ref c) ct us ws z1 z2)⟩
theorem no_nil : ∀ f ∈ ([] : List Str), PySem.W.findIn K (.ref C) f = some none := fun _ h => by cases h
theorem no_cons {f : Str} (h : PySem.W.findIn K (.ref C) f = some none) (r : ∀ g ∈ fs, PySem.W.findIn K (.ref C) g = some none) : ∀ g ∈ f :: fs, PySem.W.findIn K (.ref C) g = some none := fun g hg => by
  rcases List.mem_cons.mp hg with rfl | hg
  · exact h
  · exact r g hg
theorem xf_mk {fI cc c : Addr} {oc kV doc pm ct ccl cl : Value} {od an cdd cld : Option Addr} {osl ccs csl : Array (Option Value)} {vs : Array Value} {file : Str} {tf : Tok}
    {nmC q : Str} {n1 : Addr} {bs bm : List Value} {sn : List Str} {sub : List Value} {ab : Bool} {col : Option Bool} {dd : Option Addr} {k0 k1 k2 k3 k5 : Option Value}
    (hI : PySem.W.findIn K (.ref C) "__init__" = some (some (.ref fI)))
    (hL : K.lookup fI = some ⟨oc, od, .func (PySem.W.fnX "__init__" qn (defArgs st) (defBody st) (defScope st) [("__class__", cc)] .none kV doc pm an (.ref c) ct), osl⟩)
    (hT : PySem.W.typeIn K (.ref fI) = some (.type "function")) (hC : PySem.W.codeIn K (.ref c) qn = true)
    (hc : K.lookup c = some ⟨ccl, cdd, .fields vs, ccs⟩) (hv : vs[2]? = some (.str file tf)) (hf : ((P.main.file : Str) == file) = true)
    (hcc : K.lookup cc = some ⟨cl, cld, .cell (some (.ref C)), csl⟩)
    (t1 : K.lookup C = some (excClassObj nmC q C n1 bs bm true sn sub ab col dd k0 k1 k2 k3 k5 "ValueError.__new__")) (t2 : PySem.HandSPX.refsVE bm = true)
    (t3 : PySem.W.findIn K (.ref C) "__setattr__" = some (some (.builtin "object.__setattr__"))) (t4 : PySem.W.subIn K (.ref C) (.type "BaseException") = some true) (t5 : PySem.W.typeIn K (.ref C) = some (.type "type")) (t6 : PySem.W.keepIn K (.ref C) = true)
    (h1 : PySem.W.ks_superIn K C C "__init__" = some (some (.builtin "ValueError.__init__"))) (h2 : PySem.W.subIn K (.ref C) (.type "ValueError") = some true) (h3 : PySem.W.mroIn K C (.ref C) = some true)
    (h4 : PySem.W.nsIn K cStatics "thirdparty.any" = some none) (h5 : (P.main.scope.names.lookup ("super" : Str)).isSome = false) (h6 : ∀ f ∈ fs, PySem.W.findIn K (.ref C) f = some none) (h7 : clsAt K nm = some C)
    (g1 : PySem.W.findIn K (.ref C) "__getattribute__" = some (some (.builtin "BaseException.__getattribute__"))) (g2 : PySem.W.findIn K (.ref C) "__getattr__" = some none) (g3 : PySem.W.hasDictIn K C = true)
    (g4 : PySem.W.findIn K (.ref C) "__class__" = some (some (.builtin "object.__class__"))) (g5 : PySem.W.specialIn K (.builtin "object.__class__") "__get__" = some (some (.builtin "getset_descriptor.__get__"))) (g6 : PySem.W.takesIn K (.builtin "object.__class__") = some true) (g7 : PySem.W.mroIn K C (.type "object") = some true) :
    XF P K nm qn st fs C (PySem.W.fnX "__init__" qn (defArgs st) (defBody st) (defScope st) [("__class__", cc)] .none kV doc pm an (.ref c) ct) :=
  ⟨⟨fI, cc, c, oc, od, osl, .none, kV, doc, pm, ct, an, rfl, rfl, hL, hI, hT, hC, ⟨ccl, cdd, vs, ccs, file, tf, hc, hv, hf⟩, cl, cld, csl, hcc⟩, ⟨⟨nmC, q, n1, bs, bm, sn, sub, ab, col, dd, k0, k1, k2, k3, k5, t1, t2⟩, t3, t4, t5, t6⟩, h1, h2, h3, h4, h5, h6, h7, ⟨g1, g2, t4, g3⟩, ⟨g1, g2, t4, g3, g4, g5, g6, g7⟩⟩
theorem FldE.nil {f : Str} : FldE K [] f := fun _ h => by cases h
theorem FldE.cons {f : Str} {es : List Str} (Z : XF P K nm qn st fs C fd) (h : f ∈ fs) (r : FldE K es f) : FldE K (nm :: es) f := fun c hc D hD => by
  rcases List.mem_cons.mp hc with rfl | hc
  · rw [Z.loc] at hD
    cases hD
    exact ⟨Z.xf, Z.no _ h⟩
  · exact r c hc D hD
theorem FldI.nil {f : Str} : FldI K [] f := fun _ h => by cases h
/-- the table of an asked class over exception classes -/
def XTab (K : PySem.W.Frag) (u : Value) (t : List (Str × Bool)) : Prop := ∀ C b, t.lookup C = some b → ∃ D, clsAt K C = some D ∧ PySem.W.kitOne K (.ref D) u = some b ∧ ExcC K D
theorem XTab.nil {u : Value} : XTab K u [] := fun _ _ h => by cases h
theorem XTab.cons {u : Value} {b : Bool} {t : List (Str × Bool)} (Z : XF P K nm qn st fs C fd) (h : PySem.W.kitOne K (.ref C) u = some b) (r : XTab K u t) : XTab K u ((nm, b) :: t) := fun c b' hc => by
  rw [List.lookup_cons] at hc
  cases q : c == nm with
  | true =>
    have e : c = nm := by simpa using q
    subst e
    have hc : some b = some b' := by simpa [q] using hc
    cases hc
    exact ⟨C, Z.loc, h, Z.xc⟩
  | false => exact r c b' (by simpa [q] using hc)
theorem ClOk.x0 {u : Value} {ty : Option Ty} {t : List (Str × Bool)} (ht : ∀ t : Ty, PySem.W.kitOne K (.type t.name) u = some (match ty with | some x => t.sub x | none => false)) (x : XTab K u t) : ClOk K ⟨ty, [], t⟩ u := ⟨ht, (fun _ _ h => by cases h), x⟩
end
end Mi

namespace Mi
open PySem PySem.Spec PyProof.Rows L2 NdefX

/-! ### raise C(k = v, ..) -/
def sRaiseK (C : Str) (l : List (Str × Nat)) (n m : Nat) (perm : List Nat) (a : Ma) : Ms := fun env M => (a env M).bind fun ws M1 => if ws.length = m ∧ (pick' perm ws).length = n then (match fldsW (pick' perm ws) l [] [] with
  | some (ns, xs) => .exc ⟨C, ns.zip xs⟩ M1
  | none => .no) else .no
section
variable {X : Cx} {E : XK} {k : Nat} {C : Addr} {nm : Str} {ps ks : List Str} {perm : List Nat} {l : List (Str × Nat)} {fd : FuncData} {x : Str} {p pos pos' : Pos} {e : Expr} {es : List Expr} {ma mk : Ma} {kws : List Keyword}
theorem pmk_xk (W : XOk X.prog X.K X.mg C ps l fd) (hr : Room (k + 2) X.A) (hm : X.mg x = some (.ref C)) (hc : clsAt X.K nm = some C) (hb : BK fd ps 1 ks (0 :: perm.map (· + 1))) (hkw : PK X kws (ta X.K E mk)) {n m : Nat} (hn : ps.length = n + 1) (hm' : ks.length = m) (hz : m ≤ 1000)
    (hg : Gl X x) (hdb : (x == ("__debug__" : Str)) = false) (hall : (backToKw pos (keywordEach kws X.env)).all (·.1.isSome) = true) (hks : (backToKw pos (keywordEach kws X.env)).filterMap (·.1) = ks) (hpl : ((backTo pos (starEach [] X.env)).any (·.1) || (backToKw pos (keywordEach kws X.env)).any (·.1.isNone)) = false) :
    PMk X (.Call (.Name x p) [] kws pos) (fun σ H Q => (∀ cls d H', E cls d H' → Q cls d H') ∧ ∃ (PP : Fl → Mem → Rn → Hp → Prop) (ρ : Rn) (M : Mem) (env : Ev), Rl X.K ρ M H ∧ RE X.K ρ H env σ ∧ Fin X.K ρ H PP E (sRaiseK nm l n m perm mk env M)) := by
  subst hm'
  rintro pins s σ H Q I ⟨hEQ, PP, ρ, M, env, rl, re, h⟩
  refine wpAny_Call_Name_kw (ld_glob I hg hm ?_ hdb)
  refine PySem.W.callWith_KW0 (h₀ := X.base) I.ok.mod.kin W.T.kC hall (thn (hkw.run pos pins s σ H (fun vs H1 => ∃ ρ1 M1 ws, Rl X.K ρ1 M1 H1 ∧ RVs X.K ρ1 H1 ws vs ∧ ws.length = ks.length ∧ (pick' perm ws).length = n ∧ Fin X.K ρ1 H1 PP E (match fldsW (pick' perm ws) l [] [] with | some (ns, xs) => R.exc ⟨nm, ns.zip xs⟩ M1 | none => .no)) I
    (ta_then rl re h fun ws M1 ρ1 H1 vs g1 rl1 re1 rv1 f1 => by obtain ⟨⟨h0, h2⟩, f1⟩ := pick f1; exact ⟨ρ1, M1, ws, rl1, rv1, h0, h2, f1⟩)) fun us s1 ⟨vs, H1, I1, r, ρ1, M1, ws, rl1, rv1, hl, hl2, f1⟩ => ⟨I1.kIn, ?_⟩) hpl
  have h1 : us.length = ks.length := by rw [← r.length, ← rv1.length]; exact hl
  rw [hks]
  have h3 : (pick' perm vs).length = n := by rw [← (pick_rvs perm rv1).length]; exact hl2
  have rv2 := pick_rvs perm rv1
  have r2 := pick_vals perm r
  cases q : fldsW (pick' perm ws) l [] [] with
  | none => rw [q] at f1; exact f1.elim
  | some z =>
    obtain ⟨ns, xs⟩ := z
    rw [q] at f1
    obtain ⟨ys, g1, g2, g3⟩ := flds_rel rv2 q
    obtain ⟨g4, g5⟩ := g3 [] rfl rfl
    have hlen : ns.length = xs.length := by rw [g5.length, ← g4, List.length_map, List.length_map]
    show wpAny _ _ (call (.ref C) [] (ks.zip us)) _ _ _
    obtain ⟨hp, g, d, t, os⟩ := s1
    have hn1 : H1 (hp.objs.size + 1) = none := I1.hok.fresh (Nat.le_succ _)
    refine wpAny_call (xmk_code W hr (E := fun _ _ _ => False) (us := []) (us' := pick' perm us) I1 (fun s z => ?_) r2 (by rw [h3, hn]) (Nat.zero_le _) g1 (g2 _) (fun dx s' zz => ?_) fun er s' zz => ?_)
    · have hbb := hb.to s [.ref (hp.objs.size + 1)] us rfl h1
      rw [show [Value.ref (hp.objs.size + 1)] ++ us = .ref (hp.objs.size + 1) :: us from rfl, pick_self] at hbb
      exact hbb
    · obtain ⟨v, H2, os2, bare2, un2, hok2, rv, ev, hd, hda, eH⟩ := zz
      obtain ⟨hh2, gg2, dd2, tt2, oo2⟩ := s'
      have ea : H2 (hp.objs.size + 1) = some (exo (hp.objs.size + 1) C (some dx)) := by rw [eH, upd_same]
      have ed : H2 dx = some (exd dx (fldsV l ys [])) := by rw [eH, upd_ne hda, upd_same]
      have eF : upd (del H2 (hp.objs.size + 1)) dx (.xd (fldsV l ys [])) = upd H1 dx (.xd (fldsV l ys [])) := by
        funext b
        by_cases y1 : b = dx
        · subst y1; rw [upd_same, upd_same]
        · rw [upd_ne y1, upd_ne y1]
          by_cases y2 : b = hp.objs.size + 1
          · subst y2; rw [del_same, hn1]
          · rw [del_ne y2, eH, upd_ne y2, upd_ne y1, upd_ne y2]
      refine mk_end (hp2 := XK.made hp C []) (raises_own W.T.exC W.T.tyC) I1 (Nat.le_succ _) (fun b o z => Heap.get?_push_of_some _ (Heap.get?_push_of_some _ z)) un2 hok2 os2 bare2 ea ed hd (hEQ _ _ _ ?_)
      rw [eF]
      have gg : Gr ρ1 H1 ρ1 (upd H1 dx (.xd (fldsV l ys []))) := Gr.fresh hd
      exact f1 C ρ1 _ dx (fldsV l ys []) hc gg (rl1.upd hd) upd_same (rl1.out hd) ⟨by show _ = (ns.zip xs).map (·.1); rw [zip_fst hlen]; exact g4, by show RVs _ _ _ ((ns.zip xs).map (·.2)) _; rw [zip_snd hlen]; exact RVs.mono gg _ g5⟩
    · obtain ⟨a, B, H', cls, d', _, _, _, _, _, _, _, z⟩ := zz
      exact z.elim
theorem s_raiseK (hcalm : X.calm = true) (tk : Takes X (WE1 E)) (W : XOk X.prog X.K X.mg C ps l fd) (hr : Room (k + 2) X.A) (hm : X.mg x = some (.ref C)) (hc : clsAt X.K nm = some C) (hb : BK fd ps 1 ks (0 :: perm.map (· + 1))) (hkw : PK X kws (ta X.K E mk)) {n m : Nat} (hn : ps.length = n + 1 := by rfl) (hm' : ks.length = m := by rfl) (hz : m ≤ 1000 := by decide)
    (hg : Gl X x := by rfl) (hdb : (x == ("__debug__" : Str)) = false := by decide) (hall : (backToKw pos (keywordEach kws X.env)).all (·.1.isSome) = true := by rfl) (hks : (backToKw pos (keywordEach kws X.env)).filterMap (·.1) = ks := by rfl) (hpl : ((backTo pos (starEach [] X.env)).any (·.1) || (backToKw pos (keywordEach kws X.env)).any (·.1.isNone)) = false := by rfl) :
    PS X (.Raise (some (.Call (.Name x p) [] kws pos)) none pos') (ts X.K E (sRaiseK nm l n m perm mk)) :=
  PS.imp (ps_raise hcalm tk (pmk_xk W hr hm hc hb hkw hn hm' hz hg hdb hall hks hpl)) fun D σ H ⟨ρ, M, env, rl, re, f⟩ => ⟨fun _ _ _ h => h, _, ρ, M, env, rl, re, f⟩
end
/-- the exception classes of a table, and whether an except clause takes them -/
def ETab (K : PySem.W.Frag) (c : Value) (t : List (Str × Bool)) : Prop := ∀ nm b, t.lookup nm = some b → ∀ D, clsAt K nm = some D → PySem.W.exmOne K (.ref D) c = some b
section
variable {P : Program} {K : PySem.W.Frag} {nm qn : Str} {st : Stmt} {fs : List Str} {C : Addr} {fd : FuncData} {c : Value} {b : Bool} {t : List (Str × Bool)}
theorem ETab.nil : ETab K c [] := fun _ _ h => by cases h
theorem ETab.cons (Z : XF P K nm qn st fs C fd) (h : PySem.W.exmOne K (.ref C) c = some b) (r : ETab K c t) : ETab K c ((nm, b) :: t) := fun d b' hc D hD => by
  rw [List.lookup_cons] at hc
  cases q : d == nm with
  | true =>
    have e : d = nm := by simpa using q
    subst e
    have hc : some b = some b' := by simpa [q] using hc
    cases hc
    rw [Z.loc] at hD
    cases hD
    exact h
  | false => exact r d b' (by simpa [q] using hc) D hD
end
end Mi

namespace Mi
open PySem PySem.Spec PyProof.Rows L2
/-! ### running mirrors: each turn by a row; what waits is named, no lambda stands in the goal -/
theorem noX_ok {α : Type} (a : α) (M : Mem) : noX (R.ok a M) = R.ok a M := rfl
section
variable (env : Ev) (M : Mem) (a b c : Me) (x y z : Wv) (t u : Mt) (s1 s2 : Ms) (ma mb : Ma) (ws us : List Wv)
theorem x_var (i : Nat) : mVar i env M = match env[i]? with | some (some w) => .ok w M | _ => .no := rfl
theorem x_c (w : Wv) : mC w env M = .ok w M := rfl
theorem x_dct (k) : mDct k env M = .ok (.dct (k.map (·.1)) (k.map (·.2))) M := rfl
theorem x_maN : maN env M = .ok [] M := rfl
theorem x_oN : moN env M = .ok none M := rfl
theorem x_nil : sNil env M = .ok (.nx env) M := rfl
theorem x_retN : sRetN env M = .ok (.ret .non) M := rfl
theorem x_brk : sBrk env M = .ok (.bk env) M := rfl
theorem x_cnt : sCnt env M = .ok (.ct env) M := rfl
theorem x_yes : mtYes env M = .ok true M := rfl
theorem x_tnm (i : Nat) (w : Wv) : Tg.set (.nm i) w env M = .ok (env.set i (some w)) M := rfl
def kBin2 (f : Wv → Wv → Mem → R Wv) (x : Wv) (r : R Wv) : R Wv := r.bind fun y M => f x y M
theorem kBin2_ok (f : Wv → Wv → Mem → R Wv) (x : Wv) (y : Wv) : kBin2 f x (.ok y M) = f x y M := (rfl)
def kBin1 (f : Wv → Wv → Mem → R Wv) (b : Me) (env : Ev) (r : R Wv) : R Wv := r.bind fun x M => kBin2 f x (b env M)
theorem kBin1_ok (f : Wv → Wv → Mem → R Wv) (b : Me) (env : Ev) (x : Wv) : kBin1 f b env (.ok x M) = kBin2 f x (b env M) := (rfl)
theorem x_bin (f) : mBin f a b env M = kBin1 f b env (a env M) := rfl
def kUn (f : Wv → Mem → R Wv) (r : R Wv) : R Wv := r.bind fun x M => f x M
theorem kUn_ok (f : Wv → Mem → R Wv) (x : Wv) : kUn f (.ok x M) = f x M := (rfl)
theorem x_un (f) : mUn f a env M = kUn f (a env M) := rfl
def kCons2 (x : Wv) (r : R (List Wv)) : R (List Wv) := r.bind fun xs M => R.ok (x :: xs) M
theorem kCons2_ok (x : Wv) (xs : (List Wv)) : kCons2 x (.ok xs M) = R.ok (x :: xs) M := (rfl)
def kCons1 (ma : Ma) (env : Ev) (r : R Wv) : R (List Wv) := r.bind fun x M => kCons2 x (ma env M)
theorem kCons1_ok (ma : Ma) (env : Ev) (x : Wv) : kCons1 ma env (.ok x M) = kCons2 x (ma env M) := (rfl)
theorem x_maC : maC a ma env M = kCons1 ma env (a env M) := rfl
def kTup  (r : R (List Wv)) : R Wv := r.bind fun ws M => if ws.length ≤ lim then R.ok (.tup ws) M else .no
theorem kTup_ok  (ws : (List Wv)) : kTup  (.ok ws M) = if ws.length ≤ lim then R.ok (.tup ws) M else .no := (rfl)
theorem x_tup : mTup ma env M = kTup (ma env M) := rfl
def kLst  (r : R (List Wv)) : R Wv := r.bind fun ws M => if ws.length ≤ lim then R.ok (.lst ws) M else .no
theorem kLst_ok  (ws : (List Wv)) : kLst  (.ok ws M) = if ws.length ≤ lim then R.ok (.lst ws) M else .no := (rfl)
theorem x_lst : mLst ma env M = kLst (ma env M) := rfl
def kNew  (r : R (List Wv)) : R Wv := r.bind fun ws M => if ws.length ≤ lim then R.ok (.ref M.length) (M ++ [.lst ws]) else .no
theorem kNew_ok  (ws : (List Wv)) : kNew  (.ok ws M) = if ws.length ≤ lim then R.ok (.ref M.length) (M ++ [.lst ws]) else .no := (rfl)
theorem x_new : mNew ma env M = kNew (ma env M) := rfl
def kCall (f : List Wv → Mem → R Wv) (r : R (List Wv)) : R Wv := r.bind fun ws M => f ws M
theorem kCall_ok (f : List Wv → Mem → R Wv) (ws : (List Wv)) : kCall f (.ok ws M) = f ws M := (rfl)
theorem x_call (f) : mCall f ma env M = kCall f (ma env M) := rfl
def kApp (n : Nat) (f : List Wv → Mem → R Wv) (r : R (List Wv)) : R Wv := r.bind fun ws M => if ws.length = n then f ws M else .no
theorem kApp_ok (n : Nat) (f : List Wv → Mem → R Wv) (ws : (List Wv)) : kApp n f (.ok ws M) = if ws.length = n then f ws M else .no := (rfl)
theorem x_app (n) (f) : mApp n f ma env M = kApp n f (ma env M) := rfl
def kAppK2 (n j l : Nat) (p : List Nat) (f : List Wv → Mem → R Wv) (us : List Wv) (r : R (List Wv)) : R Wv := r.bind fun ws M => if us.length = j ∧ ws.length = l ∧ (pick' p (us ++ ws)).length = n then f (pick' p (us ++ ws)) M else .no
theorem kAppK2_ok (n j l : Nat) (p : List Nat) (f : List Wv → Mem → R Wv) (us : List Wv) (ws : (List Wv)) : kAppK2 n j l p f us (.ok ws M) = if us.length = j ∧ ws.length = l ∧ (pick' p (us ++ ws)).length = n then f (pick' p (us ++ ws)) M else .no := (rfl)
def kAppK1 (n j l : Nat) (p : List Nat) (f : List Wv → Mem → R Wv) (mb : Ma) (env : Ev) (r : R (List Wv)) : R Wv := r.bind fun us M => kAppK2 n j l p f us (mb env M)
theorem kAppK1_ok (n j l : Nat) (p : List Nat) (f : List Wv → Mem → R Wv) (mb : Ma) (env : Ev) (us : (List Wv)) : kAppK1 n j l p f mb env (.ok us M) = kAppK2 n j l p f us (mb env M) := (rfl)
theorem x_appK (n j l) (p) (f) : mAppK n j l p f ma mb env M = kAppK1 n j l p f mb env (ma env M) := rfl
def kBl  (r : R Bool) : R Wv := r.bind fun q M => R.ok (.bl q) M
theorem kBl_ok  (q : Bool) : kBl  (.ok q M) = R.ok (.bl q) M := (rfl)
def kCmp2 (f : Wv → Wv → Mem → R Bool) (x : Wv) (r : R Wv) : R Bool := r.bind fun y M => f x y M
theorem kCmp2_ok (f : Wv → Wv → Mem → R Bool) (x : Wv) (y : Wv) : kCmp2 f x (.ok y M) = f x y M := (rfl)
def kCmp1 (f : Wv → Wv → Mem → R Bool) (b : Me) (env : Ev) (r : R Wv) : R Bool := r.bind fun x M => kCmp2 f x (b env M)
theorem kCmp1_ok (f : Wv → Wv → Mem → R Bool) (b : Me) (env : Ev) (x : Wv) : kCmp1 f b env (.ok x M) = kCmp2 f x (b env M) := (rfl)
theorem x_tcmp (f) : mtCmp f a b env M = kCmp1 f b env (a env M) := rfl
theorem x_cmp (f) : mCmp f a b env M = kBl (kCmp1 f b env (a env M)) := by
  unfold mCmp kBl kCmp1
  cases a env M with
  | ok x M1 =>
    show (b env M1).bind _ = (kCmp2 f x (b env M1)).bind _
    unfold kCmp2
    cases b env M1 <;> rfl
  | _ => rfl
def kTe  (r : R Wv) : R Bool := r.bind fun x M => asT x M
theorem kTe_ok  (x : Wv) : kTe  (.ok x M) = asT x M := (rfl)
theorem x_te : mtE a env M = kTe (a env M) := rfl
def kTnot  (r : R Bool) : R Bool := r.bind fun q M => R.ok (!q) M
theorem kTnot_ok  (q : Bool) : kTnot  (.ok q M) = R.ok (!q) M := (rfl)
theorem x_tnot : mtNot t env M = kTnot (t env M) := rfl
def kTand (u : Mt) (env : Ev) (r : R Bool) : R Bool := r.bind fun q M => if q = true then u env M else R.ok false M
theorem kTand_t (u : Mt) (env : Ev) : kTand u env (.ok true M) = u env M := (rfl)
theorem kTand_f (u : Mt) (env : Ev) : kTand u env (.ok false M) = R.ok false M := (rfl)
theorem x_tand : mtAnd t u env M = kTand u env (t env M) := rfl
def kTor (u : Mt) (env : Ev) (r : R Bool) : R Bool := r.bind fun q M => if q = true then R.ok true M else u env M
theorem kTor_t (u : Mt) (env : Ev) : kTor u env (.ok true M) = R.ok true M := (rfl)
theorem kTor_f (u : Mt) (env : Ev) : kTor u env (.ok false M) = u env M := (rfl)
theorem x_tor : mtOr t u env M = kTor u env (t env M) := rfl
def kAnd2 (b : Me) (env : Ev) (w : Wv) (r : R Bool) : R Wv := r.bind fun q M => if q = true then b env M else R.ok w M
theorem kAnd2_t (b : Me) (env : Ev) (w : Wv) : kAnd2 b env w (.ok true M) = b env M := (rfl)
theorem kAnd2_f (b : Me) (env : Ev) (w : Wv) : kAnd2 b env w (.ok false M) = R.ok w M := (rfl)
def kAnd1 (b : Me) (env : Ev) (r : R Wv) : R Wv := r.bind fun w M => kAnd2 b env w (asT w M)
theorem kAnd1_ok (b : Me) (env : Ev) (w : Wv) : kAnd1 b env (.ok w M) = kAnd2 b env w (asT w M) := (rfl)
theorem x_and : mAnd a b env M = kAnd1 b env (a env M) := rfl
def kOr2 (b : Me) (env : Ev) (w : Wv) (r : R Bool) : R Wv := r.bind fun q M => if q = true then R.ok w M else b env M
theorem kOr2_t (b : Me) (env : Ev) (w : Wv) : kOr2 b env w (.ok true M) = R.ok w M := (rfl)
theorem kOr2_f (b : Me) (env : Ev) (w : Wv) : kOr2 b env w (.ok false M) = b env M := (rfl)
def kOr1 (b : Me) (env : Ev) (r : R Wv) : R Wv := r.bind fun w M => kOr2 b env w (asT w M)
theorem kOr1_ok (b : Me) (env : Ev) (w : Wv) : kOr1 b env (.ok w M) = kOr2 b env w (asT w M) := (rfl)
theorem x_or : mOr a b env M = kOr1 b env (a env M) := rfl
def kNot2  (r : R Bool) : R Wv := r.bind fun q M => R.ok (.bl (!q)) M
theorem kNot2_ok  (q : Bool) : kNot2  (.ok q M) = R.ok (.bl (!q)) M := (rfl)
def kNot1  (r : R Wv) : R Wv := r.bind fun w M => kNot2 (asT w M)
theorem kNot1_ok  (w : Wv) : kNot1  (.ok w M) = kNot2 (asT w M) := (rfl)
theorem x_not : mNot a env M = kNot1 (a env M) := rfl
def kIf (a b : Me) (env : Ev) (r : R Bool) : R Wv := r.bind fun q M => if q = true then a env M else b env M
theorem kIf_t (a b : Me) (env : Ev) : kIf a b env (.ok true M) = a env M := (rfl)
theorem kIf_f (a b : Me) (env : Ev) : kIf a b env (.ok false M) = b env M := (rfl)
theorem x_if : mIf t a b env M = kIf a b env (t env M) := rfl
def kOS  (r : R Wv) : R (Option Int) := r.bind fun w M => match w with | .int i => R.ok (some i) M | _ => .no
theorem kOS_ok  (w : Wv) : kOS  (.ok w M) = match w with | .int i => R.ok (some i) M | _ => .no := (rfl)
theorem x_oS : moS a env M = kOS (a env M) := rfl
def kSl3 (x : Wv) (l : Option Int) (r : R (Option Int)) : R Wv := r.bind fun v M => match sqOf M x with | some (.l xs) => R.ok (.lst (cutW xs l v)) M | _ => .no
theorem kSl3_ok (x : Wv) (l : Option Int) (v : (Option Int)) : kSl3 x l (.ok v M) = match sqOf M x with | some (.l xs) => R.ok (.lst (cutW xs l v)) M | _ => .no := (rfl)
def kSl2 (x : Wv) (h : Mo) (env : Ev) (r : R (Option Int)) : R Wv := r.bind fun l M => kSl3 x l (h env M)
theorem kSl2_ok (x : Wv) (h : Mo) (env : Ev) (l : (Option Int)) : kSl2 x h env (.ok l M) = kSl3 x l (h env M) := (rfl)
def kSl1 (l h : Mo) (env : Ev) (r : R Wv) : R Wv := r.bind fun x M => kSl2 x h env (l env M)
theorem kSl1_ok (l h : Mo) (env : Ev) (x : Wv) : kSl1 l h env (.ok x M) = kSl2 x h env (l env M) := (rfl)
theorem x_sl (l h : Mo) : mSl a l h env M = kSl1 l h env (a env M) := rfl
def kSeq (s : Ms) (r : R Fl) : R Fl := r.bind fun fl M => andThen fl s M
theorem kSeq_ok (s : Ms) (fl : Fl) : kSeq s (.ok fl M) = andThen fl s M := (rfl)
theorem x_seq : sSeq s1 s2 env M = kSeq s2 (s1 env M) := rfl
theorem x_an (k : Ms) : andThen (.nx env) k M = k env M := rfl
theorem x_ar (w) (k : Ms) : andThen (.ret w) k M = .ok (.ret w) M := rfl
theorem x_ab (k : Ms) : andThen (.bk env) k M = .ok (.bk env) M := rfl
theorem x_ac (k : Ms) : andThen (.ct env) k M = .ok (.ct env) M := rfl
def kSet (i : Nat) (env : Ev) (r : R Wv) : R Fl := r.bind fun w M => R.ok (.nx (env.set i (some w))) M
theorem kSet_ok (i : Nat) (env : Ev) (w : Wv) : kSet i env (.ok w M) = R.ok (.nx (env.set i (some w))) M := (rfl)
theorem x_set (i) : sSet i a env M = kSet i env (a env M) := rfl
def kRet  (r : R Wv) : R Fl := r.bind fun w M => R.ok (.ret w) M
theorem kRet_ok  (w : Wv) : kRet  (.ok w M) = R.ok (.ret w) M := (rfl)
theorem x_ret : sRet a env M = kRet (a env M) := rfl
def kSif (s1 s2 : Ms) (env : Ev) (r : R Bool) : R Fl := r.bind fun q M => if q = true then s1 env M else s2 env M
theorem kSif_t (s1 s2 : Ms) (env : Ev) : kSif s1 s2 env (.ok true M) = s1 env M := (rfl)
theorem kSif_f (s1 s2 : Ms) (env : Ev) : kSif s1 s2 env (.ok false M) = s2 env M := (rfl)
theorem x_sif : sIf t s1 s2 env M = kSif s1 s2 env (t env M) := rfl
def kExp (env : Ev) (r : R Wv) : R Fl := r.bind fun w M => R.ok (.nx env) M
theorem kExp_ok (env : Ev) (w : Wv) : kExp env (.ok w M) = R.ok (.nx env) M := (rfl)
theorem x_exp : sExp a env M = kExp env (a env M) := rfl
def kPut4 (env : Ev) (r : R Unit) : R Fl := r.bind fun q M => R.ok (.nx env) M
theorem kPut4_ok (env : Ev) (q : Unit) : kPut4 env (.ok q M) = R.ok (.nx env) M := (rfl)
def kPut3 (env : Ev) (w o : Wv) (r : R Wv) : R Fl := r.bind fun i M => kPut4 env (setW o i w M)
theorem kPut3_ok (env : Ev) (w o : Wv) (i : Wv) : kPut3 env w o (.ok i M) = kPut4 env (setW o i w M) := (rfl)
def kPut2 (c : Me) (env : Ev) (w : Wv) (r : R Wv) : R Fl := r.bind fun o M => kPut3 env w o (c env M)
theorem kPut2_ok (c : Me) (env : Ev) (w : Wv) (o : Wv) : kPut2 c env w (.ok o M) = kPut3 env w o (c env M) := (rfl)
def kPut1 (b c : Me) (env : Ev) (r : R Wv) : R Fl := r.bind fun w M => kPut2 c env w (b env M)
theorem kPut1_ok (b c : Me) (env : Ev) (w : Wv) : kPut1 b c env (.ok w M) = kPut2 c env w (b env M) := (rfl)
theorem x_put : sPut a b c env M = kPut1 b c env (a env M) := rfl
def kPar2 (i j : Nat) (env : Ev) (r : R (List Wv)) : R Fl := r.bind fun ws M => match ws with | [p, q] => R.ok (.nx ((env.set i (some p)).set j (some q))) M | _ => .no
theorem kPar2_ok (i j : Nat) (env : Ev) (ws : (List Wv)) : kPar2 i j env (.ok ws M) = match ws with | [p, q] => R.ok (.nx ((env.set i (some p)).set j (some q))) M | _ => .no := (rfl)
theorem x_par2 (i j) : sPar2 i j ma env M = kPar2 i j env (ma env M) := rfl
def kPar3 (i j l : Nat) (env : Ev) (r : R (List Wv)) : R Fl := r.bind fun ws M => match ws with | [p, q, r] => R.ok (.nx (((env.set i (some p)).set j (some q)).set l (some r))) M | _ => .no
theorem kPar3_ok (i j l : Nat) (env : Ev) (ws : (List Wv)) : kPar3 i j l env (.ok ws M) = match ws with | [p, q, r] => R.ok (.nx (((env.set i (some p)).set j (some q)).set l (some r))) M | _ => .no := (rfl)
theorem x_par3 (i j l) : sPar3 i j l ma env M = kPar3 i j l env (ma env M) := rfl
def kFor (T : Tg) (s : Ms) (env : Ev) (r : R (List Wv)) : R Fl := r.bind fun ws M => forW T s ws env M
theorem kFor_ok (T : Tg) (s : Ms) (env : Ev) (ws : (List Wv)) : kFor T s env (.ok ws M) = forW T s ws env M := (rfl)
theorem x_for (T) (m : Mi') : sFor T m s1 env M = kFor T s1 env (m env M) := rfl
def kLc (vs : List Nat) (T : Tg) (t : Mt) (a : Me) (env : Ev) (r : R (List Wv)) : R Wv := r.bind fun ws M => lcW T t a (wipeE env vs) ws [] M
theorem kLc_ok (vs : List Nat) (T : Tg) (t : Mt) (a : Me) (env : Ev) (ws : (List Wv)) : kLc vs T t a env (.ok ws M) = lcW T t a (wipeE env vs) ws [] M := (rfl)
theorem x_lc (vs T) (m : Mi') : mLc vs T m t a env M = kLc vs T t a env (m env M) := rfl
def kFn  (r : R Fl) : R Wv := r.bind fun fl M => match fl with | .nx _ => R.ok .non M | .ret w => R.ok w M | _ => .no
theorem kFn_ok  (fl : Fl) : kFn  (.ok fl M) = match fl with | .nx _ => R.ok .non M | .ret w => R.ok w M | _ => .no := (rfl)
theorem x_fn (n) (ws : List Wv) : mFn n s1 ws M = kFn (s1 (evStart n ws) M) := rfl
def kSeqI  (r : R Wv) : R (List Wv) := r.bind fun w M => match w with | .lst xs => R.ok xs M | .rdl xs => R.ok xs M | .tup xs => R.ok xs M | _ => .no
theorem kSeqI_ok  (w : Wv) : kSeqI  (.ok w M) = match w with | .lst xs => R.ok xs M | .rdl xs => R.ok xs M | .tup xs => R.ok xs M | _ => .no := (rfl)
theorem x_seqI : mSeqI a env M = kSeqI (a env M) := rfl
def kRng1  (r : R Wv) : R (List Wv) := r.bind fun w M => match w with | .int j => if -1000000 ≤ j ∧ j ≤ 1000000 then R.ok (rng 0 j.toNat) M else .no | _ => .no
theorem kRng1_ok  (w : Wv) : kRng1  (.ok w M) = match w with | .int j => if -1000000 ≤ j ∧ j ≤ 1000000 then R.ok (rng 0 j.toNat) M else .no | _ => .no := (rfl)
theorem x_rng1 : mRng1 a env M = kRng1 (a env M) := rfl
theorem x_lc0 (T acc) : lcW T t a env [] acc M = .ok (.lst acc) M := rfl
def kLc4 (T : Tg) (t : Mt) (e : Me) (env : Ev) (ws acc : List Wv) (r : R Wv) : R Wv := r.bind fun x M => if acc.length < lim then lcW T t e env ws (acc ++ [x]) M else .no
theorem kLc4_ok (T : Tg) (t : Mt) (e : Me) (env : Ev) (ws acc : List Wv) (x : Wv) : kLc4 T t e env ws acc (.ok x M) = if acc.length < lim then lcW T t e env ws (acc ++ [x]) M else .no := (rfl)
def kLc3 (T : Tg) (t : Mt) (e : Me) (env env1 : Ev) (ws acc : List Wv) (r : R Bool) : R Wv := r.bind fun q M => if q = true then kLc4 T t e env ws acc (noX (e env1 M)) else lcW T t e env ws acc M
theorem kLc3_t (T : Tg) (t : Mt) (e : Me) (env env1 : Ev) (ws acc : List Wv) : kLc3 T t e env env1 ws acc (.ok true M) = kLc4 T t e env ws acc (noX (e env1 M)) := (rfl)
theorem kLc3_f (T : Tg) (t : Mt) (e : Me) (env env1 : Ev) (ws acc : List Wv) : kLc3 T t e env env1 ws acc (.ok false M) = lcW T t e env ws acc M := (rfl)
def kLc2 (T : Tg) (t : Mt) (e : Me) (env : Ev) (ws acc : List Wv) (r : R Ev) : R Wv := r.bind fun env1 M => kLc3 T t e env env1 ws acc (noX (t env1 M))
theorem kLc2_ok (T : Tg) (t : Mt) (e : Me) (env env1 : Ev) (ws acc : List Wv) : kLc2 T t e env ws acc (.ok env1 M) = kLc3 T t e env env1 ws acc (noX (t env1 M)) := (rfl)
theorem x_lc1 (T : Tg) (w acc) : lcW T t a env (w :: ws) acc M = kLc2 T t a env ws acc (noX (T.set w env M)) := by
  unfold kLc2
  rw [lcW]
  cases noX (T.set w env M) with
  | ok env1 M1 => rfl
  | _ => rfl
def kFor3 (T : Tg) (b : Ms) (ws : List Wv) (r : R Fl) : R Fl := r.bind fun fl M => match fl with
  | .nx env2 => forW T b ws env2 M
  | .ct env2 => forW T b ws env2 M
  | .bk env2 => .ok (.nx env2) M
  | .ret v => .ok (.ret v) M
theorem kFor3_n (T : Tg) (b : Ms) (ws : List Wv) : kFor3 T b ws (.ok (.nx env) M) = forW T b ws env M := (rfl)
theorem kFor3_c (T : Tg) (b : Ms) (ws : List Wv) : kFor3 T b ws (.ok (.ct env) M) = forW T b ws env M := (rfl)
theorem kFor3_b (T : Tg) (b : Ms) (ws : List Wv) : kFor3 T b ws (.ok (.bk env) M) = .ok (.nx env) M := (rfl)
theorem kFor3_r (T : Tg) (b : Ms) (ws : List Wv) (v) : kFor3 T b ws (.ok (.ret v) M) = .ok (.ret v) M := (rfl)
def kFor2 (T : Tg) (b : Ms) (ws : List Wv) (r : R Ev) : R Fl := r.bind fun env1 M => kFor3 T b ws (b env1 M)
theorem kFor2_ok (T : Tg) (b : Ms) (ws : List Wv) : kFor2 T b ws (.ok env M) = kFor3 T b ws (b env M) := (rfl)
theorem x_for0 (T) : forW T s1 [] env M = .ok (.nx env) M := rfl
theorem x_for1 (T : Tg) (w) : forW T s1 (w :: ws) env M = kFor2 T s1 ws (T.set w env M) := by
  unfold kFor2
  rw [forW]
  cases T.set w env M with
  | ok env1 M1 => rfl
  | _ => rfl
end
theorem un1_x (f : Wv → Mem → R Wv) (x : Wv) (M : Mem) : un1 f [x] M = f x M := rfl
theorem lim_is : lim = 100000 := rfl
theorem asT_bl (q : Bool) (M : Mem) : asT (.bl q) M = .ok q M := rfl
/-- one turn of a comprehension after another: its items by a plain function -/
theorem lc_map {T : Tg} {e : Me} {env : Ev} {f : Wv → Wv} {M : Mem} : ∀ {ws acc : List Wv}, (∀ w ∈ ws, (T.set w env M).bind (fun env1 M1 => e env1 M1) = .ok (f w) M) → acc.length + ws.length ≤ lim → lcW T mtYes e env ws acc M = .ok (.lst (acc ++ ws.map f)) M
  | [], acc, _, _ => by simp [lcW]
  | w :: ws, acc, h, hl => by
    have h0 := h w List.mem_cons_self
    rw [x_lc1]
    cases q : T.set w env M with
    | no => rw [q] at h0; cases h0
    | exc x M1 => rw [q] at h0; cases h0
    | ok env1 M1 =>
      rw [q] at h0
      have h0 : e env1 M1 = .ok (f w) M := h0
      simp only [List.length_cons] at hl
      rw [noX_ok, kLc2_ok, x_yes, noX_ok, kLc3_t, h0, noX_ok, kLc4_ok, if_pos (by omega), lc_map (fun w hw => h w (List.mem_cons_of_mem _ hw)) (by simp; omega)]
      simp
end Mi

namespace Mi
open PySem PySem.Spec PyProof.Rows L2
/-! ### operators on known kinds -/
section
variable (M : Mem) (i j : Int) (x : Wv)
theorem zv_add : addW (.int i) (.int j) M = .ok (.int (i + j)) M := rfl
theorem zv_sub : subW (.int i) (.int j) M = .ok (.int (i - j)) M := rfl
theorem zv_neg : negW (.int i) M = .ok (.int (-i)) M := rfl
theorem zv_mul : mulW (.int i) (.int j) M = if mulOk i j then .ok (.int (i * j)) M else .no := rfl
theorem zv_div : divW (.int i) (.int j) M = if 0 < j ∧ j < 1073741824 then .ok (.int (i / j)) M else .no := rfl
theorem zv_mod : modW (.int i) (.int j) M = if 0 < j then .ok (.int (i % j)) M else .no := rfl
theorem zv_pow : powW (.int i) (.int j) M = if 0 ≤ j ∧ j ≤ 1000000 ∧ i.natAbs < 2 ^ 64 then .ok (.int (i ^ j.toNat)) M else .no := rfl
theorem zv_cmp (p) : cmpW p (.int i) (.int j) M = .ok (p i j) M := rfl
theorem zv_isN (q) : isNW q x .non M = .ok (q ^^ isNonW x) M := rfl
theorem zv_isB (q b) : isBlW q x (.bl b) M = .ok (q ^^ blIs b x) M := rfl
theorem zv_int : int1 (.int i) M = .ok (.int i) M := rfl
theorem zv_intb (b) : int1 (.bl b) M = .ok (.int (if b then 1 else 0)) M := rfl
theorem zv_abs : abs1 (.int i) M = .ok (.int (if i < 0 then -i else i)) M := rfl
theorem zv_lenl (xs) : len1 (.lst xs) M = .ok (.int xs.length) M := rfl
theorem zv_lent (xs) : len1 (.tup xs) M = .ok (.int xs.length) M := rfl
theorem zv_is {ts : List Mi.Ty} {v : Wv} {t : Mi.Ty} (h : tyOf M v = some t) : isW ts v M = .ok (.bl (ts.any t.sub)) M := by unfold isW; rw [h]
theorem zv_ixl (xs) : ixW (.lst xs) (.int i) M = match atI xs i with | some w => .ok w M | none => .no := rfl
theorem zv_ixr {n : Nat} {xs} (h : M[n]? = some (.lst xs)) : ixW (.ref n) (.int i) M = match atI xs i with | some w => .ok w M | none => .no := by
  show (match (match M[n]? with | some (Ob.lst xs) => some (Sq.l xs) | _ => none) with | some s => (match atI s.xs i with | some w => R.ok w M | none => .no) | none => .no) = _
  rw [h] <;> rfl
theorem zv_put {n : Nat} {xs} {k : Nat} (h : M[n]? = some (.lst xs)) (hj : ixN xs.length i = some k) : setW (.ref n) (.int i) x M = .ok () (M.set n (.lst (xs.set k x))) := by
  show (match M[n]? with | some (Ob.lst xs) => (match ixN xs.length i with | some j => R.ok () (M.set n (.lst (xs.set j x))) | none => .no) | _ => .no) = _
  rw [h]
  show (match ixN xs.length i with | some j => R.ok () (M.set n (.lst (xs.set j x))) | none => .no) = _
  rw [hj]
end
/-- int(e), or e itself -/
def mIq (f : Bool) (e : Me) : Me := match f with
  | true => mCall intW (maC e maN)
  | false => e
def kIq (f : Bool) (r : R Wv) : R Wv := r.bind fun w M1 => match f with
  | true => intW [w] M1
  | false => .ok w M1
theorem x_iq (f : Bool) (e : Me) (env : Ev) (M : Mem) : mIq f e env M = kIq f (e env M) := by
  cases f with
  | true =>
    show mCall intW (maC e maN) env M = _
    rw [x_call, x_maC]
    cases e env M <;> rfl
  | false =>
    show e env M = _
    cases h : e env M <;> rfl
theorem kIq_i (f : Bool) (i : Int) (M : Mem) : kIq f (.ok (.int i) M) = .ok (.int i) M := by cases f <;> rfl
local macro_rules | `(tactic| walk_at "ev") => `(tactic| (try simp only [noX_ok, x_var, x_c, x_dct, x_maN, x_oN, x_nil, x_retN, x_brk, x_cnt, x_yes, x_tnm, kBin2_ok, kBin1_ok, x_bin, kUn_ok, x_un, kCons2_ok, kCons1_ok, x_maC, kTup_ok, x_tup, kLst_ok, x_lst, kNew_ok, x_new, kCall_ok, x_call, kApp_ok, x_app, kAppK2_ok, kAppK1_ok, x_appK, kBl_ok, kCmp2_ok, kCmp1_ok, x_tcmp, x_cmp, kTe_ok, x_te, kTnot_ok, x_tnot, kTand_t, kTand_f, x_tand, kTor_t, kTor_f, x_tor, kAnd2_t, kAnd2_f, kAnd1_ok, x_and, kOr2_t, kOr2_f, kOr1_ok, x_or, kNot2_ok, kNot1_ok, x_not, kIf_t, kIf_f, x_if, kOS_ok, x_oS, kSl3_ok, kSl2_ok, kSl1_ok, x_sl, kSeq_ok, x_seq, x_an, x_ar, x_ab, x_ac, kSet_ok, x_set, kRet_ok, x_ret, kSif_t, kSif_f, x_sif, kExp_ok, x_exp, kPut4_ok, kPut3_ok, kPut2_ok, kPut1_ok, x_put, kPar2_ok, x_par2, kPar3_ok, x_par3, kFor_ok, x_for, kLc_ok, x_lc, kFn_ok, x_fn, kSeqI_ok, x_seqI, kRng1_ok, x_rng1, x_lc0, kLc4_ok, kLc3_t, kLc3_f, kLc2_ok, x_lc1, kFor3_n, kFor3_c, kFor3_b, kFor3_r, kFor2_ok, un1_x, asT_bl,
  evStart, wipeE, List.map_cons, List.map_nil, List.length_cons, List.length_nil, List.getElem?_cons_zero, List.getElem?_cons_succ, List.getElem?_nil, List.set_cons_zero, List.set_cons_succ, List.set_nil, List.replicate, List.cons_append, List.nil_append, Nat.reduceAdd, Nat.reduceSub, Nat.zero_add, Nat.reduceLeDiff,
  Bool.false_eq_true, if_true, if_false, reduceIte, Bool.not_true, Bool.not_false, lim_is, List.any_cons, List.any_nil, Ty.sub, Bool.or_false, Bool.or_true, Bool.false_or, Bool.true_or, Bool.false_xor, Bool.true_xor, Bool.xor_false, Bool.xor_true,
  x_iq, kIq_i, zv_add, zv_sub, zv_neg, zv_mul, zv_div, zv_mod, zv_pow, zv_cmp, zv_isN, zv_isB, zv_int, zv_intb, zv_abs, zv_lenl, zv_lent, zv_ixl, isNonW]))

/-! ### what draws: the three helpers that every law here has, over their own numbers -/
def tellM (A B P C Q D Z S : Int) : Ms := sSeq (sSet 5 (mBin modW (mCall intW (maC (mBin powW (mBin addW (mBin addW (mBin modW (mCall intW (maC (mVar 4) (maN))) (mC (.int P))) (mBin mulW (mC (.int C)) (mVar 3))) (mC (.int B))) (mC (.int 5))) (maN))) (mC (.int Q)))) (sSeq (sSet 5 (mBin modW (mCall intW (maC (mBin powW (mBin addW (mBin addW (mBin mulW (mVar 5) (mBin addW (mBin mulW (mC (.int 2)) (mVar 3)) (mC (.int D)))) (mBin mulW (mBin mulW (mC (.int A)) (mVar 3)) (mVar 3))) (mC (.int C))) (mC (.int 3))) (maN))) (mC (.int Z)))) (sRet (mBin modW (mCall intW (maC (mBin divW (mVar 5) (mC (.int S))) (maN))) (mVar 1))))
def tellR (f g : Bool) (A B P C Q D Z S : Int) : Ms := sSeq (sIf (mtAnd (mtCmp ltW (mVar 3) (mCall lenW (maC (mBin ixW (mVar 0) (mC (.int 0))) (maN)))) (mtCmp geW (mCall absW (maC (mVar 4) (maN))) (mBin powW (mC (.int 10)) (mC (.int 18))))) (sSeq (sSet 2 (mBin addW (mBin mulW (mC (.int 2)) (mBin subW (mCall absW (maC (mIq g (mVar 4)) (maN))) (mBin powW (mC (.int 10)) (mC (.int 18))))) (mCall intW (maC (mCmp ltW (mVar 4) (mC (.int 0))) (maN))))) (sSeq (sPut (mBin divW (mIq f (mVar 2)) (mVar 1)) (mVar 0) (mC (.int 2))) (sRet (mBin modW (mCall intW (maC (mVar 2) (maN))) (mVar 1))))) (sNil)) (tellM A B P C Q D Z S)
def tellG2 (f g : Bool) (A B P C Q D Z S : Int) : List Wv → Mem → R Wv := mFn 6 (sSeq (sIf (mtCmp gtW (mBin ixW (mVar 0) (mC (.int 2))) (mC (.int 0))) (sSeq (sSet 2 (mCall intW (maC (mBin ixW (mVar 0) (mC (.int 2))) (maN)))) (sSeq (sPut (mBin divW (mVar 2) (mVar 1)) (mVar 0) (mC (.int 2))) (sRet (mBin modW (mCall intW (maC (mVar 2) (maN))) (mVar 1))))) (sNil)) (sSeq (sSet 3 (mBin ixW (mVar 0) (mC (.int 1)))) (sSeq (sPut (mBin addW (mVar 3) (mC (.int 1))) (mVar 0) (mC (.int 1))) (sSeq (sSet 4 (mBin addW (mBin mulW (mC (.int A)) (mVar 3)) (mC (.int B)))) (sSeq (sIf (mtCmp (eqW true) (mBin ixW (mVar 0) (mC (.int 0))) (mLst (maN))) (sSet 4 (mBin ixW (mBin ixW (mVar 0) (mC (.int 0))) (mBin modW (mCall intW (maC (mVar 3) (maN))) (mCall lenW (maC (mBin ixW (mVar 0) (mC (.int 0))) (maN)))))) (sNil)) (tellR f g A B P C Q D Z S))))))
abbrev tellG := tellG2 false false
def pawG (N : Int) : List Wv → Mem → R Wv := mFn 2 (sRet (mNew (maC (mLc [1] (.nm 1) (mSeqI (mSl (mVar 0) (moN) (moS (mC (.int N))))) (mtYes) (mCall intW (maC (mVar 1) (maN)))) (maC (mC (.int 0)) (maC (mC (.int 0)) (maN))))))
def pickG (f : List Wv → Mem → R Wv) : List Wv → Mem → R Wv := mFn 2 (sRet (mBin ixW (mVar 1) (mApp 2 f (maC (mVar 0) (maC (mCall lenW (maC (mVar 1) (maN))) (maN))))))
/-- what draws: its cells, how many were begun, what is left of a great one -/
def pawO (cs : List Int) (t r : Int) : Ob := .lst [.lst (cs.map .int), .int t, .int r]
theorem at0 {α : Type} (a b c : α) : atI [a, b, c] 0 = some a := rfl
theorem at1 {α : Type} (a b c : α) : atI [a, b, c] 1 = some b := rfl
theorem at2 {α : Type} (a b c : α) : atI [a, b, c] 2 = some c := rfl
theorem mulOk_l {i j : Int} (h : i.natAbs < 2 ^ 64) : mulOk i j = true := by unfold mulOk; rw [decide_eq_true h]; rfl
theorem mulOk_r {i j : Int} (h : j.natAbs < 2 ^ 64) : mulOk i j = true := by unfold mulOk; rw [decide_eq_true h, Bool.or_true]; rfl
theorem toDs_ints : ∀ cs : List Int, toDs (cs.map Wv.int) = some (cs.map PyData.int)
  | [] => rfl
  | c :: cs => by
    show (match toD (.int c), toDs (cs.map Wv.int) with | some d, some ds => some (d :: ds) | _, _ => none) = _
    rw [toDs_ints cs]
    rfl
theorem ints_shaped (cs : List Int) : SeqAt.shaped (.list (cs.map PyData.int)) = true := by
  have h1 : ∀ cs : List Int, PyData.canLayAll0 (cs.map PyData.int) = true := by
    intro cs
    induction cs with
    | nil => simp [PyData.canLayAll0]
    | cons c cs ih => simp [PyData.canLayAll0, PyData.canLay0, ih]
  have h2 : ∀ cs : List Int, PyData.depthAll (cs.map PyData.int) = 0 := by
    intro cs
    induction cs with
    | nil => simp [PyData.depthAll]
    | cons c cs ih => simp [PyData.depthAll, PyData.depth, ih]
  unfold SeqAt.shaped
  simp [PyData.canLay0, PyData.depth, h1, h2]
theorem zv_ne_nil (cs : List Int) (M : Mem) : eqW true (.lst (cs.map .int)) (.lst []) M = .ok (!cs.isEmpty) M := by
  have e1 : toDM M (.lst (cs.map .int)) = some (.list (cs.map PyData.int)) := by
    show (toDs (cs.map Wv.int)).map PyData.list = _
    rw [toDs_ints]; rfl
  have e2 : toDM M (.lst []) = some (.list []) := rfl
  unfold eqW
  rw [e1, e2]
  show (if (SeqAt.shaped (.list (cs.map PyData.int)) && SeqAt.shaped (.list [])) = true then _ else _) = _
  rw [ints_shaped, show SeqAt.shaped (.list []) = true from ints_shaped [], Bool.and_self, if_pos rfl]
  cases cs <;> simp [PyData.eqv, PyData.eqvAll]
theorem at_mod {cs : List Int} (h : cs ≠ []) (t : Int) : ∃ c, c ∈ cs ∧ atI (cs.map Wv.int) (t % (cs.length : Int)) = some (.int c) := by
  have hl : 0 < cs.length := List.length_pos_iff.mpr h
  have h1 := Int.emod_nonneg t (show (cs.length : Int) ≠ 0 by omega)
  have h2 := Int.emod_lt_of_pos t (show (0 : Int) < (cs.length : Int) by omega)
  obtain ⟨j, hj⟩ : ∃ j : Nat, t % (cs.length : Int) = (j : Int) := ⟨(t % (cs.length : Int)).toNat, by omega⟩
  rw [hj] at h2 ⊢
  have hlt : j < cs.length := by omega
  exact ⟨cs[j], List.getElem_mem hlt, atI_nat (by rw [List.getElem?_map, List.getElem?_eq_getElem hlt]; rfl)⟩
structure Nums (A B P C Q D Z S : Int) : Prop where
  a0 : 0 ≤ A
  a : A < 1000000
  b0 : 0 ≤ B
  b : B < 1000000
  p0 : 0 < P
  p : P < 4294967296
  c0 : 0 ≤ C
  c : C < 1000000
  q0 : 0 < Q
  q : Q < 4294967296
  d0 : 0 ≤ D
  d : D < 1000000
  z0 : 0 < Z
  s0 : 0 < S
  s : S < 1073741824
theorem set_get {M : Mem} {n : Nat} {o u : Ob} (h : M[n]? = some o) : (M.set n u)[n]? = some u := by
  rw [List.getElem?_set_self (List.getElem?_eq_some_iff.mp h).1]
theorem tell_rest {f g : Bool} {A B P C Q D Z S : Int} (K : Nums A B P C Q D Z S) {M : Mem} {n : Nat} {cs : List Int} {t r m c : Int} (h : M[n]? = some (pawO cs (t + 1) r)) (hm : 0 < m) (hm2 : m < 1073741824) (ht : 0 ≤ t) (ht2 : t ≤ 1000000) (hc : cs.length ≤ 1000) :
    ∃ k r', 0 ≤ k ∧ k < m ∧ kFn (tellR f g A B P C Q D Z S [some (.ref n), some (.int m), none, some (.int t), some (.int c), none] M) = .ok (.int k) (M.set n (pawO cs (t + 1) r')) := by
  have hlen : (cs.map Wv.int).length = cs.length := List.length_map ..
  have hA := K.a0
  have hA2 := K.a
  have hB := K.b0
  have hB2 := K.b
  have hC := K.c0
  have hC2 := K.c
  have hP := K.p0
  have hP2 := K.p
  have hQ := K.q0
  have hQ2 := K.q
  have hD := K.d0
  have hD2 := K.d
  have hZ := K.z0
  have hS := K.s0
  have hS2 := K.s
  have self : M.set n (pawO cs (t + 1) r) = M := by
    obtain ⟨h1, h2⟩ := List.getElem?_eq_some_iff.mp h
    rw [← h2, List.set_getElem_self]
  unfold tellR
  walk_at "ev"
  rw [zv_ixr _ 0 h, at0]
  walk_at "ev"
  rw [hlen]
  -- the mixed one
  have mix : ∃ k r', 0 ≤ k ∧ k < m ∧ kFn (tellM A B P C Q D Z S [some (.ref n), some (.int m), none, some (.int t), some (.int c), none] M) = .ok (.int k) (M.set n (pawO cs (t + 1) r')) := by
    unfold tellM
    walk_at "ev"
    rw [if_pos hP]
    walk_at "ev"
    rw [if_pos (mulOk_l (by omega))]
    walk_at "ev"
    have e1 := Int.emod_nonneg c (show P ≠ 0 by omega)
    have e2 := Int.emod_lt_of_pos c hP
    have e3 : 0 ≤ C * t := Int.mul_nonneg hC ht
    have e4 : C * t ≤ 1000000 * 1000000 := Int.mul_le_mul (by omega) ht2 ht (by omega)
    rw [if_pos (show (0 : Int) ≤ 5 ∧ (5 : Int) ≤ 1000000 ∧ (c % P + C * t + B).natAbs < 2 ^ 64 by omega)]
    walk_at "ev"
    rw [if_pos hQ]
    walk_at "ev"
    generalize hx : (c % P + C * t + B) ^ Int.toNat 5 % Q = x
    have x1 : 0 ≤ x := by rw [← hx]; exact Int.emod_nonneg _ (by omega)
    have x2 : x < 4294967296 := by rw [← hx]; exact Int.lt_trans (Int.emod_lt_of_pos _ hQ) hQ2
    have f1 : 0 ≤ A * t := Int.mul_nonneg hA ht
    have f2 : A * t ≤ 1000000 * 1000000 := Int.mul_le_mul (by omega) ht2 ht (by omega)
    have f3 : 0 ≤ A * t * t := Int.mul_nonneg f1 ht
    have f4 : A * t * t ≤ 1000000 * 1000000 * 1000000 := Int.mul_le_mul f2 ht2 ht (by omega)
    have f5 : 0 ≤ x * (2 * t + D) := Int.mul_nonneg x1 (by omega)
    have f6 : x * (2 * t + D) ≤ 4294967296 * 3000000 := Int.mul_le_mul (by omega) (by omega) (by omega) (by omega)
    rw [if_pos (mulOk_l (show (2 : Int).natAbs < 2 ^ 64 by decide))]
    walk_at "ev"
    rw [if_pos (mulOk_l (show x.natAbs < 2 ^ 64 by omega))]
    walk_at "ev"
    rw [if_pos (mulOk_l (show A.natAbs < 2 ^ 64 by omega))]
    walk_at "ev"
    rw [if_pos (mulOk_l (show (A * t).natAbs < 2 ^ 64 by omega))]
    walk_at "ev"
    rw [if_pos (show (0 : Int) ≤ 3 ∧ (3 : Int) ≤ 1000000 ∧ (x * (2 * t + D) + A * t * t + C).natAbs < 2 ^ 64 by omega)]
    walk_at "ev"
    rw [if_pos hZ]
    walk_at "ev"
    rw [if_pos ⟨hS, hS2⟩]
    walk_at "ev"
    rw [if_pos (show 0 < m from hm)]
    walk_at "ev"
    exact ⟨_, r, Int.emod_nonneg _ (by omega), Int.emod_lt_of_pos _ hm, by rw [self]⟩
  cases h1 : decide (t < (cs.length : Int)) with
  | false =>
    walk_at "ev"
    exact mix
  | true =>
    walk_at "ev"
    rw [if_pos (show (0 : Int) ≤ 18 ∧ (18 : Int) ≤ 1000000 ∧ (10 : Int).natAbs < 2 ^ 64 by decide)]
    walk_at "ev"
    generalize (if c < 0 then -c else c) = d
    generalize (10 : Int) ^ Int.toNat 18 = e
    cases h2 : decide (e ≤ d) with
    | false =>
      walk_at "ev"
      exact mix
    | true =>
      walk_at "ev"
      rw [if_pos (show (0 : Int) ≤ 18 ∧ (18 : Int) ≤ 1000000 ∧ (10 : Int).natAbs < 2 ^ 64 by decide)]
      walk_at "ev"
      rw [if_pos (mulOk_l (show (2 : Int).natAbs < 2 ^ 64 by decide))]
      walk_at "ev"
      rw [if_pos (show 0 < m ∧ m < 1073741824 from ⟨hm, hm2⟩)]
      walk_at "ev"
      rw [zv_put _ 2 _ (k := 2) h rfl]
      walk_at "ev"
      rw [if_pos (show 0 < m from hm)]
      walk_at "ev"
      exact ⟨_, _, Int.emod_nonneg _ (by omega), Int.emod_lt_of_pos _ hm, rfl⟩
theorem tell_ok {f g : Bool} {A B P C Q D Z S : Int} (K : Nums A B P C Q D Z S) {M : Mem} {n : Nat} {cs : List Int} {t r m : Int} (h : M[n]? = some (pawO cs t r)) (hm : 0 < m) (hm2 : m < 1073741824) (ht : 0 ≤ t) (ht2 : t ≤ 1000000) (hc : cs.length ≤ 1000) :
    ∃ k t' r', 0 ≤ k ∧ k < m ∧ t ≤ t' ∧ t' ≤ t + 1 ∧ tellG2 f g A B P C Q D Z S [.ref n, .int m] M = .ok (.int k) (M.set n (pawO cs t' r')) := by
  have hlen : (cs.map Wv.int).length = cs.length := List.length_map ..
  unfold tellG2
  walk_at "ev"
  rw [zv_ixr M 2 h, at2]
  walk_at "ev"
  cases hr : decide (0 < r) with
  | true =>
    walk_at "ev"
    rw [zv_ixr M 2 h, at2]
    walk_at "ev"
    rw [if_pos (show 0 < m ∧ m < 1073741824 from ⟨hm, hm2⟩)]
    walk_at "ev"
    rw [zv_put M 2 _ (k := 2) h rfl]
    walk_at "ev"
    rw [if_pos (show 0 < m from hm)]
    walk_at "ev"
    exact ⟨r % m, t, r / m, Int.emod_nonneg _ (by omega), Int.emod_lt_of_pos _ hm, Int.le_refl _, by omega, rfl⟩
  | false =>
    have hA := K.a0
    have hA2 := K.a
    have hB := K.b0
    have hB2 := K.b
    have hC := K.c0
    have hC2 := K.c
    have hP := K.p0
    have hP2 := K.p
    have hQ := K.q0
    have hQ2 := K.q
    have hD := K.d0
    have hD2 := K.d
    have hZ := K.z0
    have hS := K.s0
    have hS2 := K.s
    have h2 : (M.set n (pawO cs (t + 1) r))[n]? = some (pawO cs (t + 1) r) := set_get h
    walk_at "ev"
    rw [zv_ixr M 1 h, at1]
    walk_at "ev"
    rw [zv_put M 1 _ (k := 1) h rfl]
    walk_at "ev"
    rw [if_pos (mulOk_l (by omega))]
    walk_at "ev"
    rw [show (Ob.lst [.lst (cs.map .int), .int (t + 1), .int r]) = pawO cs (t + 1) r from rfl]
    rw [zv_ixr _ 0 h2, at0]
    walk_at "ev"
    rw [zv_ne_nil]
    have rest := fun c => tell_rest (f := f) (g := g) (c := c) K (set_get (u := pawO cs (t + 1) r) h) hm hm2 ht ht2 hc
    cases hcs : cs.isEmpty with
    | true =>
      walk_at "ev"
      obtain ⟨k, r', h5, h6, h7⟩ := rest (A * t + B)
      exact ⟨k, t + 1, r', h5, h6, by omega, by omega, by rw [h7, List.set_set]⟩
    | false =>
      obtain ⟨c, h3, h4⟩ := at_mod (cs := cs) (by intro z; rw [z] at hcs; cases hcs) t
      have hl : (0 : Int) < ((cs.map Wv.int).length : Int) := by
        rw [hlen]
        cases cs with
        | nil => cases hcs
        | cons c cs => simp only [List.length_cons]; omega
      walk_at "ev"
      rw [zv_ixr _ 0 h2, at0]
      walk_at "ev"
      rw [zv_ixr _ 0 h2, at0]
      walk_at "ev"
      rw [if_pos hl]
      walk_at "ev"
      rw [hlen, h4]
      walk_at "ev"
      obtain ⟨k, r', h5, h6, h7⟩ := rest c
      exact ⟨k, t + 1, r', h5, h6, by omega, by omega, by rw [h7, List.set_set]⟩

theorem cut_take (xs : List Wv) (N : Nat) : cutW xs none (some (N : Int)) = xs.take N := by
  unfold cutW
  rw [HT.sIx_none, HT.sIx_nat, List.drop_zero, Nat.sub_zero]
  rcases Nat.le_total N xs.length with h | h
  · rw [Nat.min_eq_left h]
  · rw [Nat.min_eq_right h, List.take_length, List.take_of_length_le h]
theorem paw_ok (N : Nat) (ns : List Int) (M : Mem) (hN : N ≤ 1000) : pawG (N : Int) [.rdl (ns.map .int)] M = .ok (.ref M.length) (M ++ [pawO (ns.take N) 0 0]) := by
  have hl : ((ns.map Wv.int).take N).length ≤ 1000 := by rw [List.length_take]; omega
  unfold pawG
  walk_at "ev"
  rw [show sqOf M (.rdl (ns.map Wv.int)) = some (.l (ns.map Wv.int)) from rfl]
  walk_at "ev"
  rw [cut_take]
  walk_at "ev"
  rw [lc_map (f := fun w => w) (fun w hw => ?_) (by rw [lim_is]; simp only [List.length_nil]; omega)]
  · walk_at "ev"
    rw [List.map_id', ← List.map_take]
    rfl
  · obtain ⟨i, _, rfl⟩ := List.mem_map.mp (List.mem_of_mem_take hw)
    rfl
theorem pick_ok {f g : Bool} {A B P C Q D Z S : Int} (K : Nums A B P C Q D Z S) {M : Mem} {n : Nat} {cs : List Int} {t r : Int} {ws : List Wv} (h : M[n]? = some (pawO cs t r)) (hw : 0 < ws.length) (hw2 : ws.length ≤ 100000) (ht : 0 ≤ t) (ht2 : t ≤ 1000000) (hc : cs.length ≤ 1000) :
    ∃ w t' r', w ∈ ws ∧ t ≤ t' ∧ t' ≤ t + 1 ∧ pickG (tellG2 f g A B P C Q D Z S) [.ref n, .lst ws] M = .ok w (M.set n (pawO cs t' r')) := by
  obtain ⟨k, t', r', h1, h2, h3, h4, h5⟩ := tell_ok K (m := (ws.length : Int)) h (by omega) (by omega) ht ht2 hc
  obtain ⟨j, rfl⟩ : ∃ j : Nat, k = (j : Int) := ⟨k.toNat, by omega⟩
  have hlt : j < ws.length := by omega
  refine ⟨ws[j], t', r', List.getElem_mem hlt, h3, h4, ?_⟩
  unfold pickG
  walk_at "ev"
  rw [h5]
  walk_at "ev"
  rw [atI_nat (List.getElem?_eq_getElem hlt)]
  walk_at "ev"
end Mi

namespace Mi
open PySem PySem.Spec PyProof.Rows L2
/-! ### running mirrors of Ex, En -/
section
variable (env : Ev) (M : Mem) (a b c : Me) (x y z : Wv) (s1 s2 : Ms) (ma mb : Ma) (ws us : List Wv)
def kRs (C : Str) (l : List (Str × Nat)) (n : Nat) (r : R (List Wv)) : R Fl := r.bind fun ws M1 => if ws.length = n then (match fldsW ws l [] [] with
  | some (ns, xs) => .exc ⟨C, ns.zip xs⟩ M1
  | none => .no) else .no
theorem kRs_ok (C l n) : kRs C l n (.ok ws M) = if ws.length = n then (match fldsW ws l [] [] with
  | some (ns, xs) => R.exc ⟨C, ns.zip xs⟩ M
  | none => .no) else .no := (rfl)
theorem x_raise (C l n) : sRaise C l n ma env M = kRs C l n (ma env M) := rfl
def kTry (tab : List (Str × Bool)) (i : Nat) (suite : Ms) (env : Ev) (r : R Fl) : R Fl := match r with
  | .ok fl M1 => .ok fl M1
  | .exc x M1 => match tab.lookup x.cls with
    | some true => (noX (suite ((List.replicate env.length none).set i (some (.exc x.cls (x.fs.map (·.1)) (x.fs.map (·.2))))) M1)).bind fun fl M2 => .ok (fl.cut i) M2
    | some false => .exc x M1
    | none => .no
  | .no => .no
theorem kTry_ok (tab i fl) : kTry tab i s1 env (.ok fl M) = .ok fl M := (rfl)
theorem x_try (tab i) : sTry s1 tab i s2 env M = kTry tab i s2 env (s1 env M) := rfl
def kEnum (r : R Wv) : R (List Wv) := r.bind fun w M1 => match w with
  | .lst xs => .ok (enumL xs) M1
  | .rdl xs => .ok (enumL xs) M1
  | _ => .no
theorem kEnum_l (xs) : kEnum (.ok (.lst xs) M) = .ok (enumL xs) M := (rfl)
theorem x_enum : mEnum a env M = kEnum (a env M) := rfl
theorem x_ttp (is : List Nat) (xs : List Wv) : Tg.set (.tp is) (.tup xs) env M = if xs.length = is.length then .ok (setAll env is xs) M else .no := rfl
end
/-! ### tests and statements whose tests are known -/
section
variable {env : Ev} {M M1 M2 M3 : Mem} {t u : Mt} {s1 s2 : Ms} {a b : Me} {v w : Wv}
theorem tor_t (h : t env M = .ok true M1) : mtOr t u env M = .ok true M1 := by rw [x_tor, h, kTor_t]
theorem tor_f {q : Bool} (h1 : t env M = .ok false M1) (h2 : u env M1 = .ok q M2) : mtOr t u env M = .ok q M2 := by rw [x_tor, h1, kTor_f, h2]
theorem tand_f (h : t env M = .ok false M1) : mtAnd t u env M = .ok false M1 := by rw [x_tand, h, kTand_f]
theorem tand_t {q : Bool} (h1 : t env M = .ok true M1) (h2 : u env M1 = .ok q M2) : mtAnd t u env M = .ok q M2 := by rw [x_tand, h1, kTand_t, h2]
theorem tnot_ {q : Bool} (h : t env M = .ok q M1) : mtNot t env M = .ok (!q) M1 := by rw [x_tnot, h, kTnot_ok]
theorem sif_f {r : R Fl} (h : t env M = .ok false M1) (h2 : s2 env M1 = r) : sIf t s1 s2 env M = r := by rw [x_sif, h, kSif_f, h2]
theorem sif_t {r : R Fl} (h : t env M = .ok true M1) (h2 : s1 env M1 = r) : sIf t s1 s2 env M = r := by rw [x_sif, h, kSif_t, h2]
theorem seq_ {env1 : Ev} {r : R Fl} (h : s1 env M = .ok (.nx env1) M1) (h2 : s2 env1 M1 = r) : sSeq s1 s2 env M = r := by rw [x_seq, h, kSeq_ok, x_an, h2]
theorem seq_r (h : s1 env M = .ok (.ret v) M1) : sSeq s1 s2 env M = .ok (.ret v) M1 := by rw [x_seq, h, kSeq_ok, x_ar]
/-- a comprehension, its items kept and made by plain functions -/
theorem lc_filter {T : Tg} {e : Me} {p : Wv → Bool} {f : Wv → Wv} : ∀ {ws acc : List Wv}, (∀ w ∈ ws, ∃ env1, T.set w env M = .ok env1 M ∧ t env1 M = .ok (p w) M ∧ (p w = true → e env1 M = .ok (f w) M)) → acc.length + ws.length ≤ lim →
    lcW T t e env ws acc M = .ok (.lst (acc ++ (ws.filter p).map f)) M
  | [], acc, _, _ => by rw [x_lc0]; simp
  | w :: ws, acc, h, hl => by
    obtain ⟨env1, h1, h2, h3⟩ := h w List.mem_cons_self
    simp only [List.length_cons] at hl
    rw [x_lc1, h1, noX_ok, kLc2_ok, h2, noX_ok]
    cases q : p w with
    | true =>
      rw [kLc3_t, h3 q, noX_ok, kLc4_ok, if_pos (by omega), lc_filter (fun w hw => h w (List.mem_cons_of_mem _ hw)) (by simp; omega)]
      simp [List.filter_cons, q]
    | false =>
      rw [kLc3_f, lc_filter (fun w hw => h w (List.mem_cons_of_mem _ hw)) (by omega)]
      simp [List.filter_cons, q]
theorem eqW_is {x y : Wv} {neg : Bool} {d e : PyData} (h1 : toDM M x = some d) (h2 : toDM M y = some e) (hs : (SeqAt.shaped d && SeqAt.shaped e) = true) : eqW neg x y M = .ok (neg ^^ PyData.eqv d e) M := by
  unfold eqW
  rw [h1, h2]
  exact if_pos hs
theorem shaped_int (i : Int) : SeqAt.shaped (.int i) = true := by simp [SeqAt.shaped, PyData.canLay0, PyData.depth]
theorem zv_nei (i j : Int) (M : Mem) : eqW true (.int i) (.int j) M = .ok (!(i == j)) M :=
  (eqW_is rfl rfl (by rw [shaped_int, shaped_int]; rfl)).trans (by simp [PyData.eqv])
theorem zv_eqi (i j : Int) (M : Mem) : eqW false (.int i) (.int j) M = .ok (i == j) M :=
  (eqW_is rfl rfl (by rw [shaped_int, shaped_int]; rfl)).trans (by simp [PyData.eqv])
theorem tcmp_ {f : Wv → Wv → Mem → R Bool} {q : Bool} (h1 : a env M = .ok v M1) (h2 : b env M1 = .ok w M2) (h : f v w M2 = .ok q M3) : mtCmp f a b env M = .ok q M3 := by rw [x_tcmp, h1, kCmp1_ok, h2, kCmp2_ok, h]
/-- the repr of a value, as far as it is data -/
def shownOf (v : Wv) : Str := match toDD v with | some d => d.shown | none => ""
def Shows (v : Wv) : Prop := PyData.strOk (shownOf v) = true ∧ ∀ M, repr2 v M = .ok (.str (shownOf v)) M
def okB (v : Wv) : Bool := match toDD v with | some d => reprOkD d && PyData.strOk d.shown | none => false
theorem shows_by {v : Wv} (h : okB v = true) (hn : ∀ M, toDDM M v = toDD v := by intro M; rfl) : Shows v := by
  unfold okB at h
  cases e : toDD v with
  | none => rw [e] at h; cases h
  | some d =>
    rw [e] at h
    rw [Bool.and_eq_true] at h
    have es : shownOf v = d.shown := by unfold shownOf; rw [e]
    rw [Shows, es]
    refine ⟨h.2, fun M => ?_⟩
    unfold repr2
    rw [hn, e]
    exact if_pos h.1
theorem shaped_str {x : Str} (h : PyData.strOk x = true) : SeqAt.shaped (.str x) = true := by simp [SeqAt.shaped, PyData.canLay0, PyData.depth, h]
theorem zv_rr (x : Str) (h : PyData.strOk x = true) (M : Mem) : eqW true (.str x) (.str x) M = .ok false M :=
  (eqW_is rfl rfl (by rw [shaped_str h]; rfl)).trans (by simp [PyData.eqv])
theorem c_shown (h : a env M = .ok v M1) (hs : Shows v) : mCall reprD (maC a maN) env M = .ok (.str (shownOf v)) M1 := by
  rw [x_call, x_maC, h, kCons1_ok, x_maN, kCons2_ok, kCall_ok]
  exact hs.2 M1
theorem ne_repr (h1 : a env M = .ok v M1) (h2 : b env M1 = .ok v M2) (hs : Shows v) : mtCmp (eqW true) (mCall reprD (maC a maN)) (mCall reprD (maC b maN)) env M = .ok false M2 := by
  rw [x_tcmp, c_shown h1 hs, kCmp1_ok, c_shown h2 hs, kCmp2_ok, zv_rr _ hs.1]
end
end Mi

namespace Mi
open PySem PySem.Spec PyProof.Rows L2

/-! ### freezing: objects of the memory that no one refers to but the answer become values -/
mutual
/-- nothing in it refers to the memory from place n on -/
def clean (n : Nat) : Wv → Bool
  | .ref k => decide (k < n)
  | .tup xs => cleans n xs
  | .lst xs => cleans n xs
  | .rdl xs => cleans n xs
  | .dct _ xs => cleans n xs
  | .dtt _ xs => cleans n xs
  | .ins _ _ xs => cleans n xs
  | .exc _ _ xs => cleans n xs
  | _ => true
def cleans (n : Nat) : List Wv → Bool
  | [] => true
  | x :: xs => clean n x && cleans n xs
end
def cleanO (n : Nat) : Ob → Bool
  | .lst xs => cleans n xs
  | .ins _ _ xs => cleans n xs
  | .dct _ xs => cleans n xs
  | .dtt _ xs => cleans n xs
def optAll {α β : Type} (f : α → Option β) : List α → Option (List β)
  | [] => some []
  | x :: xs => match f x, optAll f xs with
    | some y, some ys => some (y :: ys)
    | _, _ => none
def frz (M : Mem) (n : Nat) : Nat → Wv → Option Wv
  | 0, _ => none
  | f + 1, w => if clean n w = true then some w else match w with
    | .ref k => match M[k]? with
      | some (.lst xs) => (optAll (frz M n f) xs).map .lst
      | some (.ins C ns xs) => (optAll (frz M n f) xs).map (.ins C ns)
      | some (.dct ks xs) => (optAll (frz M n f) xs).map (.dct ks)
      | some (.dtt ks xs) => (optAll (frz M n f) xs).map (.dtt ks)
      | none => none
    | .tup xs => (optAll (frz M n f) xs).map .tup
    | .lst xs => (optAll (frz M n f) xs).map .lst
    | .dct ks xs => (optAll (frz M n f) xs).map (.dct ks)
    | .dtt ks xs => (optAll (frz M n f) xs).map (.dtt ks)
    | .ins C ns xs => (optAll (frz M n f) xs).map (.ins C ns)
    | .exc C ns xs => (optAll (frz M n f) xs).map (.exc C ns)
    | _ => none
def frzR (n : Nat) : R Wv → R Wv
  | .ok w M => match frz M n 40 w with
    | some w' => if (M.take n).all (cleanO n) = true then .ok w' (M.take n) else .no
    | none => .no
  | .exc x M => match optAll (frz M n 40) (x.fs.map (·.2)) with
    | some ws => if (M.take n).all (cleanO n) = true then .exc ⟨x.cls, (x.fs.map (·.1)).zip ws⟩ (M.take n) else .no
    | none => .no
  | .no => .no
def frzF (f : List Wv → Mem → R Wv) : List Wv → Mem → R Wv := fun ws M => frzR M.length (f ws M)

theorem nodup_ix {α : Type} : ∀ {l : List α} {i j : Nat} {a : α}, l.Nodup → l[i]? = some a → l[j]? = some a → i = j
  | [], i, j, a, _, h, _ => by simp at h
  | x :: l, 0, 0, a, _, _, _ => rfl
  | x :: l, 0, j + 1, a, nd, h1, h2 => by
    simp at h1 h2
    subst h1
    exact absurd (List.mem_of_getElem? h2) (List.nodup_cons.mp nd).1
  | x :: l, i + 1, 0, a, nd, h1, h2 => by
    simp at h1 h2
    subst h2
    exact absurd (List.mem_of_getElem? h1) (List.nodup_cons.mp nd).1
  | x :: l, i + 1, j + 1, a, nd, h1, h2 => by
    have := nodup_ix (List.nodup_cons.mp nd).2 (by simpa using h1) (by simpa using h2)
    omega
def Rn.cut (ρ : Rn) (n : Nat) : Rn := ⟨ρ.l.take n, ρ.f⟩
section
variable {K : PySem.W.Frag} {ρ : Rn} {H : Hp} {M : Mem} {n : Nat}
theorem Rn.no.cut {a : Addr} (h : ρ.no a) : (ρ.cut n).no a := ⟨fun z => h.1 (List.mem_of_mem_take z), h.2⟩
mutual
theorem RV.cutn : ∀ (w : Wv) {v : V}, clean n w = true → RV K ρ H w v → RV K (ρ.cut n) H w v
  | .non, _, _, h => h
  | .bl _, _, _, h => h
  | .int _, _, _, h => h
  | .str _, _, _, h => h
  | .ty _, _, _, h => h
  | .adr _, _, _, h => h
  | .tup xs, _, c, ⟨a, vs, e, h, r⟩ => ⟨a, vs, e, ⟨h.1, h.2.cut⟩, RVs.cutn xs c r⟩
  | .lst xs, _, c, ⟨a, vs, e, h, r⟩ => ⟨a, vs, e, ⟨h.1, h.2.cut⟩, RVs.cutn xs c r⟩
  | .rdl xs, _, c, ⟨a, vs, e, h, r⟩ => ⟨a, vs, e, h.imp (fun z => ⟨z.1, z.2.cut⟩) id, RVs.cutn xs c r⟩
  | .dct ks xs, _, c, ⟨a, kvs, e, h, ek, r⟩ => ⟨a, kvs, e, ⟨h.1, h.2.cut⟩, ek, RVs.cutn xs c r⟩
  | .dtt ks xs, _, c, ⟨a, kvs, e, h, ek, r⟩ => ⟨a, kvs, e, ⟨h.1, h.2.cut⟩, ek, RVs.cutn xs c r⟩
  | .ins C ks xs, _, c, ⟨D, a, dx, kvs, cc, e, h, ek, r⟩ => ⟨D, a, dx, kvs, cc, e, ⟨h.1, h.2.cut⟩, ek, RVs.cutn xs c r⟩
  | .exc C ks xs, _, c, ⟨D, a, d, kvs, cc, e, h, h2, ek, r⟩ => ⟨D, a, d, kvs, cc, e, ⟨h.1, h.2.cut⟩, ⟨h2.1, h2.2.cut⟩, ek, RVs.cutn xs c r⟩
  | .ref k, _, c, ⟨a, e, h⟩ => ⟨a, e, by
    have hk : k < n := of_decide_eq_true c
    show (ρ.l.take n)[k]? = some a
    rw [List.getElem?_take, if_pos hk]
    exact h⟩
theorem RVs.cutn : ∀ (ws : List Wv) {vs : List V}, cleans n ws = true → RVs K ρ H ws vs → RVs K (ρ.cut n) H ws vs
  | [], _, _, h => h
  | x :: xs, _, c, ⟨v, vr, e, h, r⟩ => by
    have c : (clean n x && cleans n xs) = true := c
    rw [Bool.and_eq_true] at c
    exact ⟨v, vr, e, RV.cutn x c.1 h, RVs.cutn xs c.2 r⟩
end
theorem RO.cut {a : Addr} {o : Ob} (c : cleanO n o = true) (h : RO K ρ H a o) : RO K (ρ.cut n) H a o := by
  cases o with
  | lst ws => obtain ⟨vs, h1, h2⟩ := h; exact ⟨vs, h1, RVs.cutn ws c h2⟩
  | ins C ns ws => obtain ⟨D, dx, fs, h0, h1, h2, h3⟩ := h; exact ⟨D, dx, fs, h0, h1, h2, RVs.cutn ws c h3⟩
  | dct ks ws => obtain ⟨kvs, h1, h2, h3⟩ := h; exact ⟨kvs, h1, h2, RVs.cutn ws c h3⟩
  | dtt ks ws => obtain ⟨kvs, h1, h2, h3⟩ := h; exact ⟨kvs, h1, h2, RVs.cutn ws c h3⟩
theorem Rl.cut (rl : Rl K ρ M H) (c : (M.take n).all (cleanO n) = true) : Rl K (ρ.cut n) (M.take n) H := by
  refine ⟨rl.nd.sublist (List.take_sublist _ _), by show (ρ.l.take n).length = _; rw [List.length_take, List.length_take, rl.len], fun k o e => ?_, fun a ha => ⟨fun z => (rl.fs a ha).1 (List.mem_of_mem_take z), (rl.fs a ha).2⟩⟩
  have hk : k < n := by
    have := (List.getElem?_eq_some_iff.mp e).1
    rw [List.length_take] at this
    omega
  have e' := e
  rw [List.getElem?_take, if_pos hk] at e'
  obtain ⟨a, h1, h2⟩ := rl.ob k o e'
  refine ⟨a, ?_, RO.cut (List.all_eq_true.mp c o (List.mem_of_getElem? e)) h2⟩
  show (ρ.l.take n)[k]? = some a
  rw [List.getElem?_take, if_pos hk]
  exact h1
theorem opt_rvs {g : Wv → Option Wv} {ρ' : Rn} (hg : ∀ w w' v, g w = some w' → RV K ρ H w v → RV K ρ' H w' v) : ∀ {ws ws' : List Wv} {vs : List V}, optAll g ws = some ws' → RVs K ρ H ws vs → RVs K ρ' H ws' vs
  | [], _, _, e, r => by cases e; exact r
  | x :: xs, ws', _, e, ⟨v, vr, ev, h, r⟩ => by
    rw [optAll] at e
    cases q1 : g x with
    | none => rw [q1] at e; cases e
    | some y =>
      cases q2 : optAll g xs with
      | none => rw [q1, q2] at e; cases e
      | some ys => rw [q1, q2] at e; cases e; exact ⟨v, vr, ev, hg x y v q1 h, opt_rvs hg q2 r⟩
theorem frz_rv (rl : Rl K ρ M H) : ∀ (f : Nat) (w w' : Wv) (v : V), frz M n f w = some w' → RV K ρ H w v → RV K (ρ.cut n) H w' v
  | 0, _, _, _, e, _ => by cases e
  | f + 1, w, w', v, e, r => by
    unfold frz at e
    by_cases c : clean n w = true
    · rw [if_pos c] at e
      cases e
      exact RV.cutn w c r
    · rw [if_neg c] at e
      have go := fun {ws ws' : List Wv} {vs : List V} => opt_rvs (K := K) (H := H) (frz_rv rl f) (ws := ws) (ws' := ws') (vs := vs)
      cases w with
      | ref k =>
        have hk : ¬ k < n := fun z => c (decide_eq_true z)
        obtain ⟨a, rfl, ha⟩ := r
        have no : (ρ.cut n).no a := by
          refine ⟨fun z => ?_, fun z => (rl.fs a z).1 (List.mem_of_getElem? ha)⟩
          obtain ⟨j, hj⟩ := List.getElem?_of_mem z
          have hjn : j < n := by
            have : j < (ρ.l.take n).length := (List.getElem?_eq_some_iff.mp hj).1
            rw [List.length_take] at this
            omega
          have hj : (ρ.l.take n)[j]? = some a := hj
          rw [List.getElem?_take, if_pos hjn] at hj
          have := nodup_ix rl.nd hj ha
          omega
        have e : (match M[k]? with | some (Ob.lst xs) => (optAll (frz M n f) xs).map Wv.lst | some (Ob.ins C ns xs) => (optAll (frz M n f) xs).map (Wv.ins C ns) | some (Ob.dct ks xs) => (optAll (frz M n f) xs).map (Wv.dct ks) | some (Ob.dtt ks xs) => (optAll (frz M n f) xs).map (Wv.dtt ks) | none => none) = some w' := e
        cases q : M[k]? with
        | none => rw [q] at e; cases e
        | some o =>
          obtain ⟨b, h1, h2⟩ := rl.ob k o q
          have eb : b = a := Option.some.inj (h1.symm.trans ha)
          subst eb
          rw [q] at e
          cases o with
          | lst xs =>
            obtain ⟨ys, e1, rfl⟩ := Option.map_eq_some_iff.mp e
            obtain ⟨vs, h3, h4⟩ := h2
            exact ⟨b, vs, rfl, ⟨h3, no⟩, go e1 h4⟩
          | ins C ns xs =>
            obtain ⟨ys, e1, rfl⟩ := Option.map_eq_some_iff.mp e
            obtain ⟨D, dx, fs, h3, h4, h5, h6⟩ := h2
            exact ⟨D, b, dx, fs, h3, rfl, ⟨h4, no⟩, h5, go e1 h6⟩
          | dct ks xs =>
            obtain ⟨ys, e1, rfl⟩ := Option.map_eq_some_iff.mp e
            obtain ⟨kvs, h4, h5, h6⟩ := h2
            exact ⟨b, kvs, rfl, ⟨h4, no⟩, h5, go e1 h6⟩
          | dtt ks xs =>
            obtain ⟨ys, e1, rfl⟩ := Option.map_eq_some_iff.mp e
            obtain ⟨kvs, h4, h5, h6⟩ := h2
            exact ⟨b, kvs, rfl, ⟨h4, no⟩, h5, go e1 h6⟩
      | tup xs => obtain ⟨ys, e1, rfl⟩ := Option.map_eq_some_iff.mp e; obtain ⟨a, vs, ev, h, r⟩ := r; exact ⟨a, vs, ev, ⟨h.1, h.2.cut⟩, go e1 r⟩
      | lst xs => obtain ⟨ys, e1, rfl⟩ := Option.map_eq_some_iff.mp e; obtain ⟨a, vs, ev, h, r⟩ := r; exact ⟨a, vs, ev, ⟨h.1, h.2.cut⟩, go e1 r⟩
      | dct ks xs => obtain ⟨ys, e1, rfl⟩ := Option.map_eq_some_iff.mp e; obtain ⟨a, vs, ev, h, ek, r⟩ := r; exact ⟨a, vs, ev, ⟨h.1, h.2.cut⟩, ek, go e1 r⟩
      | dtt ks xs => obtain ⟨ys, e1, rfl⟩ := Option.map_eq_some_iff.mp e; obtain ⟨a, vs, ev, h, ek, r⟩ := r; exact ⟨a, vs, ev, ⟨h.1, h.2.cut⟩, ek, go e1 r⟩
      | ins C ks xs => obtain ⟨ys, e1, rfl⟩ := Option.map_eq_some_iff.mp e; obtain ⟨D, a, dx, vs, cc, ev, h, ek, r⟩ := r; exact ⟨D, a, dx, vs, cc, ev, ⟨h.1, h.2.cut⟩, ek, go e1 r⟩
      | exc C ks xs => obtain ⟨ys, e1, rfl⟩ := Option.map_eq_some_iff.mp e; obtain ⟨D, a, d, vs, cc, ev, h, h2, ek, r⟩ := r; exact ⟨D, a, d, vs, cc, ev, ⟨h.1, h.2.cut⟩, ⟨h2.1, h2.2.cut⟩, ek, go e1 r⟩
      | _ => cases e
theorem Gr.cut {ρ0 : Rn} {H0 : Hp} (g : Gr ρ0 H0 ρ H) (h : ρ0.l.length = n) : Gr ρ0 H0 (ρ.cut n) H := by
  obtain ⟨t, e⟩ := g.pre
  have el : (ρ.cut n).l = ρ0.l := by show ρ.l.take n = _; rw [e, ← h, List.take_left]
  exact ⟨⟨[], by rw [el, List.append_nil]⟩, g.same, g.keep, fun a ha => .inl (by rw [← el]; exact ha)⟩
theorem optAll_len {α β : Type} {f : α → Option β} : ∀ {xs : List α} {ys : List β}, optAll f xs = some ys → ys.length = xs.length
  | [], _, e => by cases e; rfl
  | x :: xs, ys, e => by
    rw [optAll] at e
    cases q1 : f x with
    | none => rw [q1] at e; cases e
    | some y =>
      cases q2 : optAll f xs with
      | none => rw [q1, q2] at e; cases e
      | some ys => rw [q1, q2] at e; cases e; simp [optAll_len q2]
theorem Fin.frz {E : XK} {Q : VK} {r : R Wv} (rl : Rl K ρ M H) (h : Fin K ρ H (PV K Q) E (frzR M.length r)) : Fin K ρ H (PV K Q) E r := by
  have hl := rl.len
  cases r with
  | no => exact h
  | ok w M1 =>
    have h : Fin K ρ H (PV K Q) E (match Mi.frz M1 M.length 40 w with | some w' => if (M1.take M.length).all (cleanO M.length) = true then R.ok w' (M1.take M.length) else .no | none => .no) := h
    cases q : Mi.frz M1 M.length 40 w with
    | none => rw [q] at h; exact h.elim
    | some w' =>
      rw [q] at h
      obtain ⟨hc, h⟩ := pick h
      exact fun ρ' H' g rl' v rv => h (ρ'.cut M.length) H' (g.cut hl) (rl'.cut hc) v (frz_rv rl' _ _ _ _ q rv)
  | exc x M1 =>
    have h : Fin K ρ H (PV K Q) E (match optAll (Mi.frz M1 M.length 40) (x.fs.map (·.2)) with | some ws => if (M1.take M.length).all (cleanO M.length) = true then R.exc ⟨x.cls, (x.fs.map (·.1)).zip ws⟩ (M1.take M.length) else .no | none => .no) := h
    cases q : optAll (Mi.frz M1 M.length 40) (x.fs.map (·.2)) with
    | none => rw [q] at h; exact h.elim
    | some ws =>
      rw [q] at h
      obtain ⟨hc, h⟩ := pick h
      have hlen : (x.fs.map (·.1)).length = ws.length := by rw [optAll_len q, List.length_map, List.length_map]
      refine fun D ρ' H' d vs c g rl' hd nd rf => h D (ρ'.cut M.length) H' d vs c (g.cut hl) (rl'.cut hc) hd nd.cut ⟨?_, ?_⟩
      · show _ = ((x.fs.map (·.1)).zip ws).map (·.1)
        rw [List.map_fst_zip (Nat.le_of_eq hlen)]
        exact rf.1
      · show RVs _ _ _ (((x.fs.map (·.1)).zip ws).map (·.2)) _
        rw [List.map_snd_zip (Nat.le_of_eq hlen.symm)]
        exact opt_rvs (fun w w' v => frz_rv rl' 40 w w' v) q rf.2
end
theorem FnG.frz {P : Program} {w : World} {K : PySem.W.Frag} {mg : Str → Option Value} {base : Heap} {k : Nat} {f : Addr} {fd : FuncData} {ps : List Str} {m : List Wv → Mem → R Wv} (F : FnG P w K mg base k f fd ps m) : FnG P w K mg base k f fd ps (frzF m) :=
  ⟨fun A outer s H as us vs ws ρ M Q E hr hg e0 hb r hl rl rv fin => F.go A outer s H as us vs ws ρ M Q E hr hg e0 hb r hl rl rv (Fin.frz rl fin)⟩
end Mi

namespace Mi
open PySem PySem.Spec PyProof.Rows L2

/-! ### making an instance of an own class: it is an object of the memory -/
def mkW (C : Str) (f : List Wv → Mem → R Wv) : List Wv → Mem → R Wv := fun ws M => match f (.ref M.length :: ws) (M ++ [.ins C [] []]) with
  | .ok .non M1 => .ok (.ref M.length) M1
  | .ok _ _ => .no
  | .exc x M1 => .exc x M1
  | .no => .no
theorem guards_make {A : Around} {C : Addr} {us : List Value} {kw : List (Str × Value)} : (A.under (.builtin "type.__call__" ⟨.ref C :: us, kw⟩)).guards = A.guards := by
  first
    | rfl
    | (cases h : A.guards <;> simp [Around.under, pushGuards, Code.guards, Code.isGuard, guardIds, h])
section
variable {X : Cx} {E : XK} {k n : Nat} {f C : Addr} {nm : Str} {fd : FuncData} {ps ks : List Str} {perm : List Nat} {m : List Wv → Mem → R Wv} {x : Str} {p pos kpos : Pos} {e : Expr} {es : List Expr} {ma mk : Ma} {me : Me} {kws : List Keyword} {g : List Wv → Mem → R Wv}
theorem mk_fin {K : PySem.W.Frag} {ρ : Rn} {M : Mem} {H : Hp} {a dx : Addr} {ws : List Wv} {Q : VK} (hc : clsAt K nm = some C) (rl : Rl K ρ M H) (ha : H a = none) (hd : H dx = none) (hda : dx ≠ a) (fin : Fin K ρ H (PV K Q) E (mkW nm m ws M)) :
    Gr ρ H (ρ.add a) (upd (upd H dx (.own a)) a (.ins C dx [])) ∧ Rl K (ρ.add a) (M ++ [.ins nm [] []]) (upd (upd H dx (.own a)) a (.ins C dx [])) ∧ RV K (ρ.add a) (upd (upd H dx (.own a)) a (.ins C dx [])) (.ref M.length) (.ref a) ∧
      Fin K (ρ.add a) (upd (upd H dx (.own a)) a (.ins C dx [])) (PV K fun v H2 => v = .non ∧ Q (.ref a) H2) E (m (.ref M.length :: ws) (M ++ [.ins nm [] []])) := by
  have ha1 : (upd H dx (.own a)) a = none := by rw [upd_ne (Ne.symm hda)]; exact ha
  have g0 : Gr ρ H ρ (upd H dx (.own a)) := Gr.fresh hd
  have g : Gr ρ H (ρ.add a) (upd (upd H dx (.own a)) a (.ins C dx [])) := g0.trans (Gr.mk1 ha1)
  have rl2 : Rl K (ρ.add a) (M ++ [.ins nm [] []]) (upd (upd H dx (.own a)) a (.ins C dx [])) := (rl.upd hd).new ha1 ⟨C, dx, [], hc, upd_same, rfl, rfl⟩
  have hix : (ρ.add a).l[M.length]? = some a := by
    show (ρ.l ++ [a])[M.length]? = some a
    rw [← rl.len]
    simp
  refine ⟨g, rl2, ⟨a, rfl, hix⟩, ?_⟩
  unfold mkW at fin
  cases q : m (.ref M.length :: ws) (M ++ [.ins nm [] []]) with
  | no => rw [q] at fin; exact fin
  | exc y M1 => rw [q] at fin; exact Fin.from (r := .exc y M1) (P := PV K fun v H2 => v = .non ∧ Q (.ref a) H2) g (show Fin K ρ H (PV K fun v H2 => v = .non ∧ Q (.ref a) H2) E (.exc y M1) from fin)
  | ok w M1 =>
    rw [q] at fin
    cases w with
    | non =>
      intro ρ' H' g' rl' v rv
      cases (show v = .non from rv)
      exact ⟨rfl, fin ρ' H' (g.trans g') rl' (.ref a) ⟨a, rfl, g'.ix hix⟩⟩
    | _ => exact fin.elim
theorem run_makeG (Mk1 : Mk X.K C f) (F : FnG X.prog X.w X.K X.mg X.base k f fd ps m) (hr : Room (k + 1) X.A) (hgd : X.A.guards = some []) (hx : Passes (L2.CX X.prog X.w) X E) (hc : clsAt X.K nm = some C) {pins : List (Addr × Obj)} {σ : L2.St} {H : Hp} {s : Shared} {Q : VK} {kw : List (Str × Value)} {us us' : List Value} {vs : List V} {ws : List Wv} {ρ : Rn} {M : Mem}
    (I : Inv X pins σ H s) (hb : ∀ (a : Addr) (s : Shared), X.K.In s.heap → BindsTo s fd ⟨.ref a :: us, kw⟩ (ps.zip (.ref a :: us'))) (r : Vals vs us') (hl : vs.length + 1 = ps.length) (rl : Rl X.K ρ M H) (rv : RVs X.K ρ H ws vs) (fin : Fin X.K ρ H (PV X.K Q) E (mkW nm m ws M)) :
    wpAny (model X.prog X.w) X.A (call (.ref C) us kw) (EP X pins σ Q) X.xe s := by
  have ha : H (s.heap.objs.size + 1) = none := I.hok.fresh (Nat.le_succ _)
  have hd : H s.heap.objs.size = none := I.hok.fresh (Nat.le_refl _)
  have hda : s.heap.objs.size ≠ s.heap.objs.size + 1 := Nat.ne_of_lt (Nat.lt_succ_self _)
  obtain ⟨g, rl2, rva, fin2⟩ := mk_fin hc rl ha hd hda fin
  have I2 := Inv.made (C := C) I
  have r2 : Vals (V.ref (s.heap.objs.size + 1) :: vs) (Value.ref (s.heap.objs.size + 1) :: us') := .cons rfl r
  refine wpAny_call (make_map (f := f) I.kIn Mk1.makes Mk1.init (beq_iff_eq.mp Mk1.fn) (codeAny_mono (F.go _ X.stack _ _ ⟨Value.ref (s.heap.objs.size + 1) :: us, kw⟩ (Value.ref (s.heap.objs.size + 1) :: us') _ (.ref M.length :: ws) _ _ _ E (hr.make C us kw) (by rw [guards_make]; exact hgd)
    (I2.env0.make C us kw) (hb _ _ I2.kIn) r2 (by rw [List.length_cons]; exact hl) rl2 ⟨_, _, rfl, rva, RVs.mono g ws rv⟩ fin2) fun res s' hq' => ?_))
  cases res with
  | error e => exact hx pins σ _ _ e s' I2 hq'
  | ok fl =>
    cases fl with
    | ret u =>
      obtain ⟨v, H', I3, rv, ev, q3⟩ := I2.after hq'
      subst ev
      exact ⟨rv, ⟨V.ref (s.heap.objs.size + 1), H', I3, rfl, q3⟩⟩
    | next => exact False.elim hq'
    | brk => exact False.elim hq'
    | cont => exact False.elim hq'
/-- what g' promises, g does: a call's answer may be kept as it is, or frozen -/
def Kept (g g' : List Wv → Mem → R Wv) : Prop := ∀ (K : PySem.W.Frag) (ρ : Rn) (M : Mem) (H : Hp) (E : XK) (Q : VK) (ws : List Wv), Rl K ρ M H → Fin K ρ H (PV K Q) E (g' ws M) → Fin K ρ H (PV K Q) E (g ws M)
theorem Kept.id {g : List Wv → Mem → R Wv} : Kept g g := fun _ _ _ _ _ _ _ _ h => h
theorem Kept.frz {g : List Wv → Mem → R Wv} : Kept g (frzF g) := fun _ _ _ _ _ _ _ rl h => Fin.frz rl h
/-- C(e, ..); its answer kept (frozen, or not) -/
theorem e_mk (kt : Kept (mkW nm m) g) (Mk1 : Mk X.K C f) (F : FnG X.prog X.w X.K X.mg X.base k f fd ps m) (hr : Room (k + 1) X.A) (hgd : X.A.guards = some []) (hx : Passes (L2.CX X.prog X.w) X E) (hm : X.mg x = some (.ref C)) (hc : clsAt X.K nm = some C) (hb : Binds X.K fd ps []) (ha : PA X (e :: es) (ta X.K E ma))
    (hg : Gl X x := by rfl) (hdb : (x == ("__debug__" : Str)) = false := by decide) (he : starEach (e :: es) X.env = (false, eval e X.env) :: starEach es X.env := by rfl) (hpl : (backTo pos (starEach es X.env)).any (·.1) = false := by rfl) {n : Nat} (hn : ps.length = n + 1 := by rfl) :
    PE X (.Call (.Name x p) (e :: es) [] pos) (te X.K E (mApp n g ma)) := by
  refine ⟨fun pins s σ H Q I ⟨ρ, M, env, rl, re, h⟩ => wpAny_Call_Name_kw (ld_glob I hg hm ?_ hdb)⟩
  refine PySem.W.callWith_K (h₀ := X.base) I.ok.mod.kin Mk1.kp (thn (ha.run pos pins s σ H (fun vs H1 => ∃ ρ1 M1 ws, Rl X.K ρ1 M1 H1 ∧ RVs X.K ρ1 H1 ws vs ∧ ws.length = n ∧ Fin X.K ρ1 H1 (PV X.K Q) E (g ws M1)) I
    (ta_then rl re h fun ws M1 ρ1 H1 vs g1 rl1 re1 rv1 f1 => by obtain ⟨h0, f1⟩ := pick f1; exact ⟨ρ1, M1, ws, rl1, rv1, h0, f1⟩)) fun us s1 ⟨vs, H1, I1, r, ρ1, M1, ws, rl1, rv1, hl, f1⟩ => ⟨I1.kIn, ?_⟩) he hpl
  have h1 : vs.length = n := by rw [← rv1.length]; exact hl
  have h2 : us.length = n := by rw [← r.length]; exact h1
  refine run_makeG Mk1 F hr hgd hx hc I1 (fun a s z => ?_) r (by rw [h1, hn]) rl1 rv1 (kt _ _ _ _ _ _ _ rl1 f1)
  have hbb := hb s (.ref a :: us) z (by rw [List.append_nil, List.length_cons, h2, hn])
  rw [List.append_nil] at hbb
  exact hbb
/-- C(k = v, ..) -/
theorem e_mkK0 (kt : Kept (mkW nm m) g) (Mk1 : Mk X.K C f) (F : FnG X.prog X.w X.K X.mg X.base k f fd ps m) (hr : Room (k + 1) X.A) (hgd : X.A.guards = some []) (hx : Passes (L2.CX X.prog X.w) X E) (hm : X.mg x = some (.ref C)) (hc : clsAt X.K nm = some C) (hb : BK fd ps 1 ks (0 :: perm.map (· + 1))) (hkw : PK X kws (ta X.K E mk))
    (hall : (backToKw pos (keywordEach kws X.env)).all (·.1.isSome) = true := by rfl) (hks : (backToKw pos (keywordEach kws X.env)).filterMap (·.1) = ks := by rfl)
    (hg : Gl X x := by rfl) (hdb : (x == ("__debug__" : Str)) = false := by decide) (hpl : ((backTo pos (starEach [] X.env)).any (·.1) || (backToKw pos (keywordEach kws X.env)).any (·.1.isNone)) = false := by rfl) {j l : Nat} (hj : ps.length = j + 1 := by rfl) (hl : ks.length = l := by rfl) :
    PE X (.Call (.Name x p) [] kws pos) (te X.K E (mAppK j 0 l perm g maN mk)) := by
  subst hl
  refine ⟨fun pins s σ H Q I ⟨ρ, M, env, rl, re, h⟩ => wpAny_Call_Name_kw (ld_glob I hg hm ?_ hdb)⟩
  have h : Fin X.K ρ H (PV X.K Q) E ((mk env M).bind fun ws M2 => if ([] : List Wv).length = 0 ∧ ws.length = ks.length ∧ (pick' perm ws).length = j then g (pick' perm ws) M2 else .no) := h
  refine PySem.W.callWith_KW0 (h₀ := X.base) I.ok.mod.kin Mk1.kp hall (thn (hkw.run pos pins s σ H (fun vs H1 => ∃ ρ1 M1 ws, Rl X.K ρ1 M1 H1 ∧ RVs X.K ρ1 H1 ws vs ∧ ws.length = ks.length ∧ (pick' perm ws).length = j ∧ Fin X.K ρ1 H1 (PV X.K Q) E (g (pick' perm ws) M1)) I
    (ta_then rl re h fun ws M1 ρ1 H1 vs g1 rl1 re1 rv1 f1 => by obtain ⟨⟨_, h0, h2⟩, f1⟩ := pick f1; exact ⟨ρ1, M1, ws, rl1, rv1, h0, h2, f1⟩)) fun us s1 ⟨vs, H1, I1, r, ρ1, M1, ws, rl1, rv1, hl, hl2, f1⟩ => ⟨I1.kIn, ?_⟩) hpl
  have h1 : us.length = ks.length := by rw [← r.length, ← rv1.length]; exact hl
  rw [hks]
  refine run_makeG Mk1 F hr hgd hx hc I1 (us := []) (us' := pick' perm us) (fun a s z => ?_) (pick_vals perm r) (by rw [← (pick_rvs perm rv1).length, hl2, hj]) rl1 (pick_rvs perm rv1) (kt _ _ _ _ _ _ _ rl1 f1)
  have hbb := hb.to s [.ref a] us rfl h1
  rw [show [Value.ref a] ++ us = .ref a :: us from rfl, pick_self] at hbb
  exact hbb
end
end Mi

namespace Mi
open PySem PySem.Spec PyProof.Rows L2

/-! ### o.f = e -/
def putW (f : Str) (y : Wv) : List Str → List Wv → List Str × List Wv
  | n :: ns, x :: xs => if n = f then (n :: ns, y :: xs) else let q := putW f y ns xs; (n :: q.1, x :: q.2)
  | _, _ => ([f], [y])
theorem putW_rel {K : PySem.W.Frag} {ρ : Rn} {H : Hp} {f : Str} {y : Wv} {v : V} (ry : RV K ρ H y v) : ∀ {fs : List (Str × V)} {ns : List Str} {xs : List Wv}, fs.map (·.1) = ns → RVs K ρ H xs (fs.map (·.2)) →
    (putF f v fs).map (·.1) = (putW f y ns xs).1 ∧ RVs K ρ H (putW f y ns xs).2 ((putF f v fs).map (·.2))
  | [], _, xs, e, r => by
    subst e
    have e2 := r.length
    cases xs with
    | nil => exact ⟨rfl, v, [], rfl, ry, rfl⟩
    | cons x xs => simp at e2
  | (g, u) :: fs, _, xs, e, r => by
    subst e
    have e2 := r.length
    cases xs with
    | nil => simp at e2
    | cons x xs =>
      obtain ⟨v', vr, e3, r1, r2⟩ := r
      rw [List.map_cons] at e3
      cases e3
      rw [List.map_cons, putF, putW]
      by_cases h : g = f
      · rw [if_pos h, if_pos h]
        exact ⟨rfl, v, _, rfl, ry, r2⟩
      · rw [if_neg h, if_neg h]
        obtain ⟨h1, h2⟩ := putW_rel ry (fs := fs) rfl r2
        exact ⟨by rw [List.map_cons, h1], u, _, rfl, r1, h2⟩
def sPutF (is : List Str) (f : Str) (v o : Me) : Ms := fun env M => (v env M).bind fun y M1 => (o env M1).bind fun x M2 => match x with
  | .ref n => match M2[n]? with
    | some (.ins C ns xs) => if is.contains C = true ∧ ns.length < 1000 then .ok (.nx env) (M2.set n (.ins C (putW f y ns xs).1 (putW f y ns xs).2)) else .no
    | _ => .no
  | _ => .no
section
variable {X : Cx} {E : XK} {o value : Expr} {mo mv : Me} {f : Str} {is : List Str} {pos pos' : Pos}
theorem s_fld (ho : PE X o (te X.K E mo)) (hv : PE X value (te X.K E mv)) (hI : FldI X.K is f) (hs : swapsWith value (some (.Attribute o f pos')) pos.line X.env = pure false := by rfl) : PS X (.Assign [.Attribute o f pos'] value pos) (ts X.K E (sPutF is f mv mo)) := by
  refine PS.imp (ps_fld ho hv hs) fun D σ H ⟨ρ, M, env, rl, re, h⟩ => ?_
  refine te_then rl re h fun y M1 ρ1 H1 v g1 rl1 re1 rv1 f1 => ?_
  refine te_then rl1 re1 f1 fun x M2 ρ2 H2 u g2 rl2 re2 rv2 f2 => ?_
  cases x with
  | ref n =>
    have f2 : Fin X.K ρ2 H2 _ E (match M2[n]? with | some (Ob.ins C ns xs) => if is.contains C = true ∧ ns.length < 1000 then R.ok (Fl.nx env) (M2.set n (.ins C (putW f y ns xs).1 (putW f y ns xs).2)) else .no | _ => .no) := f2
    cases q : M2[n]? with
    | none => rw [q] at f2; exact f2.elim
    | some ob =>
      rw [q] at f2
      cases ob with
      | lst xs => exact f2.elim
      | dct ks xs => exact f2.elim
      | dtt ks xs => exact f2.elim
      | ins C ns xs =>
        obtain ⟨⟨hc, hn⟩, f2⟩ := pick f2
        obtain ⟨a, rfl, ha⟩ := rv2
        obtain ⟨b, h1, D', dx, fs, h3, h4, h5, h6⟩ := rl2.ob n _ q
        have eb : b = a := Option.some.inj (h1.symm.trans ha)
        subst eb
        obtain ⟨c, no⟩ := hI C (by simpa using hc) D' h3
        have hlen : fs.length < 1000 := by rw [← h5, List.length_map] at hn; exact hn
        refine ⟨b, D', dx, fs, rfl, h4, c, no, hlen, ?_⟩
        obtain ⟨p1, p2⟩ := putW_rel (RV.mono g2 y rv1) h5 h6
        have g3 := Gr.write (ρ := ρ2) (H := H2) (o := HO.ins D' dx (putF f v fs)) h1
        have rl3 := rl2.write h1 (o := HO.ins D' dx (putF f v fs)) (b := Ob.ins C (putW f y ns xs).1 (putW f y ns xs).2) ⟨D', dx, _, h3, upd_same, p1, RVs.mono g3 _ p2⟩
        exact f2 ρ2 _ g3 rl3 _ (re2.mono g3)
  | _ => exact f2.elim
end
end Mi
namespace Mi
open PySem PySem.Spec PyProof.Rows L2
/-! ### o.m(e, ..) -/
def methOk (is : List Str) (m : Str) (M : Mem) : Wv → Bool
  | .ins C ns xs => is.contains C && ((ns.zip xs).lookup m).isNone
  | .ref n => match M[n]? with
    | some (.ins C ns xs) => is.contains C && ((ns.zip xs).lookup m).isNone
    | _ => false
  | _ => false
def mMeth (is : List Str) (m : Str) (n : Nat) (g : List Wv → Mem → R Wv) (o : Me) (a : Ma) : Me := fun env M => (o env M).bind fun x M1 => if methOk is m M1 x = true then (a env M1).bind fun ws M2 => if ws.length = n then g (x :: ws) M2 else .no else .no
structure MethT (K : PySem.W.Frag) (is : List Str) (m : Str) (f : Addr) : Prop where
  to : ∀ C ∈ is, ∀ D, clsAt K C = some D → Cls K D ∧ Meth K D m f
  kp : PySem.W.keepIn K (.ref f) = true
section
variable {K : PySem.W.Frag} {ρ : Rn} {H : Hp} {M : Mem}
theorem lookup_none {f : Str} : ∀ {fs : List (Str × V)} {ns : List Str} {xs : List Wv}, fs.map (·.1) = ns → RVs K ρ H xs (fs.map (·.2)) → (ns.zip xs).lookup f = none → fs.lookup f = none
  | [], _, xs, e, r, h => rfl
  | (g, v) :: fs, _, [], e, r, h => by
    have := r.length
    simp at this
  | (g, v) :: fs, _, x :: xs, e, r, h => by
    subst e
    obtain ⟨v', vr, e2, r1, r2⟩ := r
    rw [List.map_cons] at e2
    cases e2
    rw [List.map_cons, List.zip_cons_cons, List.lookup_cons] at h
    rw [List.lookup_cons]
    cases q : f == g with
    | true => simp [q] at h
    | false => exact lookup_none rfl r2 (by simpa [q] using h)
theorem meth_in {is : List Str} {m : Str} {x : Wv} {v : V} {f : Addr} (T : MethT K is m f) (rl : Rl K ρ M H) (h : methOk is m M x = true) (r : RV K ρ H x v) : ∃ a D dx fs, v = .ref a ∧ H a = some (.ins D dx fs) ∧ Cls K D ∧ Meth K D m f ∧ fs.lookup m = none := by
  have go : ∀ {C : Str} {ns : List Str} {xs : List Wv} {a D dx : Addr} {fs : List (Str × V)}, (is.contains C && ((ns.zip xs).lookup m).isNone) = true → clsAt K C = some D → v = .ref a → H a = some (.ins D dx fs) → fs.map (·.1) = ns → RVs K ρ H xs (fs.map (·.2)) →
      ∃ a D dx fs, v = .ref a ∧ H a = some (.ins D dx fs) ∧ Cls K D ∧ Meth K D m f ∧ fs.lookup m = none := fun {C ns xs a D dx fs} h hc hv ha hn r => by
    rw [Bool.and_eq_true] at h
    obtain ⟨z1, z2⟩ := T.to C (by simpa using h.1) D hc
    exact ⟨a, D, dx, fs, hv, ha, z1, z2, lookup_none hn r (by simpa using h.2)⟩
  cases x with
  | ins C ns xs =>
    obtain ⟨D, a, dx, fs, hc, hv, ⟨ha, _⟩, hn, r⟩ := r
    exact go h hc hv ha hn r
  | ref n =>
    have h : (match M[n]? with | some (Ob.ins C ns xs) => is.contains C && ((ns.zip xs).lookup m).isNone | _ => false) = true := h
    obtain ⟨a, hv, ha⟩ := r
    cases q : M[n]? with
    | none => rw [q] at h; cases h
    | some o =>
      rw [q] at h
      obtain ⟨b, h1, h2⟩ := rl.ob n o q
      have eb : b = a := Option.some.inj (h1.symm.trans ha)
      subst eb
      cases o with
      | ins C ns xs =>
        obtain ⟨D, dx, fs, h3, h4, h5, h6⟩ := h2
        exact go h h3 hv h4 h5 h6
      | _ => cases h
  | _ => cases h
end
section
variable {X : Cx} {E : XK} {k : Nat} {f : Addr} {fd : FuncData} {is : List Str} {ps ks : List Str} {m : Str} {g g0 : List Wv → Mem → R Wv} {apos pos : Pos} {o e : Expr} {es : List Expr} {ma : Ma} {mo : Me} {pl : Sem Bool}
theorem e_meth0 (kt : Kept g0 g) (T : MethT X.K is m f) (F : FnG X.prog X.w X.K X.mg X.base k f fd ps g0) (hr : Room k X.A) (hgd : X.A.guards = some []) (hx : Passes (L2.CX X.prog X.w) X E) (hb : Binds X.K fd ps []) (ho : PE X o (te X.K E mo)) (hn : ps.length = 1 := by rfl)
    (ht : eval (.Call (.Attribute o m apos) [] [] pos) X.env = (do
      let ov ← eval o X.env
      standAt apos.atName
      let (f, first) ← holding [ov] (getMethod ov m pl)
      callWith pos f first (backTo pos (starEach [] X.env)) (backToKw pos (keywordEach [] X.env))) := by rfl) :
    PE X (.Call (.Attribute o m apos) [] [] pos) (te X.K E (mMeth is m 0 g mo maN)) := by
  refine ⟨fun pins s σ H Q I ⟨ρ, M, env, rl, re, h⟩ => ?_⟩
  refine PySem.W.methodCall_KW (pl := pl) (thn (ho.run pins s σ H (fun x H1 => ∃ ρ1 M1 w, Rl X.K ρ1 M1 H1 ∧ RV X.K ρ1 H1 w x ∧ methOk is m M1 w = true ∧ Fin X.K ρ1 H1 (PV X.K Q) E (g [w] M1)) I (te_then rl re h fun w M1 ρ1 H1 v g1 rl1 re1 rv1 f1 => by
    obtain ⟨h0, f1⟩ := pick f1
    exact ⟨ρ1, M1, w, rl1, rv1, h0, f1⟩)) fun u s1 ⟨x, H1, I1, rx, ρ1, M1, w, rl1, rv1, h0, f1⟩ => ?_) ht
  obtain ⟨a, D, dx, fs, rfl, ea, c, hm, l⟩ := meth_in T rl1 h0 rv1
  obtain rfl : u = Value.ref a := rx
  refine getmeth_ok I1 ea c hm l ?_
  have hbb := hb s1 [.ref a] I1.kIn (by rw [List.append_nil]; exact hn.symm)
  rw [List.append_nil] at hbb
  exact PySem.W.callWith_K0 (first := [.ref a]) I1.kIn hm.kp (callG F hr hgd hx I1 (us := [.ref a]) hbb (vs := [.ref a]) (.cons rfl .nil) hn.symm (ws := [w]) rl1 ⟨_, _, rfl, rv1, rfl⟩ (kt _ _ _ _ _ _ _ rl1 f1))
theorem e_meth (kt : Kept g0 g) (T : MethT X.K is m f) (F : FnG X.prog X.w X.K X.mg X.base k f fd ps g0) (hr : Room k X.A) (hgd : X.A.guards = some []) (hx : Passes (L2.CX X.prog X.w) X E) (hb : Binds X.K fd ps []) (ho : PE X o (te X.K E mo)) (ha : PA X (e :: es) (ta X.K E ma)) {n : Nat} (hn : ps.length = n + 1 := by rfl)
    (hst : starEach (e :: es) X.env = (false, eval e X.env) :: starEach es X.env := by rfl) (hpl : (backTo pos (starEach es X.env)).any (·.1) = false := by rfl)
    (ht : eval (.Call (.Attribute o m apos) (e :: es) [] pos) X.env = (do
      let ov ← eval o X.env
      standAt apos.atName
      let (f, first) ← holding [ov] (getMethod ov m pl)
      callWith pos f first (backTo pos (starEach (e :: es) X.env)) (backToKw pos (keywordEach [] X.env))) := by rfl) :
    PE X (.Call (.Attribute o m apos) (e :: es) [] pos) (te X.K E (mMeth is m n g mo ma)) := by
  refine ⟨fun pins s σ H Q I ⟨ρ, M, env, rl, re, h⟩ => ?_⟩
  refine PySem.W.methodCall_KW (pl := pl) (thn (ho.run pins s σ H (fun x H1 => ∃ ρ1 M1 w, Rl X.K ρ1 M1 H1 ∧ RE X.K ρ1 H1 env σ ∧ RV X.K ρ1 H1 w x ∧ methOk is m M1 w = true ∧ Fin X.K ρ1 H1 (PV X.K Q) E ((ma env M1).bind fun ws M2 => if ws.length = n then g (w :: ws) M2 else .no)) I (te_then rl re h fun w M1 ρ1 H1 v g1 rl1 re1 rv1 f1 => by
    obtain ⟨h0, f1⟩ := pick f1
    exact ⟨ρ1, M1, w, rl1, re1, rv1, h0, f1⟩)) fun u s1 ⟨x, H1, I1, rx, ρ1, M1, w, rl1, re1, rv1, h0, f1⟩ => ?_) ht
  obtain ⟨a, D, dx, fs, rfl, ea, c, hm, l⟩ := meth_in T rl1 h0 rv1
  obtain rfl : u = Value.ref a := rx
  refine getmeth_ok I1 ea c hm l ?_
  refine PySem.W.callWith_K (first := [.ref a]) (h₀ := X.base) I.ok.mod.kin hm.kp (thn (ha.run pos pins s1 σ H1 (fun vs H2 => ∃ ρ2 M2 ws, Rl X.K ρ2 M2 H2 ∧ RVs X.K ρ2 H2 (w :: ws) (.ref a :: vs) ∧ ws.length = n ∧ Fin X.K ρ2 H2 (PV X.K Q) E (g (w :: ws) M2)) I1
    (ta_then rl1 re1 f1 fun ws M2 ρ2 H2 vs g2 rl2 re2 rv2 f2 => by obtain ⟨h1, f2⟩ := pick f2; exact ⟨ρ2, M2, ws, rl2, ⟨_, _, rfl, RV.mono g2 w rv1, rv2⟩, h1, f2⟩)) fun us s2 ⟨vs, H2, I2, r, ρ2, M2, ws, rl2, rv2, h1, f2⟩ => ⟨I2.kIn, ?_⟩) hst hpl
  have q1 : vs.length = n := by
    have := rv2.length
    rw [List.length_cons, List.length_cons] at this
    omega
  have q2 : us.length = n := by rw [← r.length]; exact q1
  have hbb := hb s2 (.ref a :: us) I2.kIn (by rw [List.append_nil, List.length_cons, q2, hn])
  rw [List.append_nil] at hbb
  exact callG F hr hgd hx I2 (us := .ref a :: us) hbb (vs := .ref a :: vs) (.cons rfl r) (by rw [List.length_cons, q1, hn]) rl2 rv2 (kt _ _ _ _ _ _ _ rl2 f2)
end
end Mi

namespace PySem.W
section
open PySem
variable {prog : Program} {w : World} {A A₀ : Around} {E : Value → Shared → Prop} {s : Shared} {K : Frag} {x C L f : Addr} {h₀ : Heap} {m : Str → Option Value} {ox : Obj} {od : Option Obj} {name : Str} {b tb : Value}
theorem ifBoundB_K {M : Model} {args : List Value} {id : String} {Q : Option Value → Shared → Prop} (X : K.In s.heap) (I : InstAt s.heap x ox C od) (hs : findIn K (.ref C) name = some (some (.builtin id)))
    (hb : ∀ self, bindSpecial (.builtin id) self = pure (.builtin id, [self])) (h : wpAny M A (call (.builtin id) (.ref x :: args)) (fun v => Q (some v)) E s) : wpAny M A (callSpecialIfBound? (.ref x) name args) Q E s := by
  simp only [callSpecialIfBound?, bindSpecialIfBound?]
  refine wpAny_holding (wpAny_bind (wpAny_bind (wpAny_bind (I.type.here ((looks_findIn X hs).here ?_)))))
  refine wpAny_bind (wpAny_askSetting (wpAny_ite ?_))
  have fin : wpAny M A (call (.builtin id) ([.ref x] ++ args) >>= fun v => pure (some v)) Q E s := wpAny_bind (wpAny_mono h (fun v s' h' => wpAny_pure h') fun _ _ h' => h')
  split
  · exact wpAny_bind ((Looks.of_pure (hb _)).here (wpAny_pure (by exact fin)))
  · exact wpAny_tryCatch (wpAny_bind ((Looks.of_pure (hb _)).here (wpAny_pure (by exact fin))))
theorem objNe_K {Q : Fin → Shared → Prop} (hu : A.units < cLine) (X : K.In s.heap) (I : InstAt s.heap x ox C od) (hs : findIn K (.ref C) "__eq__" = some (some (.ref f))) (hf : isFn K (.ref f) = true)
    (h : wpAny (model prog w) A (call (.ref f) [.ref x, b]) (fun v s' => ∃ q, v = .bool q ∧ Q (.done (.ret (.bool (!q)))) s') E s) : wpAny (model prog w) A (Builtin.«object.__ne__» ⟨[.ref x, b], []⟩) Q E s := by
  unfold Builtin.«object.__ne__»
  repeat (first
    | with_reducible refine wpAny_cRoomFor hu ?_
    | (refine wpAny_bind (m := callSpecialIfBound? (.ref x) (Str.ofString "__eq__") [b]) (ifBound_K X I hs hf (wpAny_mono h (fun r s' hr => by
          obtain ⟨b, rfl, hq⟩ := hr
          repeat (first | exact hq | exact wpAny_pure hq | exact wpAny_truthy_bool hq | (refine wpAny_bind (m := truthy (.bool _)) (wpAny_truthy_bool ?_)) | wp_step)) fun _ _ e => e)))
    | wp_step)
theorem ne_K {Q : Value → Shared → Prop} (hu : A.units + 1 < cLine) (X : K.In s.heap) (I : InstAt s.heap x ox C od) (hb : Looks (model prog w) s.heap (typeOf b) tb) (hn : notFirst K C tb = true)
    (hs : findIn K (.ref C) "__eq__" = some (some (.ref f))) (hf : isFn K (.ref f) = true) (hN : findIn K (.ref C) "__ne__" = some (some (.builtin "object.__ne__"))) (hm : mroIn K C (.type "object") = some true)
    (h : wpAny (model prog w) A.in1 (call (.ref f) [.ref x, b]) (fun v s' => ∃ q, v = .bool q ∧ Q (.bool (!q)) s') E s) : wpAny (model prog w) A (richCompare .NotEq (.ref x) b) Q E s := by
  have one : wpAny (model prog w) A (tryCompare (.ref x) (cmpInfo .NotEq).2.1 b) (fun r s' => ∃ v, r = some v ∧ Q v s') E s := by
    unfold tryCompare
    refine wpAny_bind (ifBoundB_K X I hN PySem.F.slot_tuple_iterator_ne.bind (wpAny_call (codeAny_call_builtin PySem.F.slot_tuple_iterator_ne.plain PySem.F.cmpEntry_ne
      (check_slot (i := "object.__ne__") (owner := "object") (n := "__ne__") (by decide +kernel) (by decide +kernel) (I.type.andThen (looks_mroIn X hm)) (PySem.F.cmpArgs_ne _ _) (objNe_K (A := A.in1) hu X I hs hf (wpAny_mono h (fun v s' hv => ?_) fun _ _ e => e))))))
    obtain ⟨q, rfl, hq⟩ := hv
    first | exact ⟨q, rfl, wpAny_pure ⟨_, rfl, hq⟩⟩ | exact ⟨q, rfl, wpAny_pure (wpAny_pure ⟨_, rfl, hq⟩)⟩
  unfold richCompare
  simp only [oneThing_ref]
  refine wpAny_holding (wpAny_bind (wpAny_cRoomFor (Nat.lt_of_succ_lt hu) ?_))
  refine wpAny_bind (I.type.here (wpAny_bind (hb.here ?_)))
  split
  · rename_i q
    have e : subIn K tb (.ref C) = some false := by
      rcases Bool.or_eq_true_iff.mp hn with e | e
      · rw [beq_iff_eq.mp e] at q; simp at q
      · exact beq_iff_eq.mp e
    refine wpAny_bind ((looks_subIn X e).here ?_)
    simp only [Bool.false_eq_true, if_false]
    refine wpAny_bind (wpAny_mono one (fun r s' z => ?_) fun _ _ e => e)
    obtain ⟨v, rfl, hq⟩ := z
    exact wpAny_pure hq
  · refine wpAny_bind (wpAny_pure ?_)
    simp only [Bool.false_eq_true, if_false]
    refine wpAny_bind (wpAny_mono one (fun r s' z => ?_) fun _ _ e => e)
    obtain ⟨v, rfl, hq⟩ := z
    exact wpAny_pure hq
end
end PySem.W

namespace Mi
open PySem PySem.Spec PyProof.Rows L2
/-! ### == and != of instances whose class says __eq__ -/
def insOf (M : Mem) : Wv → Option Str
  | .ins C _ _ => some C
  | .ref n => match M[n]? with
    | some (.ins C _ _) => some C
    | _ => none
  | _ => none
def sideOk (js : List Str) (M : Mem) (y : Wv) : Bool := match kdOf M y with
  | some (.t _) => true
  | some (.i C) => js.contains C
  | _ => false
def eqI (is js : List Str) (g : List Wv → Mem → R Wv) (neg : Bool) (alt : Wv → Wv → Mem → R Bool) (x y : Wv) (M : Mem) : R Bool := match insOf M x with
  | some C => if is.contains C = true ∧ sideOk js M y = true then (g [x, y] M).bind fun w M1 => match w with
    | .bl b => .ok (neg ^^ b) M1
    | _ => .no else alt x y M
  | none => alt x y M
structure EqC (K : PySem.W.Frag) (is js : List Str) (g : Addr) : Prop where
  to : ∀ C ∈ is, ∀ D, clsAt K C = some D → PySem.W.findIn K (.ref D) "__eq__" = some (some (.ref g)) ∧ PySem.W.isFn K (.ref g) = true ∧ (∀ t : Mi.Ty, PySem.W.notFirst K D (.type t.name) = true) ∧
    (∀ C' ∈ js, ∀ D', clsAt K C' = some D' → PySem.W.notFirst K D (.ref D') = true) ∧ PySem.W.findIn K (.ref D) "__ne__" = some (some (.builtin "object.__ne__")) ∧ PySem.W.mroIn K D (.type "object") = some true
section
variable {K : PySem.W.Frag} {ρ : Rn} {H : Hp} {M : Mem}
theorem ins_rel (rl : Rl K ρ M H) {x : Wv} {v : V} {C : Str} (e : insOf M x = some C) (r : RV K ρ H x v) : ∃ D a dx fs, clsAt K C = some D ∧ v = .ref a ∧ H a = some (.ins D dx fs) := by
  cases x with
  | ins C' ns xs =>
    cases e
    obtain ⟨D, a, dx, fs, c, ev, ⟨ea, _⟩, _⟩ := r
    exact ⟨D, a, dx, fs, c, ev, ea⟩
  | ref n =>
    have e : (match M[n]? with | some (Ob.ins C _ _) => some C | _ => none) = some C := e
    obtain ⟨a, ev, ha⟩ := r
    cases q : M[n]? with
    | none => rw [q] at e; cases e
    | some o =>
      rw [q] at e
      obtain ⟨b, h1, h2⟩ := rl.ob n o q
      have eb : b = a := Option.some.inj (h1.symm.trans ha)
      subst eb
      cases o with
      | ins C' ns xs =>
        cases e
        obtain ⟨D, dx, fs, h3, h4, _⟩ := h2
        exact ⟨D, b, dx, fs, h3, ev, h4⟩
      | _ => cases e
  | _ => cases e
/-- what the class of the right side is -/
theorem side_rel {X : Cx} {pins : List (Addr × Obj)} {σ : L2.St} {s : Shared} {js : List Str} {D : Addr} (I : Inv X pins σ H s) (rl : Rl X.K ρ M H) {y : Wv} {v : V} {u : Value} (h : sideOk js M y = true) (r : RV X.K ρ H y v) (ru : RelV v u)
    (ht : ∀ t : Mi.Ty, PySem.W.notFirst X.K D (.type t.name) = true) (hj : ∀ C' ∈ js, ∀ D', clsAt X.K C' = some D' → PySem.W.notFirst X.K D (.ref D') = true) : ∃ tb, PySem.W.Looks (model X.prog X.w) s.heap (typeOf u) tb ∧ PySem.W.notFirst X.K D tb = true := by
  have ins : ∀ {C : Str}, insOf M y = some C → js.contains C = true → ∃ tb, PySem.W.Looks (model X.prog X.w) s.heap (typeOf u) tb ∧ PySem.W.notFirst X.K D tb = true := fun {C} e hc => by
    obtain ⟨D', a, dx, fs, c, ev, ea⟩ := ins_rel rl e r
    subst ev
    obtain rfl : u = Value.ref a := ru
    obtain ⟨mA, O, _⟩ := ins_get I.hok ea
    obtain ⟨od, J, _⟩ := O.look
    exact ⟨_, J.type, hj C (by simpa using hc) D' c⟩
  have base : ∀ {t : Mi.Ty}, tyOf M y = some t → ∃ tb, PySem.W.Looks (model X.prog X.w) s.heap (typeOf u) tb ∧ PySem.W.notFirst X.K D tb = true := fun {t} e => by
    obtain ⟨P, h1, h2, _⟩ := kit_of I ru (tyx_of rl e r)
    exact ⟨_, h1.ty _ _ I.kIn h2, ht t⟩
  unfold sideOk at h
  cases y with
  | ins C ns xs => exact ins rfl h
  | exc C ns xs => cases h
  | dtt ks xs =>
    obtain ⟨a, kvs, ev, ⟨ea, _⟩, _⟩ := r
    subst ev
    obtain ⟨P, h3, h4, h5⟩ := kit_of I ru (.base (.dT ea))
    exact ⟨_, h3.ty _ _ I.kIn h4, ht .dct⟩
  | ref n =>
    have h : (match (match M[n]? with | some (Ob.lst _) => some (Kd.t .lst) | some (Ob.ins C _ _) => some (Kd.i C) | _ => none) with | some (.t _) => true | some (.i C) => js.contains C | _ => false) = true := h
    cases q : M[n]? with
    | none => rw [q] at h; cases h
    | some o =>
      rw [q] at h
      cases o with
      | lst xs => exact base (t := .lst) (show (match M[n]? with | some (Ob.lst _) => some Mi.Ty.lst | _ => none) = some Mi.Ty.lst from by rw [q])
      | ins C ns xs => exact ins (C := C) (show (match M[n]? with | some (Ob.ins C _ _) => some C | _ => none) = some C from by rw [q]) h
      | _ => cases h
  | adr a => cases h
  | ty n => cases h
  | rdl xs => cases h
  | _ => exact base rfl
end
section
variable {X : Cx} {E : XK} {k : Nat} {f : Addr} {fd : FuncData} {ps : List Str} {is js : List Str} {g g0 : List Wv → Mem → R Wv} {alt : Wv → Wv → Mem → R Bool}
theorem eqI_bool {K : PySem.W.Frag} {ρ : Rn} {H : Hp} {neg : Bool} {Q : VK} {r : R Wv} (h : Fin K ρ H (PB fun b H' => Q (.bl b) H') E (r.bind fun w M1 => match w with | .bl b => R.ok (neg ^^ b) M1 | _ => .no)) :
    Fin K ρ H (PV K fun v H' => ∃ b, v = .bl b ∧ Q (.bl (neg ^^ b)) H') E r := by
  refine h.bind.imp fun w M1 ρ1 H1 g1 rl1 f1 v rv => ?_
  cases w with
  | bl b =>
    cases (show v = .bl b from rv)
    exact ⟨b, rfl, f1.here rl1⟩
  | _ => exact f1.elim
theorem callG_at {A : Around} (F : FnG X.prog X.w X.K X.mg X.base k f fd ps g0) (hr : Room k A) (hgd : A.guards = some []) (hx : Passes (L2.CX X.prog X.w) X E) {pins : List (Addr × Obj)} {σ : L2.St} {H : Hp} {s : Shared} {Q : VK} {kw : List (Str × Value)} {us us' : List Value} {vs : List V} {ws : List Wv} {ρ : Rn} {M : Mem}
    (I : Inv X pins σ H s) (e0 : Env0 X.prog X.w X.K X.mg X.base A X.stack s H) (hb : BindsTo s fd ⟨us, kw⟩ (ps.zip us')) (r : Vals vs us') (hl : vs.length = ps.length) (rl : Rl X.K ρ M H) (rv : RVs X.K ρ H ws vs) (fin : Fin X.K ρ H (PV X.K Q) E (g0 ws M)) :
    wpAny (model X.prog X.w) A (call (.ref f) us kw) (EP X pins σ Q) X.xe s := by
  refine wpAny_call (codeAny_mono (F.go A X.stack s H ⟨us, kw⟩ us' vs ws ρ M Q E hr hgd e0 hb r hl rl rv fin) fun res s' hq => ?_)
  cases res with
  | error er => exact hx pins σ H s er s' I hq
  | ok fl =>
    cases fl with
    | ret u => exact I.after hq
    | next => exact hq.elim
    | brk => exact hq.elim
    | cont => exact hq.elim
theorem o_eqI (kt : Kept g0 g) (T : EqC X.K is js f) (F : FnG X.prog X.w X.K X.mg X.base k f fd ps g0) (hr : Room (k + 1) X.A) (hgd : X.A.guards = some []) (hx : Passes (L2.CX X.prog X.w) X E) (hb : Binds X.K fd ps []) (hn : ps.length = 2)
    (ha : OpR X (compareOp .Eq) (rb X.K E alt)) : OpR X (compareOp .Eq) (rb X.K E (eqI is js g false alt)) := by
  intro pins s σ H x y v u Q I qx qy ⟨ρ, M, wx, wy, rl, rx, ry, h⟩
  unfold eqI at h
  cases q : insOf M wx with
  | none => rw [q] at h; exact ha pins s σ H x y v u Q I qx qy ⟨ρ, M, wx, wy, rl, rx, ry, h⟩
  | some C =>
    rw [q] at h
    by_cases hc : is.contains C = true ∧ sideOk js M wy = true
    · have h : Fin X.K ρ H (PB fun b H' => Q (.bl b) H') E (if is.contains C = true ∧ sideOk js M wy = true then (g [wx, wy] M).bind fun w M1 => match w with | .bl b => R.ok (false ^^ b) M1 | _ => .no else alt wx wy M) := h
      rw [if_pos hc] at h
      obtain ⟨D, a, dx, fs, cD, ev, ea⟩ := ins_rel rl q rx
      subst ev
      obtain rfl : v = Value.ref a := qx
      obtain ⟨z1, z2, z3, z4, z5, z6⟩ := T.to C (by simpa using hc.1) D cD
      obtain ⟨tb, lt, nf⟩ := side_rel I rl hc.2 ry qy z3 z4
      obtain ⟨mA, O, _⟩ := ins_get I.hok ea
      obtain ⟨od, J, _⟩ := O.look
      obtain ⟨m, hF⟩ := I.fr
      have hbb := hb s [.ref a, u] I.kIn (by simp [hn])
      rw [List.append_nil] at hbb
      have hq := eqI_bool (neg := false) h
      refine PySem.W.cmp_K (op := .Eq) (tb := tb) hr.units0 hF I.ok.mod.kin J lt nf z1 z2 ?_
      refine wpAny_mono (callG (Q := fun v H' => ∃ b, v = .bl b ∧ Q (.bl (false ^^ b)) H') F (hr.mono (Nat.le_succ _)) hgd hx I (us := [.ref a, u]) hbb (vs := [.ref a, y]) (.cons rfl (.cons qy .nil)) (by simp [hn]) rl (ws := [wx, wy]) ⟨_, _, rfl, rx, _, _, rfl, ry, rfl⟩ (kt _ _ _ _ _ _ _ rl hq)) (fun w s' z => ?_) fun _ _ x => x
      obtain ⟨z', H', I', rz, b, eb, qz⟩ := z
      subst eb
      cases (show w = Value.bool b from rz)
      exact ⟨.bl b, H', I', rfl, by simpa using qz⟩
    · have h : Fin X.K ρ H (PB fun b H' => Q (.bl b) H') E (if is.contains C = true ∧ sideOk js M wy = true then (g [wx, wy] M).bind fun w M1 => match w with | .bl b => R.ok (false ^^ b) M1 | _ => .no else alt wx wy M) := h
      rw [if_neg hc] at h
      exact ha pins s σ H x y v u Q I qx qy ⟨ρ, M, wx, wy, rl, rx, ry, h⟩
theorem o_neI (kt : Kept g0 g) (T : EqC X.K is js f) (F : FnG X.prog X.w X.K X.mg X.base k f fd ps g0) (hr : Room (k + 1) X.A) (hgd : X.A.guards = some []) (hx : Passes (L2.CX X.prog X.w) X E) (hb : Binds X.K fd ps []) (hn : ps.length = 2)
    (ha : OpR X (compareOp .NotEq) (rb X.K E alt)) : OpR X (compareOp .NotEq) (rb X.K E (eqI is js g true alt)) := by
  intro pins s σ H x y v u Q I qx qy ⟨ρ, M, wx, wy, rl, rx, ry, h⟩
  unfold eqI at h
  cases q : insOf M wx with
  | none => rw [q] at h; exact ha pins s σ H x y v u Q I qx qy ⟨ρ, M, wx, wy, rl, rx, ry, h⟩
  | some C =>
    rw [q] at h
    by_cases hc : is.contains C = true ∧ sideOk js M wy = true
    · have h : Fin X.K ρ H (PB fun b H' => Q (.bl b) H') E (if is.contains C = true ∧ sideOk js M wy = true then (g [wx, wy] M).bind fun w M1 => match w with | .bl b => R.ok (true ^^ b) M1 | _ => .no else alt wx wy M) := h
      rw [if_pos hc] at h
      obtain ⟨D, a, dx, fs, cD, ev, ea⟩ := ins_rel rl q rx
      subst ev
      obtain rfl : v = Value.ref a := qx
      obtain ⟨z1, z2, z3, z4, z5, z6⟩ := T.to C (by simpa using hc.1) D cD
      obtain ⟨tb, lt, nf⟩ := side_rel I rl hc.2 ry qy z3 z4
      obtain ⟨mA, O, _⟩ := ins_get I.hok ea
      obtain ⟨od, J, _⟩ := O.look
      have hbb := hb s [.ref a, u] I.kIn (by simp [hn])
      rw [List.append_nil] at hbb
      have hq := eqI_bool (neg := true) h
      have hun := hr.units
      refine PySem.W.ne_K (tb := tb) (by omega) I.kIn J lt nf z1 z2 z5 z6 ?_
      refine wpAny_mono (callG_at (A := X.A.in1) (Q := fun v H' => ∃ b, v = .bl b ∧ Q (.bl (true ^^ b)) H') F hr.in1 hgd hx I I.env0.in1 (us := [.ref a, u]) hbb (vs := [.ref a, y]) (.cons rfl (.cons qy .nil)) (by simp [hn]) rl (ws := [wx, wy]) ⟨_, _, rfl, rx, _, _, rfl, ry, rfl⟩ (kt _ _ _ _ _ _ _ rl hq)) (fun w s' z => ?_) fun _ _ x => x
      obtain ⟨z', H', I', rz, b, eb, qz⟩ := z
      subst eb
      cases (show w = Value.bool b from rz)
      exact ⟨b, rfl, .bl (!b), H', I', rfl, by simpa using qz⟩
    · have h : Fin X.K ρ H (PB fun b H' => Q (.bl b) H') E (if is.contains C = true ∧ sideOk js M wy = true then (g [wx, wy] M).bind fun w M1 => match w with | .bl b => R.ok (true ^^ b) M1 | _ => .no else alt wx wy M) := h
      rw [if_neg hc] at h
      exact ha pins s σ H x y v u Q I qx qy ⟨ρ, M, wx, wy, rl, rx, ry, h⟩
end
end Mi

namespace Mi
open PySem PySem.Spec PyProof.Rows L2

/-! ### a < b <= c -/
def mtCh (f g : Wv → Wv → Mem → R Bool) (a b c : Me) : Mt := fun env M => (a env M).bind fun x M1 => (b env M1).bind fun y M2 => (f x y M2).bind fun q M3 => if q = true then (c env M3).bind fun z M4 => g y z M4 else .ok false M3
section
variable {X : Cx} {E : XK} {a b c : Expr} {ma mb mc : Me} {pos : Pos} {op op' : CmpOp} {f g : Wv → Wv → Mem → R Bool}
theorem t_chain (ho : OpR X (compareOp op) (rb X.K E f)) (ho' : OpR X (compareOp op') (rb X.K E g)) (ha : PE X a (te X.K E ma)) (hb : PE X b (te X.K E mb)) (hc : PE X c (te X.K E mc)) (hm : lastMarks [op, op'] [b, c] = false := by with_unfolding_all rfl) :
    PT X (.Compare a [op, op'] [b, c] pos) (tt X.K E (mtCh f g ma mb mc)) := PT.imp (pt_chain ho ho' ha hb hc hm) fun σ H Q ⟨ρ, M, env, rl, re, h⟩ => by
  refine te_then rl re h fun x M1 ρ1 H1 v g1 rl1 re1 rv1 h1 => ?_
  refine te_then rl1 re1 h1 fun y M2 ρ2 H2 u g2 rl2 re2 rv2 h2 => ?_
  refine ⟨ρ2, M2, x, y, rl2, RV.mono g2 x rv1, rv2, h2.bind.imp fun q M3 ρ3 H3 g3 rl3 h3 => ?_⟩
  refine ⟨q, rfl, ?_⟩
  cases q with
  | false => exact ⟨false, rfl, h3.here rl3⟩
  | true =>
    show te X.K E mc σ H3 _
    refine te_then rl3 (re2.mono g3) h3 fun z M4 ρ4 H4 w g4 rl4 re4 rv4 h4 => ?_
    exact ⟨ρ4, M4, y, z, rl4, RV.mono g4 y (RV.mono g3 y rv2), rv4, h4.imp fun b M5 ρ5 H5 _ _ hq => ⟨b, rfl, hq⟩⟩
end

/-! ### slices of lists, tuples, texts -/
def slW (x : Wv) (lo hi : Option Int) (M : Mem) : R Wv := match x with
  | .str s => if s.length ≤ lim then .ok (.str (cutS s lo hi)) M else .no
  | x => match sqOf M x with
    | some (.l xs) => .ok (.lst (cutW xs lo hi)) M
    | some (.t xs) => .ok (.tup (cutW xs lo hi)) M
    | none => .no
def mSlA (a : Me) (lo hi : Mo) : Me := fun env M => (a env M).bind fun x M1 => (lo env M1).bind fun l M2 => (hi env M2).bind fun u M3 => slW x l u M3
section
variable {X : Cx} {E : XK} {a : Expr} {ma : Me} {pos p2 : Pos} {lo hi : Option Expr} {ml mh : Mo}
theorem e_slA (ha : PE X a (te X.K E ma)) (hl : PO X lo (to X.K E ml)) (hh : PO X hi (to X.K E mh)) : PE X (.Subscript a (.Slice lo hi none p2) pos) (te X.K E (mSlA ma ml mh)) :=
  PE.imp (pe_slice ((sl_list.or sl_tupA).or sl_str) ha hl hh) fun σ H Q ⟨ρ, M, env, rl, re, f⟩ => by
    refine te_then rl re f fun x M1 ρ1 H1 v g1 rl1 re1 rv1 f1 => ?_
    refine ⟨ρ1, M1, env, rl1, re1, f1.bind.imp fun l M2 ρ2 H2 g2 rl2 f2 => ?_⟩
    refine ⟨ρ2, M2, env, rl2, re1.mono g2, f2.bind.imp fun u M3 ρ3 H3 g3 rl3 f3 => ?_⟩
    have rv3 := RV.mono g3 x (RV.mono g2 x rv1)
    have go : ∀ {y : Wv}, x = y → (match sqOf M3 y with | some (.l xs) => R.ok (Wv.lst (cutW xs l u)) M3 | some (.t xs) => .ok (.tup (cutW xs l u)) M3 | none => .no) = slW x l u M3 → (rSlL X.K v l u H3 Q ∨ rSlA X.K v l u H3 Q) ∨ rSlS v l u H3 Q := fun {y} ey e => by
      subst ey
      rw [← e] at f3
      cases q : sqOf M3 x with
      | none => rw [q] at f3; exact f3.elim
      | some s =>
        cases s with
        | l xs =>
          rw [q] at f3
          obtain ⟨a, vs, rfl, h1, h2⟩ := sq_l_of rl3 q rv3
          exact .inl (.inl ⟨a, vs, rfl, h1, fun p hp => fin_lst f3 rl3 (h2.cut l u) hp⟩)
        | t xs =>
          rw [q] at f3
          obtain ⟨a, vs, rfl, h1, h2⟩ := sq_t_of q rv3
          refine .inl (.inr ⟨a, vs, rfl, h1, fun z => ?_, fun _ p hp => fin_tup f3 rl3 (h2.cut l u) hp⟩)
          have ex : cutW xs l u = xs := by
            unfold cutW
            rw [h2.length, z.1, z.2, List.drop_zero, Nat.sub_zero, ← h2.length, List.take_length]
          have f3 : Fin X.K ρ3 H3 (PV X.K Q) E (.ok (.tup (cutW xs l u)) M3) := f3
          rw [ex] at f3
          refine fin_val f3 rl3 ?_
          cases x with
          | tup ys => cases q; exact rv3
          | lst ys => cases q
          | rdl ys => cases q
          | ref n =>
            have q : (match M3[n]? with | some (Ob.lst xs) => some (Sq.l xs) | _ => none) = some (Sq.t xs) := q
            split at q <;> cases q
          | _ => cases q
    cases x with
    | str s =>
      obtain ⟨h0, f3⟩ := pick f3
      exact .inr ⟨s, rv3, lim_le h0, fin_val f3 rl3 rfl⟩
    | _ => exact go rfl rfl
end

/-! ### a starred item of a display or call -/
def maStar (a : Me) (r : Ma) : Ma := fun env M => (a env M).bind fun x M1 => match sqOf M1 x with
  | some s => (r env M1).bind fun xs M2 => .ok (s.xs ++ xs) M2
  | none => .no
section
variable {X : Cx} {E : XK} {e : Expr} {es : List Expr} {me : Me} {ma : Ma} {p : Pos}
theorem a_star (h : PE X e (te X.K E me)) (hr : PA X es (ta X.K E ma)) (hs : starEach (.Starred e p :: es) X.env = (true, eval e X.env) :: starEach es X.env := by rfl) : PA X (.Starred e p :: es) (ta X.K E (maStar me ma)) :=
  PA.imp (StX.pa_star h hr hs) fun σ H Q ⟨ρ, M, env, rl, re, f⟩ => by
    refine te_then rl re f fun x M1 ρ1 H1 v g1 rl1 re1 rv1 f1 => ?_
    cases q : sqOf M1 x with
    | none => rw [q] at f1; exact f1.elim
    | some s =>
      rw [q] at f1
      cases s with
      | l xs =>
        obtain ⟨a, vs, rfl, h1, h2⟩ := sq_l_of rl1 q rv1
        exact ⟨a, vs, rfl, .inr h1, ta_then rl1 re1 f1 fun us M2 ρ2 H2 zs g2 rl2 re2 rv2 f2 => f2.here rl2 _ ((RVs.mono g2 xs h2).append rv2)⟩
      | t xs =>
        obtain ⟨a, vs, rfl, h1, h2⟩ := sq_t_of q rv1
        exact ⟨a, vs, rfl, .inl h1, ta_then rl1 re1 f1 fun us M2 ρ2 H2 zs g2 rl2 re2 rv2 f2 => f2.here rl2 _ ((RVs.mono g2 xs h2).append rv2)⟩
end

/-! ### str(x), sep.join(xs) -/
def str1 : Wv → Mem → R Wv
  | .str s, M => .ok (.str s) M
  | .int i, M => if i.natAbs.log2 < 1920 then .ok (.str (toString i)) M else .no
  | _, _ => .no
abbrev strW := un1 str1
/-- texts of a list -/
def strsOf : List Wv → Option (List Str)
  | [] => some []
  | .str s :: xs => (strsOf xs).map (s :: ·)
  | _ :: _ => none
def joinW (a : Str) (xs : Wv) (M : Mem) : R Wv := match sqOf M xs with
  | some s => match strsOf s.xs with
    | some ys => if (ys.map (·.length)).sum + ys.length * a.length ≤ 16777216 then .ok (.str (Txt.join a ys)) M else .no
    | none => .no
  | none => .no
def mJoin (o e : Me) : Me := fun env M => (o env M).bind fun x M1 => match x with
  | .str a => (e env M1).bind fun y M2 => joinW a y M2
  | _ => .no
section
variable {X : Cx} {E : XK}
theorem c_str : CallR X (.type "str") (rc X.K E strW) := by
  intro pins s σ H xs us Q I r hh
  obtain ⟨v, ρ, M, w, rfl, rl, rv, h⟩ := un1_in hh
  cases w with
  | str z => exact SkE.call_str_str pins s σ H _ _ Q I r ⟨z, by rw [show v = .str z from rv], fin_val h rl rfl⟩
  | int i =>
    obtain ⟨h0, h⟩ := pick h
    exact call_str_int pins s σ H _ _ Q I r ⟨i, by rw [show v = .int i from rv], h0, fin_val h rl rfl⟩
  | _ => exact h.elim
theorem strs_rel {K : PySem.W.Frag} {ρ : Rn} {H : Hp} : ∀ {ws : List Wv} {vs : List V} {ys : List Str}, strsOf ws = some ys → RVs K ρ H ws vs → vs = ys.map V.str
  | [], _, _, e, r => by cases e; exact r
  | w :: ws, _, ys, e, ⟨v, vr, ev, h, r⟩ => by
    subst ev
    cases w with
    | str s =>
      have e : (strsOf ws).map (s :: ·) = some ys := e
      obtain ⟨zs, e1, rfl⟩ := Option.map_eq_some_iff.mp e
      rw [strs_rel e1 r, show v = .str s from h]
      rfl
    | _ => cases e
variable {o e : Expr} {mo me : Me} {apos pos : Pos}
theorem e_join (ho : PE X o (te X.K E mo)) (he : PE X e (te X.K E me)) (hs : starEach [e] X.env = [(false, eval e X.env)] := by rfl) (hbase : attributeBase o "join" X.env (eval o X.env) = eval o X.env := by rfl) (hline : (apos.endLine == pos.line) = true := by rfl) :
    PE X (.Call (.Attribute o "join" apos) [e] [] pos) (te X.K E (mJoin mo me)) := PE.imp (pe_join ho he hs hbase hline) fun σ H Q ⟨ρ, M, env, rl, re, h⟩ => by
  refine te_then rl re h fun x M1 ρ1 H1 v g1 rl1 re1 rv1 h1 => ?_
  cases x with
  | str a =>
    cases (show v = .str a from rv1)
    refine ⟨⟨_, rfl⟩, te_then rl1 re1 h1 fun y M2 ρ2 H2 u g2 rl2 re2 rv2 h2 => ?_⟩
    unfold joinW at h2
    cases q : sqOf M2 y with
    | none => rw [q] at h2; exact h2.elim
    | some s =>
      rw [q] at h2
      have h2 : Fin X.K ρ2 H2 (PV X.K Q) E (match strsOf s.xs with | some ys => if (ys.map (·.length)).sum + ys.length * a.length ≤ 16777216 then R.ok (.str (Txt.join a ys)) M2 else .no | none => .no) := h2
      cases q2 : strsOf s.xs with
      | none => rw [q2] at h2; exact h2.elim
      | some ys =>
        rw [q2] at h2
        have h2 : Fin X.K ρ2 H2 (PV X.K Q) E (if (ys.map (·.length)).sum + ys.length * a.length ≤ 16777216 then R.ok (.str (Txt.join a ys)) M2 else .no) := h2
        obtain ⟨h0, h3'⟩ := pick h2
        cases s with
        | l xs =>
          obtain ⟨p, vs, rfl, h3, h4⟩ := sq_l_of rl2 q rv2
          exact ⟨a, p, ys, rfl, rfl, .inl (by rw [← strs_rel q2 h4]; exact h3), h0, fin_val h3' rl2 rfl⟩
        | t xs =>
          obtain ⟨p, vs, rfl, h3, h4⟩ := sq_t_of q rv2
          exact ⟨a, p, ys, rfl, rfl, .inr (by rw [← strs_rel q2 h4]; exact h3), h0, fin_val h3' rl2 rfl⟩
  | _ => exact h1.elim
end
end Mi

namespace Mi
open PySem PySem.Spec PyProof.Rows L2

/-! ### {k: e, ..}, written keys -/
def mDctE (ks : List Key) (ma : Ma) : Me := fun env M => (noX (ma env M)).bind fun ws M1 => if ws.length = ks.length then .ok (.dct ks ws) M1 else .no
structure PDe (X : Cx) (pos : Pos) (keys : List (Option Expr)) (values : List Expr) (ks : List Key) (ma : Ma) : Prop where
  ex : ∃ trs, PPs X pos keys values trs ∧ ∀ (σ : L2.St) (H : Hp) (Q : List (V × V) → Hp → Prop) (ρ : Rn) (M : Mem) (env : Ev), Rl X.K ρ M H → RE X.K ρ H env σ →
    Fin X.K ρ H (fun ws M' ρ' H' => ∀ vs, RVs X.K ρ' H' ws vs → ws.length = ks.length → Q ((ks.map kV).zip vs) H') E0 (ma env M) → tPairs trs σ H Q
section
variable {X : Cx} {E : XK} {pos : Pos} {keys : List (Option Expr)} {values : List Expr} {ks : List Key} {k v : Expr} {key : Key} {ma : Ma} {mv : Me}
theorem pe_nil : PDe X pos [] [] [] maN := ⟨[], pps_nil, fun σ H Q ρ M env rl re f => f.here rl [] rfl rfl⟩
theorem pe_cons (hk : PE X k (tC (kV key))) (hv : PE X v (te X.K E0 mv)) (h : PDe X pos keys values ks ma) : PDe X pos (some k :: keys) (v :: values) (key :: ks) (maC mv ma) := by
  obtain ⟨trs, h1, h2⟩ := h.ex
  refine ⟨(tC (kV key), te X.K E0 mv) :: trs, pps_cons hk hv h1, fun σ H Q ρ M env rl re f => ?_⟩
  show tC (kV key) σ H _
  refine te_then rl re f fun w M1 ρ1 H1 u g1 rl1 re1 rv1 f1 => ?_
  refine h2 σ H1 _ ρ1 M1 env rl1 re1 ?_
  refine f1.bind.imp fun ws M2 ρ2 H2 g2 rl2 f2 vs rv hl => ?_
  exact f2.here rl2 (u :: vs) ⟨u, vs, rfl, RV.mono g2 w rv1, rv⟩ (by simp [hl])
theorem e_dctE (h : PDe X pos keys values ks ma) (nd : ks.Nodup := by decide) (h15 : keys.length ≤ 15 := by decide) (hk : ks.length ≤ 15 := by decide) (hall : keys.all (·.isSome) = true := by rfl) (hl : keys.length = values.length := by rfl) (h0 : keys ≠ [] := by exact fun z => by cases z) :
    PE X (.Dict keys values pos) (te X.K E (mDctE ks ma)) := by
  obtain ⟨trs, h1, h2⟩ := h.ex
  refine PE.imp (pe_disp h1 hall hl h0 h15) fun σ H Q ⟨ρ, M, env, rl, re, f⟩ p hp => ?_
  have lk0 : Lk p ρ H (ρ.lock p) (upd H p (.dK [])) := ⟨rfl, ⟨[], by simp [Rn.lock]⟩, fun a o _ e => by rw [upd_ne (ne_of_none e hp)]; exact e, fun a z => .inl z⟩
  refine h2 σ _ _ (ρ.lock p) M env (rl_lock rl hp) (re.move (mv_lock hp)) ?_
  have f0 := fin_noX (ρ' := ρ.lock p) (H' := upd H p (.dK [])) (E' := E0) f
  refine f0.imp fun ws M2 ρ2 H2 g2 rl2 f2 vs rv hlen => ?_
  have lk := lk0.on g2
  have hp2 : H2 p = some (.dK []) := g2.keep p _ (rl.out hp).1 upd_same
  rw [if_pos hlen] at f2
  have hz : ((ks.zip vs).map (·.1)) = ks := List.map_fst_zip (by rw [← rv.length, hlen]; exact Nat.le_refl _)
  have hz2 : ((ks.zip vs).map (·.2)) = vs := List.map_snd_zip (by rw [← rv.length, hlen]; exact Nat.le_refl _)
  have hDf : p ∈ ρ2.f := by rw [lk.f]; exact List.mem_cons_self
  refine ⟨hp2, ks.zip vs, ?_, ?_, ?_⟩
  · rw [List.zip_map_left, List.map_congr_left]
    rintro ⟨a, b⟩ _
    rfl
  · rw [List.length_zip, ← rv.length, hlen]
    omega
  · rw [merge_new (by simpa [hz] using nd), List.nil_append]
    have off : Mv ρ2 (upd H2 p (.dK (ks.zip vs))) ⟨ρ2.l, ρ.f⟩ (upd H2 p (.dK (ks.zip vs))) := ⟨fun a u ⟨h1, h2⟩ => ⟨h1, h2.1, fun z => h2.2 (by rw [lk.f]; exact List.mem_cons_of_mem _ z)⟩, fun _ _ h => h⟩
    have rl3 := rl_turn (o := .dK (ks.zip vs)) rl2 hDf
    have rl4 : Rl X.K ⟨ρ2.l, ρ.f⟩ M2 (upd H2 p (.dK (ks.zip vs))) := by
      refine ⟨rl3.nd, rl3.len, fun n b e => ?_, fun a ha => rl3.fs a (by rw [lk.f]; exact List.mem_cons_of_mem _ ha)⟩
      obtain ⟨a, h1, h2⟩ := rl3.ob n b e
      exact ⟨a, h1, RO.move off rfl h2⟩
    exact f2 ⟨ρ2.l, ρ.f⟩ _ (lk.turn hp).off rl4 _ ⟨p, ks.zip vs, rfl, ⟨upd_same, (rl3.fs p hDf).1, (rl.out hp).2⟩, hz, by rw [hz2]; exact RVs.move off _ (RVs.move (mv_turn hDf) _ rv)⟩
end
/-! ### d[k], k in d, of such a dict -/
def keyW : Wv → Option Key
  | .int i => some (.inl i)
  | .str s => some (.inr s)
  | _ => none
def dget (ks : List Key) (xs : List Wv) (k : Key) : Option Wv := ((ks.zip xs).find? fun q => decide (q.1 = k)).map (·.2)
def dixW : Wv → Wv → Mem → R Wv
  | .dct ks xs, y, M => match keyW y with
    | some k => match dget ks xs k with
      | some w => .ok w M
      | none => .no
    | none => .no
  | x, y, M => ixW x y M
def dixF : Wv → Wv → Mem → R Wv := fun x y M => match x with | .dct _ _ => dixW x y M | _ => .no
theorem _root_.L2.Room.units1 {k : Nat} {A : Around} (r : Room k A) : A.units + 1 < cLine := by have := r.un; omega
section
variable {K : PySem.W.Frag} {ρ : Rn} {H : Hp}
theorem key_rel {w : Wv} {v : V} {k : Key} (e : keyW w = some k) (r : RV K ρ H w v) : v = kV k := by
  cases w with
  | int i => cases e; exact r
  | str s => cases e; exact r
  | _ => cases e
theorem dget_rel {k : Key} : ∀ {kvs : List (Key × V)} {ks : List Key} {xs : List Wv}, kvs.map (·.1) = ks → RVs K ρ H xs (kvs.map (·.2)) → match dget ks xs k with
    | some w => ∃ v, valV kvs k = some v ∧ RV K ρ H w v
    | none => valV kvs k = none
  | [], _, xs, e, r => by
    subst e
    cases xs with
    | nil => rfl
    | cons x xs => have := r.length; simp at this
  | (q, v) :: kvs, _, xs, e, r => by
    subst e
    cases xs with
    | nil => have := r.length; simp at this
    | cons x xs =>
      obtain ⟨v', vr, e3, r1, r2⟩ := r
      rw [List.map_cons] at e3
      cases e3
      have ih := dget_rel (k := k) (kvs := kvs) rfl r2
      unfold dget valV at ih ⊢
      rw [List.map_cons, List.zip_cons_cons, List.find?_cons, List.find?_cons]
      by_cases h : q = k
      · rw [decide_eq_true h]
        exact ⟨v, rfl, r1⟩
      · rw [decide_eq_false h]
        exact ih
end
section
variable {X : Cx} {E : XK} {a b : Expr} {ma mb : Me} {pos : Pos}
/-- d[k], the key there -/
theorem e_dix (hu : X.A.units + 1 < cLine) (ha : PE X a (te X.K E ma)) (hb : PE X b (te X.K E mb)) (hs : NoSl b := by exact fun _ _ => rfl) : PE X (.Subscript a b pos) (te X.K E (mBin dixF ma mb)) :=
  PE.imp (pe_dget hu ha hb hs) fun σ H Q ⟨ρ, M, env, rl, re, h⟩ => by
    refine te_then rl re h fun x M1 ρ1 H1 v g1 rl1 re1 rv1 h1 => ?_
    refine te_then rl1 re1 h1 fun y M2 ρ2 H2 u g2 rl2 re2 rv2 h2 => ?_
    cases x with
    | dct ks xs =>
      obtain ⟨p, kvs, rfl, ⟨hp, _⟩, hk, r⟩ := RV.mono g2 _ rv1
      have h2 : Fin X.K ρ2 H2 (PV X.K Q) E (match keyW y with | some k => (match dget ks xs k with | some w => R.ok w M2 | none => .no) | none => .no) := h2
      cases q : keyW y with
      | none => rw [q] at h2; exact h2.elim
      | some k =>
        rw [q] at h2
        have z := dget_rel (k := k) hk r
        have h2 : Fin X.K ρ2 H2 (PV X.K Q) E (match dget ks xs k with | some w => R.ok w M2 | none => .no) := h2
        cases q2 : dget ks xs k with
        | none => rw [q2] at h2; exact h2.elim
        | some w =>
          rw [q2] at h2 z
          obtain ⟨v', z1, z2⟩ := z
          refine ⟨p, v', rfl, ?_, fin_val h2 rl2 z2⟩
          rw [key_rel q rv2, ← z1]
          exact DGet.k hp
    | _ => exact h2.elim
end
/-! ### a dict of the module, its keys and values texts -/
structure GD (K : PySem.W.Frag) (w : World) (a : Addr) (tab : List (Str × Str)) : Prop where
  ex : ∃ es n, K.lookup a = some ⟨.type "dict", none, .dict es n, #[]⟩ ∧ PySem.W.KeysLit w.params es.toList ∧ (a == sysModules) = false ∧ ∀ x, (match tab.lookup x with | some y => ∃ t, PySem.W.nsIn K a x = some (some (.str y t)) | none => PySem.W.nsIn K a x = some none)
def gdW (tab : List (Str × Str)) : Wv → Mem → R Wv
  | .str s, M => match tab.lookup s with
    | some y => .ok (.str y) M
    | none => .no
  | _, _ => .no
def mGIn (tab : List (Str × Str)) (neg : Bool) (m : Me) : Mt := fun env M => (m env M).bind fun x M1 => match x with
  | .str s => .ok (neg ^^ (tab.lookup s).isSome) M1
  | _ => .no
section
variable {X : Cx} {E : XK} {b : Expr} {mb : Me} {x : Str} {p pos : Pos} {a : Addr} {tab : List (Str × Str)}
theorem e_gdix (T : GD X.K X.w a tab) (hm : X.mg x = some (.ref a)) (hb : PE X b (te X.K E mb)) (hg : Gl X x := by rfl) (hd : (x == ("__debug__" : Str)) = false := by decide) (hs : PlainIx b := by exact fun _ _ => rfl) : PE X (.Subscript (.Name x p) b pos) (te X.K E (mUn (gdW tab) mb)) :=
  PE.imp (pe_ix ix_kdict (pe_glob (v := .ref a) hg hm rfl hd) hb hs) fun σ H Q ⟨ρ, M, env, rl, re, h⟩ => by
    show te X.K E mb σ H _
    refine te_then rl re h fun y M1 ρ1 H1 v g1 rl1 re1 rv1 h1 => ?_
    obtain ⟨es, n, z1, z2, z3, z4⟩ := T.ex
    cases y with
    | str s =>
      have h1 : Fin X.K ρ1 H1 (PV X.K Q) E (match tab.lookup s with | some y => R.ok (.str y) M1 | none => .no) := h1
      have z5 := z4 s
      cases q : tab.lookup s with
      | none => rw [q] at h1; exact h1.elim
      | some y =>
        rw [q] at h1 z5
        obtain ⟨t, z5⟩ := z5
        exact ⟨a, s, .str y, rfl, rv1, ⟨es, n, _, z1, z2, z5, ⟨t, rfl⟩⟩, fin_val h1 rl1 rfl⟩
    | _ => exact h1.elim
theorem op_gin (T : GD X.K X.w a tab) : OpR X (compareOp .In) (fun x y H Q => ∃ z, x = .str z ∧ y = .ref a ∧ Q (.bl (tab.lookup z).isSome) H) := by
  intro pins s σ H x y v u Q I rx ry ⟨z, ex, ey, q⟩
  subst ex ey
  obtain ⟨t, rfl⟩ := (show ∃ t, v = Value.str z t from rx)
  cases (show u = Value.ref a from ry)
  obtain ⟨es, n, z1, z2, z3, z4⟩ := T.ex
  have hm := PySem.W.mapOf_K (prog := X.prog) (w := X.w) I.kIn z1 z2
  refine wpAny_in_of (strKind_is X.prog X.w z t) z3 hm ?_
  have z5 := z4 z
  refine ⟨.bl (tab.lookup z).isSome, H, I.tok _, ?_, q⟩
  cases q2 : tab.lookup z with
  | none => rw [q2] at z5; rw [PySem.W.find_K z1 z5]; rfl
  | some y => rw [q2] at z5; obtain ⟨t2, z5⟩ := z5; rw [PySem.W.find_K z1 z5]; rfl
theorem op_gni (T : GD X.K X.w a tab) : OpR X (compareOp .NotIn) (fun x y H Q => ∃ z, x = .str z ∧ y = .ref a ∧ Q (.bl (!(tab.lookup z).isSome)) H) := by
  intro pins s σ H x y v u Q I rx ry ⟨z, ex, ey, q⟩
  subst ex ey
  obtain ⟨t, rfl⟩ := (show ∃ t, v = Value.str z t from rx)
  cases (show u = Value.ref a from ry)
  obtain ⟨es, n, z1, z2, z3, z4⟩ := T.ex
  have hm := PySem.W.mapOf_K (prog := X.prog) (w := X.w) I.kIn z1 z2
  refine wpAny_notIn_of (strKind_is X.prog X.w z t) z3 hm ?_
  have z5 := z4 z
  refine ⟨.bl (!(tab.lookup z).isSome), H, I.tok _, ?_, q⟩
  cases q2 : tab.lookup z with
  | none => rw [q2] at z5; rw [PySem.W.find_K z1 z5]; rfl
  | some y => rw [q2] at z5; obtain ⟨t2, z5⟩ := z5; rw [PySem.W.find_K z1 z5]; rfl
theorem t_gin (T : GD X.K X.w a tab) (hm : X.mg x = some (.ref a)) (hb : PE X b (te X.K E mb)) (hg : Gl X x := by rfl) (hd : (x == ("__debug__" : Str)) = false := by decide) (h1 : behindInMarks .In (.Name x p) = false := by rfl) : PT X (.Compare b [.In] [.Name x p] pos) (tt X.K E (mGIn tab false mb)) :=
  PT.imp (pt_cmpR (op_gin T) hb (pe_glob (v := .ref a) hg hm rfl hd) h1) fun σ H Q ⟨ρ, M, env, rl, re, h⟩ => by
    refine te_then rl re h fun y M1 ρ1 H1 v g1 rl1 re1 rv1 h1 => ?_
    cases y with
    | str s => exact ⟨s, rv1, rfl, _, rfl, by simpa [PB] using h1.here rl1⟩
    | _ => exact h1.elim
theorem t_gni (T : GD X.K X.w a tab) (hm : X.mg x = some (.ref a)) (hb : PE X b (te X.K E mb)) (hg : Gl X x := by rfl) (hd : (x == ("__debug__" : Str)) = false := by decide) (h1 : behindInMarks .NotIn (.Name x p) = false := by rfl) : PT X (.Compare b [.NotIn] [.Name x p] pos) (tt X.K E (mGIn tab true mb)) :=
  PT.imp (pt_cmpR (op_gni T) hb (pe_glob (v := .ref a) hg hm rfl hd) h1) fun σ H Q ⟨ρ, M, env, rl, re, h⟩ => by
    refine te_then rl re h fun y M1 ρ1 H1 v g1 rl1 re1 rv1 h1 => ?_
    cases y with
    | str s => exact ⟨s, rv1, rfl, _, rfl, by simpa [PB] using h1.here rl1⟩
    | _ => exact h1.elim
end
end Mi

namespace Mi
open PySem PySem.Spec PyProof.Rows L2
/-! ### methods of lists that change -/
def lstAt (M : Mem) (n : Nat) : Option (List Wv) := match M[n]? with
  | some (.lst xs) => some xs
  | _ => none
def mLm1 (g : Nat → List Wv → Wv → Mem → R Wv) (o e : Me) : Me := fun env M => (o env M).bind fun x M1 => match x with
  | .ref n => if (lstAt M1 n).isSome = true then (e env M1).bind fun y M2 => match lstAt M2 n with
    | some xs => g n xs y M2
    | none => .no else .no
  | _ => .no
def appendW (n : Nat) (xs : List Wv) (y : Wv) (M : Mem) : R Wv := if xs.length < lim then .ok .non (M.set n (.lst (xs ++ [y]))) else .no
def extendW (n : Nat) (xs : List Wv) (y : Wv) (M : Mem) : R Wv := match y with
  | .lst zs => if xs.length + zs.length ≤ lim then .ok .non (M.set n (.lst (xs ++ zs))) else .no
  | .ref k => match lstAt M k with
    | some zs => if xs.length + zs.length ≤ lim then .ok .non (M.set n (.lst (xs ++ zs))) else .no
    | none => .no
  | _ => .no
def mPop (o : Me) : Me := fun env M => (o env M).bind fun x M1 => match x with
  | .ref n => match lstAt M1 n with
    | some xs => match xs[xs.length - 1]? with
      | some y => .ok y (M1.set n (.lst xs.dropLast))
      | none => .no
    | none => .no
  | _ => .no
section
variable {K : PySem.W.Frag} {ρ : Rn} {H : Hp} {M : Mem}
theorem lstAt_rel (rl : Rl K ρ M H) {n : Nat} {xs : List Wv} (e : lstAt M n = some xs) {v : V} (r : RV K ρ H (.ref n) v) : ∃ a vs, v = .ref a ∧ ρ.l[n]? = some a ∧ H a = some (.lst vs) ∧ RVs K ρ H xs vs := by
  unfold lstAt at e
  split at e
  · rename_i ys q
    cases e
    exact rl.lst q r
  · cases e
end
section
variable {X : Cx} {E : XK} {o e : Expr} {mo me : Me} {apos pos : Pos} {name : Str} {id : String}
theorem RVs.dropLast {K : PySem.W.Frag} {ρ : Rn} {H : Hp} {ws : List Wv} {vs : List V} (r : RVs K ρ H ws vs) : RVs K ρ H ws.dropLast vs.dropLast := by
  rw [List.dropLast_eq_take, List.dropLast_eq_take, ← r.length]
  exact RVs.take _ r
theorem e_append (ho : PE X o (te X.K E mo)) (he : PE X e (te X.K E me)) (hs : starEach [e] X.env = (false, eval e X.env) :: starEach [] X.env := by rfl) (hbase : attributeBase o "append" X.env (eval o X.env) = eval o X.env := by rfl) (hline : (apos.endLine == pos.line) = true := by rfl) (hfew : ((backTo pos (starEach [e] X.env)).all (fun x => !x.1) && (backToKw pos (keywordEach [] X.env)).all (fun x => x.1.isSome) && decide ([e].length + ([] : List Keyword).length + (if ([] : List Keyword).isEmpty then 0 else 1) < 30)) = true := by rfl) (hpl : (backTo pos (starEach [] X.env)).any (·.1) = false := by rfl) :
    PE X (.Call (.Attribute o "append" apos) [e] [] pos) (te X.K E (mLm1 appendW mo me)) :=
  PE.imp (pe_bm PySem.F.plainAttrs_list PySem.F.slot_list_append PySem.F.type_list_append mt_append ho (pa_cons he pa_nil hs) hbase hfew hline hs hpl) fun σ H Q ⟨ρ, M, env, rl, re, f⟩ => by
    refine te_then rl re f fun x M1 ρ1 H1 v g1 rl1 re1 rv1 f1 => ?_
    cases x with
    | ref n =>
      obtain ⟨h0, f1⟩ := pick f1
      obtain ⟨xs, hx⟩ := Option.isSome_iff_exists.mp h0
      obtain ⟨a, vs, rfl, ha, h1, h2⟩ := lstAt_rel rl1 hx rv1
      refine ⟨.inl ⟨rfl, _, SqL.of h1⟩, te_then rl1 re1 f1 fun y M2 ρ2 H2 u g2 rl2 re2 rv2 f2 => ?_⟩
      cases q : lstAt M2 n with
      | none => rw [q] at f2; exact f2.elim
      | some ys =>
        rw [q] at f2
        obtain ⟨h3, f2⟩ := pick f2
        obtain ⟨b, us, eb, hb, h4, h5⟩ := lstAt_rel rl2 q (RV.mono g2 _ rv1)
        cases eb
        have gg : Gr ρ2 H2 ρ2 (upd H2 a (.lst (us ++ [u]))) := Gr.write hb
        exact ⟨a, us, u, rfl, rfl, h4, by rw [← h5.length]; exact lim_lt h3, f2 ρ2 _ gg (rl2.write hb ⟨_, upd_same, (RVs.mono gg ys h5).append ⟨u, [], rfl, RV.mono gg y rv2, rfl⟩⟩) _ rfl⟩
    | _ => exact f1.elim
theorem e_extend (ho : PE X o (te X.K E mo)) (he : PE X e (te X.K E me)) (hs : starEach [e] X.env = (false, eval e X.env) :: starEach [] X.env := by rfl) (hbase : attributeBase o "extend" X.env (eval o X.env) = eval o X.env := by rfl) (hline : (apos.endLine == pos.line) = true := by rfl) (hfew : ((backTo pos (starEach [e] X.env)).all (fun x => !x.1) && (backToKw pos (keywordEach [] X.env)).all (fun x => x.1.isSome) && decide ([e].length + ([] : List Keyword).length + (if ([] : List Keyword).isEmpty then 0 else 1) < 30)) = true := by rfl) (hpl : (backTo pos (starEach [] X.env)).any (·.1) = false := by rfl) :
    PE X (.Call (.Attribute o "extend" apos) [e] [] pos) (te X.K E (mLm1 extendW mo me)) :=
  PE.imp (pe_bm PySem.F.plainAttrs_list PySem.F.slot_list_extend PySem.F.type_list_extend mt_extend ho (pa_cons he pa_nil hs) hbase hfew hline hs hpl) fun σ H Q ⟨ρ, M, env, rl, re, f⟩ => by
    refine te_then rl re f fun x M1 ρ1 H1 v g1 rl1 re1 rv1 f1 => ?_
    cases x with
    | ref n =>
      obtain ⟨h0, f1⟩ := pick f1
      obtain ⟨xs, hx⟩ := Option.isSome_iff_exists.mp h0
      obtain ⟨a, vs, rfl, ha, h1, h2⟩ := lstAt_rel rl1 hx rv1
      refine ⟨.inl ⟨rfl, _, SqL.of h1⟩, te_then rl1 re1 f1 fun y M2 ρ2 H2 u g2 rl2 re2 rv2 f2 => ?_⟩
      cases q : lstAt M2 n with
      | none => rw [q] at f2; exact f2.elim
      | some ys =>
        rw [q] at f2
        obtain ⟨b, us, eb, hb, h4, h5⟩ := lstAt_rel rl2 q (RV.mono g2 _ rv1)
        cases eb
        have fin : ∀ {zs : List Wv} {c : Addr} {ts : List V}, u = .ref c → H2 c = some (.lst ts) → RVs X.K ρ2 H2 zs ts → Fin X.K ρ2 H2 (PV X.K Q) E (if ys.length + zs.length ≤ lim then R.ok .non (M2.set n (.lst (ys ++ zs))) else .no) → rExtend (.ref a) [u] H2 Q := fun {zs c ts} eu hc h6 f3 => by
          obtain ⟨h7, f3⟩ := pick f3
          have gg : Gr ρ2 H2 ρ2 (upd H2 a (.lst (us ++ ts))) := Gr.write hb
          exact ⟨a, c, us, ts, rfl, by rw [eu], h4, hc, by rw [← h5.length, ← h6.length]; exact lim_le h7, f3 ρ2 _ gg (rl2.write hb ⟨_, upd_same, (RVs.mono gg ys h5).append (RVs.mono gg zs h6)⟩) _ rfl⟩
        cases y with
        | lst zs =>
          obtain ⟨c, ts, eu, ⟨hc, _⟩, h6⟩ := rv2
          exact fin eu hc h6 f2
        | ref k =>
          have f2 : Fin X.K ρ2 H2 (PV X.K Q) E (match lstAt M2 k with | some zs => if ys.length + zs.length ≤ lim then R.ok .non (M2.set n (.lst (ys ++ zs))) else .no | none => .no) := f2
          cases q3 : lstAt M2 k with
          | none => rw [q3] at f2; exact f2.elim
          | some zs =>
            rw [q3] at f2
            obtain ⟨c, ts, eu, _, hc, h6⟩ := lstAt_rel rl2 q3 rv2
            exact fin eu hc h6 f2
        | _ => exact f2.elim
    | _ => exact f1.elim
theorem e_pop (ho : PE X o (te X.K E mo)) (hbase : attributeBase o "pop" X.env (eval o X.env) = eval o X.env := by rfl) (hline : (apos.endLine == pos.line) = true := by rfl) : PE X (.Call (.Attribute o "pop" apos) [] [] pos) (te X.K E (mPop mo)) :=
  PE.imp (pe_bm0 PySem.F.plainAttrs_list PySem.F.slot_list_pop PySem.F.type_list_pop mt_pop ho hbase hline) fun σ H Q ⟨ρ, M, env, rl, re, f⟩ => by
    refine te_then rl re f fun x M1 ρ1 H1 v g1 rl1 re1 rv1 f1 => ?_
    cases x with
    | ref n =>
      have f1 : Fin X.K ρ1 H1 (PV X.K Q) E (match lstAt M1 n with | some xs => (match xs[xs.length - 1]? with | some y => R.ok y (M1.set n (.lst xs.dropLast)) | none => .no) | none => .no) := f1
      cases q : lstAt M1 n with
      | none => rw [q] at f1; exact f1.elim
      | some xs =>
        rw [q] at f1
        obtain ⟨a, vs, rfl, ha, h1, h2⟩ := lstAt_rel rl1 q rv1
        have f1 : Fin X.K ρ1 H1 (PV X.K Q) E (match xs[xs.length - 1]? with | some y => R.ok y (M1.set n (.lst xs.dropLast)) | none => .no) := f1
        cases q2 : xs[xs.length - 1]? with
        | none => rw [q2] at f1; exact f1.elim
        | some y =>
          rw [q2] at f1
          obtain ⟨u, h3, h4⟩ := h2.get q2
          have gg : Gr ρ1 H1 ρ1 (upd H1 a (.lst vs.dropLast)) := Gr.write ha
          refine ⟨.inl ⟨rfl, _, SqL.of h1⟩, a, vs, u, rfl, rfl, h1, by rw [← h2.length]; exact h3, f1 ρ1 _ gg (rl1.write ha ⟨_, upd_same, RVs.mono gg _ h2.dropLast⟩) _ (RV.mono gg y h4)⟩
    | _ => exact f1.elim
end
end Mi

namespace Mi
open PySem PySem.Spec PyProof.Rows L2
/-! ### zip(xs, s): a list or tuple, and the signs of a text -/
/-- the cells of a zip over an iterator of the object at a and one of a text -/
structure ZsApart (z TI TO i1 i2 a : Addr) : Prop where
  s : ZipSep2 z TI TO i1 i2 [i1, a] [i2]
  ne : a ≠ i1
  i1z : i1 ≠ z
  i2z : i2 ≠ z
theorem nin2 {x a b : Nat} (h1 : x ≠ a) (h2 : x ≠ b) : x ∉ [a, b] := fun q => by
  rcases List.mem_cons.mp q with q | q
  · exact h1 q
  · exact h2 (List.mem_singleton.mp q)
theorem nin1 {x a : Nat} (h1 : x ≠ a) : x ∉ [a] := fun q => h1 (List.mem_singleton.mp q)
theorem zs_apart (I a : Nat) (h : a < I) : ZsApart (I + 4) (I + 2) (I + 3) I (I + 1) a :=
  ⟨⟨show I + 2 ≠ I + 4 by omega, show I + 3 ≠ I + 4 by omega, show I + 2 ≠ I + 3 by omega, show I + 2 ≠ I by omega, List.mem_cons_self, nin2 (by omega) (by omega), nin2 (by omega) (by omega), show I + 2 ≠ I + 1 by omega, List.mem_cons_self, nin1 (by omega), nin1 (by omega), nin1 (by omega), nin2 (by omega) (by omega)⟩,
    show a ≠ I by omega, show I ≠ I + 4 by omega, show I + 1 ≠ I + 4 by omega⟩
def ItzS_T (K : PySem.W.Frag) (a : Addr) (x : Str) : It :=
  ⟨fun i H => ∃ (xs : List V) (v : V), SqT K H a xs ∧ xs[i]? = some v ∧ i < x.cps.size,
    fun i H v H' => ∃ T y c, v = .ref T ∧ H T = none ∧ H' = upd H T (.tup [y, .str ⟨#[c]⟩]) ∧ (∀ xs, SqT K H a xs → xs[i]? = some y) ∧ x.cps[i]? = some c,
    fun i H => ∃ xs : List V, SqT K H a xs ∧ i ≤ xs.length ∧ i ≤ x.cps.size ∧ (i = xs.length ∨ i = x.cps.size)⟩
theorem turn_zipS_T {P : Program} {w : World} {K : PySem.W.Frag} {elts : List Expr} {kk : Nat} {tpos : Pos} {a z TI TO i1 i2 : Addr} {x : Str} {t : Tok} (D : ZsApart z TI TO i1 i2 a) :
    Turn P w K (.Tuple elts kk tpos) (ItzS_T K a x) [z, TI, TO, i1, i2] z (fun i h => IsZip h z TI TO .none ∧ IsTupOf2 h TI (.ref i1) (.ref i2) ∧ (∃ x y, IsTupOf2 h TO x y) ∧ h.IsTupleIter i1 a i ∧ h.IsStrIter i2 (strIterType x) x t i) where
  mem := by simp
  obj := fun i h st c hc => by
    obtain ⟨hz, hTI, ⟨x, y, hTO⟩, ⟨o1, e1, _, d1⟩, ⟨o2, e2, _, d2⟩⟩ := st
    have e' : c = z ∨ c = TI ∨ c = TO ∨ c = i1 ∨ c = i2 := by simpa using hc
    rcases e' with q | q | q | q | q
    · rw [q]; exact ⟨_, hz, fun v q => nomatch q⟩
    · rw [q]; exact ⟨_, hTI, fun v q => nomatch q⟩
    · rw [q]; exact ⟨_, hTO, fun v q => nomatch q⟩
    · rw [q]; exact ⟨o1, e1, fun v q => by rw [d1] at q; cases q⟩
    · rw [q]; exact ⟨o2, e2, fun v q => by rw [d2] at q; cases q⟩
  keep := fun i h h' st k => by
    obtain ⟨hz, hTI, ⟨x, y, hTO⟩, h1, ⟨o2, e2, r2⟩⟩ := st
    exact ⟨k z (by simp) _ hz, k TI (by simp) _ hTI, ⟨x, y, k TO (by simp) _ hTO⟩, h1.at fun o q => k i1 (by simp) o q, ⟨o2, k i2 (by simp) o2 e2, r2⟩⟩
  item := by
    intro X hP hw hK hc i pins s σ H E I hf st hg
    subst hP hw hK
    obtain ⟨hz, hTI, ⟨x0, y0, hTO⟩, h1, h2⟩ := st
    obtain ⟨xs, v, hqx, hx, hlt⟩ := hg
    obtain ⟨its, rv, p, _⟩ := I.tuple hqx
    obtain ⟨u, hu, ru⟩ := rv.get hx
    have hzl : z < s.heap.objs.size := Heap.lt_size hz
    have D1 := Draws.tuple (prog := X.prog) (w := X.w) (A := X.A.in1) (I.ok.hd hc) i1 a D.ne its.toArray
    have D2 := Draws.text (prog := X.prog) (w := X.w) (A := X.A.in1) (I.ok.hd hc) i2 x t
    have hlt1 : i < its.toArray.size := by simpa using (List.getElem?_eq_some_iff.mp hu).1
    refine wpAny_pyNext_zipD2_item D.s D1 D2 hz hTI hTO (i := i) ⟨h1, p⟩ h2 hlt1 hlt fun x1 x2 h' tk hp1 hp2 z' TO' h1' h2' hT hsz hk => ?_
    obtain ⟨c, u2, hcx, rfl⟩ := hp2
    have ex1 : x1 = u := by
      have e := hp1.symm.trans (show its.toArray[i]? = some u by simpa using hu)
      exact Option.some.inj e
    subst ex1
    refine ⟨_, rfl, wpAny_letOwnedTupleGo_zip (s := { s with heap := h', toks := tk }) z' fun h'' z'' sb => ?_⟩
    have hT2 : h''.get? s.heap.objs.size = some { cls := .type "tuple", data := .seq #[x1, .str ⟨#[c]⟩ u2] } := (sb.2 _ (Nat.ne_of_gt hzl)).trans hT
    have new : ObjOk X.prog X.w (upd H s.heap.objs.size (.tup [v, .str ⟨#[c]⟩])) h'' s.heap.objs.size (.tup [v, .str ⟨#[c]⟩]) :=
      ⟨by show 2 ≤ sizeLine; decide, [x1, .str ⟨#[c]⟩ u2], .cons ru (.cons ⟨u2, rfl⟩ .nil), ⟨_, hT2, rfl, _, rfl⟩⟩
    have I1 : Inv X pins σ (upd H s.heap.objs.size (.tup [v, .str ⟨#[c]⟩])) { s with heap := h'', toks := tk } :=
      I.turnedNew (t' := tk) (ch := [z, TI, TO, i1, i2]) (fun c o hb q => (sb.2 c (fun q' => hb (by simp [q']))).trans (hk c o (fun q' => hb (by simp [q'])) (fun q' => hb (by simp [q'])) (fun q' => hb (by simp [q'])) (fun q' => hb (by simp [q'])) q)) hf (Nat.le_refl _) new
    refine ⟨.ref s.heap.objs.size, _, I1, rfl, ⟨_, v, c, rfl, I.hok.fresh (Nat.le_refl _), rfl, fun l hl => by rw [I.tuple_inj hl hqx]; exact hx, hcx⟩, ⟨z'', ?_, ⟨x1, .str ⟨#[c]⟩ u2, ?_⟩, ?_, ?_⟩, fun c hcm => ?_⟩
    · exact (sb.2 _ D.s.TIz).trans (hk _ _ D.s.TIz D.s.TITO D.s.TIi1 D.s.TIi2 hTI)
    · exact (sb.2 _ D.s.TOz).trans TO'
    · exact h1'.1.at fun o q => (sb.2 _ D.i1z).trans q
    · obtain ⟨o2, e2, r2⟩ := h2'
      exact ⟨o2, (sb.2 _ D.i2z).trans e2, r2⟩
    · have hlt : c < s.heap.objs.size := by
        have e' : c = z ∨ c = TI ∨ c = TO ∨ c = i1 ∨ c = i2 := by simpa using hcm
        rcases e' with q | q | q | q | q
        · rw [q]; exact hzl
        · rw [q]; exact Heap.lt_size hTI
        · rw [q]; exact Heap.lt_size hTO
        · rw [q]; obtain ⟨_, e1, _⟩ := h1; exact Heap.lt_size e1
        · rw [q]; obtain ⟨_, e2, _⟩ := h2; exact Heap.lt_size e2
      rw [upd_ne (Nat.ne_of_lt hlt)]
      exact (hf c hcm).1
  done := by
    intro X hP hw hK hc i pins s σ H E I hf st hg
    subst hP hw hK
    obtain ⟨hz, hTI, ⟨x0, y0, hTO⟩, h1, h2⟩ := st
    obtain ⟨xs, hqx, hl1, hl2, hend⟩ := hg
    obtain ⟨its, rv, p, _⟩ := I.tuple hqx
    have l1 := rv.length
    have D1 := Draws.tuple (prog := X.prog) (w := X.w) (A := X.A.in1) (I.ok.hd hc) i1 a D.ne its.toArray
    have D2 := Draws.text (prog := X.prog) (w := X.w) (A := X.A.in1) (I.ok.hd hc) i2 x t
    exact wpAny_pyNext_zipD2_end D.s D1 D2 hz hTI hTO (i := i) ⟨h1, p⟩ h2 (by simp; omega) hl2 (hend.imp (fun q => by simp; omega) id) fun h' tk hk => ⟨rfl, I.turnedL (t' := tk) (ch := [z, TI, TO, i1, i2]) (fun c o hb q =>
      hk c o (fun q' => hb (by simp [q'])) (fun q' => hb (by simp [q'])) (fun q' => hb (by simp [q'])) (fun q' => hb (by simp [q'])) q) hf⟩
  self := fun A i s Q E st h => wpAny_pyIter_zip st.1 h
def ItzS_L (K : PySem.W.Frag) (a : Addr) (x : Str) : It :=
  ⟨fun i H => ∃ (xs : List V) (v : V), SqL K H a xs ∧ xs[i]? = some v ∧ i < x.cps.size,
    fun i H v H' => ∃ T y c, v = .ref T ∧ H T = none ∧ H' = upd H T (.tup [y, .str ⟨#[c]⟩]) ∧ (∀ xs, SqL K H a xs → xs[i]? = some y) ∧ x.cps[i]? = some c,
    fun i H => ∃ xs : List V, SqL K H a xs ∧ i ≤ xs.length ∧ i ≤ x.cps.size ∧ (i = xs.length ∨ i = x.cps.size)⟩
theorem turn_zipS_L {P : Program} {w : World} {K : PySem.W.Frag} {elts : List Expr} {kk : Nat} {tpos : Pos} {a z TI TO i1 i2 : Addr} {x : Str} {t : Tok} (D : ZsApart z TI TO i1 i2 a) :
    Turn P w K (.Tuple elts kk tpos) (ItzS_L K a x) [z, TI, TO, i1, i2] z (fun i h => IsZip h z TI TO .none ∧ IsTupOf2 h TI (.ref i1) (.ref i2) ∧ (∃ x y, IsTupOf2 h TO x y) ∧ h.IsListIter i1 a i ∧ h.IsStrIter i2 (strIterType x) x t i) where
  mem := by simp
  obj := fun i h st c hc => by
    obtain ⟨hz, hTI, ⟨x, y, hTO⟩, ⟨o1, e1, _, d1⟩, ⟨o2, e2, _, d2⟩⟩ := st
    have e' : c = z ∨ c = TI ∨ c = TO ∨ c = i1 ∨ c = i2 := by simpa using hc
    rcases e' with q | q | q | q | q
    · rw [q]; exact ⟨_, hz, fun v q => nomatch q⟩
    · rw [q]; exact ⟨_, hTI, fun v q => nomatch q⟩
    · rw [q]; exact ⟨_, hTO, fun v q => nomatch q⟩
    · rw [q]; exact ⟨o1, e1, fun v q => by rw [d1] at q; cases q⟩
    · rw [q]; exact ⟨o2, e2, fun v q => by rw [d2] at q; cases q⟩
  keep := fun i h h' st k => by
    obtain ⟨hz, hTI, ⟨x, y, hTO⟩, h1, ⟨o2, e2, r2⟩⟩ := st
    exact ⟨k z (by simp) _ hz, k TI (by simp) _ hTI, ⟨x, y, k TO (by simp) _ hTO⟩, h1.at fun o q => k i1 (by simp) o q, ⟨o2, k i2 (by simp) o2 e2, r2⟩⟩
  item := by
    intro X hP hw hK hc i pins s σ H E I hf st hg
    subst hP hw hK
    obtain ⟨hz, hTI, ⟨x0, y0, hTO⟩, h1, h2⟩ := st
    obtain ⟨xs, v, hqx, hx, hlt⟩ := hg
    obtain ⟨its, rv, p, _⟩ := I.list hqx
    obtain ⟨u, hu, ru⟩ := rv.get hx
    have hzl : z < s.heap.objs.size := Heap.lt_size hz
    have D1 := Draws.list (prog := X.prog) (w := X.w) (A := X.A.in1) (I.ok.hd hc) i1 a D.ne its.toArray
    have D2 := Draws.text (prog := X.prog) (w := X.w) (A := X.A.in1) (I.ok.hd hc) i2 x t
    have hlt1 : i < its.toArray.size := by simpa using (List.getElem?_eq_some_iff.mp hu).1
    refine wpAny_pyNext_zipD2_item D.s D1 D2 hz hTI hTO (i := i) ⟨h1, p.isList⟩ h2 hlt1 hlt fun x1 x2 h' tk hp1 hp2 z' TO' h1' h2' hT hsz hk => ?_
    obtain ⟨c, u2, hcx, rfl⟩ := hp2
    have ex1 : x1 = u := by
      have e := hp1.symm.trans (show its.toArray[i]? = some u by simpa using hu)
      exact Option.some.inj e
    subst ex1
    refine ⟨_, rfl, wpAny_letOwnedTupleGo_zip (s := { s with heap := h', toks := tk }) z' fun h'' z'' sb => ?_⟩
    have hT2 : h''.get? s.heap.objs.size = some { cls := .type "tuple", data := .seq #[x1, .str ⟨#[c]⟩ u2] } := (sb.2 _ (Nat.ne_of_gt hzl)).trans hT
    have new : ObjOk X.prog X.w (upd H s.heap.objs.size (.tup [v, .str ⟨#[c]⟩])) h'' s.heap.objs.size (.tup [v, .str ⟨#[c]⟩]) :=
      ⟨by show 2 ≤ sizeLine; decide, [x1, .str ⟨#[c]⟩ u2], .cons ru (.cons ⟨u2, rfl⟩ .nil), ⟨_, hT2, rfl, _, rfl⟩⟩
    have I1 : Inv X pins σ (upd H s.heap.objs.size (.tup [v, .str ⟨#[c]⟩])) { s with heap := h'', toks := tk } :=
      I.turnedNew (t' := tk) (ch := [z, TI, TO, i1, i2]) (fun c o hb q => (sb.2 c (fun q' => hb (by simp [q']))).trans (hk c o (fun q' => hb (by simp [q'])) (fun q' => hb (by simp [q'])) (fun q' => hb (by simp [q'])) (fun q' => hb (by simp [q'])) q)) hf (Nat.le_refl _) new
    refine ⟨.ref s.heap.objs.size, _, I1, rfl, ⟨_, v, c, rfl, I.hok.fresh (Nat.le_refl _), rfl, fun l hl => by rw [I.list_inj hl hqx]; exact hx, hcx⟩, ⟨z'', ?_, ⟨x1, .str ⟨#[c]⟩ u2, ?_⟩, ?_, ?_⟩, fun c hcm => ?_⟩
    · exact (sb.2 _ D.s.TIz).trans (hk _ _ D.s.TIz D.s.TITO D.s.TIi1 D.s.TIi2 hTI)
    · exact (sb.2 _ D.s.TOz).trans TO'
    · exact h1'.1.at fun o q => (sb.2 _ D.i1z).trans q
    · obtain ⟨o2, e2, r2⟩ := h2'
      exact ⟨o2, (sb.2 _ D.i2z).trans e2, r2⟩
    · have hlt : c < s.heap.objs.size := by
        have e' : c = z ∨ c = TI ∨ c = TO ∨ c = i1 ∨ c = i2 := by simpa using hcm
        rcases e' with q | q | q | q | q
        · rw [q]; exact hzl
        · rw [q]; exact Heap.lt_size hTI
        · rw [q]; exact Heap.lt_size hTO
        · rw [q]; obtain ⟨_, e1, _⟩ := h1; exact Heap.lt_size e1
        · rw [q]; obtain ⟨_, e2, _⟩ := h2; exact Heap.lt_size e2
      rw [upd_ne (Nat.ne_of_lt hlt)]
      exact (hf c hcm).1
  done := by
    intro X hP hw hK hc i pins s σ H E I hf st hg
    subst hP hw hK
    obtain ⟨hz, hTI, ⟨x0, y0, hTO⟩, h1, h2⟩ := st
    obtain ⟨xs, hqx, hl1, hl2, hend⟩ := hg
    obtain ⟨its, rv, p, _⟩ := I.list hqx
    have l1 := rv.length
    have D1 := Draws.list (prog := X.prog) (w := X.w) (A := X.A.in1) (I.ok.hd hc) i1 a D.ne its.toArray
    have D2 := Draws.text (prog := X.prog) (w := X.w) (A := X.A.in1) (I.ok.hd hc) i2 x t
    exact wpAny_pyNext_zipD2_end D.s D1 D2 hz hTI hTO (i := i) ⟨h1, p.isList⟩ h2 (by simp; omega) hl2 (hend.imp (fun q => by simp; omega) id) fun h' tk hk => ⟨rfl, I.turnedL (t' := tk) (ch := [z, TI, TO, i1, i2]) (fun c o hb q =>
      hk c o (fun q' => hb (by simp [q'])) (fun q' => hb (by simp [q'])) (fun q' => hb (by simp [q'])) (fun q' => hb (by simp [q'])) q) hf⟩
  self := fun A i s Q E st h => wpAny_pyIter_zip st.1 h
def iZipS (K : PySem.W.Frag) (ta : TA) : TI := fun σ H R => ta σ H fun vs H1 => ∃ a x xs, vs = [.ref a, .str x] ∧ ((SqL K H1 a xs ∧ R (ItzS_L K a x) H1) ∨ (SqT K H1 a xs ∧ R (ItzS_T K a x) H1))
theorem pi_zipS {X : Cx} {e e2 : Expr} {ta : TA} {p pos tpos : Pos} {elts : List Expr} {kk : Nat} (hg : Gl X "zip") (hm : X.mg "zip" = none) (ha : PA X [e, e2] ta)
    (hs : starEach [e, e2] X.env = (false, eval e X.env) :: starEach [e2] X.env := by rfl) (hpl : (backTo pos (starEach [e2] X.env)).any (·.1) = false := by rfl) :
    PI X (.Tuple elts kk tpos) (.Call (.Name "zip" p) [e, e2] [] pos) (iZipS X.K ta) := by
  refine ⟨fun pins s σ H R I h => ?_⟩
  refine Call_ (ld_blt I hg hm PyProof.Rows.boot_zip (PyProof.Rows.callWith_type1 (thn (ha.run pos pins s σ H _ I h) fun us s1 ⟨vs, H1, I1, r1, q1⟩ => ?_) hs hpl))
  obtain ⟨a, x, xs, ex, q1⟩ := q1
  subst ex
  obtain ⟨u1, u2, rfl, ra, rx⟩ := vals2 r1
  obtain rfl : u1 = Value.ref a := ra
  obtain ⟨t, rfl⟩ := (show ∃ t, u2 = Value.str x t from rx)
  have fresh5 : ∀ c, c ∈ [s1.heap.objs.size + 4, s1.heap.objs.size + 2, s1.heap.objs.size + 3, s1.heap.objs.size, s1.heap.objs.size + 1] → FpOk X pins H1 c := fun c hcm => by
    have e' : c = s1.heap.objs.size + 4 ∨ c = s1.heap.objs.size + 2 ∨ c = s1.heap.objs.size + 3 ∨ c = s1.heap.objs.size ∨ c = s1.heap.objs.size + 1 := by simpa using hcm
    have hle : s1.heap.objs.size ≤ c := by
      rcases e' with z | z | z | z | z
      · rw [z]; exact Nat.le_add_right _ _
      · rw [z]; exact Nat.le_add_right _ _
      · rw [z]; exact Nat.le_add_right _ _
      · rw [z]; exact Nat.le_refl _
      · rw [z]; exact Nat.le_add_right _ _
    exact I1.fpOk hle (I1.hok.fresh hle)
  rcases q1 with ⟨hqx, q⟩ | ⟨hqx, q⟩
  · obtain ⟨its, rv, p1, _⟩ := I1.list hqx
    refine zip_begins2 (begins_list a its.toArray) (begins_text x t) p1.isList trivial fun h' hz hTI hTO h1 h2 hsz hk => wpAny_pyIter_zip hz ?_
    have I2 : Inv X pins σ H1 { s1 with heap := h' } := I1.kept (t' := s1.toks) hk
    exact ⟨s1.heap.objs.size + 4, [s1.heap.objs.size + 4, s1.heap.objs.size + 2, s1.heap.objs.size + 3, s1.heap.objs.size, s1.heap.objs.size + 1], _, _, H1, rfl, I2, turn_zipS_L (t := t) (zs_apart s1.heap.objs.size a p1.lt), ⟨hz, hTI, ⟨_, _, hTO⟩, ⟨_, h1, rfl, rfl⟩, ⟨_, h2, rfl, rfl⟩⟩, fresh5, q⟩
  · obtain ⟨its, rv, p1, _⟩ := I1.tuple hqx
    obtain ⟨o1, ho1, _⟩ := id p1
    refine zip_begins2 (begins_tuple a its.toArray) (begins_text x t) p1 trivial fun h' hz hTI hTO h1 h2 hsz hk => wpAny_pyIter_zip hz ?_
    have I2 : Inv X pins σ H1 { s1 with heap := h' } := I1.kept (t' := s1.toks) hk
    exact ⟨s1.heap.objs.size + 4, [s1.heap.objs.size + 4, s1.heap.objs.size + 2, s1.heap.objs.size + 3, s1.heap.objs.size, s1.heap.objs.size + 1], _, _, H1, rfl, I2, turn_zipS_T (t := t) (zs_apart s1.heap.objs.size a (Heap.lt_size ho1)), ⟨hz, hTI, ⟨_, _, hTO⟩, ⟨_, h1, rfl, rfl⟩, ⟨_, h2, rfl, rfl⟩⟩, fresh5, q⟩
end Mi

namespace Mi
open PySem PySem.Spec PyProof.Rows L2
def signs (x : Str) : List Wv := x.cps.toList.map fun c => .str ⟨#[c]⟩
def zipL (xs ys : List Wv) : List Wv := (xs.zip ys).map fun p => .tup [p.1, p.2]
def mZipS (a b : Me) : Mi' := fun env M => (a env M).bind fun x M1 => (b env M1).bind fun y M2 => match x, y with
  | .lst xs, .str s => .ok (zipL xs (signs s)) M2
  | .rdl xs, .str s => .ok (zipL xs (signs s)) M2
  | .tup xs, .str s => .ok (zipL xs (signs s)) M2
  | _, _ => .no
section
variable {X : Cx} {E : XK} {a b : Expr} {elts : List Expr} {kk : Nat} {ma mb : Me} {p pos tpos : Pos}
theorem zipL_get {xs : List Wv} {s : Str} {i : Nat} {w : Wv} (h : (zipL xs (signs s))[i]? = some w) : ∃ x c, xs[i]? = some x ∧ s.cps[i]? = some c ∧ w = .tup [x, .str ⟨#[c]⟩] := by
  unfold zipL signs at h
  rw [List.getElem?_map] at h
  obtain ⟨q, h1, rfl⟩ := Option.map_eq_some_iff.mp h
  obtain ⟨x, y⟩ := q
  obtain ⟨h2, h3⟩ := List.getElem?_zip_eq_some.mp h1
  rw [List.getElem?_map] at h3
  obtain ⟨c, h4, h5⟩ := Option.map_eq_some_iff.mp h3
  have h5 : Wv.str ⟨#[c]⟩ = y := h5
  subst h5
  exact ⟨x, c, h2, by simpa using h4, rfl⟩
theorem zipL_len (xs : List Wv) (s : Str) : (zipL xs (signs s)).length = min xs.length s.cps.size := by
  unfold zipL signs
  simp
theorem it_zs_L {K : PySem.W.Frag} {ρ : Rn} {H : Hp} {b : Addr} {vs : List V} {ws : List Wv} {x : Str} (h : ∀ ρ' H', Mv ρ H ρ' H' → SqL K H' b vs) (r : RVs K ρ H ws vs) : ItOk K (ItzS_L K b x) (zipL ws (signs x)) ρ H := by
  have hl := r.length
  refine ⟨fun ρ' H' g i hi => ?_, fun ρ' H' g i y H2 w hw yy => ?_, fun ρ' H' g => ?_⟩
  · rw [zipL_len] at hi
    exact ⟨vs, vs[i]'(by omega), h ρ' H' g, List.getElem?_eq_getElem (by omega), by omega⟩
  · obtain ⟨T, z, c, rfl, hT, rfl, hz, hc⟩ := yy
    obtain ⟨w', c', h1, h2, rfl⟩ := zipL_get hw
    obtain ⟨v, h3, h4⟩ := (RVs.move g ws r).get h1
    have e : z = v := Option.some.inj ((hz vs (h ρ' H' g)).symm.trans h3)
    have e2 : c = c' := Option.some.inj (hc.symm.trans h2)
    subst e e2
    have gg : Gr ρ' H' ρ' (upd H' T (.tup [z, .str ⟨#[c]⟩])) := Gr.fresh hT
    exact ⟨gg, fun M rl => ⟨rl.upd hT, T, [z, .str ⟨#[c]⟩], rfl, ⟨upd_same, rl.out hT⟩, z, _, rfl, RV.mono gg w' h4, _, [], rfl, rfl, rfl⟩⟩
  · rw [zipL_len]
    exact ⟨vs, h ρ' H' g, by omega, by omega, by omega⟩
theorem it_zs_T {K : PySem.W.Frag} {ρ : Rn} {H : Hp} {b : Addr} {vs : List V} {ws : List Wv} {x : Str} (h : ∀ ρ' H', Mv ρ H ρ' H' → SqT K H' b vs) (r : RVs K ρ H ws vs) : ItOk K (ItzS_T K b x) (zipL ws (signs x)) ρ H := by
  have hl := r.length
  refine ⟨fun ρ' H' g i hi => ?_, fun ρ' H' g i y H2 w hw yy => ?_, fun ρ' H' g => ?_⟩
  · rw [zipL_len] at hi
    exact ⟨vs, vs[i]'(by omega), h ρ' H' g, List.getElem?_eq_getElem (by omega), by omega⟩
  · obtain ⟨T, z, c, rfl, hT, rfl, hz, hc⟩ := yy
    obtain ⟨w', c', h1, h2, rfl⟩ := zipL_get hw
    obtain ⟨v, h3, h4⟩ := (RVs.move g ws r).get h1
    have e : z = v := Option.some.inj ((hz vs (h ρ' H' g)).symm.trans h3)
    have e2 : c = c' := Option.some.inj (hc.symm.trans h2)
    subst e e2
    have gg : Gr ρ' H' ρ' (upd H' T (.tup [z, .str ⟨#[c]⟩])) := Gr.fresh hT
    exact ⟨gg, fun M rl => ⟨rl.upd hT, T, [z, .str ⟨#[c]⟩], rfl, ⟨upd_same, rl.out hT⟩, z, _, rfl, RV.mono gg w' h4, _, [], rfl, rfl, rfl⟩⟩
  · rw [zipL_len]
    exact ⟨vs, h ρ' H' g, by omega, by omega, by omega⟩
theorem i_zipS (hm : X.mg "zip" = none) (ha : PE X a (te X.K E ma)) (hb : PE X b (te X.K E mb)) (hg : Gl X "zip" := by rfl) (hs : starEach [a, b] X.env = (false, eval a X.env) :: starEach [b] X.env := by rfl) (hs2 : starEach [b] X.env = (false, eval b X.env) :: starEach [] X.env := by rfl) (hpl : (backTo pos (starEach [b] X.env)).any (·.1) = false := by rfl) :
    PI X (.Tuple elts kk tpos) (.Call (.Name "zip" p) [a, b] [] pos) (ti X.K E (mZipS ma mb)) :=
  PI.imp (pi_zipS hg hm (pa_cons ha (pa_cons hb pa_nil hs2) hs) hs hpl) fun σ H R ⟨ρ, M, env, rl, re, f⟩ => by
    refine te_then rl re f fun x M1 ρ1 H1 v g1 rl1 re1 rv1 f1 => ?_
    refine te_then rl1 re1 f1 fun y M2 ρ2 H2 u g2 rl2 re2 rv2 f2 => ?_
    show ∃ a x xs, [v, u] = [.ref a, .str x] ∧ _
    cases y with
    | str s =>
      cases (show u = .str s from rv2)
      have rv3 := RV.mono g2 x rv1
      cases x with
      | lst xs =>
        obtain ⟨c, vs, rfl, h, r⟩ := rv3
        exact ⟨c, s, vs, rfl, .inl ⟨SqL.of h.1, f2.here rl2 _ (it_zs_L (fun ρ' H' g => SqL.of (g.go _ _ h).1) r)⟩⟩
      | rdl xs =>
        obtain ⟨c, vs, rfl, h, r⟩ := rv3
        exact ⟨c, s, vs, rfl, .inl ⟨sq_l h, f2.here rl2 _ (it_zs_L (fun ρ' H' g => sq_l (h.imp g.rd id)) r)⟩⟩
      | tup xs =>
        obtain ⟨c, vs, rfl, h, r⟩ := rv3
        exact ⟨c, s, vs, rfl, .inr ⟨sq_t h, f2.here rl2 _ (it_zs_T (fun ρ' H' g => sq_t (g.go _ _ h)) r)⟩⟩
      | _ => exact f2.elim
    | _ => cases x <;> exact f2.elim
end
/-! ### str(x), x an instance whose class says __str__ -/
def strI (is : List Str) (g : List Wv → Mem → R Wv) (alt : Wv → Mem → R Wv) (x : Wv) (M : Mem) : R Wv := match insOf M x with
  | some C => if is.contains C = true then (g [x] M).bind fun w M1 => match w with
    | .str s => .ok (.str s) M1
    | _ => .no else .no
  | none => alt x M
structure StrC (K : PySem.W.Frag) (is : List Str) (f : Addr) : Prop where
  to : ∀ C ∈ is, ∀ D, clsAt K C = some D → PySem.W.findIn K (.ref D) "__str__" = some (some (.ref f)) ∧ PySem.W.isFn K (.ref f) = true
section
variable {X : Cx} {E : XK} {k : Nat} {f : Addr} {fd : FuncData} {ps : List Str} {is : List Str} {g g0 : List Wv → Mem → R Wv} {alt : Wv → Mem → R Wv}
theorem c_strI (kt : Kept g0 g) (T : StrC X.K is f) (F : FnG X.prog X.w X.K X.mg X.base k f fd ps g0) (hr : Room (k + 2) X.A) (hgd : X.A.guards = some []) (hx : Passes (L2.CX X.prog X.w) X E) (hb : Binds X.K fd ps []) (hn : ps.length = 1)
    (ha : CallR X (.type "str") (rc X.K E (un1 alt))) : CallR X (.type "str") (rc X.K E (un1 (strI is g alt))) := by
  intro pins s σ H xs us Q I r hh
  obtain ⟨v, ρ, M, w, rfl, rl, rv, h⟩ := un1_in hh
  unfold strI at h
  cases q : insOf M w with
  | none =>
    rw [q] at h
    exact ha pins s σ H _ _ Q I r ⟨ρ, M, [w], rl, ⟨v, [], rfl, rv, rfl⟩, h⟩
  | some C =>
    rw [q] at h
    obtain ⟨hc, h⟩ := pick (α := is.contains C = true) (P := (g [w] M).bind fun w M1 => match w with | Wv.str s => R.ok (Wv.str s) M1 | _ => .no) h
    obtain ⟨u, rfl, ru⟩ := vals1 r
    obtain ⟨D, a, dx, fs, cD, ev, ea⟩ := ins_rel rl q rv
    subst ev
    obtain rfl : u = Value.ref a := ru
    obtain ⟨z1, z2⟩ := T.to C (by simpa using hc) D cD
    obtain ⟨mA, O, _⟩ := ins_get I.hok ea
    obtain ⟨od, J, _⟩ := O.look
    have hr2 : Room k X.A.in1.in1 := (show Room (k + 1) X.A.in1 from Room.in1 hr).in1
    have hbb := hb s [.ref a] I.kIn (by simp [hn])
    rw [List.append_nil] at hbb
    have hq : Fin X.K ρ H (PV X.K fun v H' => ∃ b, v = .str b ∧ Q (.str b) H') E (g [w] M) := h.bind.imp fun w1 M1 ρ1 H1 g1 rl1 f1 v' rv' => by
      cases w1 with
      | str b =>
        cases (show v' = .str b from rv')
        exact ⟨b, rfl, f1.here rl1 _ rfl⟩
      | _ => exact f1.elim
    refine PySem.W.kso_call hr2.units0 I.kIn J z1 z2 ?_
    refine wpAny_mono (callG_at (A := X.A.in1.in1) (Q := fun v H' => ∃ b, v = .str b ∧ Q (.str b) H') F hr2 hgd hx I I.env0.in1.in1 (us := [.ref a]) hbb (vs := [.ref a]) (.cons rfl .nil) (by simp [hn]) rl (ws := [w]) ⟨_, _, rfl, rv, rfl⟩ (kt _ _ _ _ _ _ _ rl hq)) (fun r' s' z => ?_) fun _ _ x => x
    obtain ⟨z', H', I', rz, b, eb, qz⟩ := z
    subst eb
    obtain ⟨t, rfl⟩ := (show ∃ t, r' = Value.str b t from rz)
    exact ⟨.str b, H', I', ⟨t, rfl⟩, qz⟩
end
end Mi

namespace Mi
open PySem PySem.Spec PyProof.Rows L2
/-! ### comprehensions whose list will be changed -/
def lcNW (T : Tg) (t : Mt) (e : Me) (env : Ev) : List Wv → List Wv → Mem → R Wv
  | [], acc, M => .ok (.ref M.length) (M ++ [.lst acc])
  | w :: ws, acc, M => (noX (T.set w env M)).bind fun env1 M1 => (noX (t env1 M1)).bind fun c M2 =>
    if c = true then (noX (e env1 M2)).bind fun x M3 => if acc.length < lim then lcNW T t e env ws (acc ++ [x]) M3 else .no
    else lcNW T t e env ws acc M2
def mLcN (vs : List Nat) (T : Tg) (m : Mi') (t : Mt) (e : Me) : Me := fun env M => (m env M).bind fun ws M1 => lcNW T t e (wipeE env vs) ws [] M1
section
variable {X : Cx} {E : XK} {elt tg iter : Expr} {ifs : List Expr} {scope : Scope} {own : List (Str × Nat)} {pos spos : Pos} {T : Tg} {mi : Mi'} {mt : Mt} {me : Me} {vs : List Nat}
theorem lcN_in {K : PySem.W.Frag} {σ : L2.St} {H : Hp} {Q : VK} (hT : ∀ i ∈ T.slots, i ∈ vs) (h : te K E (mLcN vs T mi mt me) σ H Q) : tLc (ti K E mi) (tgR K T) (tt K E0 mt) (te K E0 me) vs σ H Q := by
  obtain ⟨ρ, M, env, rl, re, f⟩ := h
  refine ⟨ρ, M, env, rl, re, f.bind.imp fun ws M1 ρ1 H1 g1 rl1 f1 J hJ D hD => ?_⟩
  refine ⟨fun i m H' => m = ws.length - i ∧ i ≤ ws.length ∧ ∃ ρ' M' acc us, Lk D ρ1 H1 ρ' H' ∧ Rl K ρ' M' H' ∧ H' D = some (.lst us) ∧ RVs K ρ' H' acc us ∧ RE K ρ' H' (wipeE env vs) (wipe σ vs) ∧ Fin K ρ1 H1 (PV K Q) E (lcNW T mt me (wipeE env vs) (ws.drop i) acc M'),
    ⟨ws.length, by simp, Nat.zero_le _, ρ1.lock D, M1, [], [], ⟨rfl, ⟨[], by simp [Rn.lock]⟩, fun a o _ e => by rw [upd_ne (ne_of_none e hD)]; exact e, fun a z => .inl z⟩, rl_lock rl1 hD, upd_same, rfl, (re_wipe (re.mono g1) vs).move (mv_lock hD), f1⟩, ?_⟩
  rintro i m H' ⟨rfl, hi, ρ', M', acc, us, lk, rl', hu, rv', re', f'⟩
  have hDf : D ∈ ρ'.f := by rw [lk.f]; exact List.mem_cons_self
  by_cases hlt : i < ws.length
  · refine .inr ⟨hJ.go ρ' H' (lk.mv hD) i hlt, fun H2 => ∃ ρ2 M2 acc us, Lk D ρ1 H1 ρ2 H2 ∧ Rl K ρ2 M2 H2 ∧ H2 D = some (.lst us) ∧ RVs K ρ2 H2 acc us ∧ RE K ρ2 H2 (wipeE env vs) (wipe σ vs) ∧ Fin K ρ1 H1 (PV K Q) E (lcNW T mt me (wipeE env vs) (ws.drop (i + 1)) acc M2),
      fun H2 z => ⟨ws.length - (i + 1), by omega, rfl, hlt, z⟩, fun x H2 y => ?_⟩
    obtain ⟨g2, k2⟩ := hJ.yld ρ' H' (lk.mv hD) i x H2 ws[i] (List.getElem?_eq_getElem hlt) y
    obtain ⟨k2, rv2⟩ := k2 M' rl'
    rw [List.drop_eq_getElem_cons hlt] at f'
    have wi : wipe (wipe σ vs) vs = wipe σ vs := by
      have one : ∀ (xs : List Nat) (τ : L2.St) (i : Nat), i ∈ xs → (wipe τ xs).set i none = wipe τ xs := by
        intro xs
        induction xs with
        | nil => intro τ i h; cases h
        | cons x xs ih =>
          intro τ i h
          unfold wipe
          by_cases hx : i = x
          · subst hx; rw [List.set_set]
          · rw [List.set_comm _ _ (Ne.symm hx), ih τ i ((List.mem_cons.mp h).resolve_left hx)]
      have sub : ∀ (xs : List Nat), (∀ i ∈ xs, i ∈ vs) → wipe (wipe σ vs) xs = wipe σ vs := by
        intro xs
        induction xs with
        | nil => intro _; rfl
        | cons x xs ih =>
          intro h
          show (wipe (wipe σ vs) xs).set x none = _
          rw [ih fun j hj => h j (List.mem_cons_of_mem _ hj)]
          exact one vs σ x (h x List.mem_cons_self)
      exact sub vs fun _ h => h
    refine tg_in (E := E0) (β := Ev) (P := fun env1 M2 _ _ => Fin K ρ1 H1 (PV K Q) E ((noX (mt env1 M2)).bind fun c M2 => if c = true then (noX (me env1 M2)).bind fun x M3 => if acc.length < lim then lcNW T mt me (wipeE env vs) (ws.drop (i + 1)) (acc ++ [x]) M3 else .no else lcNW T mt me (wipeE env vs) (ws.drop (i + 1)) acc M2)) (k := fun e M => .ok e M)
      k2 (re'.mono g2) rv2 ?_ fun env3 σ3 re3 f3 hw => ?_
    · have z := fin_noX (ρ' := ρ') (H' := H2) (E' := E0) f'
      have f' : Fin K ρ1 H1 (PV K Q) E ((noX (T.set ws[i] (wipeE env vs) M')).bind fun env1 M1 => (noX (mt env1 M1)).bind fun c M2 => if c = true then (noX (me env1 M2)).bind fun x M3 => if acc.length < lim then lcNW T mt me (wipeE env vs) (ws.drop (i + 1)) (acc ++ [x]) M3 else .no else lcNW T mt me (wipeE env vs) (ws.drop (i + 1)) acc M2) := f'
      cases q : T.set ws[i] (wipeE env vs) M' with
      | ok a M => rw [q] at z; exact fun ρ3 H3 g3 rl3 => z ρ3 H3 g3 rl3
      | exc a M => rw [q] at f'; exact f'.elim
      | no => rw [q] at f'; exact f'.elim
    have f3 := f3.here k2
    refine ⟨(hw vs hT).trans wi, ρ', M', env3, k2, re3, (fin_noX f3).imp fun c M4 ρ4 H4 g4 rl4 f4 => ?_⟩
    have gg := g2.trans g4
    have lk4 := lk.on gg
    have hu4 : H4 D = some (.lst us) := gg.keep D _ (rl'.fs D hDf).1 hu
    have rv4 := RVs.mono gg acc rv'
    have re4 := re'.mono gg
    cases c with
    | false => exact ⟨ρ4, M4, acc, us, lk4, rl4, hu4, rv4, re4, f4⟩
    | true =>
      have f4 : Fin K ρ1 H1 (PV K Q) E ((noX (me env3 M4)).bind fun x M3 => if acc.length < lim then lcNW T mt me (wipeE env vs) (ws.drop (i + 1)) (acc ++ [x]) M3 else .no) := f4
      refine ⟨ρ4, M4, env3, rl4, re3.mono g4, (fin_noX f4).imp fun y M5 ρ5 H5 g5 rl5 f5 v rv5 => ?_⟩
      obtain ⟨h0, f5⟩ := pick f5
      have hDf4 : D ∈ ρ4.f := by rw [lk4.f]; exact List.mem_cons_self
      have hDf5 : D ∈ ρ5.f := by rw [g5.same]; exact hDf4
      have hu5 : H5 D = some (.lst us) := g5.keep D _ (rl4.fs D hDf4).1 hu4
      refine ⟨us, hu5, by rw [← rv4.length]; exact lim_lt h0, ρ5, M5, acc ++ [y], us ++ [v], (lk4.on g5).turn hD, rl_turn rl5 hDf5, upd_same, ?_, (re4.mono g5).move (mv_turn hDf5), f5⟩
      exact RVs.move (mv_turn hDf5) _ ((RVs.mono g5 acc rv4).append ⟨v, [], rfl, rv5, rfl⟩)
  · have e : i = ws.length := by omega
    subst e
    rw [List.drop_length] at f'
    refine .inl ⟨hJ.stop ρ' H' (lk.mv hD), ?_⟩
    have hDl : D ∉ ρ'.l := (rl'.fs D hDf).1
    have off : Mv ρ' H' ⟨ρ'.l ++ [D], ρ1.f⟩ H' := by
      refine ⟨fun a u ⟨h1, h2⟩ => ⟨h1, fun z => ?_, fun z => h2.2 (by rw [lk.f]; exact List.mem_cons_of_mem _ z)⟩, fun n x h => ?_⟩
      · rcases List.mem_append.mp z with z | z
        · exact h2.1 z
        · exact h2.2 (by rw [List.mem_singleton.mp z]; exact hDf)
      · show (ρ'.l ++ [D])[n]? = some x
        rw [List.getElem?_append_left (List.getElem?_eq_some_iff.mp h).1]
        exact h
    have rl2 : Rl K ⟨ρ'.l ++ [D], ρ1.f⟩ (M' ++ [.lst acc]) H' := by
      refine ⟨?_, by simp [rl'.len], fun n b e => ?_, fun a ha => ⟨fun z => ?_, (rl'.fs a (by rw [lk.f]; exact List.mem_cons_of_mem _ ha)).2⟩⟩
      · show (ρ'.l ++ [D]).Nodup
        rw [List.nodup_append]
        exact ⟨rl'.nd, by simp, fun x hx y hy => by rw [List.mem_singleton.mp hy]; rintro rfl; exact hDl hx⟩
      · by_cases hn : n < M'.length
        · rw [List.getElem?_append_left hn] at e
          obtain ⟨a, h1, h2⟩ := rl'.ob n b e
          exact ⟨a, off.ix n a h1, RO.move off rfl h2⟩
        · have hn2 : n = M'.length := by
            have := (List.getElem?_eq_some_iff.mp e).1
            simp at this
            omega
          subst hn2
          simp at e
          subst e
          refine ⟨D, ?_, us, hu, RVs.move off acc rv'⟩
          show (ρ'.l ++ [D])[M'.length]? = some D
          rw [← rl'.len]
          simp
      · rcases List.mem_append.mp z with z | z
        · exact (rl'.fs a (by rw [lk.f]; exact List.mem_cons_of_mem _ ha)).1 z
        · rw [List.mem_singleton.mp z] at ha
          exact (rl1.out hD).2 ha
    have gg : Gr ρ1 H1 ⟨ρ'.l ++ [D], ρ1.f⟩ H' := by
      obtain ⟨t, et⟩ := lk.pre
      refine ⟨⟨t ++ [D], by show ρ'.l ++ [D] = _; rw [et, List.append_assoc]⟩, rfl, lk.keep, fun a ha => ?_⟩
      rcases List.mem_append.mp ha with z | z
      · exact lk.new a z
      · rw [List.mem_singleton.mp z]; exact .inr hD
    refine f' ⟨ρ'.l ++ [D], ρ1.f⟩ H' gg rl2 _ ⟨D, rfl, ?_⟩
    show (ρ'.l ++ [D])[M'.length]? = some D
    rw [← rl'.len]
    simp
theorem e_lcN (hc : X.calm = true) (hN : X.N.Nodup) (hi : PI X tg iter (ti X.K E mi)) (ok : BlkOk X.N X.env.scope scope own) (hT : ∀ i ∈ T.slots, i ∈ vs)
    (hg : ∀ (s : Shared) (H : Hp) (C : Addr) (cl : List (Str × Addr)) (fp : List Addr), PG (X.blk s H scope (compEnvC scope cl C X.env) fp) tg (tgR X.K T)) (ht : ∀ (s : Shared) (H : Hp) (C : Addr) (cl : List (Str × Addr)) (fp : List Addr), PTs (X.blk s H scope (compEnvC scope cl C X.env) fp) ifs (tt X.K E0 mt))
    (he : ∀ (s : Shared) (H : Hp) (C : Addr) (cl : List (Str × Addr)) (fp : List Addr), PE (X.blk s H scope (compEnvC scope cl C X.env) fp) elt (te X.K E0 me)) (hs : ∀ x, foldedSetIterable iter X.env x = pure x := by intro _; rfl) (hv : own.map (·.2) = vs := by rfl) :
    PE X (.ListComp elt [⟨tg, iter, ifs, 0⟩] scope pos) (te X.K E (mLcN vs T mi mt me)) := by
  subst hv
  exact PE.imp (pe_lc hc hN hi ok hg ht he hs) fun _ _ _ h => lcN_in hT h
theorem s_setLcN {i : Nat} {y : Str} {py : Pos} (hc : X.calm = true) (hN : X.N.Nodup) (hsw : swapsWith (.ListComp elt [⟨tg, iter, ifs, 0⟩] scope pos) (some (.Name y py)) spos.line X.env = pure true) (hi : PI X tg iter (ti X.K E mi)) (ok : BlkOk X.N X.env.scope scope own) (hT : ∀ i ∈ T.slots, i ∈ vs)
    (hg : ∀ (s : Shared) (H : Hp) (C : Addr) (cl : List (Str × Addr)) (fp : List Addr), PG (X.blk s H scope (compEnvC scope cl C X.env) fp) tg (tgR X.K T)) (ht : ∀ (s : Shared) (H : Hp) (C : Addr) (cl : List (Str × Addr)) (fp : List Addr), PTs (X.blk s H scope (compEnvC scope cl C X.env) fp) ifs (tt X.K E0 mt))
    (he : ∀ (s : Shared) (H : Hp) (C : Addr) (cl : List (Str × Addr)) (fp : List Addr), PE (X.blk s H scope (compEnvC scope cl C X.env) fp) elt (te X.K E0 me)) (hs : ∀ x, foldedSetIterable iter X.env x = pure x := by intro _; rfl)
    (hy : X.N[i]? = some y := by rfl) (hyl : X.env.scope.names.lookup y = some .local := by rfl) (hv : own.map (·.2) = vs := by rfl) :
    PS X (.Assign [.Name y py] (.ListComp elt [⟨tg, iter, ifs, 0⟩] scope pos) spos) (ts X.K E (sSet i (mLcN vs T mi mt me))) := by
  subst hv
  refine PS.imp (ps_setLc hc hN hy hyl hsw hi ok hg ht he hs) fun D σ H ⟨ρ, M, env, rl, re, f⟩ => ?_
  refine lcN_in (mi := mi) (mt := mt) (me := me) hT (te_then (m := mLcN (own.map (·.2)) T mi mt me) rl re f fun w M1 ρ1 H1 v g1 rl1 re1 rv1 f1 => f1.here rl1 _ (re1.set rv1))
end
/-! ### list(x), a list that will be changed -/
def lstNewW (ws : List Wv) (M : Mem) : R Wv := match ws with
  | [x] => match sqOf M x with
    | some s => .ok (.ref M.length) (M ++ [.lst s.xs])
    | none => .no
  | _ => .no
theorem c_lstN {X : Cx} {E : XK} : CallR X (.type "list") (rc X.K E lstNewW) := by
  refine CallR.imp call_list_of fun xs H Q ⟨ρ, M, ws, rl, rv, h⟩ => ?_
  match ws, rv, h with
  | [], _, h => exact h.elim
  | _ :: _ :: _, _, h => exact h.elim
  | [w], rv, h =>
    obtain ⟨v, rfl, r⟩ := rvs1 rv
    have h : Fin X.K ρ H (PV X.K Q) E (onSq (fun s M => .ok (.ref M.length) (M ++ [.lst s.xs])) w M) := h
    obtain ⟨s, a, vs, q, rfl, h4, h2, h3⟩ := onSq_in rl r h
    exact ⟨a, vs, rfl, h3.imp (fun ⟨_, _, z⟩ => z) (fun ⟨_, _, z⟩ => z), fun l hl => fin_new h2 rl h4 hl⟩
end Mi

namespace Mi
open PySem PySem.Spec PyProof.Rows L2
/-! ### what is known of own classes -/
structure CF (K : PySem.W.Frag) (nm : Str) (C fI : Addr) : Prop where
  loc : clsAt K nm = some C
  c : Cls K C
  i : InsC K C
  mks : Mk K C fI
section
variable {K : PySem.W.Frag} {nm m : Str} {C fI f : Addr} {is : List Str}
theorem cf_mk (h1 : clsAt K nm = some C) (h2 : PySem.W.plainGet K C Str.empty = true) (h3 : PySem.W.hasDictIn K C = true) (h4 : PySem.W.plainOver K C = true) (h5 : PySem.W.findIn K (.ref C) "__setattr__" = some (some (.builtin "object.__setattr__")))
    (h6 : PySem.W.findIn K (.ref C) "__class__" = some (some (.builtin "object.__class__"))) (h7 : PySem.W.specialIn K (.builtin "object.__class__") "__get__" = some (some (.builtin "getset_descriptor.__get__"))) (h8 : PySem.W.takesIn K (.builtin "object.__class__") = some true) (h9 : PySem.W.mroIn K C (.type "object") = some true)
    (g1 : PySem.W.makesIn K C = true) (g2 : PySem.W.findIn K (.ref C) "__init__" = some (some (.ref fI))) (g3 : PySem.W.isFn K (.ref fI) = true) (g4 : PySem.W.keepIn K (.ref C) = true) : CF K nm C fI :=
  ⟨h1, ⟨h2, h3, h4, h5⟩, ⟨⟨h2, h3, h4, h5⟩, h6, h7, h8, h9⟩, ⟨g1, g2, g3, g4⟩⟩
theorem FldI.cons {f : Str} (Z : CF K nm C fI) (h : PySem.W.findIn K (.ref C) f = some none) (r : FldI K is f) : FldI K (nm :: is) f := fun c hc D hD => by
  rcases List.mem_cons.mp hc with rfl | hc
  · rw [Z.loc] at hD
    cases hD
    exact ⟨Z.c, h⟩
  · exact r c hc D hD
theorem MethT.one (Z : CF K nm C fI) (h1 : PySem.W.findIn K (.ref C) m = some (some (.ref f))) (h2 : PySem.W.isFn K (.ref f) = true) (h3 : PySem.W.keepIn K (.ref f) = true) : MethT K [nm] m f :=
  ⟨fun c hc D hD => by
    rw [List.mem_singleton.mp hc, Z.loc] at hD
    cases hD
    exact ⟨Z.c, ⟨h1, h2, h3⟩⟩, h3⟩
theorem EqC.one (Z : CF K nm C fI) (h1 : PySem.W.findIn K (.ref C) "__eq__" = some (some (.ref f))) (h2 : PySem.W.isFn K (.ref f) = true) (h3 : ∀ t : Mi.Ty, PySem.W.notFirst K C (.type t.name) = true) (h4 : PySem.W.notFirst K C (.ref C) = true) (h5 : PySem.W.findIn K (.ref C) "__ne__" = some (some (.builtin "object.__ne__"))) : EqC K [nm] [nm] f :=
  ⟨fun c hc D hD => by
    rw [List.mem_singleton.mp hc, Z.loc] at hD
    cases hD
    refine ⟨h1, h2, h3, fun c' hc' D' hD' => ?_, h5, Z.i.hm⟩
    rw [List.mem_singleton.mp hc', Z.loc] at hD'
    cases hD'
    exact h4⟩
theorem StrC.one (Z : CF K nm C fI) (h1 : PySem.W.findIn K (.ref C) "__str__" = some (some (.ref f))) (h2 : PySem.W.isFn K (.ref f) = true) : StrC K [nm] f :=
  ⟨fun c hc D hD => by
    rw [List.mem_singleton.mp hc, Z.loc] at hD
    cases hD
    exact ⟨h1, h2⟩⟩
/-- the table of an asked class over classes of one's own -/
def ITab (K : PySem.W.Frag) (u : Value) (t : List (Str × Bool)) : Prop := ∀ C b, t.lookup C = some b → ∃ D, clsAt K C = some D ∧ PySem.W.kitOne K (.ref D) u = some b ∧ InsC K D
theorem ITab.nil {u : Value} : ITab K u [] := fun _ _ h => by cases h
theorem ITab.cons {u : Value} {b : Bool} {t : List (Str × Bool)} (Z : CF K nm C fI) (h : PySem.W.kitOne K (.ref C) u = some b) (r : ITab K u t) : ITab K u ((nm, b) :: t) := fun c b' hc => by
  rw [List.lookup_cons] at hc
  cases q : c == nm with
  | true =>
    have e : c = nm := by simpa using q
    subst e
    have hc : some b = some b' := by simpa [q] using hc
    cases hc
    exact ⟨C, Z.loc, h, Z.i⟩
  | false => exact r c b' (by simpa [q] using hc)
theorem ClOk.mk2 {u : Value} {ty : Option Ty} {t s : List (Str × Bool)} (ht : ∀ t : Ty, PySem.W.kitOne K (.type t.name) u = some (match ty with | some x => t.sub x | none => false)) (x : ITab K u s) (y : XTab K u t) : ClOk K ⟨ty, s, t⟩ u := ⟨ht, x, y⟩
end
/-! ### dicts of the module -/
def tabOf : List DictEntry → Option (List (Str × Str))
  | [] => some []
  | ⟨_, .str k _, .str v _⟩ :: r => (tabOf r).map ((k, v) :: ·)
  | _ => none
theorem tab_find : ∀ {l : List DictEntry} {tab : List (Str × Str)}, tabOf l = some tab → ∀ x : Str, match tab.lookup x with
    | some y => ∃ e t, l.find? (·.key.isStr x) = some e ∧ e.val = .str y t
    | none => l.find? (·.key.isStr x) = none ∧ l.any (·.refKey) = false
  | [], _, h, x => by cases h; exact ⟨rfl, rfl⟩
  | ⟨hh, key, val⟩ :: r, tab, h, x => by
    cases key with
    | str k tk =>
      cases val with
      | str v tv =>
        have h : (tabOf r).map ((k, v) :: ·) = some tab := h
        obtain ⟨tab', h1, rfl⟩ := Option.map_eq_some_iff.mp h
        have ih := tab_find h1 x
        have ek : (Value.str k tk).isStr x = (k == x) := by rw [PySem.W.isStr_of]; rfl
        rw [List.lookup_cons]
        by_cases hx : x = k
        · subst hx
          rw [beq_self_eq_true]
          refine ⟨⟨hh, .str x tk, .str v tv⟩, tv, ?_, rfl⟩
          rw [List.find?_cons]
          show (match (Value.str x tk).isStr x with | true => _ | false => _) = _
          rw [ek, beq_self_eq_true]
        · have e1 : (x == k) = false := by simpa using hx
          have e2 : (k == x) = false := by simpa using fun z => hx z.symm
          rw [e1]
          show match tab'.lookup x with | some y => _ | none => _
          have e3 : (⟨hh, .str k tk, .str v tv⟩ :: r : List DictEntry).find? (·.key.isStr x) = r.find? (·.key.isStr x) := by
            rw [List.find?_cons]
            show (match (Value.str k tk).isStr x with | true => _ | false => _) = _
            rw [ek, e2]
          rw [e3]
          cases q : tab'.lookup x with
          | some y => rw [q] at ih; exact ih
          | none =>
            rw [q] at ih
            refine ⟨ih.1, ?_⟩
            rw [List.any_cons, ih.2]
            rfl
      | _ => cases h
    | _ => cases val <;> cases h
theorem gd_mk {K : PySem.W.Frag} {w : World} {a : Addr} {tab : List (Str × Str)} {es : Array DictEntry} {n : Nat} (hl : K.lookup a = some ⟨.type "dict", none, .dict es n, #[]⟩) (hk : PySem.W.KeysLit w.params es.toList) (hs : (a == sysModules) = false) (ht : tabOf es.toList = some tab) : GD K w a tab := by
  refine ⟨es, n, hl, hk, hs, fun x => ?_⟩
  have z := tab_find ht x
  cases q : tab.lookup x with
  | some y =>
    rw [q] at z
    obtain ⟨e, t, h1, h2⟩ := z
    refine ⟨t, ?_⟩
    unfold PySem.W.nsIn
    rw [hl]
    show (match es.toList.find? (·.key.isStr x) with | some e => some (some e.val) | none => _) = _
    rw [h1, ← h2]
  | none =>
    rw [q] at z
    show PySem.W.nsIn K a x = some none
    unfold PySem.W.nsIn
    rw [hl]
    show (match es.toList.find? (·.key.isStr x) with | some e => some (some e.val) | none => if es.toList.any (·.refKey) then none else some none) = _
    rw [z.1, z.2]
    rfl
/-! ### k in d, d a dict of values -/
def mDIn (neg : Bool) (a b : Me) : Mt := fun env M => (a env M).bind fun y M1 => (b env M1).bind fun x M2 => match x with
  | .dct ks xs => match keyW y with
    | some k => .ok (neg ^^ (dget ks xs k).isSome) M2
    | none => .no
  | _ => .no
section
variable {X : Cx} {E : XK} {a b : Expr} {ma mb : Me} {pos : Pos}
theorem din_rel {K : PySem.W.Frag} {ρ : Rn} {H : Hp} {kvs : List (Key × V)} {ks : List Key} {xs : List Wv} {k : Key} (e : kvs.map (·.1) = ks) (r : RVs K ρ H xs (kvs.map (·.2))) : (valV kvs k).isSome = (dget ks xs k).isSome := by
  have z := dget_rel (k := k) e r
  cases q : dget ks xs k with
  | none => rw [q] at z; rw [show valV kvs k = none from z]; rfl
  | some w => rw [q] at z; obtain ⟨v, h, _⟩ := z; rw [h]; rfl
theorem t_din (hu : X.A.units + 1 < cLine) (ha : PE X a (te X.K E ma)) (hb : PE X b (te X.K E mb)) (hm : behindInMarks .In b = false := by rfl) : PT X (.Compare a [.In] [b] pos) (tt X.K E (mDIn false ma mb)) :=
  PT.imp (pt_cmp (pc_din hu ha hb) hm) fun σ H Q ⟨ρ, M, env, rl, re, h⟩ => by
    show te X.K E ma σ H _
    refine te_then rl re h fun y M1 ρ1 H1 v g1 rl1 re1 rv1 h1 => ?_
    refine te_then rl1 re1 h1 fun x M2 ρ2 H2 u g2 rl2 re2 rv2 h2 => ?_
    cases x with
    | dct ks xs =>
      have h2 : Fin X.K ρ2 H2 (PB Q) E (match keyW y with | some k => R.ok (false ^^ (dget ks xs k).isSome) M2 | none => .no) := h2
      cases q : keyW y with
      | none => rw [q] at h2; exact h2.elim
      | some k =>
        rw [q] at h2
        obtain ⟨p, kvs, rfl, ⟨hp, _⟩, hk, r⟩ := rv2
        have ev := key_rel q (RV.mono g2 y rv1)
        refine ⟨p, valV kvs k, rfl, by rw [ev]; exact DGet.k hp, _, rfl, ?_⟩
        rw [din_rel hk r]
        simpa [PB] using h2.here rl2
    | _ => exact h2.elim
theorem t_dni (hu : X.A.units + 1 < cLine) (ha : PE X a (te X.K E ma)) (hb : PE X b (te X.K E mb)) (hm : behindInMarks .NotIn b = false := by rfl) : PT X (.Compare a [.NotIn] [b] pos) (tt X.K E (mDIn true ma mb)) :=
  PT.imp (pt_cmp (pc_dnotin hu ha hb) hm) fun σ H Q ⟨ρ, M, env, rl, re, h⟩ => by
    show te X.K E ma σ H _
    refine te_then rl re h fun y M1 ρ1 H1 v g1 rl1 re1 rv1 h1 => ?_
    refine te_then rl1 re1 h1 fun x M2 ρ2 H2 u g2 rl2 re2 rv2 h2 => ?_
    cases x with
    | dct ks xs =>
      have h2 : Fin X.K ρ2 H2 (PB Q) E (match keyW y with | some k => R.ok (true ^^ (dget ks xs k).isSome) M2 | none => .no) := h2
      cases q : keyW y with
      | none => rw [q] at h2; exact h2.elim
      | some k =>
        rw [q] at h2
        obtain ⟨p, kvs, rfl, ⟨hp, _⟩, hk, r⟩ := rv2
        have ev := key_rel q (RV.mono g2 y rv1)
        refine ⟨p, valV kvs k, rfl, by rw [ev]; exact DGet.k hp, _, rfl, ?_⟩
        rw [din_rel hk r]
        simpa [PB] using h2.here rl2
    | _ => exact h2.elim
end
end Mi

/-! tame values: data whose repr and == are fine -/
namespace Mi
open PySem PySem.Spec PyProof.Rows L2
/-! ### texts -/
structure TxOk (n : Nat) (x : Str) : Prop where
  len : x.length ≤ n
  ok : PyData.strOk x = true
theorem strOk_iff {x : Str} : PyData.strOk x = true ↔ ∀ c ∈ x.cps.toList, c < 0x110000 := by
  unfold PyData.strOk
  rw [← Array.all_toList, List.all_eq_true]
  simp
theorem TxOk.mono {n m : Nat} {x : Str} (h : TxOk n x) (hn : n ≤ m) : TxOk m x := ⟨Nat.le_trans h.len hn, h.ok⟩
theorem tx_by {n : Nat} {x : Str} (h : (decide (x.length ≤ n) && PyData.strOk x) = true) : TxOk n x := by
  rw [Bool.and_eq_true] at h
  exact ⟨of_decide_eq_true h.1, h.2⟩
theorem TxOk.append {n m : Nat} {x y : Str} (hx : TxOk n x) (hy : TxOk m y) : TxOk (n + m) (x ++ y) := by
  refine ⟨by rw [Str.length_append]; have := hx.len; have := hy.len; omega, strOk_iff.mpr fun c hc => ?_⟩
  rw [Str.cps_append, Array.toList_append, List.mem_append] at hc
  exact hc.elim (strOk_iff.mp hx.ok c) (strOk_iff.mp hy.ok c)
theorem sum_le {n : Nat} : ∀ {ts : List Str}, (∀ t ∈ ts, t.length ≤ n) → (ts.map (·.length)).sum ≤ ts.length * n
  | [], _ => by simp
  | t :: ts, h => by
    have h1 := h t List.mem_cons_self
    have h2 := sum_le fun t ht => h t (List.mem_cons_of_mem _ ht)
    rw [List.map_cons, List.sum_cons, List.length_cons, Nat.succ_mul]
    omega
theorem TxOk.join {n : Nat} {sep : Str} {ts : List Str} (hs : PyData.strOk sep = true) (h : ∀ t ∈ ts, TxOk n t) : TxOk (ts.length * (n + sep.length)) (Str.join sep ts) := by
  refine ⟨?_, strOk_iff.mpr fun c hc => ?_⟩
  · have h1 := StrLaws.join_length_le sep ts
    have h2 := sum_le fun t ht => (h t ht).len
    rw [Nat.mul_add]
    omega
  · rw [mem_join] at hc
    rcases hc with ⟨t, ht, hc⟩ | ⟨_, hc⟩
    · exact strOk_iff.mp (h t ht).ok c hc
    · exact strOk_iff.mp hs c hc
theorem tx_int {i : Int} {k : Nat} (hk : 0 < k) (h : i.natAbs < 10 ^ k) : TxOk (k + 1) (toString i : String) := by
  refine ⟨?_, strOk_iff.mpr fun c hc => ?_⟩
  · have := int_text_length_le10 hk h
    rw [PySem.ofString_length]
    exact this
  · refine Decidable.byContradiction fun hn => ?_
    exact int_text_free' c (by omega) i hc
theorem zv_s (neg : Bool) (x y : Str) (hx : PyData.strOk x = true) (hy : PyData.strOk y = true) (M : Mem) : eqW neg (.str x) (.str y) M = .ok (neg ^^ (x == y)) M :=
  (eqW_is rfl rfl (by rw [shaped_str hx, shaped_str hy]; rfl)).trans (by simp [PyData.eqv])
/-! ### data -/
structure TD (n k : Nat) (d : PyData) : Prop where
  show' : d.showable = true
  tx : TxOk n d.shown
  lay : d.canLay0 = true
  dp : d.depth ≤ k
structure TDs (n k : Nat) (ds : List PyData) : Prop where
  show' : PyData.showableAll ds = true
  tx : ∀ t ∈ PyData.shownAll ds, TxOk n t
  lay : PyData.canLayAll0 ds = true
  dp : PyData.depthAll ds ≤ k
theorem TDs.nil {n k : Nat} : TDs n k [] := ⟨by simp [PyData.showableAll], by simp [PyData.shownAll], by simp [PyData.canLayAll0], by simp [PyData.depthAll]⟩
theorem TDs.cons {n k : Nat} {d : PyData} {ds : List PyData} (h : TD n k d) (hs : TDs n k ds) : TDs n k (d :: ds) := by
  refine ⟨by rw [PyData.showableAll, h.show', hs.show']; rfl, ?_, by rw [PyData.canLayAll0, h.lay, hs.lay]; rfl, ?_⟩
  · rw [PyData.shownAll_cons]
    intro t ht
    rcases List.mem_cons.mp ht with rfl | ht
    · exact h.tx
    · exact hs.tx t ht
  · rw [PyData.depthAll]
    exact Nat.max_le.mpr ⟨h.dp, hs.dp⟩
theorem lits : PyData.strOk ", " = true ∧ TxOk 1 "[" ∧ TxOk 1 "]" ∧ TxOk 1 "(" ∧ TxOk 2 ",)" ∧ TxOk 2 ")" := ⟨by decide +kernel, tx_by (by decide +kernel), tx_by (by decide +kernel), tx_by (by decide +kernel), tx_by (by decide +kernel), tx_by (by decide +kernel)⟩
theorem TDs.lst {n k : Nat} {ds : List PyData} (h : TDs n k ds) : TD (ds.length * (n + 2) + 3) (k + 1) (.list ds) := by
  refine ⟨by simpa [PyData.showable] using h.show', ?_, by simpa [PyData.canLay0] using h.lay, by simpa [PyData.depth] using h.dp⟩
  obtain ⟨l1, l2, l3, l4, l5, l6⟩ := lits
  have e : (PyData.list ds).shown = ("[" : Str) ++ Str.join ", " (PyData.shownAll ds) ++ "]" := by rw [PyData.shown, listText_eq_join]
  rw [e]
  have := (l2.append (TxOk.join l1 h.tx)).append l3
  rw [PyData.shownAll_length] at this
  refine this.mono ?_
  have : (", " : Str).length = 2 := by decide +kernel
  rw [this]
  omega
theorem TDs.tup {n k : Nat} {ds : List PyData} (h : TDs n k ds) : TD (ds.length * (n + 2) + 3) (k + 1) (.tuple ds) := by
  refine ⟨by simpa [PyData.showable] using h.show', ?_, by simpa [PyData.canLay0] using h.lay, by simpa [PyData.depth] using h.dp⟩
  obtain ⟨l1, l2, l3, l4, l5, l6⟩ := lits
  have e : (PyData.tuple ds).shown = ("(" : Str) ++ Str.join ", " (PyData.shownAll ds) ++ (if (PyData.shownAll ds).length == 1 then ",)" else ")" : String) := by rw [PyData.shown]; rfl
  rw [e]
  have e2 : (", " : Str).length = 2 := by decide +kernel
  have hx : TxOk 2 (if (PyData.shownAll ds).length == 1 then ",)" else ")" : String) := by split <;> assumption
  have := (l4.append (TxOk.join l1 h.tx)).append hx
  rw [PyData.shownAll_length, e2] at this
  rw [PyData.shownAll_length]
  refine this.mono ?_
  omega
mutual
theorem eqv_self : ∀ d : PyData, d.canLay0 = true → PyData.eqv d d = true
  | .none, _ => by rw [PyData.eqv]
  | .bool b, _ => by rw [PyData.eqv]; simp
  | .int i, _ => by rw [PyData.eqv]; simp
  | .str x, _ => by rw [PyData.eqv]; simp
  | .list xs, h => by rw [PyData.eqv]; exact eqvAll_self xs (by simpa [PyData.canLay0] using h)
  | .tuple xs, h => by rw [PyData.eqv]; exact eqvAll_self xs (by simpa [PyData.canLay0] using h)
  | .dict xs, h => by simp [PyData.canLay0] at h
theorem eqvAll_self : ∀ ds : List PyData, PyData.canLayAll0 ds = true → PyData.eqvAll ds ds = true
  | [], _ => by rw [PyData.eqvAll]
  | d :: ds, h => by
    have h' : d.canLay0 = true ∧ PyData.canLayAll0 ds = true := by simpa [PyData.canLayAll0] using h
    rw [PyData.eqvAll, eqv_self d h'.1, eqvAll_self ds h'.2]; rfl
end
/-! ### values -/
structure Tame (n k : Nat) (w : Wv) : Prop where
  ex : ∃ d, toD w = some d ∧ toDD w = some d ∧ TD n k d
  m1 : ∀ M, toDM M w = toD w
  m2 : ∀ M, toDDM M w = toDD w
structure Tames (n k : Nat) (ws : List Wv) : Prop where
  ex : ∃ ds, toDs ws = some ds ∧ toDDs ws = some ds ∧ TDs n k ds ∧ ds.length = ws.length
section
variable {n k : Nat} {w v : Wv} {ws : List Wv} {M : Mem}
theorem TD.mono {m j : Nat} {d : PyData} (h : TD n k d) (hn : n ≤ m) (hk : k ≤ j) : TD m j d := ⟨h.show', h.tx.mono hn, h.lay, Nat.le_trans h.dp hk⟩
theorem Tame.mono {m j : Nat} (h : Tame n k w) (hn : n ≤ m) (hk : k ≤ j) : Tame m j w := ⟨let ⟨d, a, b, c⟩ := h.ex; ⟨d, a, b, c.mono hn hk⟩, h.m1, h.m2⟩
theorem tame_int {i : Int} {j : Nat} (hj : 0 < j) (hj2 : j ≤ 60) (h : i.natAbs < 10 ^ j) : Tame (j + 1) k (.int i) := by
  refine ⟨⟨.int i, rfl, rfl, ⟨?_, by rw [PyData.shown_int]; exact tx_int hj h, by simp [PyData.canLay0], by simp [PyData.depth]⟩⟩, fun M => rfl, fun M => rfl⟩
  rw [PyData.showable, decide_eq_true_eq]
  by_cases hz : i.natAbs = 0
  · rw [hz]; decide
  · refine (Nat.log2_lt hz).mpr (Nat.lt_of_lt_of_le h ?_)
    exact Nat.le_trans (Nat.pow_le_pow_right (by decide) hj2) (by decide +kernel)
theorem tame_str {x : Str} (h : (PyData.strOk x && decide ((reprText x).length ≤ n) && PyData.strOk (reprText x)) = true) : Tame n k (.str x) := by
  rw [Bool.and_eq_true, Bool.and_eq_true] at h
  exact ⟨⟨.str x, rfl, rfl, ⟨by simp [PyData.showable], by rw [PyData.shown_str]; exact ⟨of_decide_eq_true h.1.2, h.2⟩, by simpa [PyData.canLay0] using h.1.1, by simp [PyData.depth]⟩⟩, fun M => rfl, fun M => rfl⟩
theorem tames_nil : Tames n k [] := ⟨⟨[], rfl, rfl, TDs.nil, rfl⟩⟩
theorem tames_cons (h : Tame n k w) (hs : Tames n k ws) : Tames n k (w :: ws) := by
  obtain ⟨d, h1, h2, h3⟩ := h.ex
  obtain ⟨ds, h4, h5, h6, h7⟩ := hs.ex
  refine ⟨⟨d :: ds, ?_, ?_, TDs.cons h3 h6, by rw [List.length_cons, List.length_cons, h7]⟩⟩
  · show (match toD w, toDs ws with | some d, some ds => some (d :: ds) | _, _ => none) = _
    rw [h1, h4]
  · show (match toDD w, toDDs ws with | some d, some ds => some (d :: ds) | _, _ => none) = _
    rw [h2, h5]
theorem tames_of : ∀ {ws : List Wv}, (∀ w ∈ ws, Tame n k w) → Tames n k ws
  | [], _ => tames_nil
  | w :: ws, h => tames_cons (h w List.mem_cons_self) (tames_of fun w hw => h w (List.mem_cons_of_mem _ hw))
theorem Tames.lst (h : Tames n k ws) : Tame (ws.length * (n + 2) + 3) (k + 1) (.lst ws) := by
  obtain ⟨ds, h4, h5, h6, h7⟩ := h.ex
  refine ⟨⟨.list ds, ?_, ?_, by rw [← h7]; exact h6.lst⟩, fun M => rfl, fun M => rfl⟩
  · show (toDs ws).map PyData.list = _
    rw [h4]; rfl
  · show (toDDs ws).map PyData.list = _
    rw [h5]; rfl
theorem Tames.tup (h : Tames n k ws) : Tame (ws.length * (n + 2) + 3) (k + 1) (.tup ws) := by
  obtain ⟨ds, h4, h5, h6, h7⟩ := h.ex
  refine ⟨⟨.tuple ds, ?_, ?_, by rw [← h7]; exact h6.tup⟩, fun M => rfl, fun M => rfl⟩
  · show (toDs ws).map PyData.tuple = _
    rw [h4]; rfl
  · show (toDDs ws).map PyData.tuple = _
    rw [h5]; rfl
theorem Tame.shows (h : Tame n k w) (hn : n ≤ lim) (hk : k ≤ 60) : Shows w := by
  obtain ⟨d, h1, h2, h3⟩ := h.ex
  refine shows_by ?_ h.m2
  unfold okB reprOkD
  rw [h2]
  show (d.showable && decide (d.shown.length ≤ lim) && decide (d.depth ≤ 60) && PyData.strOk d.shown) = true
  rw [h3.show', h3.tx.ok, decide_eq_true (Nat.le_trans h3.tx.len hn), decide_eq_true (Nat.le_trans h3.dp hk)]
  rfl
theorem Tame.eqv (h : Tame n k w) (h' : Tame n k v) (hk : k ≤ 60) (neg : Bool) : ∃ d e, toD w = some d ∧ toD v = some e ∧ ∀ M, eqW neg w v M = .ok (neg ^^ PyData.eqv d e) M := by
  obtain ⟨d, h1, h2, h3⟩ := h.ex
  obtain ⟨e, h4, h5, h6⟩ := h'.ex
  refine ⟨d, e, h1, h4, fun M => eqW_is ((h.m1 M).trans h1) ((h'.m1 M).trans h4) ?_⟩
  have q1 := h3.dp
  have q2 := h6.dp
  unfold SeqAt.shaped
  rw [h3.lay, h6.lay, decide_eq_true (by omega), decide_eq_true (by omega)]
  rfl
theorem Tame.same (h : Tame n k w) (hk : k ≤ 60) (neg : Bool) (M : Mem) : eqW neg w w M = .ok (!neg) M := by
  obtain ⟨d, e, h1, h2, h3⟩ := h.eqv h hk neg
  cases h1.symm.trans h2
  obtain ⟨d', z1, _, z3⟩ := h.ex
  cases h1.symm.trans z1
  rw [h3, eqv_self d z3.lay]
  cases neg <;> rfl
end
end Mi

/-! dicts of the memory (keys ints and texts, or tuples of them): d[k], k in d, d[k] = v, del d[k] -/
namespace Mi
open PySem PySem.Spec PyProof.Rows L2
section
variable {κ : Type} [DecidableEq κ] {K : PySem.W.Frag} {ρ : Rn} {H : Hp}
def dgA (ks : List κ) (xs : List Wv) (k : κ) : Option Wv := ((ks.zip xs).find? fun q => decide (q.1 = k)).map (·.2)
theorem dgA_rel {k : κ} : ∀ {kvs : List (κ × V)} {ks : List κ} {xs : List Wv}, kvs.map (·.1) = ks → RVs K ρ H xs (kvs.map (·.2)) → match dgA ks xs k with
    | some w => ∃ v, valV kvs k = some v ∧ RV K ρ H w v
    | none => valV kvs k = none
  | [], _, xs, e, r => by
    subst e
    cases xs with
    | nil => rfl
    | cons x xs => have := r.length; simp at this
  | (q, v) :: kvs, _, xs, e, r => by
    subst e
    cases xs with
    | nil => have := r.length; simp at this
    | cons x xs =>
      obtain ⟨v', vr, e3, r1, r2⟩ := r
      rw [List.map_cons] at e3
      cases e3
      have ih := dgA_rel (k := k) (kvs := kvs) rfl r2
      unfold dgA valV at ih ⊢
      rw [List.map_cons, List.zip_cons_cons, List.find?_cons, List.find?_cons]
      by_cases h : q = k
      · rw [decide_eq_true h]
        exact ⟨v, rfl, r1⟩
      · rw [decide_eq_false h]
        exact ih
/-- in its place, or at the end -/
def repA (k : κ) (w : Wv) : List κ → List Wv → List Wv
  | q :: ks, x :: xs => (if q = k then w else x) :: repA k w ks xs
  | _, _ => []
def putA (ks : List κ) (xs : List Wv) (k : κ) (w : Wv) : List κ × List Wv := if (ks.any fun q => decide (q = k)) = true then (ks, repA k w ks xs) else (ks ++ [k], xs ++ [w])
theorem repA_rel {k : κ} {w : Wv} {v : V} (rw' : RV K ρ H w v) : ∀ {kvs : List (κ × V)} {xs : List Wv}, RVs K ρ H xs (kvs.map (·.2)) → RVs K ρ H (repA k w (kvs.map (·.1)) xs) ((kvs.map fun kv => if kv.1 = k then (kv.1, v) else kv).map (·.2))
  | [], xs, r => by
    cases xs with
    | nil => rfl
    | cons x xs => have := r.length; simp at this
  | (q, u) :: kvs, xs, r => by
    cases xs with
    | nil => have := r.length; simp at this
    | cons x xs =>
      obtain ⟨v', vr, e3, r1, r2⟩ := r
      rw [List.map_cons] at e3
      cases e3
      have ih := repA_rel (k := k) rw' r2
      rw [List.map_cons, List.map_cons, List.map_cons]
      show RVs K ρ H ((if q = k then w else x) :: repA k w (kvs.map (·.1)) xs) _
      by_cases h : q = k
      · rw [if_pos h, if_pos h]; exact ⟨_, _, rfl, rw', ih⟩
      · rw [if_neg h, if_neg h]; exact ⟨_, _, rfl, r1, ih⟩
theorem putA_rel {k : κ} {w : Wv} {v : V} {kvs : List (κ × V)} {xs : List Wv} (rw' : RV K ρ H w v) (r : RVs K ρ H xs (kvs.map (·.2))) :
    (putK kvs k v).map (·.1) = (putA (kvs.map (·.1)) xs k w).1 ∧ RVs K ρ H (putA (kvs.map (·.1)) xs k w).2 ((putK kvs k v).map (·.2)) := by
  unfold putA putK
  have e : ((kvs.map (·.1)).any fun q => decide (q = k)) = kvs.any fun kv => decide (kv.1 = k) := by rw [List.any_map]; rfl
  rw [e]
  by_cases h : (kvs.any fun kv => decide (kv.1 = k)) = true
  · rw [if_pos h, if_pos h]
    refine ⟨?_, repA_rel rw' r⟩
    rw [List.map_map]
    exact List.map_congr_left fun kv _ => by
      show (if kv.1 = k then (kv.1, v) else kv).1 = kv.1
      split <;> rfl
  · rw [if_neg h, if_neg h]
    refine ⟨by rw [List.map_append]; rfl, ?_⟩
    rw [List.map_append]
    exact r.append ⟨v, [], rfl, rw', rfl⟩
def dropA (ks : List κ) (xs : List Wv) (k : κ) : List κ × List Wv := (((ks.zip xs).filter fun q => decide (q.1 ≠ k)).map (·.1), ((ks.zip xs).filter fun q => decide (q.1 ≠ k)).map (·.2))
theorem dropA_rel {k : κ} : ∀ {kvs : List (κ × V)} {xs : List Wv}, RVs K ρ H xs (kvs.map (·.2)) →
    (dropK kvs k).map (·.1) = (dropA (kvs.map (·.1)) xs k).1 ∧ RVs K ρ H (dropA (kvs.map (·.1)) xs k).2 ((dropK kvs k).map (·.2))
  | [], xs, r => by
    cases xs with
    | nil => exact ⟨rfl, rfl⟩
    | cons x xs => have := r.length; simp at this
  | (q, u) :: kvs, xs, r => by
    cases xs with
    | nil => have := r.length; simp at this
    | cons x xs =>
      obtain ⟨v', vr, e3, r1, r2⟩ := r
      rw [List.map_cons] at e3
      cases e3
      obtain ⟨h1, h2⟩ := dropA_rel (k := k) r2
      unfold dropA dropK at h1 h2 ⊢
      rw [List.map_cons, List.zip_cons_cons, List.filter_cons, List.filter_cons]
      by_cases h : q = k
      · rw [if_neg (by simp [h]), if_neg (by simp [h])]; exact ⟨h1, h2⟩
      · rw [if_pos (by simp [h]), if_pos (by simp [h]), List.map_cons, List.map_cons, List.map_cons, List.map_cons, h1]
        exact ⟨rfl, _, _, rfl, r1, h2⟩
end
/-- a tuple of ints and texts as a key -/
def keysOf : List Wv → Option (List Key)
  | [] => some []
  | x :: xs => match keyW x, keysOf xs with
    | some k, some ks => some (k :: ks)
    | _, _ => none
def keyT : Wv → Option (List Key)
  | .tup xs => keysOf xs
  | _ => none
inductive DS where
  | k (ks : List Key) (xs : List Wv) | t (ks : List (List Key)) (xs : List Wv)
def dictAt (M : Mem) : Wv → Option DS
  | .dct ks xs => some (.k ks xs)
  | .dtt ks xs => some (.t ks xs)
  | .ref n => match M[n]? with
    | some (.dct ks xs) => some (.k ks xs)
    | some (.dtt ks xs) => some (.t ks xs)
    | _ => none
  | _ => none
/-- what d holds at y; none: y is no key of its kind -/
def DS.get : DS → Wv → Option (Option Wv)
  | .k ks xs, y => (keyW y).map (dgA ks xs)
  | .t ks xs, y => (keyT y).map (dgA ks xs)
section
variable {K : PySem.W.Frag} {ρ : Rn} {M : Mem} {H : Hp}
theorem keysOf_rel : ∀ {xs : List Wv} {k : List Key} {vs : List V}, keysOf xs = some k → RVs K ρ H xs vs → vs = k.map kV
  | [], k, vs, e, r => by cases e; exact r
  | x :: xs, k, vs, e, r => by
    have e : (match keyW x, keysOf xs with | some k, some ks => some (k :: ks) | _, _ => none) = some k := e
    obtain ⟨v, vr, rfl, r1, r2⟩ := r
    cases q1 : keyW x with
    | none => rw [q1] at e; cases e
    | some a =>
      cases q2 : keysOf xs with
      | none => rw [q1, q2] at e; cases e
      | some as =>
        rw [q1, q2] at e
        cases e
        rw [List.map_cons, key_rel q1 r1, keysOf_rel q2 r2]
theorem keyT_rel {y : Wv} {u : V} {k : List Key} (e : keyT y = some k) (r : RV K ρ H y u) : ∃ b, u = .ref b ∧ H b = some (.tup (k.map kV)) := by
  cases y with
  | tup xs =>
    obtain ⟨b, vs, rfl, ⟨h, _⟩, r⟩ := r
    exact ⟨b, rfl, by rw [← keysOf_rel e r]; exact h⟩
  | _ => cases e
theorem dict_k (rl : Rl K ρ M H) {w : Wv} {v : V} {ks : List Key} {xs : List Wv} (e : dictAt M w = some (.k ks xs)) (r : RV K ρ H w v) : ∃ a kvs, v = .ref a ∧ H a = some (.dK kvs) ∧ kvs.map (·.1) = ks ∧ RVs K ρ H xs (kvs.map (·.2)) := by
  cases w with
  | dct ks' xs' => cases e; obtain ⟨a, kvs, rfl, ⟨h, _⟩, h2, h3⟩ := r; exact ⟨a, kvs, rfl, h, h2, h3⟩
  | dtt _ _ => cases e
  | ref n =>
    have e : (match M[n]? with | some (Ob.dct ks xs) => some (DS.k ks xs) | some (Ob.dtt ks xs) => some (.t ks xs) | _ => none) = some (.k ks xs) := e
    obtain ⟨a, rfl, ha⟩ := r
    cases q : M[n]? with
    | none => rw [q] at e; cases e
    | some o =>
      rw [q] at e
      obtain ⟨b, h1, h2⟩ := rl.ob n o q
      have eb : b = a := Option.some.inj (h1.symm.trans ha)
      subst eb
      cases o with
      | dct ks' xs' => cases e; obtain ⟨kvs, h3, h4, h5⟩ := h2; exact ⟨b, kvs, rfl, h3, h4, h5⟩
      | _ => cases e
  | _ => cases e
theorem dict_t (rl : Rl K ρ M H) {w : Wv} {v : V} {ks : List (List Key)} {xs : List Wv} (e : dictAt M w = some (.t ks xs)) (r : RV K ρ H w v) : ∃ a kvs, v = .ref a ∧ H a = some (.dT kvs) ∧ kvs.map (·.1) = ks ∧ RVs K ρ H xs (kvs.map (·.2)) := by
  cases w with
  | dtt ks' xs' => cases e; obtain ⟨a, kvs, rfl, ⟨h, _⟩, h2, h3⟩ := r; exact ⟨a, kvs, rfl, h, h2, h3⟩
  | dct _ _ => cases e
  | ref n =>
    have e : (match M[n]? with | some (Ob.dct ks xs) => some (DS.k ks xs) | some (Ob.dtt ks xs) => some (.t ks xs) | _ => none) = some (.t ks xs) := e
    obtain ⟨a, rfl, ha⟩ := r
    cases q : M[n]? with
    | none => rw [q] at e; cases e
    | some o =>
      rw [q] at e
      obtain ⟨b, h1, h2⟩ := rl.ob n o q
      have eb : b = a := Option.some.inj (h1.symm.trans ha)
      subst eb
      cases o with
      | dtt ks' xs' => cases e; obtain ⟨kvs, h3, h4, h5⟩ := h2; exact ⟨b, kvs, rfl, h3, h4, h5⟩
      | _ => cases e
  | _ => cases e
def OptR (K : PySem.W.Frag) (ρ : Rn) (H : Hp) : Option Wv → Option V → Prop
  | some x, o => ∃ z, o = some z ∧ RV K ρ H x z
  | none, o => o = none
theorem OptR.isSome {r : Option Wv} {o : Option V} (h : OptR K ρ H r o) : o.isSome = r.isSome := by
  cases r with
  | none => rw [show o = none from h]; rfl
  | some w => obtain ⟨z, e, _⟩ := h; rw [e]; rfl
theorem dget_of (rl : Rl K ρ M H) {w y : Wv} {v u : V} {d : DS} {r : Option Wv} (e : dictAt M w = some d) (g : d.get y = some r) (rw' : RV K ρ H w v) (ry : RV K ρ H y u) :
    ∃ a o, v = .ref a ∧ DGet H a u o ∧ OptR K ρ H r o := by
  cases d with
  | k ks xs =>
    obtain ⟨a, kvs, rfl, h1, h2, h3⟩ := dict_k rl e rw'
    obtain ⟨k, hk, rfl⟩ := Option.map_eq_some_iff.mp g
    have := dgA_rel (k := k) h2 h3
    refine ⟨a, valV kvs k, rfl, ?_, ?_⟩
    · rw [key_rel hk ry]; exact DGet.k h1
    · cases q : dgA ks xs k with
      | none => rw [q] at this; exact this
      | some x => rw [q] at this; exact this
  | t ks xs =>
    obtain ⟨a, kvs, rfl, h1, h2, h3⟩ := dict_t rl e rw'
    obtain ⟨k, hk, rfl⟩ := Option.map_eq_some_iff.mp g
    have := dgA_rel (k := k) h2 h3
    obtain ⟨b, rfl, hb⟩ := keyT_rel hk ry
    refine ⟨a, valV kvs k, rfl, DGet.t h1 hb, ?_⟩
    cases q : dgA ks xs k with
    | none => rw [q] at this; exact this
    | some x => rw [q] at this; exact this
end
/-! ### x[k], of lists, tuples, texts, dicts -/
def ixD (x y : Wv) (M : Mem) : R Wv := match dictAt M x with
  | some d => match d.get y with
    | some (some w) => .ok w M
    | _ => .no
  | none => ixW x y M
def inD (neg : Bool) (alt : Wv → Wv → Mem → R Bool) (y x : Wv) (M : Mem) : R Bool := match dictAt M x with
  | some d => match d.get y with
    | some o => .ok (neg ^^ o.isSome) M
    | none => .no
  | none => alt y x M
section
variable {X : Cx} {E : XK} {a b : Expr} {ma mb : Me} {pos : Pos}
def rIxG : R2 := fun x y H Q => ∃ a v, x = .ref a ∧ DGet H a y (some v) ∧ Q v H
theorem ix_dict (hu : X.A.units + 1 < cLine) : IxR X rIxG := by
  intro value slice pins s σ H x y v u Q I rx ry h hs
  obtain ⟨p, z, rfl, g, q⟩ := h
  obtain rfl : v = Value.ref p := rx
  exact tail_any (dict_typeIs I g) PySem.F.slot_dict_getitem.lookup (d_getItem hu I g ry fun w' s' I' rw' => ⟨z, H, I', rw', q⟩) hs
theorem e_ixD (hu : X.A.units + 1 < cLine) (ha : PE X a (te X.K E ma)) (hb : PE X b (te X.K E mb)) (hs : PlainIx b := by exact fun _ _ => rfl) : PE X (.Subscript a b pos) (te X.K E (mBin ixD ma mb)) := by
  have hr : IxR X (r2 X.K E ixD) := by
    intro value slice pins s σ H x y v u Q I rx ry ⟨ρ, M, wx, wy, rl, r1, r2', h⟩ hs
    unfold ixD at h
    cases q : dictAt M wx with
    | none => rw [q] at h; exact x_ix value slice pins s σ H x y v u Q I rx ry ⟨ρ, M, wx, wy, rl, r1, r2', h⟩ hs
    | some d =>
      rw [q] at h
      have h : Fin X.K ρ H (PV X.K Q) E (match d.get wy with | some (some w) => R.ok w M | _ => .no) := h
      cases q2 : d.get wy with
      | none => rw [q2] at h; exact h.elim
      | some o =>
        cases o with
        | none => rw [q2] at h; exact h.elim
        | some w =>
          rw [q2] at h
          obtain ⟨p, oo, e1, e2, z, e3, e4⟩ := dget_of rl q q2 r1 r2'
          exact ix_dict hu value slice pins s σ H x y v u Q I rx ry ⟨p, z, e1, by rw [← e3]; exact e2, fin_val h rl e4⟩ hs
  exact PE.imp (pe_ix hr ha hb hs) fun _ _ _ h => te_two h
theorem o_inD (hu : X.A.units + 1 < cLine) {alt : Wv → Wv → Mem → R Bool} (ho : OpR X (compareOp .In) (rb X.K E alt)) : OpR X (compareOp .In) (rb X.K E (inD false alt)) := by
  intro pins s σ H x y v u Q I rx ry ⟨ρ, M, wx, wy, rl, r1, r2', h⟩
  unfold inD at h
  cases q : dictAt M wy with
  | none => rw [q] at h; exact ho pins s σ H x y v u Q I rx ry ⟨ρ, M, wx, wy, rl, r1, r2', h⟩
  | some d =>
    rw [q] at h
    have h : Fin X.K ρ H _ E (match d.get wx with | some o => R.ok (false ^^ o.isSome) M | none => .no) := h
    cases q2 : d.get wx with
    | none => rw [q2] at h; exact h.elim
    | some o =>
      rw [q2] at h
      obtain ⟨p, oo, e1, e2, e3⟩ := dget_of rl q q2 r2' r1
      subst e1
      obtain rfl : u = Value.ref p := ry
      refine d_in hu I e2 rx fun s' I' => ⟨.bl oo.isSome, H, I', rfl, ?_⟩
      have z := h.here rl
      rw [e3.isSome]
      simpa [PB] using z
theorem o_niD (hu : X.A.units + 1 < cLine) {alt : Wv → Wv → Mem → R Bool} (ho : OpR X (compareOp .NotIn) (rb X.K E alt)) : OpR X (compareOp .NotIn) (rb X.K E (inD true alt)) := by
  intro pins s σ H x y v u Q I rx ry ⟨ρ, M, wx, wy, rl, r1, r2', h⟩
  unfold inD at h
  cases q : dictAt M wy with
  | none => rw [q] at h; exact ho pins s σ H x y v u Q I rx ry ⟨ρ, M, wx, wy, rl, r1, r2', h⟩
  | some d =>
    rw [q] at h
    have h : Fin X.K ρ H _ E (match d.get wx with | some o => R.ok (true ^^ o.isSome) M | none => .no) := h
    cases q2 : d.get wx with
    | none => rw [q2] at h; exact h.elim
    | some o =>
      rw [q2] at h
      obtain ⟨p, oo, e1, e2, e3⟩ := dget_of rl q q2 r2' r1
      subst e1
      obtain rfl : u = Value.ref p := ry
      refine d_notIn hu I e2 rx fun s' I' => ⟨.bl (!oo.isSome), H, I', rfl, ?_⟩
      have z := h.here rl
      rw [e3.isSome]
      simpa [PB] using z
end
/-! ### d[k] = v, del d[k] -/
def setD (o i v : Wv) (M : Mem) : R Unit := match o with
  | .ref n => match M[n]? with
    | some (.dct ks xs) => match keyW i with
      | some k => if ks.length < lim then .ok () (M.set n (.dct (putA ks xs k v).1 (putA ks xs k v).2)) else .no
      | none => .no
    | some (.dtt ks xs) => match keyT i with
      | some k => if ks.length < lim then .ok () (M.set n (.dtt (putA ks xs k v).1 (putA ks xs k v).2)) else .no
      | none => .no
    | _ => setW o i v M
  | _ => .no
def sPutD (a o i : Me) : Ms := fun env M => (a env M).bind fun w M1 => (o env M1).bind fun ov M2 => (i env M2).bind fun iv M3 => (setD ov iv w M3).bind fun _ M4 => .ok (.nx env) M4
def delD (o i : Wv) (M : Mem) : R Unit := match o with
  | .ref n => match M[n]? with
    | some (.dct ks xs) => match keyW i with
      | some k => match dgA ks xs k with
        | some _ => .ok () (M.set n (.dct (dropA ks xs k).1 (dropA ks xs k).2))
        | none => .no
      | none => .no
    | some (.dtt ks xs) => match keyT i with
      | some k => match dgA ks xs k with
        | some _ => if ks.length ≤ lim then .ok () (M.set n (.dtt (dropA ks xs k).1 (dropA ks xs k).2)) else .no
        | none => .no
      | none => .no
    | _ => .no
  | _ => .no
def sDelD (o i : Me) : Ms := fun env M => (o env M).bind fun ov M1 => (i env M1).bind fun iv M2 => (delD ov iv M2).bind fun _ M3 => .ok (.nx env) M3
def rSetD : V → V → V → Hp → (Hp → Prop) → Prop := fun o i v H Q => ∃ a H', o = .ref a ∧ DPut H a i v H' ∧ Q H'
theorem set_dict {X : Cx} (hu : X.A.units + 1 < cLine) : PSet X rSetD := by
  intro pins s σ H o i v ov iv u Q I ro ri rv h
  obtain ⟨a, H', rfl, g, q⟩ := h
  obtain rfl : ov = Value.ref a := ro
  exact d_setItem hu I g ri rv fun s' I' => ⟨H', I', q⟩
theorem PSet.two {X : Cx} {t t' : TSet} (h : PSet X t) (h' : PSet X t') : PSet X (fun o i v H Q => t o i v H Q ∨ t' o i v H Q) := fun pins s σ H o i v ov iv u Q I ro ri rv q =>
  q.elim (h pins s σ H o i v ov iv u Q I ro ri rv) (h' pins s σ H o i v ov iv u Q I ro ri rv)
section
variable {K : PySem.W.Frag} {ρ : Rn} {M : Mem} {H : Hp}
theorem putA_le {κ : Type} [DecidableEq κ] (kvs : List (κ × V)) (k : κ) (v : V) : (putK kvs k v).length ≤ kvs.length + 1 := length_putK kvs k v
theorem setD_in {E : XK} {wo wi w : Wv} {o i v : V} {P : Unit → Mem → Rn → Hp → Prop} {Q : Hp → Prop} (rl : Rl K ρ M H) (ro : RV K ρ H wo o) (ri : RV K ρ H wi i) (rv : RV K ρ H w v) (f : Fin K ρ H P E (setD wo wi w M))
    (q : ∀ M1 H1, Gr ρ H ρ H1 → Rl K ρ M1 H1 → P () M1 ρ H1 → Q H1) : rSetL o i v H Q ∨ rSetD o i v H Q := by
  cases wo with
  | ref n =>
    have f : Fin K ρ H P E (match M[n]? with
      | some (Ob.dct ks xs) => (match keyW wi with
        | some k => if ks.length < lim then R.ok () (M.set n (.dct (putA ks xs k w).1 (putA ks xs k w).2)) else .no
        | none => .no)
      | some (Ob.dtt ks xs) => (match keyT wi with
        | some k => if ks.length < lim then R.ok () (M.set n (.dtt (putA ks xs k w).1 (putA ks xs k w).2)) else .no
        | none => .no)
      | _ => setW (.ref n) wi w M) := f
    cases e : M[n]? with
    | none => rw [e] at f; exact .inl (set_in rl ro ri rv f q)
    | some ob =>
      rw [e] at f
      obtain ⟨a, ha, h2⟩ := rl.ob n ob e
      obtain ⟨a', rfl, ha'⟩ := id ro
      have ea : a = a' := Option.some.inj (ha.symm.trans ha')
      subst ea
      cases ob with
      | lst xs => exact .inl (set_in rl ro ri rv f q)
      | ins C ns xs => exact .inl (set_in rl ro ri rv f q)
      | dct ks xs =>
        have f : Fin K ρ H P E (match keyW wi with
          | some k => if ks.length < lim then R.ok () (M.set n (.dct (putA ks xs k w).1 (putA ks xs k w).2)) else .no
          | none => .no) := f
        obtain ⟨kvs, h3, rfl, h5⟩ := h2
        cases ek : keyW wi with
        | none => rw [ek] at f; exact f.elim
        | some k =>
          rw [ek] at f
          obtain ⟨hz, f⟩ := pick f
          rw [List.length_map] at hz
          have gg : Gr ρ H ρ (upd H a (.dK (putK kvs k v))) := Gr.write ha
          obtain ⟨p1, p2⟩ := putA_rel (k := k) (RV.mono gg w rv) (RVs.mono gg xs h5)
          have rl2 := rl.write (o := .dK (putK kvs k v)) ha (b := .dct (putA (kvs.map (·.1)) xs k w).1 (putA (kvs.map (·.1)) xs k w).2) ⟨putK kvs k v, upd_same, p1, p2⟩
          refine .inr ⟨a, _, rfl, ?_, q _ _ gg rl2 (f ρ _ gg rl2)⟩
          rw [key_rel ek ri]
          exact DPut.k h3 (Nat.lt_of_lt_of_le hz (lim_le (Nat.le_refl _)))
      | dtt ks xs =>
        have f : Fin K ρ H P E (match keyT wi with
          | some k => if ks.length < lim then R.ok () (M.set n (.dtt (putA ks xs k w).1 (putA ks xs k w).2)) else .no
          | none => .no) := f
        obtain ⟨kvs, h3, rfl, h5⟩ := h2
        cases ek : keyT wi with
        | none => rw [ek] at f; exact f.elim
        | some k =>
          rw [ek] at f
          obtain ⟨hz, f⟩ := pick f
          rw [List.length_map] at hz
          have gg : Gr ρ H ρ (upd H a (.dT (putK kvs k v))) := Gr.write ha
          obtain ⟨p1, p2⟩ := putA_rel (k := k) (RV.mono gg w rv) (RVs.mono gg xs h5)
          have rl2 := rl.write (o := .dT (putK kvs k v)) ha (b := .dtt (putA (kvs.map (·.1)) xs k w).1 (putA (kvs.map (·.1)) xs k w).2) ⟨putK kvs k v, upd_same, p1, p2⟩
          obtain ⟨b, rfl, hb⟩ := keyT_rel ek ri
          exact .inr ⟨a, _, rfl, DPut.t h3 hb (Nat.lt_of_lt_of_le hz (lim_le (Nat.le_refl _))), q _ _ gg rl2 (f ρ _ gg rl2)⟩
  | _ => exact f.elim
end
section
variable {X : Cx} {E : XK} {e o i' : Expr} {me mo mi : Me} {pos : Pos}
theorem s_putD (hu : X.A.units + 1 < cLine) {p2 : Pos} (he : PE X e (te X.K E me)) (ho : PE X o (te X.K E mo)) (hi : PE X i' (te X.K E mi)) (hs : swapsWithSole [.Subscript o i' p2] e pos.line X.env = pure false := by rfl) (hw : swappedStores [.Subscript o i' p2] e X.env = pure none := by rfl)
    (h1 : (assignEach [.Subscript o i' p2] X.env).map (·.2) = [assign (.Subscript o i' p2) X.env] := by rfl)
    (ha : ∀ v, assign (.Subscript o i' p2) X.env v = (do
      let ov ← holding [v] (eval o X.env)
      let iv ← holding [v, ov] (eval i' X.env)
      standAt p2
      holding [v, ov, iv] (setItem ov iv v)
      release [v, ov, iv] []) := by intro _; rfl) : PS X (.Assign [.Subscript o i' p2] e pos) (ts X.K E (sPutD me mo mi)) :=
  PS.imp (ps_asg he (pg_sub ho hi (PSet.two set_list (set_dict hu)) ha) hs hw h1) fun D σ H ⟨ρ, M, env, rl, re, f⟩ => by
    refine te_then rl re f fun w M1 ρ1 H1 v g1 rl1 re1 rv1 f1 => ?_
    refine te_then rl1 re1 f1 fun wo M2 ρ2 H2 ov g2 rl2 re2 rv2 f2 => ?_
    refine te_then rl2 re2 f2 fun wi M3 ρ3 H3 iv g3 rl3 re3 rv3 f3 => ?_
    exact setD_in rl3 (RV.mono g3 wo rv2) rv3 (RV.mono g3 w (RV.mono g2 w rv1)) f3.bind fun M4 H4 g4 rl4 f4 => f4.here rl4 _ (re3.mono g4)
end
end Mi

/-! del d[k]; {k: v, ..} with tuples for keys -/
namespace Mi
open PySem PySem.Spec PyProof.Rows L2
section
variable {X : Cx} {pins : List (Addr × Obj)} {σ : L2.St} {H : Hp} {s : Shared} {a b : Addr} {kvs : List (List Key × V)} {k : List Key} {A : Around} {E : Value → Shared → Prop}
theorem d_delT {Q : Unit → Shared → Prop} (hu : A.units + 1 < cLine) (I : Inv X pins σ H s) (e : H a = some (.dT kvs)) (hb : H b = some (.tup (k.map kV))) (l : (valV kvs k).isSome = true) (h : ∀ s', Inv X pins σ (upd H a (.dT (dropK kvs k))) s' → Q () s') :
    wpAny (model X.prog X.w) A (delItem (.ref a) (.ref b)) Q E s := by
  obtain ⟨z, hd, xs, rel, dd⟩ := dt_of I.hok e
  have hz : xs.length ≤ sizeLine := by rw [← Paired.length rel]; exact z
  have hv := (rel.val k).isSome_eq
  rw [l, Option.isSome_map] at hv
  obtain ⟨p, hp⟩ := Option.isSome_iff_exists.mp hv.symm
  refine wpAny_delItem_heap (hsz := hz) (tupleKind_room_in1 hu) (key_of I.hok hb) hd dd hp fun h' dd' hs => h _ ?_
  obtain ⟨q, es, ep, hq, h2, h3, h4, _, h5⟩ := dd'
  refine d_write I (by rw [e]; exact True.intro) hs ⟨q, hq⟩ ⟨Nat.le_trans (dropK_le kvs k) z, hd, _, (L2.DX.KT_drop k rel).keeps (fun c ys ec => ?_), q, es, ep, hq, h2, h3, h4, h5⟩
  rw [upd_ne (ne_of ec e (fun z => nomatch z))]
  exact ec
end
def rDelD : V → V → Hp → (Hp → Prop) → Prop := fun o i H Q => ∃ a, o = .ref a ∧ ((∃ kvs k, H a = some (.dK kvs) ∧ i = kV k ∧ (valV kvs k).isSome = true ∧ Q (upd H a (.dK (dropK kvs k)))) ∨
  ∃ kvs k b, H a = some (.dT kvs) ∧ i = .ref b ∧ H b = some (.tup (k.map kV)) ∧ (valV kvs k).isSome = true ∧ Q (upd H a (.dT (dropK kvs k))))
section
variable {K : PySem.W.Frag} {ρ : Rn} {M : Mem} {H : Hp}
theorem delD_in {E : XK} {wo wi : Wv} {o i : V} {P : Unit → Mem → Rn → Hp → Prop} {Q : Hp → Prop} (rl : Rl K ρ M H) (ro : RV K ρ H wo o) (ri : RV K ρ H wi i) (f : Fin K ρ H P E (delD wo wi M))
    (q : ∀ M1 H1, Gr ρ H ρ H1 → Rl K ρ M1 H1 → P () M1 ρ H1 → Q H1) : rDelD o i H Q := by
  cases wo with
  | ref n =>
    have f : Fin K ρ H P E (match M[n]? with
      | some (Ob.dct ks xs) => (match keyW wi with
        | some k => (match dgA ks xs k with
          | some _ => R.ok () (M.set n (.dct (dropA ks xs k).1 (dropA ks xs k).2))
          | none => .no)
        | none => .no)
      | some (Ob.dtt ks xs) => (match keyT wi with
        | some k => (match dgA ks xs k with
          | some _ => if ks.length ≤ lim then R.ok () (M.set n (.dtt (dropA ks xs k).1 (dropA ks xs k).2)) else .no
          | none => .no)
        | none => .no)
      | _ => .no) := f
    cases e : M[n]? with
    | none => rw [e] at f; exact f.elim
    | some ob =>
      rw [e] at f
      obtain ⟨a, ha, h2⟩ := rl.ob n ob e
      obtain ⟨a', rfl, ha'⟩ := id ro
      have ea : a = a' := Option.some.inj (ha.symm.trans ha')
      subst ea
      refine ⟨a, rfl, ?_⟩
      cases ob with
      | lst xs => exact f.elim
      | ins C ns xs => exact f.elim
      | dct ks xs =>
        have f : Fin K ρ H P E (match keyW wi with
          | some k => (match dgA ks xs k with
            | some _ => R.ok () (M.set n (.dct (dropA ks xs k).1 (dropA ks xs k).2))
            | none => .no)
          | none => .no) := f
        obtain ⟨kvs, h3, rfl, h5⟩ := h2
        cases ek : keyW wi with
        | none => rw [ek] at f; exact f.elim
        | some k =>
          rw [ek] at f
          have f : Fin K ρ H P E (match dgA (kvs.map (·.1)) xs k with
            | some _ => R.ok () (M.set n (.dct (dropA (kvs.map (·.1)) xs k).1 (dropA (kvs.map (·.1)) xs k).2))
            | none => .no) := f
          have hg := dgA_rel (k := k) rfl h5
          cases eg : dgA (kvs.map (·.1)) xs k with
          | none => rw [eg] at f; exact f.elim
          | some w0 =>
            rw [eg] at f hg
            obtain ⟨v0, hv, _⟩ := hg
            have gg : Gr ρ H ρ (upd H a (.dK (dropK kvs k))) := Gr.write ha
            obtain ⟨p1, p2⟩ := dropA_rel (k := k) (RVs.mono gg xs h5)
            have rl2 := rl.write (o := .dK (dropK kvs k)) ha (b := .dct (dropA (kvs.map (·.1)) xs k).1 (dropA (kvs.map (·.1)) xs k).2) ⟨dropK kvs k, upd_same, p1, p2⟩
            exact .inl ⟨kvs, k, h3, key_rel ek ri, by rw [hv]; rfl, q _ _ gg rl2 (f ρ _ gg rl2)⟩
      | dtt ks xs =>
        have f : Fin K ρ H P E (match keyT wi with
          | some k => (match dgA ks xs k with
            | some _ => if ks.length ≤ lim then R.ok () (M.set n (.dtt (dropA ks xs k).1 (dropA ks xs k).2)) else .no
            | none => .no)
          | none => .no) := f
        obtain ⟨kvs, h3, rfl, h5⟩ := h2
        cases ek : keyT wi with
        | none => rw [ek] at f; exact f.elim
        | some k =>
          rw [ek] at f
          have f : Fin K ρ H P E (match dgA (kvs.map (·.1)) xs k with
            | some _ => if (kvs.map (·.1)).length ≤ lim then R.ok () (M.set n (.dtt (dropA (kvs.map (·.1)) xs k).1 (dropA (kvs.map (·.1)) xs k).2)) else .no
            | none => .no) := f
          have hg := dgA_rel (k := k) rfl h5
          cases eg : dgA (kvs.map (·.1)) xs k with
          | none => rw [eg] at f; exact f.elim
          | some w0 =>
            rw [eg] at f hg
            obtain ⟨hz, f⟩ := pick f
            obtain ⟨v0, hv, _⟩ := hg
            have gg : Gr ρ H ρ (upd H a (.dT (dropK kvs k))) := Gr.write ha
            obtain ⟨p1, p2⟩ := dropA_rel (k := k) (RVs.mono gg xs h5)
            have rl2 := rl.write (o := .dT (dropK kvs k)) ha (b := .dtt (dropA (kvs.map (·.1)) xs k).1 (dropA (kvs.map (·.1)) xs k).2) ⟨dropK kvs k, upd_same, p1, p2⟩
            obtain ⟨b, rfl, hb⟩ := keyT_rel ek ri
            exact .inr ⟨kvs, k, b, h3, rfl, hb, by rw [hv]; rfl, q _ _ gg rl2 (f ρ _ gg rl2)⟩
  | _ => exact f.elim
end
section
variable {X : Cx} {E : XK} {o i' : Expr} {mo mi : Me} {pos tpos : Pos}
theorem s_delD (hu : X.A.units + 1 < cLine) (ho : PE X o (te X.K E mo)) (hi : PE X i' (te X.K E mi)) : PS X (.Delete [.Subscript o i' tpos] pos) (ts X.K E (sDelD mo mi)) := by
  refine ⟨fun pins s σ H D I ⟨ρ, M, env, rl, re, f⟩ => ?_⟩
  have go : te X.K E mo σ H (fun x H1 => te X.K E mi σ H1 fun y H2 => rDelD x y H2 fun H3 => D.nx σ H3) :=
    te_then rl re f fun wo M1 ρ1 H1 v g1 rl1 re1 rv1 f1 => te_then rl1 re1 f1 fun wi M2 ρ2 H2 u g2 rl2 re2 rv2 f2 => delD_in rl2 (RV.mono g2 wo rv1) rv2 f2.bind fun M3 H3 g3 rl3 f3 => f3.here rl3 _ (re2.mono g3)
  refine wpAny_Delete (wpAny_deleteEach_cons (wpAny_delete_Subscript (thn (ho.run pins s σ H _ I go) fun u s1 ⟨x, H1, I1, rx, q1⟩ => thn (hi.run pins s1 σ H1 _ I1 q1) fun iv s2 ⟨y, H2, I2, ry, a, ex, q2⟩ => ?_)))
  subst ex
  obtain rfl : u = Value.ref a := rx
  rcases q2 with ⟨kvs, k, e, ey, l, q3⟩ | ⟨kvs, k, b, e, ey, hb, l, q3⟩
  · subst ey
    exact d_delItem I2 e ry l fun s3 I3 => wpAny_deleteEach_nil ⟨σ, _, I3, q3⟩
  · subst ey
    obtain rfl : iv = Value.ref b := ry
    exact d_delT hu I2 e hb l fun s3 I3 => wpAny_deleteEach_nil ⟨σ, _, I3, q3⟩
end
end Mi

/-! {k: v} with a tuple for a key, as a dict of the memory -/
namespace Mi
open PySem PySem.Spec PyProof.Rows L2
theorem unlock {K : PySem.W.Frag} {D : Addr} {ρ1 ρ' : Rn} {H1 H' : Hp} {M1 M' : Mem} {b : Ob} (hD : H1 D = none) (rl1 : Rl K ρ1 M1 H1) (lk : Lk D ρ1 H1 ρ' H') (rl' : Rl K ρ' M' H')
    (hb : Mv ρ' H' ⟨ρ'.l ++ [D], ρ1.f⟩ H' → RO K ⟨ρ'.l ++ [D], ρ1.f⟩ H' D b) : Rl K ⟨ρ'.l ++ [D], ρ1.f⟩ (M' ++ [b]) H' ∧ Gr ρ1 H1 ⟨ρ'.l ++ [D], ρ1.f⟩ H' ∧ (ρ'.l ++ [D])[M'.length]? = some D := by
  have hDf : D ∈ ρ'.f := by rw [lk.f]; exact List.mem_cons_self
  have hDl : D ∉ ρ'.l := (rl'.fs D hDf).1
  have off : Mv ρ' H' ⟨ρ'.l ++ [D], ρ1.f⟩ H' := by
    refine ⟨fun a u ⟨h1, h2⟩ => ⟨h1, fun z => ?_, fun z => h2.2 (by rw [lk.f]; exact List.mem_cons_of_mem _ z)⟩, fun n x h => ?_⟩
    · rcases List.mem_append.mp z with z | z
      · exact h2.1 z
      · exact h2.2 (by rw [List.mem_singleton.mp z]; exact hDf)
    · show (ρ'.l ++ [D])[n]? = some x
      rw [List.getElem?_append_left (List.getElem?_eq_some_iff.mp h).1]
      exact h
  have at' : (ρ'.l ++ [D])[M'.length]? = some D := by rw [← rl'.len]; simp
  refine ⟨⟨?_, by simp [rl'.len], fun n o e => ?_, fun a ha => ⟨fun z => ?_, (rl'.fs a (by rw [lk.f]; exact List.mem_cons_of_mem _ ha)).2⟩⟩, ?_, at'⟩
  · show (ρ'.l ++ [D]).Nodup
    rw [List.nodup_append]
    exact ⟨rl'.nd, by simp, fun x hx y hy => by rw [List.mem_singleton.mp hy]; rintro rfl; exact hDl hx⟩
  · by_cases hn : n < M'.length
    · rw [List.getElem?_append_left hn] at e
      obtain ⟨a, h1, h2⟩ := rl'.ob n o e
      exact ⟨a, off.ix n a h1, RO.move off rfl h2⟩
    · have hn2 : n = M'.length := by
        have := (List.getElem?_eq_some_iff.mp e).1
        simp at this
        omega
      subst hn2
      simp at e
      subst e
      exact ⟨D, at', hb off⟩
  · rcases List.mem_append.mp z with z | z
    · exact (rl'.fs a (by rw [lk.f]; exact List.mem_cons_of_mem _ ha)).1 z
    · rw [List.mem_singleton.mp z] at ha
      exact (rl1.out hD).2 ha
  · obtain ⟨t, et⟩ := lk.pre
    refine ⟨⟨t ++ [D], by show ρ'.l ++ [D] = _; rw [et, List.append_assoc]⟩, rfl, lk.keep, fun a ha => ?_⟩
    rcases List.mem_append.mp ha with z | z
    · exact lk.new a z
    · rw [List.mem_singleton.mp z]; exact .inr hD
def tDisp1T (tk tv : TE) : TE := fun σ H Q => ∀ p, H p = none → tk σ (upd H p (.dT [])) fun x H1 => tv σ H1 fun y H2 => H2 p = some (.dT []) ∧ ∃ (b : Addr) (k : List Key), x = .ref b ∧ H2 b = some (.tup (k.map kV)) ∧ Q (.ref p) (upd H2 p (.dT [(k, y)]))
theorem pe_disp1T {X : Cx} {pos : Pos} {ke ve : Expr} {tk tv : TE} (hu : X.A.units + 1 < cLine) (hk : PE X ke tk) (hv : PE X ve tv) : PE X (.Dict [some ke] [ve] pos) (tDisp1T tk tv) := by
  refine ⟨fun pins s σ H Q I q => ?_⟩
  have hn := I.hok.fresh (Nat.le_refl s.heap.objs.size)
  have I1 := I.laid (a := s.heap.objs.size) (o := .dT []) (h' := s.heap.push { cls := .type "dict", data := .dict #[] }) (t' := s.toks) (fun _ _ q => Heap.get?_push_of_some _ q) (Nat.le_refl _) (dt_empty s.heap I.big)
  have hp : PPs X pos [some ke] [ve] [(tk, tv)] := pps_cons hk hv pps_nil
  have hl := pairTrees_length [some ke] [ve] X.env pos rfl rfl
  rw [arm_eval_Dict, zip_pairTrees [some ke] [ve] X.env pos rfl rfl, dictDisplay_pairs (pairTrees [some ke] [ve] X.env pos) (by intro z; rw [z] at hl; cases hl) (by rw [hl]; simp)]
  refine wpAny_bind (wpAny_standAt (wpAny_bind (wpAny_subDictH (knd := tupleKind (mixKind X.prog X.w)) (Q := fun d s' => wpAny (model X.prog X.w) X.A (pure (Value.ref d)) (EP X pins σ Q) X.xe s') (by show X.A.units < cLine; omega) (by rw [hl]; simp) ?_)))
  refine thn (hp.run pins _ σ _ (fun ps H2 => match ps with
    | [(x, y)] => H2 s.heap.objs.size = some (.dT []) ∧ ∃ (b : Addr) (k : List Key), x = .ref b ∧ H2 b = some (.tup (k.map kV)) ∧ Q (.ref s.heap.objs.size) (upd H2 s.heap.objs.size (.dT [(k, y)]))
    | _ => False) I1 (q _ hn)) fun ws s2 ⟨ps, H2, I2, rel, h2⟩ => ?_
  match ps, rel, h2 with
  | [], _, h2 => exact h2.elim
  | _ :: _ :: _, _, h2 => exact h2.elim
  | [(x, y)], rel, ⟨e, b, k, ex, hb, q2⟩ =>
    subst ex
    cases rel with
    | @cons _ w0 _ ws2 r0 t0 =>
      cases (show ws2 = [] from by cases t0; rfl)
      obtain ⟨u, w⟩ := w0
      obtain ⟨r1, r2⟩ := r0
      obtain rfl : u = Value.ref b := r1
      obtain ⟨z, hd, xs, kt, dd⟩ := dt_of I2.hok e
      cases kt
      refine ⟨[(k, b, w)], ⟨rfl, rfl, key_of I2.hok hb, trivial⟩, dd, fun h' tk dd' hs => wpAny_pure ⟨.ref s.heap.objs.size, _, ?_, rfl, q2⟩⟩
      have dd2 : h'.DictOfH (tupleKind (mixKind X.prog X.w)) s.heap.objs.size [(k, b, w)] := dd'
      obtain ⟨o, es, ep, hq, h2, h3, h4, _, h5⟩ := dd2
      refine d_write I2 (by rw [e]; exact True.intro) hs ⟨o, hq⟩ ⟨by rw [sizeLine_eq]; simp, hd, [(k, b, w)], .cons ⟨rfl, ?_, r2⟩ .nil, o, es, ep, hq, h2, h3, h4, h5⟩
      rw [upd_ne (ne_of hb e (fun z => nomatch z))]
      exact hb
def mDsp1 (a b : Me) : Me := fun env M => (noX (a env M)).bind fun x M1 => (noX (b env M1)).bind fun y M2 => match keyT x with
  | some k => .ok (.ref M2.length) (M2 ++ [.dtt [k] [y]])
  | none => .no
theorem e_dsp1 {X : Cx} {E : XK} {pos : Pos} {a b : Expr} {ma mb : Me} (hu : X.A.units + 1 < cLine) (ha : PE X a (te X.K E0 ma)) (hb : PE X b (te X.K E0 mb)) : PE X (.Dict [some a] [b] pos) (te X.K E (mDsp1 ma mb)) := by
  refine PE.imp (pe_disp1T hu ha hb) fun σ H Q ⟨ρ, M, env, rl, re, f⟩ p hp => ?_
  have lk0 : Lk p ρ H (ρ.lock p) (upd H p (.dT [])) := ⟨rfl, ⟨[], by simp [Rn.lock]⟩, fun a o _ e => by rw [upd_ne (ne_of_none e hp)]; exact e, fun a z => .inl z⟩
  refine ⟨ρ.lock p, M, env, rl_lock rl hp, re.move (mv_lock hp), (fin_noX f).imp fun x M1 ρ1 H1 g1 rl1 f1 v1 rv1 => ?_⟩
  refine ⟨ρ1, M1, env, rl1, (re.move (mv_lock hp)).mono g1, (fin_noX f1).imp fun y M2 ρ2 H2 g2 rl2 f2 v2 rv2 => ?_⟩
  have lk := (lk0.on g1).on g2
  have hp0 : p ∈ (ρ.lock p).f := List.mem_cons_self
  have hp1 : H1 p = some (.dT []) := g1.keep p _ (rl.out hp).1 upd_same
  have hp2 : H2 p = some (.dT []) := g2.keep p _ (rl1.fs p (by rw [g1.same]; exact hp0)).1 hp1
  cases ek : keyT x with
  | none => rw [ek] at f2; exact f2.elim
  | some k =>
    rw [ek] at f2
    obtain ⟨c, rfl, hc⟩ := keyT_rel ek (RV.mono g2 x rv1)
    refine ⟨hp2, c, k, rfl, hc, ?_⟩
    have hDf : p ∈ ρ2.f := by rw [lk.f]; exact List.mem_cons_self
    have rl3 := rl_turn (o := .dT [(k, v2)]) rl2 hDf
    obtain ⟨r1, r2, r3⟩ := unlock (b := .dtt [k] [y]) hp rl (lk.turn hp) rl3 fun off => ⟨[(k, v2)], upd_same, rfl, v2, [], rfl, RV.move off _ (RV.move (mv_turn hDf) _ rv2), rfl⟩
    exact f2 _ _ r2 r1 _ ⟨p, rfl, r3⟩
end Mi

/-! {k: v for .. in ..}, the keys tuples (the road is that of HandS.DictComp's rule for ints and texts, turned to tuples) -/
namespace Mi
open PySem PySem.Spec PyProof.Rows L2
/-- one entry by a comprehension -/
theorem dT_store {X : Cx} {pins : List (Addr × Obj)} {σ : L2.St} {H : Hp} {s : Shared} {E : Value → Shared → Prop} {D b : Addr} {kvs : List (List Key × V)} {k : List Key} {v : V} {r : Value} {Q : Unit → Shared → Prop} (hu : X.A.units < cLine) (I : Inv X pins σ H s) (hD : H D = some (.dT kvs)) (hb : H b = some (.tup (k.map kV)))
    (hz : kvs.length < sizeLine) (rv : RelV v r) (h : ∀ s', Inv X pins σ (upd H D (.dT (putK kvs k v))) s' → Q () s') : wpAny (model X.prog X.w) X.A (dictSet D (.ref b) r) Q E s := by
  obtain ⟨z, hd, xs, rel, dd⟩ := dt_of I.hok hD
  have hl := length_putK kvs k v
  refine wpAny_dictSet_heap (knd := tupleKind (mixKind X.prog X.w)) (hsz := by rw [← Paired.length rel]; exact z) (show X.A.units < cLine from hu) (key_of I.hok hb) dd fun h' dd' hs => h _ ?_
  obtain ⟨q, es, ep, hq, h2, h3, h4, _, h5⟩ := dd'
  refine d_write I (by rw [hD]; exact True.intro) hs ⟨q, hq⟩ ⟨by omega, hd, _, (rel.put k hb rv).keeps fun c ys ec => ?_, q, es, ep, hq, h2, h3, h4, h5⟩
  rw [upd_ne (ne_of ec hD (fun z => nomatch z))]
  exact ec
/-- D the new dict -/
def tDcT (wi : TI) (g : TG) (tt : TT) (tk tv : TE) (vs : List Nat) : TE := fun σ H Q => wi σ H fun J H1 => ∀ D, H1 D = none → ∃ W : Nat → Nat → Hp → Prop, (∃ m, W 0 m (upd H1 D (.dT []))) ∧ ∀ i m H, W i m H →
  (J.stop i H ∧ Q (.ref D) H) ∨ (J.go i H ∧ ∃ Nx : Hp → Prop, (∀ H', Nx H' → ∃ m', m' < m ∧ W (i + 1) m' H') ∧ ∀ x H', J.yld i H x H' → g x (wipe σ vs) H' fun σ2 H2 => wipe σ2 vs = wipe σ vs ∧ tt σ2 H2 fun b H3 =>
    if b = true then tk σ2 H3 fun y H4 => tv σ2 H4 fun z H5 => ∃ (kvs : List (List Key × V)) (k : List Key) (b : Addr), y = .ref b ∧ H5 b = some (.tup (k.map kV)) ∧ H5 D = some (.dT kvs) ∧ kvs.length < sizeLine ∧ Nx (upd H5 D (.dT (putK kvs k z))) else Nx H3)
section
variable {X : Cx}
theorem dcT_core {pins : List (Addr × Obj)} {s : Shared} {σ : L2.St} {H : Hp} {Q : VK} {kx vx tg iter : Expr} {ifs : List Expr} {scope : Scope} {own : List (Str × Nat)} {pos pos' : Pos} {wi : TI} {g : TG} {tt : TT} {tk tv : TE} {use : Option (Value → Sem Unit)} {Qf : Value → Shared → Prop}
    (hu : X.A.units < cLine) (hc : X.calm = true) (hN : X.N.Nodup) (I : Inv X pins σ H s) (hi : PI X tg iter wi) (ok : BlkOk X.N X.env.scope scope own)
    (hg : ∀ (s : Shared) (H : Hp) (C : Addr) (cl : List (Str × Addr)) (fp : List Addr), PG (X.blk s H scope (compEnvC scope cl C X.env) fp) tg g) (ht : ∀ (s : Shared) (H : Hp) (C : Addr) (cl : List (Str × Addr)) (fp : List Addr), PTs (X.blk s H scope (compEnvC scope cl C X.env) fp) ifs tt)
    (hk : ∀ (s : Shared) (H : Hp) (C : Addr) (cl : List (Str × Addr)) (fp : List Addr), PE (X.blk s H scope (compEnvC scope cl C X.env) fp) kx tk)
    (he : ∀ (s : Shared) (H : Hp) (C : Addr) (cl : List (Str × Addr)) (fp : List Addr), PE (X.blk s H scope (compEnvC scope cl C X.env) fp) vx tv) (hs : ∀ x, foldedSetIterable iter X.env x = pure x)
    (h : tDcT wi g tt tk tv (own.map (·.2)) σ H Q)
    (hRR : ∀ D C s' m H', Inv X pins σ H' s' → Q (.ref D) H' → s'.heap.Ns C m → FpOk X pins H' C → compPost (model X.prog X.w) X.A X.xe use Qf (.ref D) C (.ok .next) s') :
    wpAny (model X.prog X.w) X.A (comprehension (.DictComp kx vx [⟨tg, iter, ifs, 0⟩] scope pos) scope X.env pos' newDict false (eval iter X.env) use) Qf X.xe s := by
  have hfree : ∀ y ∈ scope.names, y.2 = .free → ∃ c, X.env.cells.lookup y.1 = some c := fun y hy e => (ok.free y hy e).elim (fun k => I.ok.has _ (.inl k)) (fun k => I.ok.has _ (.inr k))
  refine wpAny_comprehension_free (use := use) rfl hs (closure_ok hfree) ok.kind (fun y hy e => by rw [ok.uniq y hy, e]) (thn (hi.run pins s σ H _ I h) fun xv s1 hx => thn hx fun itv s2 ⟨it, fp, tn, J, H2, e, I2, T, st2, f2, q⟩ => ?_)
  subst e
  refine wpAny_newObj_type (newEnv_comp ?_)
  -- the new dict's place
  generalize hD : s2.heap.objs.size = D
  obtain ⟨W, ⟨m0, w0⟩, turn⟩ := q D (I2.hok.fresh (Nat.le_of_eq hD))
  generalize hs3 : ({ s2 with heap := s2.heap.push { cls := .type "dict", data := .dict #[] } } : Shared) = s3
  have h3 : s3.heap = s2.heap.push { cls := .type "dict", data := .dict #[] } := by rw [← hs3]
  have I3 : Inv X pins σ (upd H2 D (.dT [])) s3 := by
    rw [← hs3]
    exact I2.laid (t' := s2.toks) (fun b o e => Heap.get?_push_of_some _ e) (Nat.le_of_eq hD) (by rw [← hD]; exact dt_empty s2.heap I2.big)
  have f3 : ∀ b ∈ fp, FpOk X pins (upd H2 D (.dT [])) b ∧ b < s3.heap.objs.size := fun b hb => by
    obtain ⟨o, e, _⟩ := T.obj _ _ st2 b hb
    have hlt := Heap.lt_size e
    refine ⟨⟨?_, (f2 b hb).2⟩, by rw [h3, Heap.size_push]; exact Nat.lt_succ_of_lt hlt⟩
    rw [upd_ne (by rw [← hD]; exact Nat.ne_of_lt hlt)]
    exact (f2 b hb).1
  have st3 : tn 0 s3.heap := T.keep _ _ _ st2 fun b _ o e => by rw [h3]; exact Heap.get?_push_of_some _ e
  -- the block
  have I4 := block_start I3 ok hN f3
  generalize hcl : cellsFrom (s3.heap.objs.size + 1) scope.names (cloFrom X.env.cells scope.names []) = cl at I4 ⊢
  have pg := hg s3 (upd H2 D (.dT [])) s3.heap.objs.size cl fp
  have pt := ht s3 (upd H2 D (.dT [])) s3.heap.objs.size cl fp
  have pk := hk s3 (upd H2 D (.dT [])) s3.heap.objs.size cl fp
  have pe := he s3 (upd H2 D (.dT [])) s3.heap.objs.size cl fp
  have nfp : ∀ b ∈ fp, (upd H2 D (.dT [])) b = none := fun b hb => (f3 b hb).1.1
  show codeAny _ _ (.compStart (.DictComp kx vx [⟨tg, iter, ifs, 0⟩] scope pos) 0 (.ref it) (.ref D) (compEnvC scope cl s3.heap.objs.size X.env)) (compPost (model X.prog X.w) X.A X.xe use Qf (.ref D) s3.heap.objs.size) { s3 with heap := pushCells (s3.heap.push { cls := .type "dict", data := .dict #[] }) scope.names }
  generalize hce : compEnvC scope cl s3.heap.objs.size X.env = ce at I4 pg pt pk pe ⊢
  have cL : ce.locals = s3.heap.objs.size := by subst hce; rfl
  generalize hH3 : upd H2 D (.dT []) = H3 at I3 I4 pg pt pk pe w0 nfp f3
  generalize hs4 : ({ s3 with heap := pushCells (s3.heap.push { cls := .type "dict", data := .dict #[] }) scope.names } : Shared) = s4 at I4 ⊢
  have st4 : tn 0 s4.heap := T.keep _ _ _ st3 fun b _ o e => by rw [← hs4]; exact pushCells_keeps _ _ _ _ (Heap.get?_push_of_some _ e)
  have stat : ∀ {σ' : L2.St} {H' : Hp} {s' : Shared}, Inv (X.blk s3 H3 scope ce fp) [] σ' H' s' → (∀ b ∈ fp, H' b = none) → ∀ b ∈ fp, FpOk (X.blk s3 H3 scope ce fp) [] H' b := fun {σ' H' s'} I' hn b hb =>
    ⟨hn b hb, (I'.ok.exf b hb).1, I'.ok.exfs b hb, .inl hb, fun x c e => (I'.ok.exf b hb).2 x c e, fun p hp => absurd (show p ∈ ([] : List (Addr × Obj)) ++ [] from hp) (by simp)⟩
  have loop : codeAny (model X.prog X.w) X.A (.compLoop (.DictComp kx vx [⟨tg, iter, ifs, 0⟩] scope pos) 0 (.ref it) (.ref D) ce) (compPost (model X.prog X.w) X.A X.xe use Qf (.ref D) s3.heap.objs.size) s4 := by
    refine compLoop_anyD (fun n s' => ∃ i H', Inv (X.blk s3 H3 scope ce fp) [] (wipe σ (own.map (·.2))) H' s' ∧ tn i s'.heap ∧ (∀ b ∈ fp, H' b = none) ∧ W i n H') ?_ m0 ⟨0, H3, I4, st4, nfp, w0⟩
    rintro n s5 ⟨i, H5, I5, st5, n5, w5⟩
    rcases turn i n H5 w5 with ⟨stop, qq⟩ | ⟨go, Nx, hNx, step⟩
    · refine thnF (T.done (X.blk s3 H3 scope ce fp) rfl rfl rfl hc i [] s5 _ H5 (fun _ _ => False) I5 (stat I5 n5) st5 stop) fun r s6 ⟨hr, I6⟩ => ?_
      subst hr
      have I7 : Inv X pins σ H5 s6 := I3.call' (ch := fp) I6.os I6.base I6.hok I6.bare fun b hb => ⟨(f3 b hb).1.2.2.2.1, (f3 b hb).1.2.1, (f3 b hb).1.2.2.2.2.1, (f3 b hb).1.2.2.2.2.2⟩
      have nC : H5 s3.heap.objs.size = none := by rw [← cL]; exact I6.free
      obtain ⟨m, hn, _⟩ := I6.loc
      have hn : s6.heap.Ns ce.locals m := hn
      rw [cL] at hn
      exact hRR D s3.heap.objs.size s6 m H5 I7 qq hn (I3.fpOk (Nat.le_refl _) nC)
    · refine thnF (T.item (X.blk s3 H3 scope ce fp) rfl rfl rfl hc i [] s5 _ H5 (fun _ _ => False) I5 (stat I5 n5) st5 go) fun r s6 ⟨u, hr, h6⟩ => ?_
      subst hr
      refine thnF h6 fun _ s7 ⟨x, H7, I7, r7, y7, st7, n7⟩ => ?_
      refine thnF (pg.run _ s7 _ H7 x u _ (I7.pinned (stat I7 n7) (T.obj _ _ st7)) r7 (step x H7 y7)) fun _ s8 ⟨σ8, H8, I8, hw8, q8⟩ => ?_
      refine thnF (pt.run _ s8 σ8 H8 _ I8 q8) fun b s9 ⟨H9, I9, q9⟩ => ?_
      have fin : ∀ {s' : Shared} {H' : Hp}, Inv (X.blk s3 H3 scope ce fp) ([] ++ pinsAt fp s7.heap) σ8 H' s' → Nx H' → ∃ m, m < n ∧ ∃ i H', Inv (X.blk s3 H3 scope ce fp) [] (wipe σ (own.map (·.2))) H' s' ∧ tn i s'.heap ∧ (∀ b ∈ fp, H' b = none) ∧ W i m H' := fun {s' H'} I' nx => by
        obtain ⟨m', hm, w'⟩ := hNx H' nx
        have pin' : ∀ b ∈ fp, ∀ o, s7.heap.get? b = some o → s'.heap.get? b = some o ∧ H' b = none := fun b hb o e =>
          let z := I'.pin (b, o) (List.mem_append_right _ (List.mem_append_right _ (mem_pinsAt hb e)))
          ⟨z.1, z.2.1⟩
        refine ⟨m', hm, i + 1, H', (I'.unpinned (pins := [])).weak (by rw [← hw8, wipe_length]) (fun j v e => ?_), T.keep _ _ _ st7 fun b hb o e => (pin' b hb o e).1, fun b hb => ?_, w'⟩
        · rw [← hw8] at e; exact (wipe_some e).1
        · obtain ⟨o, e, _⟩ := T.obj _ _ st7 b hb
          exact (pin' b hb o e).2
      cases b with
      | false =>
        simp only [Bool.false_eq_true, if_false] at q9 ⊢
        exact fin I9 q9
      | true =>
        simp only [if_true] at q9 ⊢
        refine thnF (pk.run _ s9 σ8 H9 _ I9 q9) fun z s10 ⟨yk, H10, I10, r10, q10⟩ => ?_
        refine thnF (pe.run _ s10 σ8 H10 _ I10 q10) fun z2 s11 ⟨yv, H11, I11, r11, kvs, k, b, ek, hb, hD11, hz11, nx⟩ => ?_
        subst ek
        obtain rfl : z = Value.ref b := r10
        exact dT_store (X := X.blk s3 H3 scope ce fp) hu I11 hD11 hb hz11 r11 fun s12 I12 => fin I12 nx
  exact codeAny_compStart_dict loop (T.self X.A 0 _ _ _ st4 loop)
theorem pe_dcT {kx vx tg iter : Expr} {ifs : List Expr} {scope : Scope} {own : List (Str × Nat)} {pos : Pos} {wi : TI} {g : TG} {tt : TT} {tk tv : TE} (hu : X.A.units < cLine) (hc : X.calm = true) (hN : X.N.Nodup) (hi : PI X tg iter wi) (ok : BlkOk X.N X.env.scope scope own)
    (hg : ∀ (s : Shared) (H : Hp) (C : Addr) (cl : List (Str × Addr)) (fp : List Addr), PG (X.blk s H scope (compEnvC scope cl C X.env) fp) tg g) (ht : ∀ (s : Shared) (H : Hp) (C : Addr) (cl : List (Str × Addr)) (fp : List Addr), PTs (X.blk s H scope (compEnvC scope cl C X.env) fp) ifs tt)
    (hk : ∀ (s : Shared) (H : Hp) (C : Addr) (cl : List (Str × Addr)) (fp : List Addr), PE (X.blk s H scope (compEnvC scope cl C X.env) fp) kx tk)
    (he : ∀ (s : Shared) (H : Hp) (C : Addr) (cl : List (Str × Addr)) (fp : List Addr), PE (X.blk s H scope (compEnvC scope cl C X.env) fp) vx tv) (hs : ∀ x, foldedSetIterable iter X.env x = pure x := by intro _; rfl) :
    PE X (.DictComp kx vx [⟨tg, iter, ifs, 0⟩] scope pos) (tDcT wi g tt tk tv (own.map (·.2))) := by
  refine ⟨fun pins s σ H Q I h => ?_⟩
  rw [arm_eval_DictComp]
  refine dcT_core hu hc hN I hi ok hg ht hk he hs h fun D C s' m H' I' q hn ⟨f0, f1, f2, f3, f4, f5⟩ => ⟨m, hn, fun h'' sb => ⟨.ref D, H', I'.turned (t' := s'.toks) (fun b o hb e => (sb.2 b hb).trans e) f0 f1 f3 f4 f5, rfl, q⟩⟩
end
end Mi

/-! {k: v for .. in ..} with tuples for keys, as a dict of the memory -/
namespace Mi
open PySem PySem.Spec PyProof.Rows L2
def dcNW (T : Tg) (t : Mt) (ek ev : Me) (env : Ev) : List Wv → List (List Key) → List Wv → Mem → R Wv
  | [], ks, xs, M => .ok (.ref M.length) (M ++ [.dtt ks xs])
  | w :: ws, ks, xs, M => (noX (T.set w env M)).bind fun env1 M1 => (noX (t env1 M1)).bind fun c M2 =>
    if c = true then (noX (ek env1 M2)).bind fun y M3 => (noX (ev env1 M3)).bind fun z M4 => match keyT y with
      | some k => if ks.length < lim then dcNW T t ek ev env ws (putA ks xs k z).1 (putA ks xs k z).2 M4 else .no
      | none => .no
    else dcNW T t ek ev env ws ks xs M2
def mDcN (vs : List Nat) (T : Tg) (m : Mi') (t : Mt) (ek ev : Me) : Me := fun env M => (m env M).bind fun ws M1 => dcNW T t ek ev (wipeE env vs) ws [] [] M1
theorem wipe_twice (σ : L2.St) (vs : List Nat) : wipe (wipe σ vs) vs = wipe σ vs := by
  have one : ∀ (xs : List Nat) (τ : L2.St) (i : Nat), i ∈ xs → (wipe τ xs).set i none = wipe τ xs := by
    intro xs
    induction xs with
    | nil => intro τ i h; cases h
    | cons x xs ih =>
      intro τ i h
      unfold wipe
      by_cases hx : i = x
      · subst hx; rw [List.set_set]
      · rw [List.set_comm _ _ (Ne.symm hx), ih τ i ((List.mem_cons.mp h).resolve_left hx)]
  have sub : ∀ (xs : List Nat), (∀ i ∈ xs, i ∈ vs) → wipe (wipe σ vs) xs = wipe σ vs := by
    intro xs
    induction xs with
    | nil => intro _; rfl
    | cons x xs ih =>
      intro h
      show (wipe (wipe σ vs) xs).set x none = _
      rw [ih fun j hj => h j (List.mem_cons_of_mem _ hj)]
      exact one vs σ x (h x List.mem_cons_self)
  exact sub vs fun _ h => h
section
variable {X : Cx} {E : XK} {kx vx tg iter : Expr} {ifs : List Expr} {scope : Scope} {own : List (Str × Nat)} {pos spos : Pos} {T : Tg} {mi : Mi'} {mt : Mt} {mk me : Me} {vs : List Nat}
theorem dcN_in {K : PySem.W.Frag} {σ : L2.St} {H : Hp} {Q : VK} (hT : ∀ i ∈ T.slots, i ∈ vs) (h : te K E (mDcN vs T mi mt mk me) σ H Q) : tDcT (ti K E mi) (tgR K T) (tt K E0 mt) (te K E0 mk) (te K E0 me) vs σ H Q := by
  obtain ⟨ρ, M, env, rl, re, f⟩ := h
  refine ⟨ρ, M, env, rl, re, f.bind.imp fun ws M1 ρ1 H1 g1 rl1 f1 J hJ D hD => ?_⟩
  refine ⟨fun i m H' => m = ws.length - i ∧ i ≤ ws.length ∧ ∃ ρ' M' kvs xs, Lk D ρ1 H1 ρ' H' ∧ Rl K ρ' M' H' ∧ H' D = some (.dT kvs) ∧ RVs K ρ' H' xs (kvs.map (·.2)) ∧ RE K ρ' H' (wipeE env vs) (wipe σ vs) ∧ Fin K ρ1 H1 (PV K Q) E (dcNW T mt mk me (wipeE env vs) (ws.drop i) (kvs.map (·.1)) xs M'),
    ⟨ws.length, by simp, Nat.zero_le _, ρ1.lock D, M1, [], [], ⟨rfl, ⟨[], by simp [Rn.lock]⟩, fun a o _ e => by rw [upd_ne (ne_of_none e hD)]; exact e, fun a z => .inl z⟩, rl_lock rl1 hD, upd_same, rfl, (re_wipe (re.mono g1) vs).move (mv_lock hD), f1⟩, ?_⟩
  rintro i m H' ⟨rfl, hi, ρ', M', kvs, xs, lk, rl', hu, rv', re', f'⟩
  have hDf : D ∈ ρ'.f := by rw [lk.f]; exact List.mem_cons_self
  by_cases hlt : i < ws.length
  · refine .inr ⟨hJ.go ρ' H' (lk.mv hD) i hlt, fun H2 => ∃ ρ2 M2 kvs xs, Lk D ρ1 H1 ρ2 H2 ∧ Rl K ρ2 M2 H2 ∧ H2 D = some (.dT kvs) ∧ RVs K ρ2 H2 xs (kvs.map (·.2)) ∧ RE K ρ2 H2 (wipeE env vs) (wipe σ vs) ∧ Fin K ρ1 H1 (PV K Q) E (dcNW T mt mk me (wipeE env vs) (ws.drop (i + 1)) (kvs.map (·.1)) xs M2),
      fun H2 z => ⟨ws.length - (i + 1), by omega, rfl, hlt, z⟩, fun x H2 y => ?_⟩
    obtain ⟨g2, k2⟩ := hJ.yld ρ' H' (lk.mv hD) i x H2 ws[i] (List.getElem?_eq_getElem hlt) y
    obtain ⟨k2, rv2⟩ := k2 M' rl'
    rw [List.drop_eq_getElem_cons hlt] at f'
    refine tg_in (E := E0) (β := Ev) (P := fun env1 M2 _ _ => Fin K ρ1 H1 (PV K Q) E ((noX (mt env1 M2)).bind fun c M2 =>
        if c = true then (noX (mk env1 M2)).bind fun y M3 => (noX (me env1 M3)).bind fun z M4 => match keyT y with
          | some k => if (kvs.map (·.1)).length < lim then dcNW T mt mk me (wipeE env vs) (ws.drop (i + 1)) (putA (kvs.map (·.1)) xs k z).1 (putA (kvs.map (·.1)) xs k z).2 M4 else .no
          | none => .no
        else dcNW T mt mk me (wipeE env vs) (ws.drop (i + 1)) (kvs.map (·.1)) xs M2)) (k := fun e M => .ok e M)
      k2 (re'.mono g2) rv2 ?_ fun env3 σ3 re3 f3 hw => ?_
    · have z := fin_noX (ρ' := ρ') (H' := H2) (E' := E0) f'
      have f' : Fin K ρ1 H1 (PV K Q) E ((noX (T.set ws[i] (wipeE env vs) M')).bind fun env1 M1 => (noX (mt env1 M1)).bind fun c M2 =>
        if c = true then (noX (mk env1 M2)).bind fun y M3 => (noX (me env1 M3)).bind fun z M4 => match keyT y with
          | some k => if (kvs.map (·.1)).length < lim then dcNW T mt mk me (wipeE env vs) (ws.drop (i + 1)) (putA (kvs.map (·.1)) xs k z).1 (putA (kvs.map (·.1)) xs k z).2 M4 else .no
          | none => .no
        else dcNW T mt mk me (wipeE env vs) (ws.drop (i + 1)) (kvs.map (·.1)) xs M2) := f'
      cases q : T.set ws[i] (wipeE env vs) M' with
      | ok a M => rw [q] at z; exact fun ρ3 H3 g3 rl3 => z ρ3 H3 g3 rl3
      | exc a M => rw [q] at f'; exact f'.elim
      | no => rw [q] at f'; exact f'.elim
    have f3 := f3.here k2
    refine ⟨(hw vs hT).trans (wipe_twice σ vs), ρ', M', env3, k2, re3, (fin_noX f3).imp fun c M4 ρ4 H4 g4 rl4 f4 => ?_⟩
    have gg := g2.trans g4
    have lk4 := lk.on gg
    have hu4 : H4 D = some (.dT kvs) := gg.keep D _ (rl'.fs D hDf).1 hu
    have rv4 := RVs.mono gg xs rv'
    have re4 := re'.mono gg
    cases c with
    | false => exact ⟨ρ4, M4, kvs, xs, lk4, rl4, hu4, rv4, re4, f4⟩
    | true =>
      have f4 : Fin K ρ1 H1 (PV K Q) E ((noX (mk env3 M4)).bind fun y M3 => (noX (me env3 M3)).bind fun z M4 => match keyT y with
          | some k => if (kvs.map (·.1)).length < lim then dcNW T mt mk me (wipeE env vs) (ws.drop (i + 1)) (putA (kvs.map (·.1)) xs k z).1 (putA (kvs.map (·.1)) xs k z).2 M4 else .no
          | none => .no) := f4
      refine ⟨ρ4, M4, env3, rl4, re3.mono g4, (fin_noX f4).imp fun y M5 ρ5 H5 g5 rl5 f5 v5 rv5 => ?_⟩
      refine ⟨ρ5, M5, env3, rl5, (re3.mono g4).mono g5, (fin_noX f5).imp fun z M6 ρ6 H6 g6 rl6 f6 v6 rv6 => ?_⟩
      cases ek : keyT y with
      | none => rw [ek] at f6; exact f6.elim
      | some k =>
        rw [ek] at f6
        obtain ⟨h0, f6⟩ := pick f6
        rw [List.length_map] at h0
        have hDf4 : D ∈ ρ4.f := by rw [lk4.f]; exact List.mem_cons_self
        have hDf5 : D ∈ ρ5.f := by rw [g5.same]; exact hDf4
        have hDf6 : D ∈ ρ6.f := by rw [g6.same]; exact hDf5
        have hu5 : H5 D = some (.dT kvs) := g5.keep D _ (rl4.fs D hDf4).1 hu4
        have hu6 : H6 D = some (.dT kvs) := g6.keep D _ (rl5.fs D hDf5).1 hu5
        obtain ⟨b, rfl, hb⟩ := keyT_rel ek (RV.mono g6 y rv5)
        have rvk := RVs.mono (g5.trans g6) xs rv4
        obtain ⟨p1, p2⟩ := putA_rel (k := k) (kvs := kvs) (RV.move (mv_turn (o := .dT (putK kvs k v6)) hDf6) _ rv6) (RVs.move (mv_turn hDf6) _ rvk)
        refine ⟨kvs, k, b, rfl, hb, hu6, Nat.lt_of_lt_of_le h0 (lim_le (Nat.le_refl _)), ρ6, M6, putK kvs k v6, (putA (kvs.map (·.1)) xs k z).2, ((lk4.on g5).on g6).turn hD, rl_turn rl6 hDf6, upd_same, p2, ((re4.mono g5).mono g6).move (mv_turn hDf6), ?_⟩
        rw [p1]
        exact f6
  · have e : i = ws.length := by omega
    subst e
    rw [List.drop_length] at f'
    refine .inl ⟨hJ.stop ρ' H' (lk.mv hD), ?_⟩
    obtain ⟨r1, r2, r3⟩ := unlock (b := .dtt (kvs.map (·.1)) xs) hD rl1 lk rl' fun off => ⟨kvs, hu, rfl, RVs.move off xs rv'⟩
    exact f' _ _ r2 r1 _ ⟨D, rfl, r3⟩
theorem e_dcN (hu : X.A.units + 1 < cLine) (hc : X.calm = true) (hN : X.N.Nodup) (hi : PI X tg iter (ti X.K E mi)) (ok : BlkOk X.N X.env.scope scope own) (hT : ∀ i ∈ T.slots, i ∈ vs)
    (hg : ∀ (s : Shared) (H : Hp) (C : Addr) (cl : List (Str × Addr)) (fp : List Addr), PG (X.blk s H scope (compEnvC scope cl C X.env) fp) tg (tgR X.K T)) (ht : ∀ (s : Shared) (H : Hp) (C : Addr) (cl : List (Str × Addr)) (fp : List Addr), PTs (X.blk s H scope (compEnvC scope cl C X.env) fp) ifs (tt X.K E0 mt))
    (hk : ∀ (s : Shared) (H : Hp) (C : Addr) (cl : List (Str × Addr)) (fp : List Addr), PE (X.blk s H scope (compEnvC scope cl C X.env) fp) kx (te X.K E0 mk))
    (he : ∀ (s : Shared) (H : Hp) (C : Addr) (cl : List (Str × Addr)) (fp : List Addr), PE (X.blk s H scope (compEnvC scope cl C X.env) fp) vx (te X.K E0 me)) (hs : ∀ x, foldedSetIterable iter X.env x = pure x := by intro _; rfl) (hv : own.map (·.2) = vs := by rfl) :
    PE X (.DictComp kx vx [⟨tg, iter, ifs, 0⟩] scope pos) (te X.K E (mDcN vs T mi mt mk me)) := by
  subst hv
  exact PE.imp (pe_dcT (by omega) hc hN hi ok hg ht hk he hs) fun _ _ _ h => dcN_in hT h
end
end Mi

/-! min, max of a list of ints; sorted of a list of pairs of ints -/
namespace Mi
open PySem PySem.Spec PyProof.Rows L2
def intsOf : List Wv → Option (List Int)
  | [] => some []
  | .int i :: xs => (intsOf xs).map (i :: ·)
  | _ :: _ => none
def bestI (big : Bool) (i : Int) : List Int → Int
  | [] => i
  | j :: js => bestI big (if big then (if i < j then j else i) else (if j < i then j else i)) js
def bestW (big : Bool) : Wv → Mem → R Wv := onSq fun s M => match s with
  | .l xs => match intsOf xs with
    | some (i :: is) => .ok (.int (bestI big i is)) M
    | _ => .no
  | _ => .no
theorem ints_rel {K : PySem.W.Frag} {ρ : Rn} {H : Hp} : ∀ {ws : List Wv} {vs : List V} {ns : List Int}, intsOf ws = some ns → RVs K ρ H ws vs → vs = ns.map V.int
  | [], vs, ns, e, r => by cases e; exact r
  | w :: ws, vs, ns, e, r => by
    obtain ⟨v, vr, rfl, h, r⟩ := r
    cases w with
    | int i =>
      obtain ⟨cs, e1, rfl⟩ := Option.map_eq_some_iff.mp (show (intsOf ws).map (i :: ·) = some _ from e)
      rw [show v = V.int i from h, ints_rel e1 r]
      rfl
    | _ => cases e
theorem best_max : ∀ (is : List Int) (i m : Int), (m = i ∨ m ∈ is) → (i ≤ m) → (∀ y ∈ is, y ≤ m) → bestI true i is = m
  | [], i, m, h, _, _ => by
    rcases h with rfl | h
    · rfl
    · cases h
  | j :: js, i, m, h, h1, h2 => by
    have hj := h2 j List.mem_cons_self
    have h3 := fun y hy => h2 y (List.mem_cons_of_mem _ hy)
    show bestI true (if i < j then j else i) js = m
    by_cases hij : i < j
    · rw [if_pos hij]
      refine best_max js j m ?_ hj h3
      rcases h with rfl | h
      · omega
      · rcases List.mem_cons.mp h with rfl | h
        · exact .inl rfl
        · exact .inr h
    · rw [if_neg hij]
      refine best_max js i m ?_ h1 h3
      rcases h with rfl | h
      · exact .inl rfl
      · rcases List.mem_cons.mp h with rfl | h
        · exact .inl (by omega)
        · exact .inr h
theorem best_min : ∀ (is : List Int) (i m : Int), (m = i ∨ m ∈ is) → (m ≤ i) → (∀ y ∈ is, m ≤ y) → bestI false i is = m
  | [], i, m, h, _, _ => by
    rcases h with rfl | h
    · rfl
    · cases h
  | j :: js, i, m, h, h1, h2 => by
    have hj := h2 j List.mem_cons_self
    have h3 := fun y hy => h2 y (List.mem_cons_of_mem _ hy)
    show bestI false (if j < i then j else i) js = m
    by_cases hij : j < i
    · rw [if_pos hij]
      refine best_min js j m ?_ hj h3
      rcases h with rfl | h
      · omega
      · rcases List.mem_cons.mp h with rfl | h
        · exact .inl rfl
        · exact .inr h
    · rw [if_neg hij]
      refine best_min js i m ?_ h1 h3
      rcases h with rfl | h
      · exact .inl rfl
      · rcases List.mem_cons.mp h with rfl | h
        · exact .inl (by omega)
        · exact .inr h
section
variable {X : Cx} {E : XK}
theorem best_in {K : PySem.W.Frag} {big : Bool} {xs : List V} {H : Hp} {Q : VK} (h : rc K E (un1 (bestW big)) xs H Q) : ∃ (a : Addr) (i : Int) (is : List Int), xs = [V.ref a] ∧ SqL K H a ((i :: is).map V.int) ∧ Q (.int (bestI big i is)) H := by
  obtain ⟨v, ρ, M, w, rfl, rl, rv, h⟩ := un1_in h
  obtain ⟨s, a, vs, q, rfl, h4, h2, h3⟩ := onSq_in rl rv h
  cases s with
  | t ys => exact h2.elim
  | l ys =>
    have h2 : Fin K ρ H (PV K Q) E (match intsOf ys with | some (i :: is) => R.ok (.int (bestI big i is)) M | _ => .no) := h2
    cases e : intsOf ys with
    | none => rw [e] at h2; exact h2.elim
    | some ns =>
      cases ns with
      | nil => rw [e] at h2; exact h2.elim
      | cons i is =>
        rw [e] at h2
        refine ⟨a, i, is, rfl, ?_, fin_val h2 rl rfl⟩
        rw [← ints_rel e h4]
        rcases h3 with ⟨_, _, h3⟩ | ⟨_, e, _⟩
        · exact h3
        · cases e
theorem c_max (hc : X.calm = true) : CallR X (.builtin "max") (rc X.K E (un1 (bestW true))) := CallR.imp (cr_max hc) fun xs H Q h => by
  obtain ⟨a, i, is, rfl, h1, q⟩ := best_in h
  refine ⟨a, i :: is, rfl, h1, by simp, fun m hm hy => ?_⟩
  rw [← best_max is i m (List.mem_cons.mp hm) (hy i List.mem_cons_self) fun y h => hy y (List.mem_cons_of_mem _ h)]
  exact q
theorem c_min (hc : X.calm = true) : CallR X (.builtin "min") (rc X.K E (un1 (bestW false))) := CallR.imp (cr_min hc) fun xs H Q h => by
  obtain ⟨a, i, is, rfl, h1, q⟩ := best_in h
  refine ⟨a, i :: is, rfl, h1, by simp, fun m hm hy => ?_⟩
  rw [← best_min is i m (List.mem_cons.mp hm) (hy i List.mem_cons_self) fun y h => hy y (List.mem_cons_of_mem _ h)]
  exact q
end

/-! ### sorted -/
def prI : Wv → Option (Int × Int)
  | .tup [.int i, .int j] => some (i, j)
  | _ => none
def prs : List Wv → Option (List (Int × Int))
  | [] => some []
  | x :: xs => match prI x, prs xs with
    | some p, some ps => some (p :: ps)
    | _, _ => none
def mkP (p : Int × Int) : Wv := .tup [.int p.1, .int p.2]
def leP (p q : Int × Int) : Bool := decide (p.1 < q.1) || (p.1 == q.1 && decide (p.2 ≤ q.2))
def insP (p : Int × Int) : List (Int × Int) → List (Int × Int)
  | [] => [p]
  | q :: qs => if leP p q = true then p :: q :: qs else q :: insP p qs
def isortP : List (Int × Int) → List (Int × Int)
  | [] => []
  | p :: ps => insP p (isortP ps)
theorem leP_iff {p q : Int × Int} : leP p q = true ↔ p.1 < q.1 ∨ (p.1 = q.1 ∧ p.2 ≤ q.2) := by
  unfold leP
  rw [Bool.or_eq_true, Bool.and_eq_true, decide_eq_true_eq, decide_eq_true_eq, beq_iff_eq]
theorem leP_tot {p q : Int × Int} (h : ¬ leP p q = true) : leP q p = true := by
  rw [leP_iff] at h ⊢
  omega
theorem leP_trans {p q r : Int × Int} (h1 : leP p q = true) (h2 : leP q r = true) : leP p r = true := by
  rw [leP_iff] at *
  omega
theorem insP_perm (p : Int × Int) : ∀ l, (insP p l).Perm (p :: l)
  | [] => List.Perm.refl _
  | q :: qs => by
    unfold insP
    split
    · exact List.Perm.refl _
    · exact ((insP_perm p qs).cons q).trans (List.Perm.swap p q qs)
theorem isortP_perm : ∀ l, (isortP l).Perm l
  | [] => List.Perm.refl _
  | p :: ps => (insP_perm p _).trans ((isortP_perm ps).cons p)
theorem insP_sorted (p : Int × Int) : ∀ {l}, l.Pairwise (fun a b => leP a b = true) → (insP p l).Pairwise (fun a b => leP a b = true)
  | [], _ => List.pairwise_singleton _ _
  | q :: qs, h => by
    have h' := List.pairwise_cons.mp h
    unfold insP
    split
    · rename_i hpq
      refine List.pairwise_cons.mpr ⟨fun a ha => ?_, h⟩
      rcases List.mem_cons.mp ha with rfl | ha
      · exact hpq
      · exact leP_trans hpq (h'.1 a ha)
    · rename_i hpq
      refine List.pairwise_cons.mpr ⟨fun a ha => ?_, insP_sorted p h'.2⟩
      rcases List.mem_cons.mp ((insP_perm p qs).mem_iff.mp ha) with rfl | ha
      · exact leP_tot hpq
      · exact h'.1 a ha
theorem isortP_sorted : ∀ l, (isortP l).Pairwise (fun a b => leP a b = true)
  | [] => List.Pairwise.nil
  | p :: ps => insP_sorted p (isortP_sorted ps)
theorem isortP_eq {l m : List (Int × Int)} (h : l.Pairwise (fun a b => leP a b = true)) (hp : l.Perm m) : l = isortP m :=
  List.Perm.eq_of_pairwise (le := fun a b => leP a b = true) (fun a b _ _ h1 h2 => by
    rw [leP_iff] at h1 h2
    exact Prod.ext (by omega) (by omega)) h (isortP_sorted m) (hp.trans (isortP_perm m).symm)
/-- the pair that stands at a value -/
def atP (H : Hp) : V → Int × Int
  | .ref t => match H t with
    | some (.tup [.int i, .int j]) => (i, j)
    | _ => (0, 0)
  | _ => (0, 0)
section
variable {K : PySem.W.Frag} {ρ : Rn} {H : Hp}
theorem prI_rel {w : Wv} {v : V} {p : Int × Int} (e : prI w = some p) (r : RV K ρ H w v) : (∃ t, v = .ref t ∧ H t = some (.tup [.int p.1, .int p.2])) ∧ atP H v = p ∧ RV K ρ H (mkP p) v := by
  unfold prI at e
  split at e
  · cases e
    obtain ⟨a, vs, rfl, ⟨h, hn⟩, r'⟩ := id r
    obtain ⟨v1, vr, rfl, r1, v2, vr2, rfl, r2, r3⟩ := r'
    cases (show vr2 = [] from r3)
    obtain rfl : v1 = .int _ := r1
    obtain rfl : v2 = .int _ := r2
    refine ⟨⟨a, rfl, h⟩, ?_, r⟩
    show (match H a with | some (.tup [.int i, .int j]) => (i, j) | _ => ((0, 0) : Int × Int)) = _
    rw [h]
  · cases e
theorem prs_rel : ∀ {ws : List Wv} {vs : List V} {ps : List (Int × Int)}, prs ws = some ps → RVs K ρ H ws vs → vs.map (atP H) = ps ∧ ∀ v ∈ vs, (∃ t, v = .ref t ∧ H t = some (.tup [.int (atP H v).1, .int (atP H v).2])) ∧ RV K ρ H (mkP (atP H v)) v
  | [], vs, ps, e, r => by cases e; cases (show vs = [] from r); exact ⟨rfl, fun v h => by cases h⟩
  | w :: ws, vs, ps, e, r => by
    obtain ⟨v, vr, rfl, r1, r2⟩ := r
    have e : (match prI w, prs ws with | some p, some ps => some (p :: ps) | _, _ => none) = some ps := e
    cases q1 : prI w with
    | none => rw [q1] at e; cases e
    | some p =>
      cases q2 : prs ws with
      | none => rw [q1, q2] at e; cases e
      | some qs =>
        rw [q1, q2] at e
        cases e
        obtain ⟨h1, h2, h3⟩ := prI_rel q1 r1
        obtain ⟨h4, h5⟩ := prs_rel q2 r2
        refine ⟨by rw [List.map_cons, h2, h4], fun u hu => ?_⟩
        rcases List.mem_cons.mp hu with rfl | hu
        · rw [h2]; exact ⟨h1, h3⟩
        · exact h5 u hu
theorem rvs_map {f : V → Wv} : ∀ {vs : List V}, (∀ v ∈ vs, RV K ρ H (f v) v) → RVs K ρ H (vs.map f) vs
  | [], _ => rfl
  | v :: vs, h => ⟨v, vs, rfl, h v List.mem_cons_self, rvs_map fun u hu => h u (List.mem_cons_of_mem _ hu)⟩
/-- what is sorted by pairs is the sorted list of them -/
theorem sort_rel {ws : List Wv} {vs ys : List V} {ps : List (Int × Int)} (e : prs ws = some ps) (r : RVs K ρ H ws vs) (hs : SrtO.Srtd (ltP (atP H)) ys) (hp : ys.Perm vs) : RVs K ρ H ((isortP ps).map mkP) ys := by
  obtain ⟨h1, h2⟩ := prs_rel e r
  have hm : ys.map (atP H) = isortP ps := by
    refine isortP_eq (List.pairwise_map.mpr (hs.imp fun {a b} h => ?_)) (by rw [← h1]; exact hp.map _)
    have h : SrtO.lexB (atP H b) (atP H a) = false := h
    refine Decidable.byContradiction fun hn => ?_
    have := leP_tot hn
    rw [leP_iff] at hn this
    rw [SrtO.lexB_iff.mpr (by omega)] at h
    cases h
  rw [← hm, List.map_map]
  exact rvs_map fun v hv => (h2 v (hp.mem_iff.mp hv)).2
end
def srtW : Wv → Mem → R Wv := onSq fun s M => match s with
  | .l xs => match prs xs with
    | some ps => .ok (.lst ((isortP ps).map mkP)) M
    | none => .no
  | _ => .no
theorem c_sorted {X : Cx} {E : XK} : CallR X (.builtin "sorted") (rc X.K E (un1 srtW)) := CallR.imp cr_sortedPO fun xs H Q h => by
  obtain ⟨v, ρ, M, w, rfl, rl, rv, h⟩ := un1_in h
  obtain ⟨s, a, vs, q, rfl, h4, h2, h3⟩ := onSq_in rl rv h
  cases s with
  | t ys => exact h2.elim
  | l ws =>
    have h2 : Fin X.K ρ H (PV X.K Q) E (match prs ws with | some ps => R.ok (.lst ((isortP ps).map mkP)) M | none => .no) := h2
    cases e : prs ws with
    | none => rw [e] at h2; exact h2.elim
    | some ps =>
      rw [e] at h2
      have hl : SqL X.K H a vs := by
        rcases h3 with ⟨_, _, h3⟩ | ⟨_, e, _⟩
        · exact h3
        · cases e
      exact ⟨a, vs, atP H, rfl, hl, fun x hx => ((prs_rel e h4).2 x hx).1, fun ys p hs hb hp => fin_lst h2 rl (sort_rel e h4 hs hb.perm) hp⟩
end Mi

/-! sorted of a dict whose keys are pairs of ints -/
namespace Mi
open PySem PySem.Spec PyProof.Rows L2
section
variable {X : Cx}
theorem keys_pairs {H : Hp} : ∀ {kvs : List (List Key × V)} {bs : List Addr}, IsKeys H kvs bs → (∀ p ∈ kvs, ∃ i j : Int, p.1 = [.inl i, .inl j]) → ∀ b ∈ bs, ∃ i j : Int, H b = some (.tup [.int i, .int j])
  | [], bs, h, _, b, hb => by cases h; cases hb
  | p :: kvs, bs, h, hp, b, hb => by
    cases h with
    | @cons _ c _ cs h1 h2 =>
      obtain ⟨i, j, e⟩ := hp p List.mem_cons_self
      rcases List.mem_cons.mp hb with rfl | hb
      · rw [e] at h1; exact ⟨i, j, h1⟩
      · exact keys_pairs h2 (fun q hq => hp q (List.mem_cons_of_mem _ hq)) b hb
theorem call_sortedDT (hcalm : X.calm = true) : CallR X (.builtin "sorted") (fun xs H Q => ∃ (a : Addr) (kvs : List (List Key × V)), xs = [.ref a] ∧ Rd H a (.dT kvs) ∧ (∀ p ∈ kvs, ∃ i j : Int, p.1 = [.inl i, .inl j]) ∧
    ∀ (bs : List Addr) (ys : List V) (p : Addr), IsKeys H kvs bs → SrtO.Srtd (ltP (atP H)) ys → ys.Perm (bs.map V.ref) → H p = none → Q (.ref p) (upd H p (.lst ys))) := by
  intro pins s σ H xs us Q I r h
  obtain ⟨a, kvs, rfl, hd, hk, q⟩ := h
  obtain ⟨u, rfl, rx⟩ := vals1 r
  cases rx
  obtain ⟨z, hs, ks, pr, o, es, ep, ho, hx, hdt, he, hn⟩ := (show ObjOk X.prog X.w H s.heap a (.dT kvs) from hd.ok I.hok)
  have l1 : es.size = ks.length := size_of_entries he
  have l2 : kvs.length = ks.length := Paired.length pr
  refine Calls.call_function_entry PyProof.Rows.kind_sorted PyProof.Rows.plain_sorted PyProof.Rows.entry_sorted (PyProof.Rows.args_sorted1 _) ?_
  unfold Builtin.«sorted»
  refine wpAny_bind (m := checkCount "sorted" 1 1 _) (wpAny_pure ?_)
  refine wpAny_bind (PySem.W.kdu_collect (A := X.A.in1) (kdl_raw hs hx hdt) (I.ok.hd hcalm) ho (by omega) fun h' tk acc hkp it => ?_)
  have ea : acc.toList = (ks.map fun x => x.2.1).map Value.ref := by
    have hl : acc.toList.length = ks.length := by rw [Array.length_toList, it.1]; exact l1
    apply List.ext_getElem?
    intro j
    rw [List.map_map, List.getElem?_map]
    cases hj : acc.toList[j]? with
    | none =>
      have h1 := List.getElem?_eq_none_iff.mp hj
      rw [List.getElem?_eq_none (by omega)]
      rfl
    | some v =>
      obtain ⟨en, hen, hv⟩ := it.2 j v (by rw [← Array.getElem?_toList]; exact hj)
      have qe := entry_at he j
      rw [hen] at qe
      cases hb : ks[j]? with
      | none =>
        rw [hb] at qe
        exact nomatch (show some en = none from qe)
      | some b =>
        rw [hb] at qe
        have e2 : en = entryOfKey (tupleKind (mixKind X.prog X.w)) b := Option.some.inj qe
        rw [hv, e2]
        rfl
  have hks := isKeys_of pr
  have hbs := keys_pairs hks hk
  have I1 : Inv X pins σ H { s with heap := h', toks := tk } := I.kept hkp
  have hz : acc.toList.length ≤ sizeLine := by rw [ea, List.length_map, List.length_map]; omega
  refine wpAny_bind (wpAny_newList ?_ hz)
  have hoL : (h'.push (seqObj "list" acc.toList.toArray 0)).get? h'.objs.size = some (seqObj "list" acc.toList.toArray 0) := Heap.get?_push_size _ rfl
  show wpAny _ _ _ _ _ { s with heap := h'.push (seqObj "list" acc.toList.toArray 0), toks := tk }
  have hr : ∀ v ∈ acc.toList, ∃ b, v = Value.ref b ∧ b ∈ ks.map fun x => x.2.1 := fun v hv => by
    rw [ea] at hv
    obtain ⟨b, hb, rfl⟩ := List.mem_map.mp hv
    exact ⟨b, rfl, hb⟩
  have hp : ∀ v ∈ acc.toList, Srt.IsPair (h'.push (seqObj "list" acc.toList.toArray 0)) v (atP H (backV v)).1 (atP H (backV v)).2 := fun v hv => by
    obtain ⟨b, rfl, hb⟩ := hr v hv
    obtain ⟨i, j, e⟩ := hbs b hb
    have e2 : atP H (backV (Value.ref b)) = (i, j) := by
      show (match H b with | some (.tup [.int i, .int j]) => (i, j) | _ => ((0, 0) : Int × Int)) = _
      rw [e]
    rw [e2]
    obtain ⟨_, its2, r2, o, ho, hc, n, hd⟩ := I1.hok _ _ e
    obtain ⟨u1, u2, rfl, ri, rj⟩ := vals2 r2
    obtain ⟨t1, rfl⟩ := ri
    obtain ⟨t2, rfl⟩ := rj
    exact ⟨b, o, t1, t2, n, rfl, Heap.get?_push_of_some _ ho, hc, hd⟩
  refine wpAny_bind (wpAny_holding (wpAny_call_entry PyProof.Rows.slot_list_sort ⟨_, hoL, rfl⟩ PyProof.Rows.entry_list_sort
    (SrtO.list_sort_ord (s := { s with heap := h'.push (seqObj "list" acc.toList.toArray 0), toks := tk }) (SrtO.swo_lex fun u => atP H (backV u)) hoL hz (fun h2 => SrtO.pairs_sortableO (by omega) hp fun o e => ?_) fun out h1 h2 => ⟨_, rfl, ?_⟩) (PyProof.Rows.args_list_sort _)))
  · have e' : some o = some (seqObj "list" acc.toList.toArray 0) := e.symm.trans hoL
    cases e'
    intro c
    exact absurd (Value.type.inj c) (by decide)
  · have h3 : ∀ u ∈ out, ∃ a, u = Value.ref a := fun u hu => by
      obtain ⟨b, e, _⟩ := hr u (h2.perm.mem_iff.mp hu)
      exact ⟨b, e⟩
    obtain ⟨e', he'⟩ := PyProof.Rows.sortedHeap_at (vs := acc.toList) (out := out.toArray) hoL
    have hpm : (out.map backV).Perm ((ks.map fun x => x.2.1).map V.ref) := by
      have := h2.perm.map backV
      rw [ea, List.map_map] at this
      exact this
    have hlen : (out.map backV).length ≤ sizeLine := by rw [hpm.length_eq, List.length_map, List.length_map]; omega
    refine wpAny_pure ⟨_, rfl, .ref h'.objs.size, upd H h'.objs.size (.lst (out.map backV)), I1.laid (t' := tk) (fun b u e => ?_) (Nat.le_refl _)
      (show ObjOk X.prog X.w _ _ _ (.lst (out.map backV)) from ⟨hlen, out, e', vals_back h3, he'⟩), rfl, q _ _ _ hks (SrtO.srtd_map h1) hpm (I1.hok.fresh (Nat.le_refl _))⟩
    have hb : b < h'.objs.size := Heap.lt_size e
    rw [PyProof.Rows.sortedHeap_old (Nat.ne_of_lt hb) (by rw [size_push']; exact Nat.lt_succ_of_lt hb)]
    exact Heap.get?_push_of_some _ e
end
end Mi

/-! sorted(d): the mirror -/
namespace Mi
open PySem PySem.Spec PyProof.Rows L2
def keyPr : List Key → Option (Int × Int)
  | [.inl i, .inl j] => some (i, j)
  | _ => none
def keyPrs : List (List Key) → Option (List (Int × Int))
  | [] => some []
  | k :: ks => match keyPr k, keyPrs ks with
    | some p, some ps => some (p :: ps)
    | _, _ => none
def srtD (w : Wv) (M : Mem) : R Wv := match dictAt M w with
  | some (.t ks _) => match keyPrs ks with
    | some ps => .ok (.lst ((isortP ps).map mkP)) M
    | none => .no
  | some (.k _ _) => .no
  | none => srtW w M
section
variable {K : PySem.W.Frag} {ρ : Rn} {M : Mem} {H : Hp}
theorem tup_no (rl : Rl K ρ M H) {b : Addr} {xs : List V} (h : H b = some (.tup xs)) : ρ.no b := by
  refine ⟨fun z => ?_, fun z => ?_⟩
  · obtain ⟨n, hn⟩ := List.getElem?_of_mem z
    have hlt : n < M.length := by rw [← rl.len]; exact (List.getElem?_eq_some_iff.mp hn).1
    obtain ⟨a, h1, h2⟩ := rl.ob n _ (List.getElem?_eq_getElem hlt)
    have e : a = b := Option.some.inj (h1.symm.trans hn)
    subst e
    cases q : M[n] with
    | lst ws => rw [q] at h2; obtain ⟨vs, h3, _⟩ := h2; rw [h] at h3; cases h3
    | ins C ns ws => rw [q] at h2; obtain ⟨D, dx, fs, _, h3, _⟩ := h2; rw [h] at h3; cases h3
    | dct ks ws => rw [q] at h2; obtain ⟨kvs, h3, _⟩ := h2; rw [h] at h3; cases h3
    | dtt ks ws => rw [q] at h2; obtain ⟨kvs, h3, _⟩ := h2; rw [h] at h3; cases h3
  · obtain ⟨_, u, e, h3⟩ := rl.fs b z
    rw [h] at e
    cases e
    cases h3
theorem keyPr_is {k : List Key} {p : Int × Int} (e : keyPr k = some p) : k = [.inl p.1, .inl p.2] := by
  unfold keyPr at e
  split at e
  · cases e; rfl
  · cases e
theorem keyPrs_rel (rl : Rl K ρ M H) : ∀ {kvs : List (List Key × V)} {bs : List Addr} {ps : List (Int × Int)}, keyPrs (kvs.map (·.1)) = some ps → IsKeys H kvs bs →
    (bs.map V.ref).map (atP H) = ps ∧ ∀ v ∈ bs.map V.ref, RV K ρ H (mkP (atP H v)) v
  | [], bs, ps, e, h => by
    cases e
    cases h
    exact ⟨rfl, fun v hv => by cases hv⟩
  | q :: kvs, bs, ps, e, h => by
    cases h with
    | @cons _ c _ cs h1 h2 =>
      have e : (match keyPr q.1, keyPrs (kvs.map (·.1)) with | some p, some ps => some (p :: ps) | _, _ => none) = some ps := e
      cases q1 : keyPr q.1 with
      | none => rw [q1] at e; cases e
      | some p =>
        cases q2 : keyPrs (kvs.map (·.1)) with
        | none => rw [q1, q2] at e; cases e
        | some qs =>
          rw [q1, q2] at e
          cases e
          obtain ⟨h4, h5⟩ := keyPrs_rel rl q2 h2
          rw [keyPr_is q1] at h1
          have h1 : H c = some (.tup [.int p.1, .int p.2]) := h1
          have ha : atP H (.ref c) = p := by
            show (match H c with | some (.tup [.int i, .int j]) => (i, j) | _ => ((0, 0) : Int × Int)) = _
            rw [h1]
          refine ⟨by rw [List.map_cons, List.map_cons, ha, h4], fun v hv => ?_⟩
          rw [List.map_cons] at hv
          rcases List.mem_cons.mp hv with rfl | hv
          · rw [ha]
            exact ⟨c, _, rfl, ⟨h1, tup_no rl h1⟩, _, _, rfl, rfl, _, _, rfl, rfl, rfl⟩
          · exact h5 v hv
theorem keyPrs_all : ∀ {kvs : List (List Key × V)} {ps : List (Int × Int)}, keyPrs (kvs.map (·.1)) = some ps → ∀ p ∈ kvs, ∃ i j : Int, p.1 = [.inl i, .inl j]
  | [], ps, e, p, hp => by cases hp
  | q :: kvs, ps, e, p, hp => by
    have e : (match keyPr q.1, keyPrs (kvs.map (·.1)) with | some p, some ps => some (p :: ps) | _, _ => none) = some ps := e
    cases q1 : keyPr q.1 with
    | none => rw [q1] at e; cases e
    | some r =>
      cases q2 : keyPrs (kvs.map (·.1)) with
      | none => rw [q1, q2] at e; cases e
      | some qs =>
        rcases List.mem_cons.mp hp with rfl | hp
        · exact ⟨_, _, keyPr_is q1⟩
        · exact keyPrs_all q2 p hp
theorem sort_vals {vs ys : List V} {ps : List (Int × Int)} (h1 : vs.map (atP H) = ps) (h2 : ∀ v ∈ vs, RV K ρ H (mkP (atP H v)) v) (hs : SrtO.Srtd (ltP (atP H)) ys) (hp : ys.Perm vs) : RVs K ρ H ((isortP ps).map mkP) ys := by
  have hm : ys.map (atP H) = isortP ps := by
    refine isortP_eq (List.pairwise_map.mpr (hs.imp fun {a b} h => ?_)) (by rw [← h1]; exact hp.map _)
    have h : SrtO.lexB (atP H b) (atP H a) = false := h
    refine Decidable.byContradiction fun hn => ?_
    have := leP_tot hn
    rw [leP_iff] at hn this
    rw [SrtO.lexB_iff.mpr (by omega)] at h
    cases h
  rw [← hm, List.map_map]
  exact rvs_map fun v hv => h2 v (hp.mem_iff.mp hv)
end
theorem c_sortedD {X : Cx} {E : XK} (hc : X.calm = true) : CallR X (.builtin "sorted") (rc X.K E (un1 srtD)) := by
  intro pins s σ H xs us Q I r h
  obtain ⟨v, ρ, M, w, rfl, rl, rv, h⟩ := un1_in h
  unfold srtD at h
  cases q : dictAt M w with
  | none =>
    rw [q] at h
    exact c_sorted (E := E) pins s σ H _ us Q I r ⟨ρ, M, [w], rl, ⟨v, [], rfl, rv, rfl⟩, h⟩
  | some d =>
    rw [q] at h
    cases d with
    | k ks xs => exact h.elim
    | t ks xs =>
      have h : Fin X.K ρ H (PV X.K Q) E (match keyPrs ks with | some ps => R.ok (.lst ((isortP ps).map mkP)) M | none => .no) := h
      obtain ⟨a, kvs, rfl, h1, rfl, h3⟩ := dict_t rl q rv
      cases e : keyPrs (kvs.map (·.1)) with
      | none => rw [e] at h; exact h.elim
      | some ps =>
        rw [e] at h
        refine call_sortedDT hc pins s σ H _ us Q I r ⟨a, kvs, rfl, .inl h1, keyPrs_all e, fun bs ys p hk hs hp hn => ?_⟩
        obtain ⟨h4, h5⟩ := keyPrs_rel rl e hk
        exact fin_lst h rl (sort_vals h4 h5 hs hp) hn
end Mi

/-! x in xs, data of any depth, xs a list or a tuple -/
namespace Mi
open PySem PySem.Spec PyProof.Rows L2
def itemsD : PyData → Option (List PyData)
  | .list ds => some ds
  | .tuple ds => some ds
  | _ => none
def inE (neg : Bool) (x y : Wv) (M : Mem) : R Bool := match toDM M x, toDM M y with
  | some d, some c => match itemsD c with
    | some ds => if (SeqAt.shaped d && SeqAt.shaped c) = true then .ok (neg ^^ ds.any fun z => PyData.eqv z d) M else .no
    | none => .no
  | _, _ => .no
section
variable {X : Cx} {E : XK}
theorem inE_in {K : PySem.W.Frag} {neg : Bool} {x y : V} {H : Hp} {Q : VK} (h : rb K E (inE neg) x y H Q) : ∃ d c ds, Dp K H x d ∧ Dp K H y c ∧ itemsD c = some ds ∧ SeqAt.shaped d = true ∧ SeqAt.shaped c = true ∧ Q (.bl (neg ^^ ds.any fun z => PyData.eqv z d)) H := by
  obtain ⟨ρ, M, wx, wy, rl, rx, ry, h⟩ := h
  unfold inE at h
  cases q1 : toDM M wx with
  | none => rw [q1] at h; exact h.elim
  | some d =>
    cases q2 : toDM M wy with
    | none => rw [q1, q2] at h; exact h.elim
    | some c =>
      rw [q1, q2] at h
      have h : Fin K ρ H _ E (match itemsD c with | some ds => if (SeqAt.shaped d && SeqAt.shaped c) = true then R.ok (neg ^^ ds.any fun z => PyData.eqv z d) M else .no | none => .no) := h
      cases q3 : itemsD c with
      | none => rw [q3] at h; exact h.elim
      | some ds =>
        rw [q3] at h
        obtain ⟨h0, h⟩ := pick h
        rw [Bool.and_eq_true] at h0
        refine ⟨d, c, ds, dpM_of rl wx q1 rx, dpM_of rl wy q2 ry, q3, h0.1, h0.2, ?_⟩
        have z := h.here rl
        simpa [PB] using z
theorem o_inE (hu : X.A.units + 65 < cLine) : OpR X (compareOp .In) (rb X.K E (inE false)) := by
  intro pins s σ H x y v u Q I rx ry h
  obtain ⟨d, c, ds, hd, he, hi, sd, sc, q⟩ := inE_in h
  cases c with
  | list es => cases hi; exact op_inD hu pins s σ H x y v u Q I rx ry ⟨d, _, hd, he, sd, sc, by simpa using q⟩
  | tuple es =>
    cases hi
    obtain ⟨as, r1⟩ := Dp.reads I d x v hd rx
    obtain ⟨bs, r2⟩ := Dp.reads I (.tuple ds) y u he ry
    exact SeqAt.in_tuple_reads r2 r1 (SeqAt.canLay_of_shaped sc) (SeqAt.canLay_of_shaped sd) (room_in_shaped sd hu) ⟨.bl _, H, I, rfl, by simpa using q⟩
  | _ => cases hi
theorem o_niE (hu : X.A.units + 65 < cLine) : OpR X (compareOp .NotIn) (rb X.K E (inE true)) := by
  intro pins s σ H x y v u Q I rx ry h
  obtain ⟨d, c, ds, hd, he, hi, sd, sc, q⟩ := inE_in h
  cases c with
  | list es => cases hi; exact op_notInD hu pins s σ H x y v u Q I rx ry ⟨d, _, hd, he, sd, sc, by simpa using q⟩
  | tuple es =>
    cases hi
    obtain ⟨as, r1⟩ := Dp.reads I d x v hd rx
    obtain ⟨bs, r2⟩ := Dp.reads I (.tuple ds) y u he ry
    exact SeqAt.notIn_tuple_reads r2 r1 (SeqAt.canLay_of_shaped sc) (SeqAt.canLay_of_shaped sd) (room_in_shaped sd hu) ⟨.bl _, H, I, rfl, by simpa using q⟩
  | _ => cases hi
end
end Mi

/-! x, y = e, where e is a tuple -/
namespace Mi
open PySem PySem.Spec PyProof.Rows L2
def sUnp (T : Tg) (a : Me) : Ms := fun env M => (a env M).bind fun w M1 => (T.set w env M1).bind fun env1 M2 => .ok (.nx env1) M2
section
variable {X : Cx} {E : XK} {tg e : Expr} {T : Tg} {me : Me} {pos : Pos}
theorem s_unp (he : PE X e (te X.K E me)) (hg : PG X tg (tgR X.K T)) (hs : swapsWithSole [tg] e pos.line X.env = pure false := by rfl) (hw : swappedStores [tg] e X.env = pure none := by rfl)
    (h1 : (assignEach [tg] X.env).map (·.2) = [assign tg X.env] := by rfl) : PS X (.Assign [tg] e pos) (ts X.K E (sUnp T me)) :=
  PS.imp (ps_asg he hg hs hw h1) fun D σ H ⟨ρ, M, env, rl, re, f⟩ => te_then rl re f fun w M1 ρ1 H1 v g1 rl1 re1 rv1 f1 =>
    tg_in rl1 re1 rv1 f1 fun env1 σ1 re2 f2 _ => f2.here rl1 _ re2
end
end Mi

/-! defs with defaults -/
namespace Mi
open PySem PySem.Spec PyProof.Rows L2
/-- a def of the text, whatever its defaults -/
structure FunV (K : PySem.W.Frag) (x qual : Str) (st : Stmt) (f : Addr) (fd : FuncData) : Prop where
  ex : ∃ (oc : Value) (od : Option Addr) (dV kV doc pm : Value) (an : Option Addr) (cdv ct : Value) (osl : Array (Option Value)),
    fd = PySem.W.fnOf x qual (defArgs st) (defBody st) (defScope st) dV kV doc pm an cdv ct ∧ K.lookup f = some ⟨oc, od, .func fd, osl⟩ ∧ PySem.W.codeIn K cdv qual = true
  kp : PySem.W.keepIn K (.ref f) = true
section
variable {P : Program} {w : World} {K : PySem.W.Frag} {mg : Str → Option Value} {base : Heap}
theorem FnG.ofV {x qual : Str} {st : Stmt} {f : Addr} {fd : FuncData} {N ps : List Str} {k : Nat} {b : Ms} (F : FunV K x qual st f fd) (S : FnScope N ps (defScope st))
    (body : ∀ (cdv : Value) (A : Around) (outer : List Env) (s : Shared) (H : Hp) (E : XK), Room k (A.deeper (envOfC qual (defScope st) s.heap.objs.size f cdv)) → A.guards = some [] →
      Passes (L2.CX P w) (cxOf (L2.CX P w) P w K mg base N qual (defScope st) f cdv A outer s H E) E → Takes (cxOf (L2.CX P w) P w K mg base N qual (defScope st) f cdv A outer s H E) (WE1 E) →
      PSs (cxOf (L2.CX P w) P w K mg base N qual (defScope st) f cdv A outer s H E) (defBody st) (ts K E b)) : FnG P w K mg base (k + 1) f fd ps (mFn N.length b) := by
  obtain ⟨oc, od, dV, kV, doc, pm, an, cdv, ct, osl, rfl, lk, hcd⟩ := F.ex
  refine ⟨fun A outer s H as us vs ws ρ M Q E hr hgd e0 hb r hl rl rv fin => ?_⟩
  have KX : K.In s.heap := e0.mod.kin.keeps fun c o q => (e0.bs c o q).1
  have noL : s.heap.NoLimit := e0.mod.nolimit.keeps fun c o q => (e0.bs c o q).1
  have kinds : ∀ y ∈ ps.zip us, (defScope st).names.lookup y.1 = some .local ∨ ((defScope st).names.lookup y.1 = some .cell ∧ ((cellsFrom (s.heap.objs.size + 1) (defScope st).names []).lookup y.1).isSome = true) := by
    rintro ⟨n, v⟩ hy
    refine (S.par n (List.of_mem_zip hy).1).imp id fun q => ?_
    exact ⟨q, PySem.W.cellsFrom_some _ _ _ (.inl q)⟩
  refine codeAny_call_function hr.depth (KX _ _ lk) rfl S.co S.gen rfl (PySem.W.codeRec_of KX hcd) (hb _ _ _ _ (wpAny_newFunctionEnv_cells S.kind kinds fun env he s1 inC => ?_))
  subst he
  refine ⟨noL.keeps inC.toInCall.keep, codeAny_func ?_⟩
  have I : Inv (cxOf (L2.CX P w) P w K mg base N qual (defScope st) f cdv A outer s H E) [] (L2.start N vs) H s1 := inv_start S hr.hd e0 hl r inC
  have hx : Passes (L2.CX P w) (cxOf (L2.CX P w) P w K mg base N qual (defScope st) f cdv A outer s H E) E := passes_call (takes_of rfl rfl rfl rfl) fun _ _ _ _ z => z
  have tk : Takes (cxOf (L2.CX P w) P w K mg base N qual (defScope st) f cdv A outer s H E) (WE1 E) := takes_of rfl rfl rfl rfl
  have ht := body cdv A outer s H E (hr.deeper _) hgd hx tk
  have hw : ts K E b { nx := fun _ H' => Q .non H', rt := Q } (L2.start N vs) H := by
    refine ⟨ρ, M, evStart N.length ws, rl, re_start rv, fin.bind.imp fun fl M1 ρ1 H1 g1 rl1 f1 => ?_⟩
    cases fl with
    | nx env => exact fun σ _ => f1.here rl1 .non rfl
    | ret v => exact f1.here rl1
    | bk env => exact f1.elim
    | ct env => exact f1.elim
  refine wpAny_mono (ht.run [] s1 (L2.start N vs) H _ I hw) (fun fl s' hs => ?_) fun _ _ z => z
  cases fl with
  | ret u =>
    obtain ⟨v, σ', H', J, rv', q⟩ := hs
    exact ⟨v, H', J.os, J.bare, J.base, J.hok, rv', q⟩
  | next =>
    obtain ⟨σ', H', J, q⟩ := hs
    exact ⟨V.non, H', J.os, J.bare, J.base, J.hok, rfl, q⟩
  | brk => obtain ⟨_, _, _, q⟩ := hs; exact q.elim
  | cont => obtain ⟨_, _, _, q⟩ := hs; exact q.elim
end

/-- f(e, ..), the last parameters by their defaults -/
def mAppD (n : Nat) (m : List Wv → Mem → R Wv) (dws : List Wv) (a : Ma) : Me := fun env M => (a env M).bind fun ws M1 => if (ws ++ dws).length = n then m (ws ++ dws) M1 else .no
section
variable {X : Cx} {E : XK} {k : Nat} {f : Addr} {fd : FuncData} {ps : List Str} {m : List Wv → Mem → R Wv} {x : Str} {p pos : Pos} {e : Expr} {es : List Expr} {ma : Ma} {ds : List Value} {dvs : List V} {dws : List Wv}
theorem e_callD (F : FnG X.prog X.w X.K X.mg X.base k f fd ps m) (hr : Room k X.A) (hgd : X.A.guards = some []) (hx : Passes (L2.CX X.prog X.w) X E) (hm : X.mg x = some (.ref f)) (hk : PySem.W.keepIn X.K (.ref f) = true) (hb : Binds X.K fd ps ds) (hd : Vals dvs ds) (hw : ∀ ρ H, RVs X.K ρ H dws dvs) (ha : PA X (e :: es) (ta X.K E ma))
    (hg : Gl X x := by rfl) (hdb : (x == ("__debug__" : Str)) = false := by decide) (he : starEach (e :: es) X.env = (false, eval e X.env) :: starEach es X.env := by rfl) (hpl : (backTo pos (starEach es X.env)).any (·.1) = false := by rfl) {n : Nat} (hn : ps.length = n := by rfl) :
    PE X (.Call (.Name x p) (e :: es) [] pos) (te X.K E (mAppD n m dws ma)) := by
  subst hn
  refine ⟨fun pins s σ H Q I ⟨ρ, M, env, rl, re, h⟩ => wpAny_Call_Name_kw (ld_glob I hg hm ?_ hdb)⟩
  refine PySem.W.callWith_K (h₀ := X.base) I.ok.mod.kin hk (thn (ha.run pos pins s σ H (fun vs H1 => ∃ ρ1 M1 ws, Rl X.K ρ1 M1 H1 ∧ RVs X.K ρ1 H1 ws vs ∧ (ws ++ dws).length = ps.length ∧ Fin X.K ρ1 H1 (PV X.K Q) E (m (ws ++ dws) M1)) I
    (ta_then rl re h fun ws M1 ρ1 H1 vs g1 rl1 re1 rv1 f1 => by obtain ⟨h0, f1⟩ := pick f1; exact ⟨ρ1, M1, ws, rl1, rv1, h0, f1⟩)) fun us s1 ⟨vs, H1, I1, r, ρ1, M1, ws, rl1, rv1, hl, f1⟩ => ⟨I1.kIn, ?_⟩) he hpl
  have rv2 : RVs X.K ρ1 H1 (ws ++ dws) (vs ++ dvs) := rv1.append (hw ρ1 H1)
  have h1 : (vs ++ dvs).length = ps.length := by rw [← rv2.length]; exact hl
  have r2 : Vals (vs ++ dvs) (us ++ ds) := r.append hd
  have h2 := hb s1 us I1.kIn (by rw [← r2.length]; exact h1)
  exact callG F hr hgd hx I1 h2 r2 h1 rl1 rv2 f1
end
end Mi

/-! range(i, j, -1), xs[::-1] -/
namespace Mi
open PySem PySem.Spec PyProof.Rows L2
def rngC (lo c : Int) (n : Nat) : List Wv := (List.range n).map fun i => Wv.int (lo + (i : Nat) * c)
def mRng3 (a b c : Me) : Mi' := fun env M => (a env M).bind fun u M1 => (b env M1).bind fun v M2 => (c env M2).bind fun w M3 => match u, v, w with
  | .int i, .int j, .int k => if k = -1 ∧ -1000000 ≤ i ∧ i ≤ 1000000 ∧ -1000000 ≤ j ∧ j ≤ 1000000 then .ok (rngC i (-1) (i - j).toNat) M3 else .no
  | _, _, _ => .no
theorem it_c {K : PySem.W.Frag} {ρ : Rn} {H : Hp} {lo c : Int} {n : Nat} : ItOk K (Itc lo c n) (rngC lo c n) ρ H := by
  have hl : (rngC lo c n).length = n := by simp [rngC]
  refine ⟨fun ρ' H' g i hi => by rw [hl] at hi; exact hi, fun ρ' H' g i x H2 w hw y => ?_, fun ρ' H' g => by rw [hl]; exact Nat.le_refl _⟩
  obtain ⟨rfl, rfl⟩ := y
  have e : Wv.int (lo + (i : Nat) * c) = w := by
    unfold rngC at hw
    rw [List.getElem?_map] at hw
    obtain ⟨j, h1, h2⟩ := Option.map_eq_some_iff.mp hw
    have : j = i := by
      have := List.getElem?_eq_some_iff.mp h1
      obtain ⟨h3, h4⟩ := this
      simpa using h4.symm
    rw [← h2, this]
  subst e
  exact ⟨Gr.refl _ _, fun _ z => ⟨z, rfl⟩⟩
section
variable {X : Cx} {E : XK} {tg a b c e : Expr} {ma mb mc me : Me} {p pos : Pos}
theorem i_rng3 (hm : X.mg "range" = none) (ha : PE X a (te X.K E ma)) (hb : PE X b (te X.K E mb)) (hc : PE X c (te X.K E mc)) (hg : Gl X "range" := by rfl) (hs : starEach [a, b, c] X.env = (false, eval a X.env) :: starEach [b, c] X.env := by rfl)
    (hs2 : starEach [b, c] X.env = (false, eval b X.env) :: starEach [c] X.env := by rfl) (hs3 : starEach [c] X.env = [(false, eval c X.env)] := by rfl) (hpl : (backTo pos (starEach [b, c] X.env)).any (·.1) = false := by rfl) : PI X tg (.Call (.Name "range" p) [a, b, c] [] pos) (ti X.K E (mRng3 ma mb mc)) :=
  PI.imp (pi_range3 hg hm (pa_cons ha (pa_cons hb (pa_cons hc pa_nil hs3) hs2) hs) hs hpl) fun σ H R ⟨ρ, M, env, rl, re, f⟩ => te_then rl re f fun u M1 ρ1 H1 x g1 rl1 re1 rv1 f1 => te_then rl1 re1 f1 fun v M2 ρ2 H2 y g2 rl2 re2 rv2 f2 => te_then rl2 re2 f2 fun w M3 ρ3 H3 z g3 rl3 re3 rv3 f3 => by
    cases u <;> cases v <;> cases w <;> first | exact f3.elim | skip
    obtain ⟨h0, f4⟩ := pick f3
    clear f3
    obtain ⟨hk, h1, h2, h3, h4⟩ := h0
    subst hk
    cases rv1
    cases rv2
    cases rv3
    exact ⟨_, _, _, _, rfl, RgC.neg (by omega) (by omega) (by omega) (by omega), f4.here rl3 _ it_c⟩
def revW : Wv → Mem → R Wv := onSq fun s M => match s with
  | .l xs => .ok (.lst xs.reverse) M
  | _ => .no
theorem rvs_rev {K : PySem.W.Frag} {ρ : Rn} {H : Hp} : ∀ {ws : List Wv} {vs : List V}, RVs K ρ H ws vs → RVs K ρ H ws.reverse vs.reverse
  | [], vs, r => by cases (show vs = [] from r); rfl
  | w :: ws, vs, r => by
    obtain ⟨v, vr, rfl, r1, r2⟩ := r
    rw [List.reverse_cons, List.reverse_cons]
    exact (rvs_rev r2).append ⟨v, [], rfl, r1, rfl⟩
theorem e_rev {k : Nat} {p1 p2 p3 : Pos} (he : PE X e (te X.K E me)) : PE X (.Subscript e (.Slice none none (some (.UnaryOp .USub (.Constant (.int 1) k p1) p2)) p3) pos) (te X.K E (mUn revW me)) :=
  PE.imp (pe_revL he) fun σ H Q ⟨ρ, M, env, rl, re, f⟩ => te_then rl re f fun w M1 ρ1 H1 v g1 rl1 re1 rv1 f1 => by
    obtain ⟨s, a, vs, q, rfl, h4, h2, h3⟩ := onSq_in rl1 rv1 f1
    cases s with
    | t ys => exact h2.elim
    | l ys =>
      have hl : SqL X.K H1 a vs := by
        rcases h3 with ⟨_, _, h3⟩ | ⟨_, e, _⟩
        · exact h3
        · cases e
      exact ⟨a, vs, rfl, hl, fun p hp => fin_lst h2 rl1 (rvs_rev h4) hp⟩
end
end Mi

/-! len(set(xs)), xs a list of fewer than 64 pairs of ints -/
namespace Mi
open PySem PySem.Spec PyProof.Rows L2
def tLenSetT (K : PySem.W.Frag) (ta : TE) : TE := fun σ H Q => ta σ H fun x H1 => ∃ (l : Addr) (ks : List (Addr × List Int)), x = V.ref l ∧ SqL K H1 l (ks.map fun p => V.ref p.1) ∧ (∀ p ∈ ks, SqT K H1 p.1 (p.2.map V.int)) ∧ ks.length < 64 ∧
  ∀ L : List (List Int), L.Nodup → (∀ p, p ∈ L ↔ p ∈ ks.map (·.2)) → Q (.int L.length) H1
theorem pe_lenSetT {X : Cx} {a : Expr} {ta : TE} {p p2 q pos : Pos} (hc : X.calm = true) (hu : X.A.units + 80 < cLine) (hg : Gl X "len") (hm : X.mg "len" = none) (hg2 : Gl X "set") (hm2 : X.mg "set" = none) (ha : PE X a ta)
    (na : starEach [a] X.env = (false, eval a X.env) :: starEach [] X.env := by rfl) : PE X (.Call (.Name "len" p) [.Call (.Name "set" p2) [a] [] q] [] pos) (tLenSetT X.K ta) := by
  refine ⟨fun pins s σ H Q I h => ?_⟩
  refine Call_ (ld_blt I hg hm PySem.boot_len ?_)
  refine PyProof.Rows.callWith_builtin1 (PyProof.Rows.args_cons ?_ rfl) rfl rfl
  refine Call_ (ld_blt I hg2 hm2 PyProof.Rows.boot_set ?_)
  refine PyProof.Rows.callWith_type1 (PyProof.Rows.args_cons (thn (ha.run pins s σ H _ I h) fun v s1 ⟨x, H1, I1, r1, q1⟩ => PyProof.Rows.args_nil ?_) na) na rfl
  obtain ⟨l, ks, rfl, hl, hk, hf, q1⟩ := q1
  cases r1
  obtain ⟨its, rv, pl, hz⟩ := I1.list hl
  refine call_set_tups (P := X.prog) (w := X.w) ks (I1.ok.hd hc) pl.isList (by simpa using refs_of_vals rv) (fun p hp => I1.isT (hk p hp)) hf (by omega) fun h' tk L es ep t R g k => ?_
  refine PyProof.Rows.args_nil ?_
  obtain ⟨o, ho, hex, hd⟩ := R.ob
  have hn : es.size = L.length := by
    have := congrArg List.length R.rows
    simpa [rowsOf] using this
  have hfew := R.few
  have I2 : Inv X pins σ H1 { s1 with heap := h', toks := tk } := I1.kept k
  have q2 := q1 (L.map (·.2)) R.nd fun z => ⟨fun hz => by
    obtain ⟨c, hc1, rfl⟩ := List.mem_map.mp hz
    exact List.mem_map.mpr ⟨c, List.mem_of_mem_take (g.sub c hc1), rfl⟩, fun hz => by
    obtain ⟨c, hc1, rfl⟩ := List.mem_map.mp hz
    exact g.all c (by rw [List.take_length]; exact hc1)⟩
  rw [List.length_map] at q2
  exact call_len_set ho hex hd (SetTR.fits (s := { s1 with heap := h', toks := tk }) R) (by rw [hn]; omega) ⟨.int L.length, H1, I2.tok _, ⟨_, by rw [hn]⟩, q2⟩

/-- the unlike ones -/
def ddP : List (Int × Int) → List (Int × Int)
  | [] => []
  | p :: ps => if ps.contains p = true then ddP ps else p :: ddP ps
theorem ddP_mem : ∀ {ps : List (Int × Int)} {p : Int × Int}, p ∈ ddP ps ↔ p ∈ ps
  | [], p => Iff.rfl
  | q :: ps, p => by
    unfold ddP
    split
    · rename_i h
      rw [ddP_mem, List.mem_cons]
      refine ⟨.inr, fun z => z.elim (fun e => ?_) id⟩
      rw [e]; simpa using h
    · rw [List.mem_cons, List.mem_cons, ddP_mem]
theorem ddP_nodup : ∀ ps : List (Int × Int), (ddP ps).Nodup
  | [] => List.nodup_nil
  | q :: ps => by
    unfold ddP
    split
    · exact ddP_nodup ps
    · rename_i h
      refine List.nodup_cons.mpr ⟨fun z => h ?_, ddP_nodup ps⟩
      simpa using ddP_mem.mp z

def lenSetW : Wv → Mem → R Wv := onSq fun s M => match s with
  | .l xs => match prs xs with
    | some ps => if ps.length < 64 then .ok (.int (ddP ps).length) M else .no
    | none => .no
  | _ => .no
/-- the addresses and the pairs of a list's items -/
def adP (H : Hp) : V → Addr × List Int
  | .ref t => (t, [(atP H (.ref t)).1, (atP H (.ref t)).2])
  | _ => (0, [])
theorem e_lenSet {X : Cx} {E : XK} {a : Expr} {ma : Me} {p p2 q pos : Pos} (hc : X.calm = true) (hu : X.A.units + 80 < cLine) (hm : X.mg "len" = none) (hm2 : X.mg "set" = none) (ha : PE X a (te X.K E ma)) (hg : Gl X "len" := by rfl) (hg2 : Gl X "set" := by rfl)
    (na : starEach [a] X.env = (false, eval a X.env) :: starEach [] X.env := by rfl) : PE X (.Call (.Name "len" p) [.Call (.Name "set" p2) [a] [] q] [] pos) (te X.K E (mUn lenSetW ma)) :=
  PE.imp (pe_lenSetT hc hu hg hm hg2 hm2 ha na) fun σ H Q ⟨ρ, M, env, rl, re, f⟩ => te_then rl re f fun w M1 ρ1 H1 v g1 rl1 re1 rv1 f1 => by
    obtain ⟨s, l, vs, q, rfl, h4, h2, h3⟩ := onSq_in rl1 rv1 f1
    cases s with
    | t ys => exact h2.elim
    | l ws =>
      have h2 : Fin X.K ρ1 H1 (PV X.K Q) E (match prs ws with | some ps => if ps.length < 64 then R.ok (.int (ddP ps).length) M1 else .no | none => .no) := h2
      cases e : prs ws with
      | none => rw [e] at h2; exact h2.elim
      | some ps =>
        rw [e] at h2
        obtain ⟨h64, h2⟩ := pick h2
        have hl : SqL X.K H1 l vs := by
          rcases h3 with ⟨_, _, h3⟩ | ⟨_, e, _⟩
          · exact h3
          · cases e
        obtain ⟨k1, k2⟩ := prs_rel e h4
        have hv : (vs.map (adP H1)).map (fun p => V.ref p.1) = vs := by
          rw [List.map_map]
          conv => rhs; rw [← List.map_id vs]
          refine List.map_congr_left fun v hv => ?_
          obtain ⟨⟨t, rfl, _⟩, _⟩ := k2 v hv
          rfl
        have hs : (vs.map (adP H1)).map (·.2) = ps.map fun p => [p.1, p.2] := by
          rw [← k1, List.map_map, List.map_map]
          refine List.map_congr_left fun v hv => ?_
          obtain ⟨⟨t, rfl, _⟩, _⟩ := k2 v hv
          rfl
        refine ⟨l, vs.map (adP H1), rfl, by rw [hv]; exact hl, fun p hp => ?_, by rw [List.length_map, ← List.length_map (as := vs) (f := atP H1), k1]; exact h64, fun L nd hL => ?_⟩
        · obtain ⟨v, hv1, rfl⟩ := List.mem_map.mp hp
          obtain ⟨⟨t, rfl, ht⟩, _⟩ := k2 v hv1
          exact .inl (.inl ht)
        · have hp : L.Perm ((ddP ps).map fun p => [p.1, p.2]) := by
            refine (List.perm_ext_iff_of_nodup nd ?_).mpr fun z => ?_
            · refine List.pairwise_map.mpr ((ddP_nodup ps).imp fun {a b} h e => h ?_)
              injection e with e1 e2
              injection e2 with e2 _
              exact Prod.ext e1 e2
            · rw [hL, hs, List.mem_map, List.mem_map]
              exact ⟨fun ⟨p, h, e⟩ => ⟨p, ddP_mem.mpr h, e⟩, fun ⟨p, h, e⟩ => ⟨p, ddP_mem.mp h, e⟩⟩
          rw [hp.length_eq, List.length_map]
          exact fin_val h2 rl1 rfl
end Mi

/-! G[i][j], G a tuple of tuples of ints of the module -/
namespace Mi
open PySem PySem.Spec PyProof.Rows L2
structure GT2 (K : PySem.W.Frag) (a : Addr) (tab : List (List Int)) : Prop where
  ex : ∃ bs : List Addr, (∀ H, SqT K H a (bs.map V.ref)) ∧ bs.length = tab.length ∧ ∀ (i : Nat) b row, bs[i]? = some b → tab[i]? = some row → ∀ H, SqT K H b (row.map V.int)
def mG2 (tab : List (List Int)) (a b : Me) : Me := fun env M => (a env M).bind fun x M1 => match x with
  | .int i => match atI tab i with
    | some row => (b env M1).bind fun y M2 => match y with
      | .int j => match atI row j with
        | some k => .ok (.int k) M2
        | none => .no
      | _ => .no
    | none => .no
  | _ => .no
theorem at_map {α β : Type} (f : α → β) (xs : List α) (i : Int) : atI (xs.map f) i = (atI xs i).map f := by
  unfold atI
  rw [List.length_map]
  cases ixN xs.length i with
  | none => rfl
  | some j => show (xs.map f)[j]? = (xs[j]?).map f; rw [List.getElem?_map]
section
variable {X : Cx} {E : XK} {a b : Expr} {ma mb : Me} {x : Str} {p pos pos2 : Pos} {g : Addr} {tab : List (List Int)}
theorem e_g2 (T : GT2 X.K g tab) (hm : X.mg x = some (.ref g)) (ha : PE X a (te X.K E ma)) (hb : PE X b (te X.K E mb)) (hg : Gl X x := by rfl) (hd : (x == ("__debug__" : Str)) = false := by decide) (hs : PlainIx a := by exact fun _ _ => rfl) (hs2 : PlainIx b := by exact fun _ _ => rfl) :
    PE X (.Subscript (.Subscript (.Name x p) a pos) b pos2) (te X.K E (mG2 tab ma mb)) :=
  PE.imp (pe_ix ix_tup (pe_ix ix_tup (pe_glob (v := .ref g) hg hm rfl hd) ha hs) hb hs2) fun σ H Q ⟨ρ, M, env, rl, re, f⟩ => by
    show te X.K E ma σ H _
    refine te_then rl re f fun w M1 ρ1 H1 v g1 rl1 re1 rv1 f1 => ?_
    obtain ⟨bs, h1, h2, h3⟩ := T.ex
    cases w with
    | int i =>
      have f1 : Fin X.K ρ1 H1 (PV X.K Q) E (match atI tab i with
        | some row => (mb env M1).bind fun y M2 => match y with
          | .int j => (match atI row j with | some k => R.ok (.int k) M2 | none => .no)
          | _ => .no
        | none => .no) := f1
      cases q : atI tab i with
      | none => rw [q] at f1; exact f1.elim
      | some row =>
        rw [q] at f1
        obtain ⟨j, hj, hr⟩ := Option.bind_eq_some_iff.mp (show (ixN tab.length i).bind (fun j => tab[j]?) = some row from q)
        have hjl := (List.getElem?_eq_some_iff.mp hr).1
        have hb0 : bs[j]? = some bs[j] := List.getElem?_eq_getElem (by omega)
        have hat : atI (bs.map V.ref) i = some (V.ref bs[j]) := by
          rw [at_map]
          have hix : ixN bs.length i = some j := by rw [h2]; exact hj
          unfold atI
          rw [hix]
          show (bs[j]?).map V.ref = _
          rw [hb0]; rfl
        refine ⟨g, _, i, _, rfl, rv1, h1 H1, hat, ?_⟩
        refine te_then rl1 re1 f1 fun y M2 ρ2 H2 u g2 rl2 re2 rv2 f2 => ?_
        cases y with
        | int k =>
          have f2 : Fin X.K ρ2 H2 (PV X.K Q) E (match atI row k with | some k => R.ok (.int k) M2 | none => .no) := f2
          cases q2 : atI row k with
          | none => rw [q2] at f2; exact f2.elim
          | some z =>
            rw [q2] at f2
            exact ⟨bs[j], _, k, _, rfl, rv2, h3 j _ row hb0 hr H2, by rw [at_map, q2]; rfl, fin_val f2 rl2 rfl⟩
        | _ => exact f2.elim
    | _ => exact f1.elim
end
end Mi

/-! facts of defaults and of tuples of tuples of the module, by running K -/
namespace Mi
open PySem PySem.Spec PyProof.Rows L2
def litOk : Wv → Value → Bool
  | .non, .none => true
  | .bl b, .bool c => b == c
  | .int i, .int j _ => i == j
  | .str s, .str t _ => s == t
  | _, _ => false
def litV : Wv → V
  | .bl b => .bl b
  | .int i => .int i
  | .str s => .str s
  | _ => .non
def litsOk : List Wv → List Value → Bool
  | [], [] => true
  | w :: ws, v :: vs => litOk w v && litsOk ws vs
  | _, _ => false
theorem lit_rel {K : PySem.W.Frag} {ρ : Rn} {H : Hp} : ∀ {w : Wv} {v : Value}, litOk w v = true → RelV (litV w) v ∧ RV K ρ H w (litV w)
  | .non, .none, _ => ⟨rfl, rfl⟩
  | .bl b, .bool c, h => by
    have h : (b == c) = true := h
    obtain rfl := eq_of_beq h
    exact ⟨rfl, rfl⟩
  | .int i, .int j t, h => by
    have h : (i == j) = true := h
    obtain rfl := eq_of_beq h
    exact ⟨⟨t, rfl⟩, rfl⟩
  | .str s, .str s' t, h => by
    have h : (s == s') = true := h
    obtain rfl := eq_of_beq h
    exact ⟨⟨t, rfl⟩, rfl⟩
theorem lits_rel {K : PySem.W.Frag} {ρ : Rn} {H : Hp} : ∀ {ws : List Wv} {vs : List Value}, litsOk ws vs = true → Vals (ws.map litV) vs ∧ RVs K ρ H ws (ws.map litV)
  | [], [], _ => ⟨.nil, rfl⟩
  | w :: ws, v :: vs, h => by
    have h : (litOk w v && litsOk ws vs) = true := h
    rw [Bool.and_eq_true] at h
    have h1 := lit_rel (K := K) (ρ := ρ) (H := H) h.1
    have h2 := lits_rel (K := K) (ρ := ρ) (H := H) h.2
    exact ⟨.cons h1.1 h2.1, _, _, rfl, h1.2, h2.2⟩
def defB (K : PySem.W.Frag) (dV : Value) (dws : List Wv) : Bool := match dV with
  | .ref T => match K.lookup T with
    | some o => match o.data with
      | .seq its _ => litsOk dws its.toList && !dws.isEmpty
      | _ => false
    | none => false
  | _ => false
theorem defB_spec {K : PySem.W.Frag} {dV : Value} {dws : List Wv} (h : defB K dV dws = true) : DflV K dV (dws.map litV) := by
  cases dV with
  | ref T =>
    unfold defB at h
    have h : (match K.lookup T with
      | some o => match o.data with
        | .seq its _ => litsOk dws its.toList && !dws.isEmpty
        | _ => false
      | none => false) = true := h
    cases q : K.lookup T with
    | none => rw [q] at h; cases h
    | some o =>
      rw [q] at h
      have h : (match o.data with
        | .seq its _ => litsOk dws its.toList && !dws.isEmpty
        | _ => false) = true := h
      cases q2 : o.data with
      | seq its n =>
        rw [q2] at h
        have h : (litsOk dws its.toList && !dws.isEmpty) = true := h
        rw [Bool.and_eq_true] at h
        refine .inr ⟨fun e => ?_, T, o, its.toList, n, rfl, q, by rw [q2], (lits_rel (K := K) (ρ := ⟨[], []⟩) (H := fun _ => none) h.1).1⟩
        rw [List.map_eq_nil_iff] at e
        rw [e] at h
        simp at h
      | _ => rw [q2] at h; cases h
  | _ => cases h
theorem lits_rvs {K : PySem.W.Frag} : ∀ {dws : List Wv}, dws.all (fun w => match w with | .non | .bl _ | .int _ | .str _ => true | _ => false) = true → ∀ (ρ : Rn) (H : Hp), RVs K ρ H dws (dws.map litV)
  | [], _, ρ, H => rfl
  | w :: ws, h, ρ, H => by
    rw [List.all_cons, Bool.and_eq_true] at h
    refine ⟨_, _, rfl, ?_, lits_rvs h.2 ρ H⟩
    cases w <;> first | rfl | (exact absurd h.1 (by simp))
theorem funV_mk {K : PySem.W.Frag} {x qual : Str} {st : Stmt} {f : Addr} {oc : Value} {od : Option Addr} {dV kV doc pm : Value} {an : Option Addr} {cdv ct : Value} {osl : Array (Option Value)}
    (hl : K.lookup f = some ⟨oc, od, .func (PySem.W.fnOf x qual (defArgs st) (defBody st) (defScope st) dV kV doc pm an cdv ct), osl⟩) (hc : PySem.W.codeIn K cdv qual = true) (hk : PySem.W.keepIn K (.ref f) = true) :
    FunV K x qual st f (PySem.W.fnOf x qual (defArgs st) (defBody st) (defScope st) dV kV doc pm an cdv ct) := ⟨⟨oc, od, dV, kV, doc, pm, an, cdv, ct, osl, rfl, hl, hc⟩, hk⟩
theorem funD_mk {K : PySem.W.Frag} {x qual : Str} {st : Stmt} {f : Addr} {oc : Value} {od : Option Addr} {dV kV doc pm : Value} {an : Option Addr} {cdv ct : Value} {osl : Array (Option Value)} {dws : List Wv}
    (hl : K.lookup f = some ⟨oc, od, .func (PySem.W.fnOf x qual (defArgs st) (defBody st) (defScope st) dV kV doc pm an cdv ct), osl⟩) (hc : PySem.W.codeIn K cdv qual = true) (hk : PySem.W.keepIn K (.ref f) = true) (hd : defB K dV dws = true) :
    FunD K x qual (defArgs st) (defBody st) (defScope st) (dws.map litV) [] f (PySem.W.fnOf x qual (defArgs st) (defBody st) (defScope st) dV kV doc pm an cdv ct) := ⟨⟨oc, od, dV, kV, doc, pm, an, cdv, ct, osl, rfl, hl, hc, defB_spec hd, .inl rfl⟩, hk⟩
/-! ### G[i][j] -/
def gtRow (K : PySem.W.Frag) (row : List Int) (v : Value) : Bool := match v with
  | .ref b => match K.lookup b with
    | some o => match o.cls, o.data with
      | .type t, .seq its _ => t == "tuple" && decide (its.size ≤ sizeLine) && litsOk (row.map .int) its.toList
      | _, _ => false
    | none => false
  | _ => false
def rowsOk (K : PySem.W.Frag) : List (List Int) → List Value → Bool
  | [], [] => true
  | r :: rs, v :: vs => gtRow K r v && rowsOk K rs vs
  | _, _ => false
def gt2B (K : PySem.W.Frag) (tab : List (List Int)) (a : Addr) : Bool := match K.lookup a with
  | some o => match o.cls, o.data with
    | .type t, .seq its _ => t == "tuple" && decide (its.size ≤ sizeLine) && rowsOk K tab its.toList
    | _, _ => false
  | none => false
theorem litV_ints : ∀ r : List Int, (r.map Wv.int).map litV = r.map V.int
  | [] => rfl
  | x :: r => by rw [List.map_cons, List.map_cons, litV_ints r]; rfl
theorem gtRow_spec {K : PySem.W.Frag} {row : List Int} {v : Value} (h : gtRow K row v = true) : ∃ b, v = .ref b ∧ KT K b (row.map V.int) := by
  cases v with
  | ref b =>
    refine ⟨b, rfl, ?_⟩
    unfold gtRow at h
    have h : (match K.lookup b with
      | some o => match o.cls, o.data with
        | .type t, .seq its _ => t == "tuple" && decide (its.size ≤ sizeLine) && litsOk (row.map .int) its.toList
        | _, _ => false
      | none => false) = true := h
    cases q : K.lookup b with
    | none => rw [q] at h; cases h
    | some o =>
      rw [q] at h
      obtain ⟨cls, od, data, sl⟩ := o
      cases cls with
      | type t =>
        cases data with
        | seq its n =>
          have h : (t == "tuple" && decide (its.size ≤ sizeLine) && litsOk (row.map .int) its.toList) = true := h
          rw [Bool.and_eq_true, Bool.and_eq_true] at h
          refine ⟨_, its, n, q, by rw [eq_of_beq h.1.1], rfl, of_decide_eq_true h.1.2, ?_⟩
          have := (lits_rel (K := K) (ρ := ⟨[], []⟩) (H := fun _ => none) h.2).1
          rwa [litV_ints] at this
        | _ => cases h
      | _ => cases h
  | _ => cases h
theorem rowsOk_spec {K : PySem.W.Frag} : ∀ {tab : List (List Int)} {vs : List Value}, rowsOk K tab vs = true → ∃ bs : List Addr, Vals (bs.map V.ref) vs ∧ bs.length = tab.length ∧ ∀ (i : Nat) b row, bs[i]? = some b → tab[i]? = some row → KT K b (row.map V.int)
  | [], [], _ => ⟨[], .nil, rfl, fun i b row h => by simp at h⟩
  | r :: rs, v :: vs, h => by
    have h : (gtRow K r v && rowsOk K rs vs) = true := h
    rw [Bool.and_eq_true] at h
    obtain ⟨b, rfl, hb⟩ := gtRow_spec h.1
    obtain ⟨bs, h1, h2, h3⟩ := rowsOk_spec h.2
    refine ⟨b :: bs, .cons rfl h1, by rw [List.length_cons, List.length_cons, h2], fun i b' row e1 e2 => ?_⟩
    cases i with
    | zero =>
      simp at e1 e2
      subst e1; subst e2
      exact hb
    | succ i => exact h3 i b' row (by simpa using e1) (by simpa using e2)
theorem gt2_mk {K : PySem.W.Frag} {a : Addr} {tab : List (List Int)} (h : gt2B K tab a = true) : GT2 K a tab := by
  unfold gt2B at h
  cases q : K.lookup a with
  | none => rw [q] at h; cases h
  | some o =>
    rw [q] at h
    obtain ⟨cls, od, data, sl⟩ := o
    cases cls with
    | type t =>
      cases data with
      | seq its n =>
        have h : (t == "tuple" && decide (its.size ≤ sizeLine) && rowsOk K tab its.toList) = true := h
        rw [Bool.and_eq_true, Bool.and_eq_true] at h
        obtain ⟨bs, h1, h2, h3⟩ := rowsOk_spec h.2
        have ht : KT K a (bs.map V.ref) := ⟨_, its, n, q, by rw [eq_of_beq h.1.1], rfl, of_decide_eq_true h.1.2, h1⟩
        exact ⟨bs, fun H => .inr ht, h2, fun i b row e1 e2 H => .inr (h3 i b row e1 e2)⟩
      | _ => cases h
    | _ => cases h
theorem room65 {k : Nat} {A : Around} (r : Room k A) : A.units + 65 < cLine := by have := r.un; omega
theorem room80 {k : Nat} {A : Around} (r : Room k A) : A.units + 80 < cLine := by have := r.un; omega
/-! ### o.m(k = e, ..) -/
def mMethK (is : List Str) (m : Str) (j l : Nat) (perm : List Nat) (g : List Wv → Mem → R Wv) (o : Me) (a : Ma) : Me := fun env M => (o env M).bind fun x M1 => if methOk is m M1 x = true then (a env M1).bind fun ws M2 => if ws.length = l ∧ (pick' perm (x :: ws)).length = j then g (pick' perm (x :: ws)) M2 else .no else .no
section
variable {X : Cx} {E : XK} {k : Nat} {f : Addr} {fd : FuncData} {is : List Str} {ps ks : List Str} {m : Str} {g g0 : List Wv → Mem → R Wv} {apos pos : Pos} {o e : Expr} {es : List Expr} {kws : List Keyword} {perm : List Nat} {mk : Ma} {mo : Me} {pl : Sem Bool}
theorem e_methK0 (kt : Kept g0 g) (T : MethT X.K is m f) (F : FnG X.prog X.w X.K X.mg X.base k f fd ps g0) (hr : Room k X.A) (hgd : X.A.guards = some []) (hx : Passes (L2.CX X.prog X.w) X E) (hb : BK fd ps 1 ks perm) (ho : PE X o (te X.K E mo)) (hkw : PK X kws (ta X.K E mk))
    (hall : (backToKw pos (keywordEach kws X.env)).all (·.1.isSome) = true := by rfl) (hks : (backToKw pos (keywordEach kws X.env)).filterMap (·.1) = ks := by rfl)
    (hpl : ((backTo pos (starEach [] X.env)).any (·.1) || (backToKw pos (keywordEach kws X.env)).any (·.1.isNone)) = false := by rfl) {j l : Nat} (hj : ps.length = j := by rfl) (hl : ks.length = l := by rfl)
    (ht : eval (.Call (.Attribute o m apos) [] kws pos) X.env = (do
      let ov ← eval o X.env
      standAt apos.atName
      let (f, first) ← holding [ov] (getMethod ov m pl)
      callWith pos f first (backTo pos (starEach [] X.env)) (backToKw pos (keywordEach kws X.env))) := by rfl) :
    PE X (.Call (.Attribute o m apos) [] kws pos) (te X.K E (mMethK is m j l perm g mo mk)) := by
  subst hj hl
  refine ⟨fun pins s σ H Q I ⟨ρ, M, env, rl, re, h⟩ => ?_⟩
  refine PySem.W.methodCall_KW (pl := pl) (thn (ho.run pins s σ H (fun x H1 => ∃ ρ1 M1 w, Rl X.K ρ1 M1 H1 ∧ RE X.K ρ1 H1 env σ ∧ RV X.K ρ1 H1 w x ∧ methOk is m M1 w = true ∧ Fin X.K ρ1 H1 (PV X.K Q) E ((mk env M1).bind fun ws M2 => if ws.length = ks.length ∧ (pick' perm (w :: ws)).length = ps.length then g (pick' perm (w :: ws)) M2 else .no)) I (te_then rl re h fun w M1 ρ1 H1 v g1 rl1 re1 rv1 f1 => by
    obtain ⟨h0, f1⟩ := pick f1
    exact ⟨ρ1, M1, w, rl1, re1, rv1, h0, f1⟩)) fun u s1 ⟨x, H1, I1, rx, ρ1, M1, w, rl1, re1, rv1, h0, f1⟩ => ?_) ht
  obtain ⟨a, D, dx, fs, rfl, ea, c, hm, l⟩ := meth_in T rl1 h0 rv1
  obtain rfl : u = Value.ref a := rx
  refine getmeth_ok I1 ea c hm l ?_
  refine PySem.W.callWith_KW0 (first := [.ref a]) (h₀ := X.base) I.ok.mod.kin hm.kp hall (thn (hkw.run pos pins s1 σ H1 (fun vs H2 => ∃ ρ2 M2 ws, Rl X.K ρ2 M2 H2 ∧ RVs X.K ρ2 H2 (w :: ws) (.ref a :: vs) ∧ ws.length = ks.length ∧ (pick' perm (w :: ws)).length = ps.length ∧ Fin X.K ρ2 H2 (PV X.K Q) E (g (pick' perm (w :: ws)) M2)) I1
    (ta_then rl1 re1 f1 fun ws M2 ρ2 H2 vs g2 rl2 re2 rv2 f2 => by obtain ⟨⟨h1, h2⟩, f2⟩ := pick f2; exact ⟨ρ2, M2, ws, rl2, ⟨_, _, rfl, RV.mono g2 w rv1, rv2⟩, h1, h2, f2⟩)) fun us s2 ⟨vs, H2, I2, r, ρ2, M2, ws, rl2, rv2, h1, h2, f2⟩ => ⟨I2.kIn, ?_⟩) hpl
  have q1 : vs.length = ks.length := by
    have := rv2.length
    rw [List.length_cons, List.length_cons] at this
    omega
  have q2 : us.length = ks.length := by rw [← r.length]; exact q1
  have hbb := hb.to s2 [.ref a] us rfl q2
  rw [hks]
  have rr : Vals (.ref a :: vs) (.ref a :: us) := .cons rfl r
  exact callG F hr hgd hx I2 hbb (vs := pick' perm (.ref a :: vs)) (pick_vals perm rr) (by rw [← (pick_rvs perm rv2).length]; exact h2) rl2 (pick_rvs perm rv2) (kt _ _ _ _ _ _ _ rl2 f2)
end
end Mi

/-! pairs of ints: as data, as keys of a dict; big steps of the mirrors -/
namespace Mi
open PySem PySem.Spec PyProof.Rows L2
abbrev P2 := Int × Int
/-! ### big steps -/
section
variable {env env1 env2 : Ev} {M M1 M2 M3 M4 : Mem} {a b c o i : Me} {v w u r : Wv} {ma mb : Ma} {ws us : List Wv} {f : List Wv → Mem → R Wv} {t : Mt} {s1 s2 : Ms} {q : Bool}
theorem bin_ {g : Wv → Wv → Mem → R Wv} {r : R Wv} (h1 : a env M = .ok v M1) (h2 : b env M1 = .ok w M2) (h : g v w M2 = r) : mBin g a b env M = r := by rw [x_bin, h1, kBin1_ok, h2, kBin2_ok, h]
theorem un_ {g : Wv → Mem → R Wv} {r : R Wv} (h1 : a env M = .ok v M1) (h : g v M1 = r) : mUn g a env M = r := by rw [x_un, h1, kUn_ok, h]
theorem cmp_ {g : Wv → Wv → Mem → R Bool} (h1 : a env M = .ok v M1) (h2 : b env M1 = .ok w M2) (h : g v w M2 = .ok q M3) : mCmp g a b env M = .ok (.bl q) M3 := by rw [x_cmp, h1, kCmp1_ok, h2, kCmp2_ok, h, kBl_ok]
theorem mac_ (h1 : a env M = .ok w M1) (h2 : ma env M1 = .ok ws M2) : maC a ma env M = .ok (w :: ws) M2 := by rw [x_maC, h1, kCons1_ok, h2, kCons2_ok]
theorem mac1_ (h1 : a env M = .ok w M1) : maC a maN env M = .ok [w] M1 := mac_ h1 rfl
theorem mac2_ (h1 : a env M = .ok w M1) (h2 : b env M1 = .ok u M2) : maC a (maC b maN) env M = .ok [w, u] M2 := mac_ h1 (mac1_ h2)
theorem mac3_ (h1 : a env M = .ok w M1) (h2 : b env M1 = .ok u M2) (h3 : c env M2 = .ok v M3) : maC a (maC b (maC c maN)) env M = .ok [w, u, v] M3 := mac_ h1 (mac2_ h2 h3)
theorem tup_ (h : ma env M = .ok ws M1) (hl : ws.length ≤ lim) : mTup ma env M = .ok (.tup ws) M1 := by rw [x_tup, h, kTup_ok, if_pos hl]
theorem lst_ (h : ma env M = .ok ws M1) (hl : ws.length ≤ lim) : mLst ma env M = .ok (.lst ws) M1 := by rw [x_lst, h, kLst_ok, if_pos hl]
theorem new_ (h : ma env M = .ok ws M1) (hl : ws.length ≤ lim) : mNew ma env M = .ok (.ref M1.length) (M1 ++ [.lst ws]) := by rw [x_new, h, kNew_ok, if_pos hl]
theorem call_ {r : R Wv} (h : ma env M = .ok ws M1) (h2 : f ws M1 = r) : mCall f ma env M = r := by rw [x_call, h, kCall_ok, h2]
theorem app_ {n : Nat} {r : R Wv} (h : ma env M = .ok ws M1) (hn : ws.length = n) (h2 : f ws M1 = r) : mApp n f ma env M = r := by rw [x_app, h, kApp_ok, if_pos hn, h2]
theorem appD_ {n : Nat} {ds : List Wv} {r : R Wv} (h : ma env M = .ok ws M1) (hn : (ws ++ ds).length = n) (h2 : f (ws ++ ds) M1 = r) : mAppD n f ds ma env M = r := by
  unfold mAppD
  rw [h]
  show (if (ws ++ ds).length = n then f (ws ++ ds) M1 else .no) = _
  rw [if_pos hn, h2]
theorem meth_ {is : List Str} {m : Str} {n : Nat} {r : R Wv} (h1 : o env M = .ok v M1) (hk : methOk is m M1 v = true) (h : ma env M1 = .ok ws M2) (hn : ws.length = n) (h2 : f (v :: ws) M2 = r) : mMeth is m n f o ma env M = r := by
  unfold mMeth
  rw [h1]
  show (if methOk is m M1 v = true then _ else _) = _
  rw [if_pos hk, h]
  show (if ws.length = n then f (v :: ws) M2 else .no) = _
  rw [if_pos hn, h2]
theorem methK_ {is : List Str} {m : Str} {j l : Nat} {p : List Nat} {r : R Wv} (h1 : o env M = .ok v M1) (hk : methOk is m M1 v = true) (h : ma env M1 = .ok ws M2) (hn : ws.length = l ∧ (pick' p (v :: ws)).length = j) (h2 : f (pick' p (v :: ws)) M2 = r) : mMethK is m j l p f o ma env M = r := by
  unfold mMethK
  rw [h1]
  show (if methOk is m M1 v = true then _ else _) = _
  rw [if_pos hk, h]
  show (if ws.length = l ∧ (pick' p (v :: ws)).length = j then f (pick' p (v :: ws)) M2 else .no) = _
  rw [if_pos hn, h2]
theorem appK_ {j l n : Nat} {p : List Nat} {r : R Wv} (h1 : ma env M = .ok us M1) (h : mb env M1 = .ok ws M2) (hn : us.length = n ∧ ws.length = l ∧ (pick' p (us ++ ws)).length = j) (h2 : f (pick' p (us ++ ws)) M2 = r) : mAppK j n l p f ma mb env M = r := by
  rw [x_appK, h1, kAppK1_ok, h, kAppK2_ok, if_pos hn, h2]
theorem ift_ {r : R Wv} (h : t env M = .ok true M1) (h2 : a env M1 = r) : mIf t a b env M = r := by rw [x_if, h, kIf_t, h2]
theorem iff_ {r : R Wv} (h : t env M = .ok false M1) (h2 : b env M1 = r) : mIf t a b env M = r := by rw [x_if, h, kIf_f, h2]
theorem te_ (h : a env M = .ok (.bl q) M1) : mtE a env M = .ok q M1 := by rw [x_te, h, kTe_ok, asT_bl]
theorem set_ {n : Nat} (h : a env M = .ok w M1) : sSet n a env M = .ok (.nx (env.set n (some w))) M1 := by rw [x_set, h, kSet_ok]
theorem ret_ (h : a env M = .ok w M1) : sRet a env M = .ok (.ret w) M1 := by rw [x_ret, h, kRet_ok]
theorem exp_ (h : a env M = .ok w M1) : sExp a env M = .ok (.nx env) M1 := by rw [x_exp, h, kExp_ok]
theorem unp_ {T : Tg} (h : a env M = .ok w M1) (h2 : T.set w env M1 = .ok env1 M2) : sUnp T a env M = .ok (.nx env1) M2 := by
  unfold sUnp
  rw [h]
  show ((T.set w env M1).bind _) = _
  rw [h2]
  rfl
theorem par2_ {m n : Nat} (h : ma env M = .ok [v, w] M1) : sPar2 m n ma env M = .ok (.nx ((env.set m (some v)).set n (some w))) M1 := by rw [x_par2, h, kPar2_ok]
theorem mand_t (h1 : a env M = .ok (.bl true) M1) (h2 : b env M1 = .ok (.bl q) M2) : mAnd a b env M = .ok (.bl q) M2 := by rw [x_and, h1, kAnd1_ok, asT_bl, kAnd2_t, h2]
theorem fn_ {n : Nat} {s : Ms} (h : s (evStart n ws) M = .ok (.ret w) M1) : mFn n s ws M = .ok w M1 := by rw [x_fn, h, kFn_ok]
/-- a loop: a state behind each step -/
theorem for_ {T : Tg} {b : Ms} {mi : Mi'} {ws : List Wv} (h : mi env M = .ok ws M1) {r : R Fl} (h2 : forW T b ws env M1 = r) : sFor T mi b env M = r := by rw [x_for, h, kFor_ok, h2]
theorem forW_nil {T : Tg} {b : Ms} : forW T b [] env M = .ok (.nx env) M := rfl
theorem forW_cons {T : Tg} {b : Ms} {w : Wv} {ws : List Wv} {r : R Fl} (h1 : T.set w env M = .ok env1 M1) (h2 : b env1 M1 = .ok (.nx env2) M2) (h3 : forW T b ws env2 M2 = r) : forW T b (w :: ws) env M = r := by
  unfold forW
  rw [h1]
  show ((b env1 M1).bind _) = _
  rw [h2]
  exact h3
theorem lc_ {vs : List Nat} {T : Tg} {mi : Mi'} {e : Me} {ws : List Wv} {r : R Wv} (h : mi env M = .ok ws M1) (h2 : lcW T t e (wipeE env vs) ws [] M1 = r) : mLc vs T mi t e env M = r := by rw [x_lc, h, kLc_ok, h2]
theorem seqI_ {xs : List Wv} {r : R (List Wv)} (h : a env M = .ok w M1) (h2 : mSeqI (mC w) env M1 = r) : mSeqI a env M = r := by
  rw [← h2]
  show ((a env M).bind _) = ((R.ok w M1).bind _)
  rw [h]
end
end Mi

namespace Mi
open PySem PySem.Spec PyProof.Rows L2
/-! ### pairs as data -/
def dPp (p : P2) : PyData := .tuple [.int p.1, .int p.2]
theorem toDs_ps : ∀ ps : List P2, toDs (ps.map mkP) = some (ps.map dPp)
  | [] => rfl
  | p :: ps => by
    show (match toD (mkP p), toDs (ps.map mkP) with | some d, some ds => some (d :: ds) | _, _ => none) = _
    rw [toDs_ps ps]
    rfl
theorem dp_eqv (p q : P2) : PyData.eqv (dPp p) (dPp q) = decide (p = q) := by
  obtain ⟨a, b⟩ := p
  obtain ⟨c, d⟩ := q
  have e : PyData.eqv (dPp (a, b)) (dPp (c, d)) = (a == c && (b == d && true)) := by simp [dPp, PyData.eqv, PyData.eqvAll]
  rw [e]
  by_cases h1 : a = c <;> by_cases h2 : b = d <;> simp [h1, h2]
theorem dps_any (ps : List P2) (p : P2) : ((ps.map dPp).any fun z => PyData.eqv z (dPp p)) = decide (p ∈ ps) := by
  induction ps with
  | nil => rfl
  | cons q ps ih =>
    rw [List.map_cons, List.any_cons, ih, dp_eqv]
    by_cases h : p = q
    · subst h; simp
    · have h' : ¬ q = p := fun e => h e.symm
      simp [h, h']
theorem dps_lay (ps : List P2) : PyData.canLayAll0 (ps.map dPp) = true := by
  induction ps with
  | nil => simp [PyData.canLayAll0]
  | cons p ps ih => simp [PyData.canLayAll0, PyData.canLay0, dPp, ih]
theorem dps_depth (ps : List P2) : PyData.depthAll (ps.map dPp) ≤ 1 := by
  induction ps with
  | nil => simp [PyData.depthAll]
  | cons p ps ih =>
    have : PyData.depth (dPp p) = 1 := by simp [dPp, PyData.depth, PyData.depthAll]
    rw [List.map_cons]
    simp only [PyData.depthAll, this]
    omega
theorem shaped_p (p : P2) : SeqAt.shaped (dPp p) = true := by simp [SeqAt.shaped, dPp, PyData.canLay0, PyData.canLayAll0, PyData.depth, PyData.depthAll]
theorem shaped_ps (ps : List P2) : SeqAt.shaped (.list (ps.map dPp)) = true := by
  have h1 := dps_lay ps
  have h2 := dps_depth ps
  unfold SeqAt.shaped
  simp [PyData.canLay0, PyData.depth, h1]
  omega
theorem shaped_pt (ps : List P2) : SeqAt.shaped (.tuple (ps.map dPp)) = true := by
  have h1 := dps_lay ps
  have h2 := dps_depth ps
  unfold SeqAt.shaped
  simp [PyData.canLay0, PyData.depth, h1]
  omega
theorem eqvAll_ps : ∀ ps qs : List P2, PyData.eqvAll (ps.map dPp) (qs.map dPp) = decide (ps = qs)
  | [], [] => by simp [PyData.eqvAll]
  | [], q :: qs => by simp [PyData.eqvAll]
  | p :: ps, [] => by simp [PyData.eqvAll]
  | p :: ps, q :: qs => by
    rw [List.map_cons, List.map_cons]
    have e : PyData.eqvAll (dPp p :: ps.map dPp) (dPp q :: qs.map dPp) = (PyData.eqv (dPp p) (dPp q) && PyData.eqvAll (ps.map dPp) (qs.map dPp)) := by simp [PyData.eqvAll]
    rw [e, dp_eqv, eqvAll_ps ps qs]
    by_cases h1 : p = q <;> by_cases h2 : ps = qs <;> simp [h1, h2]
/-- the values of the mirrors that stand for these pairs in a row -/
inductive PsW (M : Mem) (ps : List P2) : Wv → Prop
  | l : PsW M ps (.lst (ps.map mkP))
  | t : PsW M ps (.tup (ps.map mkP))
  | r (n) (h : M[n]? = some (.lst (ps.map mkP))) : PsW M ps (.ref n)
theorem psw_data {M : Mem} {ps : List P2} {w : Wv} (h : PsW M ps w) : dictAt M w = none ∧ ∃ c, toDM M w = some c ∧ itemsD c = some (ps.map dPp) ∧ SeqAt.shaped c = true := by
  cases h with
  | l => exact ⟨rfl, _, by show (toDs (ps.map mkP)).map PyData.list = _; rw [toDs_ps]; rfl, rfl, shaped_ps ps⟩
  | t => exact ⟨rfl, _, by show (toDs (ps.map mkP)).map PyData.tuple = _; rw [toDs_ps]; rfl, rfl, shaped_pt ps⟩
  | r n h =>
    refine ⟨?_, .list (ps.map dPp), ?_, rfl, shaped_ps ps⟩
    · show (match M[n]? with | some (Ob.dct ks xs) => some (DS.k ks xs) | some (Ob.dtt ks xs) => some (DS.t ks xs) | _ => none) = _
      rw [h]
    · show (match M[n]? with | some (Ob.lst xs) => (toDs xs).map PyData.list | _ => none) = _
      rw [h]
      show (toDs (ps.map mkP)).map PyData.list = _
      rw [toDs_ps]
      rfl
theorem in_ps {M : Mem} {ps : List P2} {w : Wv} (h : PsW M ps w) (neg : Bool) (p : P2) : inD neg (inE neg) (mkP p) w M = .ok (neg ^^ decide (p ∈ ps)) M := by
  obtain ⟨h0, c, h1, h2, h3⟩ := psw_data h
  unfold inD
  rw [h0]
  show inE neg (mkP p) w M = _
  unfold inE
  rw [h1, show toDM M (mkP p) = some (dPp p) from rfl]
  show (match itemsD c with | some ds => if (SeqAt.shaped (dPp p) && SeqAt.shaped c) = true then R.ok (neg ^^ ds.any fun z => PyData.eqv z (dPp p)) M else .no | none => .no) = _
  rw [h2]
  show (if (SeqAt.shaped (dPp p) && SeqAt.shaped c) = true then R.ok (neg ^^ (ps.map dPp).any fun z => PyData.eqv z (dPp p)) M else .no) = _
  rw [h3, shaped_p, Bool.and_self, if_pos rfl, dps_any]
theorem eq_tps (neg : Bool) (ps qs : List P2) (M : Mem) : eqW neg (.tup (ps.map mkP)) (.tup (qs.map mkP)) M = .ok (neg ^^ decide (ps = qs)) M := by
  rw [eqW_is (d := .tuple (ps.map dPp)) (e := .tuple (qs.map dPp)) (by show (toDs (ps.map mkP)).map PyData.tuple = _; rw [toDs_ps]; rfl) (by show (toDs (qs.map mkP)).map PyData.tuple = _; rw [toDs_ps]; rfl) (by rw [shaped_pt, shaped_pt]; rfl)]
  rw [show PyData.eqv (.tuple (ps.map dPp)) (.tuple (qs.map dPp)) = PyData.eqvAll (ps.map dPp) (qs.map dPp) from by simp [PyData.eqv], eqvAll_ps]
/-- a list of the memory, asked whether it is empty -/
theorem ne_nil_ref {M : Mem} {n : Nat} {ps : List P2} (h : M[n]? = some (.lst (ps.map mkP))) : eqW true (.ref n) (.lst []) M = .ok (!ps.isEmpty) M := by
  obtain ⟨_, c, h1, h2, h3⟩ := psw_data (.r n h)
  have hc : c = .list (ps.map dPp) := by
    have : toDM M (.ref n) = some (.list (ps.map dPp)) := by
      show (match M[n]? with | some (Ob.lst xs) => (toDs xs).map PyData.list | _ => none) = _
      rw [h]
      show (toDs (ps.map mkP)).map PyData.list = _
      rw [toDs_ps]
      rfl
    rw [this] at h1
    cases h1
    rfl
  subst hc
  rw [eqW_is h1 (show toDM M (.lst []) = some (.list []) from rfl) (by rw [h3]; exact shaped_ps [])]
  cases ps with
  | nil => simp [PyData.eqv, PyData.eqvAll]
  | cons p ps => simp [PyData.eqv, PyData.eqvAll]
/-! ### pairs as keys -/
def keyP (p : P2) : List Key := [.inl p.1, .inl p.2]
theorem keyP_inj {p q : P2} : keyP p = keyP q ↔ p = q := by
  obtain ⟨a, b⟩ := p
  obtain ⟨c, d⟩ := q
  simp [keyP]
theorem keyPrs_map : ∀ ps : List P2, keyPrs (ps.map keyP) = some ps
  | [] => rfl
  | p :: ps => by
    show (match keyPr (keyP p), keyPrs (ps.map keyP) with | some p, some ps => some (p :: ps) | _, _ => none) = _
    rw [keyPrs_map ps]
    rfl
theorem prs_map : ∀ ps : List P2, prs (ps.map mkP) = some ps
  | [] => rfl
  | p :: ps => by
    show (match prI (mkP p), prs (ps.map mkP) with | some p, some ps => some (p :: ps) | _, _ => none) = _
    rw [prs_map ps]
    rfl
def trs (ps : List P2) : List Wv := ps.map fun _ => .bl true
/-- the dict that has these keys, all True -/
def dO (ps : List P2) : Ob := .dtt (ps.map keyP) (trs ps)
theorem dgA_p (p : P2) : ∀ ps : List P2, dgA (ps.map keyP) (trs ps) (keyP p) = if p ∈ ps then some (.bl true) else none
  | [] => rfl
  | q :: ps => by
    have ih := dgA_p p ps
    unfold dgA trs at ih ⊢
    rw [List.map_cons, List.map_cons, List.zip_cons_cons, List.find?_cons]
    by_cases h : p = q
    · subst h
      simp
    · have h' : ¬ keyP q = keyP p := fun e => h (keyP_inj.mp e).symm
      simp only [decide_eq_false h']
      rw [ih]
      by_cases hm : p ∈ ps <;> simp [h, hm]
theorem get_p (ps : List P2) (p : P2) : (DS.t (ps.map keyP) (trs ps)).get (mkP p) = some (if p ∈ ps then some (.bl true) else none) := by
  show (keyT (mkP p)).map (dgA (ps.map keyP) (trs ps)) = _
  rw [show keyT (mkP p) = some (keyP p) from rfl, ← dgA_p]
  rfl
theorem in_dict {M : Mem} {ps : List P2} {w : Wv} (h : dictAt M w = some (.t (ps.map keyP) (trs ps))) (neg : Bool) (alt : Wv → Wv → Mem → R Bool) (p : P2) : inD neg alt (mkP p) w M = .ok (neg ^^ decide (p ∈ ps)) M := by
  unfold inD
  rw [h]
  show (match (DS.t (ps.map keyP) (trs ps)).get (mkP p) with | some o => R.ok (neg ^^ o.isSome) M | none => .no) = _
  rw [get_p]
  by_cases hm : p ∈ ps <;> simp [hm]
theorem dictAt_ref {M : Mem} {n : Nat} {ps : List P2} (h : M[n]? = some (dO ps)) : dictAt M (.ref n) = some (.t (ps.map keyP) (trs ps)) := by
  show (match M[n]? with | some (Ob.dct ks xs) => some (DS.k ks xs) | some (Ob.dtt ks xs) => some (DS.t ks xs) | _ => none) = _
  rw [h]
  rfl
theorem putA_p {p : P2} {ps : List P2} (h : p ∉ ps) : putA (ps.map keyP) (trs ps) (keyP p) (.bl true) = ((ps ++ [p]).map keyP, trs (ps ++ [p])) := by
  unfold putA
  rw [if_neg (by
    rw [List.any_map, Bool.not_eq_true, List.any_eq_false]
    intro q hq e
    have e : keyP q = keyP p := of_decide_eq_true e
    exact h (keyP_inj.mp e ▸ hq))]
  simp [trs]
theorem set_dict_p {M : Mem} {n : Nat} {ps : List P2} {p : P2} (h : M[n]? = some (dO ps)) (hp : p ∉ ps) (hl : ps.length < lim) : setD (.ref n) (mkP p) (.bl true) M = .ok () (M.set n (dO (ps ++ [p]))) := by
  show (match M[n]? with
    | some (.dct ks xs) => _
    | some (.dtt ks xs) => _
    | _ => _) = _
  rw [h]
  show (match keyT (mkP p) with
      | some k => if (ps.map keyP).length < lim then R.ok () (M.set n (.dtt (putA (ps.map keyP) (trs ps) k (.bl true)).1 (putA (ps.map keyP) (trs ps) k (.bl true)).2)) else .no
      | none => .no) = _
  rw [show keyT (mkP p) = some (keyP p) from rfl]
  show (if (ps.map keyP).length < lim then R.ok () (M.set n (.dtt (putA (ps.map keyP) (trs ps) (keyP p) (.bl true)).1 (putA (ps.map keyP) (trs ps) (keyP p) (.bl true)).2)) else .no) = _
  rw [List.length_map, if_pos hl, putA_p hp]
  rfl
theorem dropA_p (p : P2) : ∀ ps : List P2, dropA (ps.map keyP) (trs ps) (keyP p) = ((ps.filter fun q => decide (q ≠ p)).map keyP, trs (ps.filter fun q => decide (q ≠ p)))
  | [] => rfl
  | q :: ps => by
    have ih := dropA_p p ps
    unfold dropA trs at ih ⊢
    rw [List.map_cons, List.map_cons, List.zip_cons_cons, List.filter_cons, List.filter_cons]
    rw [Prod.mk.injEq] at ih
    by_cases h : q = p
    · subst h
      simp only [ne_eq, not_true_eq_false, decide_false, Bool.false_eq_true, if_false]
      exact Prod.ext ih.1 ih.2
    · have h' : ¬ keyP q = keyP p := fun e => h (keyP_inj.mp e)
      simp only [ne_eq, h', h, not_false_eq_true, decide_true, if_true, List.map_cons]
      exact Prod.ext (by rw [← ih.1]) (by rw [← ih.2])
theorem del_dict_p {M : Mem} {n : Nat} {ps : List P2} {p : P2} (h : M[n]? = some (dO ps)) (hp : p ∈ ps) (hl : ps.length ≤ lim) : delD (.ref n) (mkP p) M = .ok () (M.set n (dO (ps.filter fun q => decide (q ≠ p)))) := by
  show (match M[n]? with
    | some (.dct ks xs) => _
    | some (.dtt ks xs) => _
    | _ => _) = _
  rw [h]
  show (match keyT (mkP p) with
      | some k => match dgA (ps.map keyP) (trs ps) k with
        | some _ => if (ps.map keyP).length ≤ lim then R.ok () (M.set n (.dtt (dropA (ps.map keyP) (trs ps) k).1 (dropA (ps.map keyP) (trs ps) k).2)) else .no
        | none => .no
      | none => .no) = _
  rw [show keyT (mkP p) = some (keyP p) from rfl]
  show (match dgA (ps.map keyP) (trs ps) (keyP p) with
        | some _ => if (ps.map keyP).length ≤ lim then R.ok () (M.set n (.dtt (dropA (ps.map keyP) (trs ps) (keyP p)).1 (dropA (ps.map keyP) (trs ps) (keyP p)).2)) else .no
        | none => .no) = _
  rw [dgA_p, if_pos hp]
  show (if (ps.map keyP).length ≤ lim then R.ok () (M.set n (.dtt (dropA (ps.map keyP) (trs ps) (keyP p)).1 (dropA (ps.map keyP) (trs ps) (keyP p)).2)) else .no) = _
  rw [List.length_map, if_pos hl, dropA_p]
  rfl
/-- {p: True for p in ps} -/
theorem dcN_ps {T : Tg} {t : Mt} {ek ev : Me} {env : Ev} {M : Mem} : ∀ {qs ps : List P2}, (∀ p, ∃ env1, T.set (mkP p) env M = .ok env1 M ∧ t env1 M = .ok true M ∧ ek env1 M = .ok (mkP p) M ∧ ev env1 M = .ok (.bl true) M) → (ps ++ qs).Nodup → (ps ++ qs).length ≤ lim →
    dcNW T t ek ev env (qs.map mkP) (ps.map keyP) (trs ps) M = .ok (.ref M.length) (M ++ [dO (ps ++ qs)])
  | [], ps, _, _, _ => by rw [List.append_nil]; rfl
  | q :: qs, ps, h, nd, hl => by
    obtain ⟨env1, h1, h2, h3, h4⟩ := h q
    rw [List.map_cons]
    unfold dcNW
    rw [h1]
    show ((noX (t env1 M)).bind _) = _
    rw [h2]
    show ((noX (ek env1 M)).bind _) = _
    rw [h3]
    show ((noX (ev env1 M)).bind _) = _
    rw [h4]
    show (match keyT (mkP q) with
      | some k => if (ps.map keyP).length < lim then dcNW T t ek ev env (qs.map mkP) (putA (ps.map keyP) (trs ps) k (.bl true)).1 (putA (ps.map keyP) (trs ps) k (.bl true)).2 M else .no
      | none => .no) = _
    rw [show keyT (mkP q) = some (keyP q) from rfl]
    show (if (ps.map keyP).length < lim then dcNW T t ek ev env (qs.map mkP) (putA (ps.map keyP) (trs ps) (keyP q) (.bl true)).1 (putA (ps.map keyP) (trs ps) (keyP q) (.bl true)).2 M else .no) = _
    have hq : q ∉ ps := fun hm => by
      rw [List.nodup_append] at nd
      exact nd.2.2 q hm q List.mem_cons_self rfl
    have e : ps ++ q :: qs = (ps ++ [q]) ++ qs := by simp
    rw [List.length_append, List.length_cons] at hl
    rw [List.length_map, if_pos (by omega), putA_p hq]
    show dcNW T t ek ev env (qs.map mkP) ((ps ++ [q]).map keyP) (trs (ps ++ [q])) M = _
    rw [dcN_ps (qs := qs) (ps := ps ++ [q]) h (e ▸ nd) (by simp; omega), e]
theorem dc_ps {vs : List Nat} {T : Tg} {mi : Mi'} {t : Mt} {ek ev : Me} {env : Ev} {M M1 : Mem} {ps : List P2} (hi : mi env M = .ok (ps.map mkP) M1) (h : ∀ p, ∃ env1, T.set (mkP p) (wipeE env vs) M1 = .ok env1 M1 ∧ t env1 M1 = .ok true M1 ∧ ek env1 M1 = .ok (mkP p) M1 ∧ ev env1 M1 = .ok (.bl true) M1) (nd : ps.Nodup) (hl : ps.length ≤ lim) :
    mDcN vs T mi t ek ev env M = .ok (.ref M1.length) (M1 ++ [dO ps]) := by
  unfold mDcN
  rw [hi]
  exact dcN_ps (qs := ps) (ps := []) h nd hl
theorem srt_dict {M : Mem} {w : Wv} {ps : List P2} (h : dictAt M w = some (.t (ps.map keyP) (trs ps))) : srtD w M = .ok (.lst ((isortP ps).map mkP)) M := by
  unfold srtD
  rw [h]
  show (match keyPrs (ps.map keyP) with | some ps => R.ok (Wv.lst ((isortP ps).map mkP)) M | none => .no) = _
  rw [keyPrs_map]
theorem srt_lst {M : Mem} {ps : List P2} : srtD (Wv.lst (ps.map mkP)) M = R.ok (Wv.lst ((isortP ps).map mkP)) M := by
  show (match prs (ps.map mkP) with | some ps => R.ok (Wv.lst ((isortP ps).map mkP)) M | none => .no) = _
  rw [prs_map]
/-- len(set(..)) -/
theorem ddP_id : ∀ {ps : List P2}, ps.Nodup → ddP ps = ps
  | [], _ => rfl
  | p :: ps, h => by
    have ih := ddP_id (List.nodup_cons.mp h).2
    unfold ddP
    rw [ih]
    simp [(List.nodup_cons.mp h).1]
end Mi

/-! cells that hang together: plain laws -/
namespace Mi
open PySem PySem.Spec PyProof.Rows L2
/-! ### rows without twins -/
theorem nd_perm {α : Type} [DecidableEq α] : ∀ {l m : List α}, l.Nodup → m.Nodup → (∀ x, x ∈ l ↔ x ∈ m) → l.Perm m
  | [], m, _, _, h => by
    cases m with
    | nil => exact .nil
    | cons y m => exact absurd ((h y).mpr List.mem_cons_self) (by simp)
  | x :: l, m, h1, h2, h => by
    have hx : x ∈ m := (h x).mp List.mem_cons_self
    have p := List.perm_cons_erase hx
    refine .trans (.cons x (nd_perm (List.nodup_cons.mp h1).2 (h2.erase x) fun y => ?_)) p.symm
    rw [h2.mem_erase_iff]
    constructor
    · intro hy
      exact ⟨fun e => (List.nodup_cons.mp h1).1 (e ▸ hy), (h y).mp (List.mem_cons_of_mem _ hy)⟩
    · rintro ⟨hne, hy⟩
      rcases List.mem_cons.mp ((h y).mpr hy) with e | e
      · exact absurd e hne
      · exact e
theorem nd_len {α : Type} [DecidableEq α] : ∀ {l m : List α}, l.Nodup → (∀ x ∈ l, x ∈ m) → l.length ≤ m.length
  | [], _, _, _ => Nat.zero_le _
  | x :: l, m, h1, h => by
    have hx := h x List.mem_cons_self
    have := nd_len (l := l) (m := m.erase x) (List.nodup_cons.mp h1).2 fun y hy => (List.mem_erase_of_ne fun e => (List.nodup_cons.mp h1).1 (by subst e; exact hy)).mpr (h y (List.mem_cons_of_mem _ hy))
    rw [List.length_erase_of_mem hx] at this
    have := List.length_pos_of_mem hx
    rw [List.length_cons]
    omega
/-! ### the least, the greatest -/
def bst (big : Bool) : List Int → Int
  | [] => 0
  | i :: is => bestI big i is
theorem bst_step (big : Bool) (i j : Int) (js : List Int) : ∃ k, (k = i ∨ k = j) ∧ (if big then i ≤ k ∧ j ≤ k else k ≤ i ∧ k ≤ j) ∧ bestI big i (j :: js) = bestI big k js := by
  cases big with
  | false =>
    by_cases h : j < i
    · exact ⟨j, .inr rfl, by simp; omega, by show bestI false (if j < i then j else i) js = _; rw [if_pos h]⟩
    · exact ⟨i, .inl rfl, by simp; omega, by show bestI false (if j < i then j else i) js = _; rw [if_neg h]⟩
  | true =>
    by_cases h : i < j
    · exact ⟨j, .inr rfl, by simp; omega, by show bestI true (if i < j then j else i) js = _; rw [if_pos h]⟩
    · exact ⟨i, .inl rfl, by simp; omega, by show bestI true (if i < j then j else i) js = _; rw [if_neg h]⟩
theorem bst_spec (big : Bool) : ∀ (is : List Int) (i : Int), bestI big i is ∈ i :: is ∧ ∀ y ∈ i :: is, if big then y ≤ bestI big i is else bestI big i is ≤ y
  | [], i => ⟨List.mem_cons_self, fun y hy => by
    rw [List.mem_singleton.mp hy]
    cases big <;> simp [bestI]⟩
  | j :: js, i => by
    obtain ⟨k, hk, hb, e⟩ := bst_step big i j js
    obtain ⟨h1, h2⟩ := bst_spec big js k
    rw [e]
    have h0 := h2 k List.mem_cons_self
    refine ⟨?_, fun y hy => ?_⟩
    · rcases List.mem_cons.mp h1 with h | h
      · rw [h]
        rcases hk with rfl | rfl <;> simp
      · simp [h]
    · cases big with
      | false =>
        simp only [Bool.false_eq_true, if_false] at h0 h2 hb ⊢
        rcases List.mem_cons.mp hy with rfl | hy
        · omega
        · rcases List.mem_cons.mp hy with rfl | hy
          · omega
          · exact h2 y (List.mem_cons_of_mem _ hy)
      | true =>
        simp only [if_true] at h0 h2 hb ⊢
        rcases List.mem_cons.mp hy with rfl | hy
        · omega
        · rcases List.mem_cons.mp hy with rfl | hy
          · omega
          · exact h2 y (List.mem_cons_of_mem _ hy)
theorem bst_mem {big : Bool} {is : List Int} (h : is ≠ []) : bst big is ∈ is := by
  cases is with
  | nil => exact absurd rfl h
  | cons i is => exact (bst_spec big is i).1
theorem min_le {is : List Int} {y : Int} (h : y ∈ is) : bst false is ≤ y := by
  cases is with
  | nil => cases h
  | cons i is => exact (bst_spec false is i).2 y h
theorem le_max {is : List Int} {y : Int} (h : y ∈ is) : y ≤ bst true is := by
  cases is with
  | nil => cases h
  | cons i is => exact (bst_spec true is i).2 y h
theorem min_is {is : List Int} {m : Int} (h1 : m ∈ is) (h2 : ∀ y ∈ is, m ≤ y) : bst false is = m := by
  have := bst_mem (big := false) (List.ne_nil_of_mem h1)
  have := h2 _ this
  have := min_le h1
  omega
theorem max_is {is : List Int} {m : Int} (h1 : m ∈ is) (h2 : ∀ y ∈ is, y ≤ m) : bst true is = m := by
  have := bst_mem (big := true) (List.ne_nil_of_mem h1)
  have := h2 _ this
  have := le_max h1
  omega
/-! ### moved home -/
def lft (ps : List P2) : Int := bst false (ps.map (·.1))
def low (ps : List P2) : Int := bst false (ps.map (·.2))
def home (ps : List P2) : List P2 := isortP (ps.map fun p => (p.1 - lft ps, p.2 - low ps))
def shf (a b : Int) (p : P2) : P2 := (p.1 + a, p.2 + b)
theorem min_perm {is js : List Int} (h : is.Perm js) : bst false is = bst false js := by
  by_cases e : js = []
  · subst e; rw [h.eq_nil]
  · exact min_is (h.mem_iff.mpr (bst_mem e)) fun y hy => min_le (h.mem_iff.mp hy)
theorem isortP_perm_eq {ps qs : List P2} (h : ps.Perm qs) : isortP ps = isortP qs := isortP_eq (isortP_sorted ps) ((isortP_perm ps).trans h)
theorem lft_perm {ps qs : List P2} (h : ps.Perm qs) : lft ps = lft qs := min_perm (h.map _)
theorem low_perm {ps qs : List P2} (h : ps.Perm qs) : low ps = low qs := min_perm (h.map _)
theorem home_perm {ps qs : List P2} (h : ps.Perm qs) : home ps = home qs := by
  unfold home
  rw [lft_perm h, low_perm h]
  exact isortP_perm_eq (h.map _)
theorem min_add {is : List Int} (h : is ≠ []) (a : Int) : bst false (is.map (· + a)) = bst false is + a :=
  min_is (List.mem_map.mpr ⟨_, bst_mem h, rfl⟩) fun y hy => by
    obtain ⟨x, hx, rfl⟩ := List.mem_map.mp hy
    have := min_le hx
    omega
theorem home_shift {ps : List P2} (h : ps ≠ []) (a b : Int) : home (ps.map (shf a b)) = home ps := by
  have h1 : lft (ps.map (shf a b)) = lft ps + a := by
    unfold lft
    rw [← min_add (by simpa using h), List.map_map, List.map_map]
    rfl
  have h2 : low (ps.map (shf a b)) = low ps + b := by
    unfold low
    rw [← min_add (by simpa using h), List.map_map, List.map_map]
    rfl
  unfold home
  rw [h1, h2, List.map_map]
  congr 1
  refine List.map_congr_left fun p _ => ?_
  show ((p.1 + a) - (lft ps + a), (p.2 + b) - (low ps + b)) = _
  exact Prod.ext (by show (p.1 + a) - (lft ps + a) = p.1 - lft ps; omega) (by show (p.2 + b) - (low ps + b) = p.2 - low ps; omega)
theorem home_len (ps : List P2) : (home ps).length = ps.length := by
  unfold home
  rw [(isortP_perm _).length_eq, List.length_map]
theorem home_nodup {ps : List P2} (h : ps.Nodup) : (home ps).Nodup := by
  unfold home
  refine (isortP_perm _).nodup_iff.mpr ?_
  refine List.pairwise_map.mpr (h.imp fun {a b} hne e => hne ?_)
  have e1 := congrArg Prod.fst e
  have e2 := congrArg Prod.snd e
  exact Prod.ext (by simpa using e1) (by simpa using e2)
theorem home_mem {ps : List P2} {q : P2} (h : q ∈ home ps) : ∃ p ∈ ps, q = (p.1 - lft ps, p.2 - low ps) := by
  have := (isortP_perm _).mem_iff.mp h
  obtain ⟨p, hp, rfl⟩ := List.mem_map.mp this
  exact ⟨p, hp, rfl⟩
theorem home_in {ps : List P2} {n : Int} (h : ∀ p ∈ ps, -n ≤ p.1 ∧ p.1 ≤ n ∧ -n ≤ p.2 ∧ p.2 ≤ n) : ∀ q ∈ home ps, 0 ≤ q.1 ∧ q.1 ≤ 2 * n ∧ 0 ≤ q.2 ∧ q.2 ≤ 2 * n := by
  intro q hq
  obtain ⟨p, hp, rfl⟩ := home_mem hq
  have h1 : lft ps ≤ p.1 := min_le (List.mem_map.mpr ⟨p, hp, rfl⟩)
  have h2 : low ps ≤ p.2 := min_le (List.mem_map.mpr ⟨p, hp, rfl⟩)
  have hne : ps ≠ [] := List.ne_nil_of_mem hp
  obtain ⟨p1, hp1, e1⟩ := List.mem_map.mp (bst_mem (big := false) (is := ps.map (·.1)) (by simpa using hne))
  obtain ⟨p2, hp2, e2⟩ := List.mem_map.mp (bst_mem (big := false) (is := ps.map (·.2)) (by simpa using hne))
  have a := h p hp
  have b := h p1 hp1
  have c := h p2 hp2
  have e1' : lft ps = p1.1 := e1.symm
  have e2' : low ps = p2.2 := e2.symm
  show 0 ≤ p.1 - lft ps ∧ p.1 - lft ps ≤ 2 * n ∧ 0 ≤ p.2 - low ps ∧ p.2 - low ps ≤ 2 * n
  omega
/-! ### hanging together -/
def stp : List P2 := [(0, 1), (1, 0), (0, -1), (-1, 0)]
def nb (p d : P2) : P2 := (p.1 + d.1, p.2 + d.2)
/-- from a one comes to it, over what is known -/
inductive Rch (kn : List P2) (a : P2) : P2 → Prop
  | here : a ∈ kn → Rch kn a a
  | step {p d : P2} : Rch kn a p → d ∈ stp → nb p d ∈ kn → Rch kn a (nb p d)
theorem Rch.first {kn : List P2} {a b : P2} (h : Rch kn a b) : a ∈ kn := by
  induction h with
  | here h => exact h
  | step _ _ _ ih => exact ih
theorem Rch.mem {kn : List P2} {a b : P2} (h : Rch kn a b) : b ∈ kn := by
  cases h with
  | here h => exact h
  | step _ _ h => exact h
theorem Rch.mono {kn km : List P2} {a b : P2} (hs : ∀ p ∈ kn, p ∈ km) (h : Rch kn a b) : Rch km a b := by
  induction h with
  | here h => exact .here (hs _ h)
  | step _ hd h ih => exact .step ih hd (hs _ h)
theorem Rch.trans {kn : List P2} {a b c : P2} (h1 : Rch kn a b) (h2 : Rch kn b c) : Rch kn a c := by
  induction h2 with
  | here _ => exact h1
  | step _ hd h ih => exact .step ih hd h
theorem nb_back {p d : P2} : nb (nb p d) (-d.1, -d.2) = p := Prod.ext (by show p.1 + d.1 + -d.1 = p.1; omega) (by show p.2 + d.2 + -d.2 = p.2; omega)
theorem stp_neg {d : P2} (h : d ∈ stp) : (-d.1, -d.2) ∈ stp := by
  unfold stp at h ⊢
  simp only [List.mem_cons, List.not_mem_nil, or_false] at h
  rcases h with rfl | rfl | rfl | rfl <;> decide
theorem Rch.symm {kn : List P2} {a b : P2} (h : Rch kn a b) : Rch kn b a := by
  induction h with
  | here h => exact .here h
  | step h1 hd h ih =>
    rename_i p d
    refine Rch.trans ?_ ih
    have := Rch.step (.here h) (stp_neg hd) (by rw [nb_back]; exact h1.mem)
    rwa [nb_back] at this
def Conn (ps : List P2) : Prop := ∀ a ∈ ps, ∀ b ∈ ps, Rch ps a b
theorem Conn.iff {ps qs : List P2} (h : Conn ps) (e : ∀ p, p ∈ ps ↔ p ∈ qs) : Conn qs := fun a ha b hb => (h a ((e a).mpr ha) b ((e b).mpr hb)).mono fun p hp => (e p).mp hp
theorem Conn.one (p : P2) : Conn [p] := fun a ha b hb => by
  rw [List.mem_singleton.mp ha, List.mem_singleton.mp hb]
  exact .here List.mem_cons_self
theorem Conn.add {ps : List P2} {p d : P2} (h : Conn ps) (hp : p ∈ ps) (hd : d ∈ stp) : Conn (ps ++ [nb p d]) := by
  have hm : ∀ x ∈ ps, x ∈ ps ++ [nb p d] := fun x hx => List.mem_append_left _ hx
  have hq : ∀ b ∈ ps ++ [nb p d], Rch (ps ++ [nb p d]) p b := fun b hb => by
    rcases List.mem_append.mp hb with hb | hb
    · exact (h p hp b hb).mono hm
    · rw [List.mem_singleton.mp hb]
      exact .step (.here (hm p hp)) hd (by simp)
  exact fun a ha b hb => (hq a ha).symm.trans (hq b hb)
theorem nb_shf (a b : Int) (p d : P2) : nb (shf a b p) d = shf a b (nb p d) := Prod.ext (by show p.1 + a + d.1 = p.1 + d.1 + a; omega) (by show p.2 + b + d.2 = p.2 + d.2 + b; omega)
theorem Conn.shift {ps : List P2} (h : Conn ps) (a b : Int) : Conn (ps.map (shf a b)) := by
  have go : ∀ {x y}, Rch ps x y → Rch (ps.map (shf a b)) (shf a b x) (shf a b y) := fun {x y} h => by
    induction h with
    | here h => exact .here (List.mem_map.mpr ⟨_, h, rfl⟩)
    | step _ hd h ih =>
      rw [← nb_shf]
      refine .step ih hd ?_
      rw [nb_shf]
      exact List.mem_map.mpr ⟨_, h, rfl⟩
  intro x hx y hy
  obtain ⟨p, hp, rfl⟩ := List.mem_map.mp hx
  obtain ⟨q, hq, rfl⟩ := List.mem_map.mp hy
  exact go (h p hp q hq)
/-! ### the search -/
def push (kn : List P2) (fg : List P2 × List P2) (q : P2) : List P2 × List P2 := if q ∈ kn ∧ q ∉ fg.1 then (fg.1 ++ [q], fg.2 ++ [q]) else fg
def visit (kn : List P2) (p : P2) (ds : List P2) (fg : List P2 × List P2) : List P2 × List P2 := ds.foldl (fun fg d => push kn fg (nb p d)) fg
/-- how it stands between two turns of the search -/
structure Sr (kn : List P2) (a : P2) (f g : List P2) : Prop where
  nd : f.Nodup
  fst : a ∈ f
  rch : ∀ p ∈ f, Rch kn a p
  sub : ∀ p ∈ g, p ∈ f
  cl : ∀ p ∈ f, p ∉ g → ∀ d ∈ stp, nb p d ∈ kn → nb p d ∈ f
/-- .. within a turn about p, behind some steps: ds are left -/
structure Sv (kn : List P2) (a p : P2) (ds : List P2) (f g : List P2) : Prop where
  nd : f.Nodup
  fst : a ∈ f
  me : p ∈ f
  rch : ∀ p ∈ f, Rch kn a p
  sub : ∀ p ∈ g, p ∈ f
  cl : ∀ q ∈ f, q ∉ g → q ≠ p → ∀ d ∈ stp, nb q d ∈ kn → nb q d ∈ f
  own : ∀ d ∈ stp, d ∉ ds → nb p d ∈ kn → nb p d ∈ f
theorem Sv.push {kn : List P2} {a p d : P2} {ds f g : List P2} (h : Sv kn a p (d :: ds) f g) (hd : d ∈ stp) : Sv kn a p ds (push kn (f, g) (nb p d)).1 (push kn (f, g) (nb p d)).2 := by
  unfold Mi.push
  by_cases hc : nb p d ∈ kn ∧ nb p d ∉ f
  · rw [if_pos hc]
    refine ⟨?_, List.mem_append_left _ h.fst, List.mem_append_left _ h.me, fun q hq => ?_, fun q hq => ?_, fun q hq hg hne e he hk => ?_, fun e he hn hk => ?_⟩
    · show (f ++ [nb p d]).Nodup
      rw [List.nodup_append]
      exact ⟨h.nd, by simp, fun x hx y hy e => hc.2 (by rw [List.mem_singleton.mp hy] at e; exact e ▸ hx)⟩
    · rcases List.mem_append.mp hq with hq | hq
      · exact h.rch q hq
      · rw [List.mem_singleton.mp hq]
        exact .step (h.rch p h.me) hd hc.1
    · rcases List.mem_append.mp hq with hq | hq
      · exact List.mem_append_left _ (h.sub q hq)
      · exact List.mem_append_right _ hq
    · have hg : ¬ q ∈ g ++ [nb p d] := hg
      rw [List.mem_append] at hg
      rcases List.mem_append.mp hq with hq | hq
      · exact List.mem_append_left _ (h.cl q hq (fun z => hg (.inl z)) hne e he hk)
      · exact absurd (.inr hq) hg
    · by_cases hed : e = d
      · subst hed; simp
      · exact List.mem_append_left _ (h.own e he (by simp [hed, hn]) hk)
  · rw [if_neg hc]
    refine ⟨h.nd, h.fst, h.me, h.rch, h.sub, h.cl, fun e he hn hk => ?_⟩
    by_cases hed : e = d
    · subst hed
      exact Decidable.byContradiction fun z => hc ⟨hk, z⟩
    · exact h.own e he (by simp [hed, hn]) hk
theorem Sr.pop {kn : List P2} {a p : P2} {f g : List P2} (h : Sr kn a f (g ++ [p])) : Sv kn a p stp f g :=
  ⟨h.nd, h.fst, h.sub p (by simp), h.rch, fun q hq => h.sub q (by simp [hq]), fun q hq hg hne => h.cl q hq (by simp [hg, hne]), fun d hd hn => absurd hd hn⟩
theorem Sv.done {kn : List P2} {a p : P2} {f g : List P2} (h : Sv kn a p [] f g) : Sr kn a f g :=
  ⟨h.nd, h.fst, h.rch, h.sub, fun q hq hg d hd hk => by
    by_cases e : q = p
    · subst e; exact h.own d hd (by simp) hk
    · exact h.cl q hq hg e d hd hk⟩
theorem push_len (kn : List P2) (fg : List P2 × List P2) (q : P2) : (push kn fg q).1.length + fg.2.length = (push kn fg q).2.length + fg.1.length := by
  unfold push
  by_cases h : q ∈ kn ∧ q ∉ fg.1
  · rw [if_pos h]
    simp
    omega
  · rw [if_neg h]
    omega
theorem Sr.begin {kn : List P2} {a : P2} (h : a ∈ kn) : Sr kn a [a] [a] := ⟨by simp, by simp, fun p hp => by rw [List.mem_singleton.mp hp]; exact .here h, fun p hp => hp, fun p hp hn => absurd hp hn⟩
theorem Sr.bound {kn : List P2} {a : P2} {f g : List P2} (h : Sr kn a f g) : f.length ≤ kn.length := nd_len h.nd fun p hp => (h.rch p hp).mem
/-- what is found in the end -/
theorem Sr.fin {kn : List P2} {a : P2} {f : List P2} (h : Sr kn a f []) (p : P2) : p ∈ f ↔ Rch kn a p := by
  refine ⟨h.rch p, fun r => ?_⟩
  induction r with
  | here _ => exact h.fst
  | step _ hd hk ih => exact h.cl _ ih (by simp) _ hd hk
theorem Sr.all {kn : List P2} {a : P2} {f : List P2} (h : Sr kn a f []) (hc : Conn kn) (ha : a ∈ kn) (hn : kn.Nodup) : isortP f = isortP kn :=
  isortP_perm_eq (nd_perm h.nd hn fun p => by
    rw [h.fin]
    exact ⟨fun r => r.mem, fun hp => hc a ha p hp⟩)
end Mi

namespace Law
open PySem PySem.Spec PyProof.Rows L2 Mi
abbrev sAt (i : Nat) : Stmt := PySem.Challenge.pw_fourstones_k03_floors_and_their_cells.main.body.getD i (.Pass ⟨0, 0, 0, 0⟩)
abbrev s_Floor___eq__ : Stmt := inClass (sAt 28) 1
abbrev s_neighbour : Stmt := sAt 23
abbrev s_hanging : Stmt := sAt 24
abbrev s_lots_in : Stmt := sAt 25
abbrev s_moved_home : Stmt := sAt 26
abbrev s_is_integer : Stmt := sAt 10
abbrev s_is_within : Stmt := sAt 11
abbrev s_is_cell : Stmt := sAt 12
abbrev s_need_cells : Stmt := sAt 27
abbrev s_Floor___init__ : Stmt := inClass (sAt 28) 0
abbrev s_Floor___str__ : Stmt := inClass (sAt 28) 2
abbrev s_need_cell : Stmt := sAt 15
abbrev s_is_side : Stmt := sAt 13
abbrev s_need_side : Stmt := sAt 14
abbrev s_Floor_beside : Stmt := inClass (sAt 28) 5
abbrev s_Floor_has : Stmt := inClass (sAt 28) 4
abbrev s_law_tell : Stmt := sAt 32
abbrev s_law_pick : Stmt := sAt 33
abbrev s_law_grown : Stmt := sAt 34
abbrev s_law_home : Stmt := sAt 35
abbrev s_law_paw : Stmt := sAt 31
abbrev s_law_text : Stmt := sAt 36
abbrev s_law : Stmt := sAt 37
def es_cells : List Str := []
def is_cells : List Str := ["Floor"]
def es_height : List Str := []
def is_height : List Str := ["Floor"]
def es_known : List Str := []
def is_known : List Str := ["Floor"]
def es_width : List Str := []
def is_width : List Str := ["Floor"]
def c_Floor : Cl := ⟨none, [("Floor", true)], [("BadNumber", false), ("BadFloor", false), ("BadCell", false), ("Misfit", false), ("BadText", false)]⟩
def gt_STEPS : List (List Int) := [[0, 1], [1, 0], [0, -1], [-1, 0]]
def m_Floor___eq__ : List Wv → Mem → R Wv := mFn 2 (sRet (mAnd (mUn (isO [c_Floor]) (mVar 1)) (mCmp (eqW false) (mUn (fldW es_cells is_cells "cells") (mVar 0)) (mUn (fldW es_cells is_cells "cells") (mVar 1)))))
def m_neighbour : List Wv → Mem → R Wv := mFn 2 (sRet (mTup (maC (mBin addW (mBin ixW (mVar 0) (mC (.int 0))) (mG2 gt_STEPS (mVar 1) (mC (.int 0)))) (maC (mBin addW (mBin ixW (mVar 0) (mC (.int 1))) (mG2 gt_STEPS (mVar 1) (mC (.int 1)))) (maN)))))
def i_hanging_1 : Ms := sIf (mtAnd (mtCmp (inD false (inE false)) (mVar 6) (mVar 0)) (mtCmp (inD true (inE true)) (mVar 6) (mVar 2))) (sSeq (sPutD (mC (.bl true)) (mVar 2) (mVar 6)) (sExp (mLm1 appendW (mVar 3) (mVar 6)))) (sNil)
def b_hanging_2 : Ms := sSeq (sSet 6 (mApp 2 m_neighbour (maC (mVar 4) (maC (mVar 5) (maN))))) (i_hanging_1)
def t_hanging_3 : Mt := mtCmp (eqW true) (mVar 3) (mLst (maN))
def b_hanging_4 : Ms := sSeq (sSet 4 (mPop (mVar 3))) (sFor (.nm 5) (mRng1 (mC (.int 4))) (b_hanging_2))
def m_hanging : List Wv → Mem → R Wv := frzF (mFn 7 (sSeq (sPar2 2 3 (maC (mDsp1 (mVar 1) (mC (.bl true))) (maC (mNew (maC (mVar 1) (maN))) (maN)))) (sSeq (whileW (t_hanging_3) (b_hanging_4) 1000000) (sRet (mCall tupW (maC (mCall (un1 srtD) (maC (mVar 2) (maN))) (maN)))))))
def i_lots_in_1 : Ms := sIf (mtCmp (inD false (inE false)) (mVar 3) (mVar 1)) (sSeq (sExp (mLm1 appendW (mVar 2) (mApp 2 m_hanging (maC (mVar 1) (maC (mVar 3) (maN)))))) (sFor (.nm 4) (mSeqI (mBin ixW (mVar 2) (mUn negW (mC (.int 1))))) (sDelD (mVar 1) (mVar 4)))) (sNil)
def m_lots_in : List Wv → Mem → R Wv := frzF (mFn 5 (sSeq (sPar2 1 2 (maC (mDcN [3] (.nm 3) (mSeqI (mVar 0)) (mtYes) (mVar 3) (mC (.bl true))) (maC (mNew (maN)) (maN)))) (sSeq (sFor (.nm 3) (mSeqI (mCall (un1 srtD) (maC (mVar 0) (maN)))) (i_lots_in_1)) (sRet (mCall tupW (maC (mVar 2) (maN)))))))
def e_moved_home_1 : Me := mTup (maC (mBin subW (mVar 3) (mVar 1)) (maC (mBin subW (mVar 5) (mVar 2)) (maN)))
def m_moved_home : List Wv → Mem → R Wv := mFn 6 (sSeq (sUnp (.tp [1, 2]) (mTup (maC (mCall (un1 (bestW false)) (maC (mLc [3, 4] (.tp [3, 4]) (mSeqI (mVar 0)) (mtYes) (mVar 3)) (maN))) (maC (mCall (un1 (bestW false)) (maC (mLc [4, 5] (.tp [4, 5]) (mSeqI (mVar 0)) (mtYes) (mVar 5)) (maN))) (maN))))) (sRet (mCall tupW (maC (mCall (un1 srtD) (maC (mLc [3, 5] (.tp [3, 5]) (mSeqI (mVar 0)) (mtYes) (e_moved_home_1)) (maN))) (maN)))))
def m_is_integer : List Wv → Mem → R Wv := mFn 1 (sRet (mAnd (mUn (isW [.int]) (mVar 0)) (mNot (mUn (isW [.bl]) (mVar 0)))))
def i_is_within_1 : Ms := sIf (mtNot (mtE (mApp 1 m_is_integer (maC (mVar 0) (maN))))) (sRet (mC (.bl false))) (sNil)
def m_is_within : List Wv → Mem → R Wv := mFn 3 (sSeq (i_is_within_1) (sRet (mAnd (mOr (mCmp (isNW false) (mVar 1) (mC .non)) (mCmp leW (mVar 1) (mVar 0))) (mOr (mCmp (isNW false) (mVar 2) (mC .non)) (mCmp leW (mVar 0) (mVar 2))))))
def i_is_cell_1 : Ms := sIf (mtOr (mtNot (mtE (mUn (isW [.lst, .tup]) (mVar 0)))) (mtCmp (eqW true) (mCall lenW (maC (mVar 0) (maN))) (mC (.int 2)))) (sRet (mC (.bl false))) (sNil)
def e_is_cell_2 : Me := mApp 3 m_is_within (maC (mVar 1) (maC (mUn negW (mC (.int 1000000))) (maC (mC (.int 1000000)) (maN))))
def m_is_cell : List Wv → Mem → R Wv := mFn 2 (sSeq (i_is_cell_1) (sRet (mCall (allW false) (maC (mLc [1] (.nm 1) (mSeqI (mVar 0)) (mtYes) (e_is_cell_2)) (maN)))))
def i_need_cells_1 : Ms := sIf (mtOr (mtNot (mtE (mUn (isW [.lst, .tup]) (mVar 0)))) (mtNot (mtCh leW leW (mVar 2) (mCall lenW (maC (mVar 0) (maN))) (mC (.int 400))))) (sRaise "BadFloor" [("part", 1)] 1 (maC (mVar 1) (maN))) (sNil)
def e_need_cells_2 : Me := mApp 1 m_is_cell (maC (mVar 3) (maN))
def i_need_cells_3 : Ms := sIf (mtNot (mtE (mCall (allW false) (maC (mLc [3] (.nm 3) (mSeqI (mVar 0)) (mtYes) (e_need_cells_2)) (maN))))) (sRaise "BadFloor" [("part", 1)] 1 (maC (mVar 1) (maN))) (sNil)
def e_need_cells_4 : Me := mCall tupW (maC (mVar 3) (maN))
def i_need_cells_5 : Ms := sIf (mtCmp ltW (mUn lenSetW (mVar 4)) (mCall lenW (maC (mVar 4) (maN)))) (sRaise "BadFloor" [("part", 1)] 1 (maC (mVar 1) (maN))) (sNil)
def m_need_cells : List Wv → Mem → R Wv := mFn 5 (sSeq (i_need_cells_1) (sSeq (i_need_cells_3) (sSeq (sSet 4 (mLc [3] (.nm 3) (mSeqI (mVar 0)) (mtYes) (e_need_cells_4))) (sSeq (i_need_cells_5) (sRet (mVar 4))))))
def i_Floor___init___1 : Ms := sIf (mtCmp gtW (mCall lenW (maC (mApp 1 m_lots_in (maC (mVar 2) (maN))) (maN))) (mC (.int 1))) (sRaise "Misfit" [("part", 1)] 1 (maC (mC (.str "cells")) (maN))) (sNil)
def m_Floor___init__ : List Wv → Mem → R Wv := mFn 7 (sSeq (sSet 2 (mApp 3 m_need_cells (maC (mVar 1) (maC (mC (.str "cells")) (maC (mC (.int 1)) (maN)))))) (sSeq (i_Floor___init___1) (sSeq (sPutF is_cells "cells" (mApp 1 m_moved_home (maC (mVar 2) (maN))) (mVar 0)) (sSeq (sPutF is_known "known" (mDcN [3] (.nm 3) (mSeqI (mUn (fldW es_cells is_cells "cells") (mVar 0))) (mtYes) (mVar 3) (mC (.bl true))) (mVar 0)) (sSeq (sPutF is_width "width" (mBin addW (mCall (un1 (bestW true)) (maC (mLc [4, 5] (.tp [4, 5]) (mSeqI (mUn (fldW es_cells is_cells "cells") (mVar 0))) (mtYes) (mVar 4)) (maN))) (mC (.int 1))) (mVar 0)) (sPutF is_height "height" (mBin addW (mCall (un1 (bestW true)) (maC (mLc [5, 6] (.tp [5, 6]) (mSeqI (mUn (fldW es_cells is_cells "cells") (mVar 0))) (mtYes) (mVar 6)) (maN))) (mC (.int 1))) (mVar 0)))))))
def k_Floor : List Wv → Mem → R Wv := frzF (mkW "Floor" m_Floor___init__)
def e_Floor___str___1 : Me := mIf (mtCmp (inD false (inE false)) (mTup (maC (mVar 3) (maC (mVar 2) (maN)))) (mUn (fldW es_known is_known "known") (mVar 0))) (mC (.str "#")) (mC (.str "."))
def b_Floor___str___2 : Ms := sExp (mLm1 appendW (mVar 1) (mJoin (mC (.str "")) (mLc [3] (.nm 3) (mRng1 (mUn (fldW es_width is_width "width") (mVar 0))) (mtYes) (e_Floor___str___1))))
def m_Floor___str__ : List Wv → Mem → R Wv := frzF (mFn 4 (sSeq (sSet 1 (mNew (maN))) (sSeq (sFor (.nm 2) (mRng3 (mBin subW (mUn (fldW es_height is_height "height") (mVar 0)) (mC (.int 1))) (mUn negW (mC (.int 1))) (mUn negW (mC (.int 1)))) (b_Floor___str___2)) (sRet (mJoin (mC (.str " ")) (mVar 1))))))
def i_need_cell_1 : Ms := sIf (mtNot (mtE (mApp 1 m_is_cell (maC (mVar 0) (maN))))) (sRaise "BadCell" [("part", 1)] 1 (maC (mVar 1) (maN))) (sNil)
def m_need_cell : List Wv → Mem → R Wv := mFn 2 (sSeq (i_need_cell_1) (sRet (mCall tupW (maC (mVar 0) (maN)))))
def m_is_side : List Wv → Mem → R Wv := mFn 1 (sRet (mApp 3 m_is_within (maC (mVar 0) (maC (mC (.int 0)) (maC (mC (.int 3)) (maN))))))
def i_need_side_1 : Ms := sIf (mtNot (mtE (mApp 1 m_is_side (maC (mVar 0) (maN))))) (sRaise "BadNumber" [("part", 1)] 1 (maC (mVar 1) (maN))) (sNil)
def m_need_side : List Wv → Mem → R Wv := mFn 2 (i_need_side_1)
def i_Floor_beside_1 : Ms := sIf (mtCmp (inD true (inE true)) (mVar 3) (mUn (fldW es_known is_known "known") (mVar 0))) (sRaise "Misfit" [("part", 1)] 1 (maC (mC (.str "cell")) (maN))) (sNil)
def m_Floor_beside : List Wv → Mem → R Wv := mFn 5 (sSeq (sSet 3 (mAppD 2 m_need_cell [.str "cell"] (maC (mVar 1) (maN)))) (sSeq (sExp (mAppD 2 m_need_side [.str "side"] (maC (mVar 2) (maN)))) (sSeq (i_Floor_beside_1) (sSeq (sSet 4 (mApp 2 m_neighbour (maC (mVar 3) (maC (mVar 2) (maN))))) (sRet (mIf (mtCmp (inD false (inE false)) (mVar 4) (mUn (fldW es_known is_known "known") (mVar 0))) (mVar 4) (mC .non)))))))
def m_Floor_has : List Wv → Mem → R Wv := mFn 2 (sRet (mCmp (inD false (inE false)) (mAppD 2 m_need_cell [.str "cell"] (maC (mVar 1) (maN))) (mUn (fldW es_known is_known "known") (mVar 0))))
def i_law_tell_1 : Ms := sIf (mtCmp gtW (mBin ixW (mVar 0) (mC (.int 2))) (mC (.int 0))) (sSeq (sSet 2 (mCall intW (maC (mBin ixW (mVar 0) (mC (.int 2))) (maN)))) (sSeq (sPut (mBin divW (mVar 2) (mVar 1)) (mVar 0) (mC (.int 2))) (sRet (mBin modW (mCall intW (maC (mVar 2) (maN))) (mVar 1))))) (sNil)
def i_law_tell_2 : Ms := sIf (mtCmp (eqW true) (mBin ixW (mVar 0) (mC (.int 0))) (mLst (maN))) (sSet 4 (mBin ixW (mBin ixW (mVar 0) (mC (.int 0))) (mBin modW (mCall intW (maC (mVar 3) (maN))) (mCall lenW (maC (mBin ixW (mVar 0) (mC (.int 0))) (maN)))))) (sNil)
def i_law_tell_3 : Ms := sIf (mtAnd (mtCmp ltW (mVar 3) (mCall lenW (maC (mBin ixW (mVar 0) (mC (.int 0))) (maN)))) (mtCmp geW (mCall absW (maC (mVar 4) (maN))) (mBin powW (mC (.int 10)) (mC (.int 18))))) (sSeq (sSet 2 (mBin addW (mBin mulW (mC (.int 2)) (mBin subW (mCall absW (maC (mVar 4) (maN))) (mBin powW (mC (.int 10)) (mC (.int 18))))) (mCall intW (maC (mCmp ltW (mVar 4) (mC (.int 0))) (maN))))) (sSeq (sPut (mBin divW (mVar 2) (mVar 1)) (mVar 0) (mC (.int 2))) (sRet (mBin modW (mCall intW (maC (mVar 2) (maN))) (mVar 1))))) (sNil)
def m_law_tell : List Wv → Mem → R Wv := mFn 6 (sSeq (i_law_tell_1) (sSeq (sSet 3 (mBin ixW (mVar 0) (mC (.int 1)))) (sSeq (sPut (mBin addW (mVar 3) (mC (.int 1))) (mVar 0) (mC (.int 1))) (sSeq (sSet 4 (mBin addW (mBin mulW (mC (.int 609866)) (mVar 3)) (mC (.int 126112)))) (sSeq (i_law_tell_2) (sSeq (i_law_tell_3) (sSeq (sSet 5 (mBin modW (mCall intW (maC (mBin powW (mBin addW (mBin addW (mBin modW (mCall intW (maC (mVar 4) (maN))) (mC (.int 2147483477))) (mBin mulW (mC (.int 462368)) (mVar 3))) (mC (.int 126112))) (mC (.int 5))) (maN))) (mC (.int 2147483647)))) (sSeq (sSet 5 (mBin modW (mCall intW (maC (mBin powW (mBin addW (mBin addW (mBin mulW (mVar 5) (mBin addW (mBin mulW (mC (.int 2)) (mVar 3)) (mC (.int 43006)))) (mBin mulW (mBin mulW (mC (.int 609866)) (mVar 3)) (mVar 3))) (mC (.int 462368))) (mC (.int 3))) (maN))) (mC (.int 2147483629)))) (sRet (mBin modW (mCall intW (maC (mBin divW (mVar 5) (mC (.int 32))) (maN))) (mVar 1)))))))))))
def m_law_pick : List Wv → Mem → R Wv := mFn 2 (sRet (mBin ixW (mVar 1) (mApp 2 m_law_tell (maC (mVar 0) (maC (mCall lenW (maC (mVar 1) (maN))) (maN))))))
def i_law_grown_1 : Ms := sIf (mtAnd (mtCmp (inD true (inE true)) (mTup (maC (mBin addW (mVar 5) (mVar 7)) (maC (mBin addW (mVar 6) (mVar 8)) (maN)))) (mVar 2)) (mtCmp ltW (mCall lenW (maC (mVar 2) (maN))) (mVar 1))) (sExp (mLm1 appendW (mVar 2) (mTup (maC (mBin addW (mVar 5) (mVar 7)) (maC (mBin addW (mVar 6) (mVar 8)) (maN)))))) (sNil)
def b_law_grown_2 : Ms := sSeq (sUnp (.tp [5, 6]) (mApp 2 m_law_pick (maC (mVar 0) (maC (mLst (maC (mBin ixW (mVar 2) (mUn negW (mC (.int 1)))) (maC (mBin ixW (mVar 2) (mUn negW (mC (.int 1)))) (maC (mApp 2 m_law_pick (maC (mVar 0) (maC (mVar 2) (maN)))) (maN))))) (maN))))) (sSeq (sUnp (.tp [7, 8]) (mApp 2 m_law_pick (maC (mVar 0) (maC (mVar 3) (maN))))) (i_law_grown_1))
def m_law_grown : List Wv → Mem → R Wv := frzF (mFn 9 (sSeq (sPar2 2 3 (maC (mNew (maC (mTup (maC (mC (.int 0)) (maC (mC (.int 0)) (maN)))) (maN))) (maC (mLst (maC (mTup (maC (mC (.int 0)) (maC (mC (.int 1)) (maN)))) (maC (mTup (maC (mC (.int 1)) (maC (mC (.int 0)) (maN)))) (maC (mTup (maC (mC (.int 0)) (maC (mUn negW (mC (.int 1))) (maN)))) (maC (mTup (maC (mUn negW (mC (.int 1))) (maC (mC (.int 0)) (maN)))) (maN)))))) (maN)))) (sSeq (sFor (.nm 4) (mRng1 (mBin mulW (mC (.int 2)) (mVar 1))) (b_law_grown_2)) (sRet (mVar 2)))))
def e_law_home_1 : Me := mTup (maC (mBin subW (mVar 3) (mVar 1)) (maC (mBin subW (mVar 4) (mVar 2)) (maN)))
def m_law_home : List Wv → Mem → R Wv := mFn 5 (sSeq (sUnp (.tp [1, 2]) (mTup (maC (mCall (un1 (bestW false)) (maC (mLc [3, 4] (.tp [3, 4]) (mSeqI (mVar 0)) (mtYes) (mVar 3)) (maN))) (maC (mCall (un1 (bestW false)) (maC (mLc [3, 4] (.tp [3, 4]) (mSeqI (mVar 0)) (mtYes) (mVar 4)) (maN))) (maN))))) (sRet (mCall tupW (maC (mCall (un1 srtD) (maC (mLc [3, 4] (.tp [3, 4]) (mSeqI (mVar 0)) (mtYes) (e_law_home_1)) (maN))) (maN)))))
def e_law_paw_1 : Me := mCall intW (maC (mVar 1) (maN))
def m_law_paw : List Wv → Mem → R Wv := mFn 2 (sRet (mNew (maC (mLc [1] (.nm 1) (mSeqI (mSl (mVar 0) (moN) (moS (mC (.int 53))))) (mtYes) (e_law_paw_1)) (maC (mC (.int 0)) (maC (mC (.int 0)) (maN))))))
def e_law_text_1 : Me := mIf (mtCmp (inD false (inE false)) (mTup (maC (mVar 3) (maC (mVar 2) (maN)))) (mVar 0)) (mC (.str "#")) (mC (.str "."))
def b_law_text_2 : Ms := sExp (mLm1 appendW (mVar 1) (mJoin (mC (.str "")) (mLc [3] (.nm 3) (mRng1 (mBin addW (mCall (un1 (bestW true)) (maC (mLc [3, 4] (.tp [3, 4]) (mSeqI (mVar 0)) (mtYes) (mVar 3)) (maN))) (mC (.int 1)))) (mtYes) (e_law_text_1))))
def m_law_text : List Wv → Mem → R Wv := frzF (mFn 5 (sSeq (sSet 1 (mNew (maN))) (sSeq (sFor (.nm 2) (mRng3 (mCall (un1 (bestW true)) (maC (mLc [3, 4] (.tp [3, 4]) (mSeqI (mVar 0)) (mtYes) (mVar 4)) (maN))) (mUn negW (mC (.int 1))) (mUn negW (mC (.int 1)))) (b_law_text_2)) (sRet (mJoin (mC (.str " ")) (mVar 1))))))
def e_law_1 : Me := mApp 2 m_law_pick (maC (mVar 1) (maC (mLst (maC (mLst (maC (mBin addW (mVar 7) (mVar 4)) (maC (mBin addW (mVar 8) (mVar 5)) (maN)))) (maC (mTup (maC (mBin addW (mVar 7) (mVar 4)) (maC (mBin addW (mVar 8) (mVar 5)) (maN)))) (maN)))) (maN)))
def i_law_2 : Ms := sIf (mtOr (mtCmp (eqW true) (mCall reprD (maC (mLst (maC (mUn (fldW es_cells is_cells "cells") (mVar 11)) (maC (mUn (fldW es_width is_width "width") (mVar 11)) (maC (mUn (fldW es_height is_height "height") (mVar 11)) (maC (mCall (un1 (strI ["Floor"] m_Floor___str__ str1)) (maC (mVar 11) (maN))) (maN)))))) (maN))) (mCall reprD (maC (mLst (maC (mVar 10) (maC (mVar 12) (maC (mVar 13) (maC (mApp 1 m_law_text (maC (mVar 10) (maN))) (maN)))))) (maN)))) (mtCmp (eqW true) (mCall reprD (maC (mVar 6) (maN))) (mVar 9))) (sRet (mC (.bl false))) (sNil)
def t_law_3 : Mt := mtCmp (eqW false) (mVar 7) (mVar 15)
def e_law_4 : Me := mTup (maC (mBin addW (mVar 15) (mC (.int 1))) (maC (mVar 8) (maN)))
def i_law_5 : Ms := sIf (mtOr (mtCmp (eqI ["Floor"] ["Floor"] m_Floor___eq__ true (eqW true)) (mVar 14) (mVar 11)) (mtOr (mtCmp (eqI ["Floor"] ["Floor"] m_Floor___eq__ false (eqW false)) (mVar 11) (mVar 10)) (mtOr (mtCmp (eqI ["Floor"] ["Floor"] m_Floor___eq__ false (eqW false)) (mVar 11) (mCall (un1 (strI ["Floor"] m_Floor___str__ str1)) (maC (mVar 11) (maN)))) (mtCmp (eqI ["Floor"] ["Floor"] m_Floor___eq__ false (eqW false)) (mApp 1 k_Floor (maC (mBin addW (mVar 3) (mSlA (mVar 16) (moN) (moS (mC (.int 1))))) (maN))) (mVar 11))))) (sRet (mC (.bl false))) (sNil)
def i_law_6 : Ms := sIf (mtCmp (eqW true) (mCall reprD (maC (mLst (maC (mMeth ["Floor"] "has" 1 m_Floor_has (mVar 11) (maC (mVar 18) (maN))) (maC (mMethK ["Floor"] "has" 2 1 [0, 1] m_Floor_has (mVar 11) (maC (mCall lstW (maC (mVar 18) (maN))) (maN))) (maN)))) (maN))) (mCall reprD (maC (mBin mulW (mLst (maC (mCmp (inD false (inE false)) (mVar 18) (mVar 10)) (maN))) (mC (.int 2))) (maN)))) (sRet (mC (.bl false))) (sNil)
def i_law_7 : Ms := sIf (mtCmp (eqW true) (mCall reprD (maC (mLst (maC (mMeth ["Floor"] "beside" 2 m_Floor_beside (mVar 11) (maC (mVar 18) (maC (mVar 19) (maN)))) (maC (mMethK ["Floor"] "beside" 3 2 [0, 2, 1] m_Floor_beside (mVar 11) (maC (mVar 19) (maC (mCall lstW (maC (mVar 18) (maN))) (maN)))) (maN)))) (maN))) (mCall reprD (maC (mBin mulW (mLst (maC (mIf (mtCmp (inD false (inE false)) (mVar 22) (mVar 10)) (mVar 22) (mC .non)) (maN))) (mC (.int 2))) (maN)))) (sRet (mC (.bl false))) (sNil)
def i_law_8 : Ms := sIf (mtCmp (inD false (inE false)) (mVar 18) (mVar 10)) (sSeq (sUnp (.tp [20, 21]) (mBin ixW (mLst (maC (mTup (maC (mC (.int 0)) (maC (mC (.int 1)) (maN)))) (maC (mTup (maC (mC (.int 1)) (maC (mC (.int 0)) (maN)))) (maC (mTup (maC (mC (.int 0)) (maC (mUn negW (mC (.int 1))) (maN)))) (maC (mTup (maC (mUn negW (mC (.int 1))) (maC (mC (.int 0)) (maN)))) (maN)))))) (mVar 19))) (sSeq (sSet 22 (mTup (maC (mBin addW (mBin ixW (mVar 18) (mC (.int 0))) (mVar 20)) (maC (mBin addW (mBin ixW (mVar 18) (mC (.int 1))) (mVar 21)) (maN))))) (i_law_7))) (sNil)
def b_law_9 : Ms := sSeq (sPar2 18 19 (maC (mTup (maC (mBin subW (mApp 2 m_law_tell (maC (mVar 1) (maC (mBin addW (mVar 12) (mC (.int 2))) (maN)))) (mC (.int 1))) (maC (mBin subW (mApp 2 m_law_tell (maC (mVar 1) (maC (mBin addW (mVar 13) (mC (.int 2))) (maN)))) (mC (.int 1))) (maN)))) (maC (mApp 2 m_law_tell (maC (mVar 1) (maC (mC (.int 4)) (maN)))) (maN)))) (sSeq (sSet 18 (mApp 2 m_law_pick (maC (mVar 1) (maC (mLst (maC (mVar 18) (maC (mApp 2 m_law_pick (maC (mVar 1) (maC (mVar 10) (maN)))) (maN)))) (maN))))) (sSeq (i_law_6) (i_law_8)))
def b_law_10 : Ms := sSeq (sSet 3 (mApp 2 m_law_grown (maC (mVar 1) (maC (mApp 2 m_law_pick (maC (mVar 1) (maC (mLst (maC (mC (.int 1)) (maC (mC (.int 2)) (maC (mC (.int 4)) (maC (mC (.int 8)) (maC (mC (.int 25)) (maN))))))) (maN)))) (maN))))) (sSeq (sUnp (.tp [4, 5]) (mTup (maC (mApp 2 m_law_pick (maC (mVar 1) (maC (mLst (maC (mC (.int 0)) (maC (mC (.int 7)) (maC (mUn negW (mC (.int 900000))) (maC (mC (.int 900000)) (maN)))))) (maN)))) (maC (mApp 2 m_law_pick (maC (mVar 1) (maC (mLst (maC (mC (.int 0)) (maC (mUn negW (mC (.int 3))) (maC (mC (.int 900000)) (maN))))) (maN)))) (maN))))) (sSeq (sSet 6 (mLc [7, 8] (.tp [7, 8]) (mSeqI (mVar 3)) (mtYes) (e_law_1))) (sSeq (sPar2 9 10 (maC (mCall reprD (maC (mVar 6) (maN))) (maC (mApp 1 m_law_home (maC (mVar 3) (maN))) (maN)))) (sSeq (sSet 11 (mApp 1 k_Floor (maC (mApp 2 m_law_pick (maC (mVar 1) (maC (mLst (maC (mVar 6) (maC (mCall tupW (maC (mVar 6) (maN))) (maN)))) (maN)))) (maN)))) (sSeq (sPar2 12 13 (maC (mBin addW (mCall (un1 (bestW true)) (maC (mLc [7, 8] (.tp [7, 8]) (mSeqI (mVar 10)) (mtYes) (mVar 7)) (maN))) (mC (.int 1))) (maC (mBin addW (mCall (un1 (bestW true)) (maC (mLc [7, 8] (.tp [7, 8]) (mSeqI (mVar 10)) (mtYes) (mVar 8)) (maN))) (mC (.int 1))) (maN)))) (sSeq (i_law_2) (sSeq (sSet 14 (mAppK 1 0 1 [0] k_Floor maN (maC (mUn revW (mVar 3)) (maN)))) (sSeq (sSet 15 (mCall (un1 (bestW true)) (maC (mLc [7, 8] (.tp [7, 8]) (mSeqI (mVar 3)) (mtYes) (mVar 7)) (maN)))) (sSeq (sSet 16 (mLc [7, 8] (.tp [7, 8]) (mSeqI (mVar 3)) (t_law_3) (e_law_4))) (sSeq (i_law_5) (sFor (.nm 17) (mRng1 (mC (.int 8))) (b_law_9))))))))))))
def m_law : List Wv → Mem → R Wv := mFn 23 (sSeq (sSet 1 (mApp 1 m_law_paw (maC (mVar 0) (maN)))) (sSeq (sFor (.nm 2) (mRng1 (mC (.int 3))) (b_law_10)) (sRet (mC (.bl true)))))
end Law

namespace Law
open PySem PySem.Spec PyProof.Rows L2 Mi
theorem nums : Nums 609866 126112 2147483477 462368 2147483647 43006 2147483629 32 := ⟨by decide, by decide, by decide, by decide, by decide, by decide, by decide, by decide, by decide, by decide, by decide, by decide, by decide, by decide, by decide⟩
theorem tell_is : m_law_tell = tellG2 false false 609866 126112 2147483477 462368 2147483647 43006 2147483629 32 := rfl
theorem pick_is : m_law_pick = pickG m_law_tell := rfl
theorem paw_is : m_law_paw = pawG (53 : Nat) := rfl
theorem r_paw (ns : List Int) : m_law_paw [.rdl (ns.map .int)] [] = .ok (.ref 0) [pawO (ns.take 53) 0 0] := by
  rw [paw_is, paw_ok 53 ns [] (by decide)]
  rfl
/-- any memory whose first object is what draws -/
theorem r_tell {cs : List Int} {t r m : Int} (M : Mem) (hm : 0 < m) (hm2 : m < 1073741824) (ht : 0 ≤ t) (ht2 : t ≤ 1000000) (hc : cs.length ≤ 1000) :
    ∃ k t' r', 0 ≤ k ∧ k < m ∧ t ≤ t' ∧ t' ≤ t + 1 ∧ m_law_tell [.ref 0, .int m] (pawO cs t r :: M) = .ok (.int k) (pawO cs t' r' :: M) := by
  obtain ⟨k, t', r', h1, h2, h3, h4, h5⟩ := tell_ok (f := false) (g := false) nums (M := pawO cs t r :: M) (n := 0) rfl hm hm2 ht ht2 hc
  exact ⟨k, t', r', h1, h2, h3, h4, by rw [tell_is, h5]; rfl⟩
theorem r_pick {cs : List Int} {t r : Int} {ws : List Wv} (M : Mem) (hw : 0 < ws.length) (hw2 : ws.length ≤ 100000) (ht : 0 ≤ t) (ht2 : t ≤ 1000000) (hc : cs.length ≤ 1000) :
    ∃ w t' r', w ∈ ws ∧ t ≤ t' ∧ t' ≤ t + 1 ∧ m_law_pick [.ref 0, .lst ws] (pawO cs t r :: M) = .ok w (pawO cs t' r' :: M) := by
  obtain ⟨w, t', r', h1, h2, h3, h4⟩ := pick_ok (f := false) (g := false) nums (M := pawO cs t r :: M) (n := 0) rfl hw hw2 ht ht2 hc
  exact ⟨w, t', r', h1, h2, h3, by rw [pick_is, tell_is, h4]; rfl⟩
/-! ### the search -/
def sdi (s : Nat) : P2 := (stp[s]?).getD (0, 0)
theorem r_nb (p : P2) (M : Mem) : ∀ s < 4, m_neighbour [mkP p, .int (s : Nat)] M = .ok (mkP (nb p (sdi s))) M
  | 0, _ => by rfl
  | 1, _ => by rfl
  | 2, _ => by rfl
  | 3, _ => by rfl
  | n + 4, h => by omega
def hgM (M : Mem) (f g : List P2) : Mem := M ++ [dO f, .lst (g.map mkP)]
theorem hg0 {M : Mem} {f g : List P2} : (hgM M f g)[M.length]? = some (dO f) := by unfold hgM; rw [List.getElem?_append_right (by omega)]; simp
theorem hg1 {M : Mem} {f g : List P2} : (hgM M f g)[M.length + 1]? = some (.lst (g.map mkP)) := by unfold hgM; rw [List.getElem?_append_right (by omega)]; simp
theorem hg0s {M : Mem} {f g f' : List P2} : (hgM M f g).set M.length (dO f') = hgM M f' g := by unfold hgM; rw [List.set_append_right _ _ (by omega)]; simp
theorem hg1s {M : Mem} {f g g' : List P2} : (hgM M f g).set (M.length + 1) (.lst (g'.map mkP)) = hgM M f g' := by unfold hgM; rw [List.set_append_right _ _ (by omega)]; simp
/-- what is known: a dict of the memory below, or a value -/
structure Kn (M : Mem) (kw : Wv) (kn : List P2) : Prop where
  at' : ∀ M', dictAt (M ++ M') kw = some (.t (kn.map keyP) (trs kn))
theorem Kn.hg {M : Mem} {kw : Wv} {kn f g : List P2} (h : Kn M kw kn) : dictAt (hgM M f g) kw = some (.t (kn.map keyP) (trs kn)) := h.at' _
abbrev hgE (kw a : Wv) (n : Nat) (x4 x5 x6 : Option Wv) : Ev := [some kw, some a, some (.ref n), some (.ref (n + 1)), x4, x5, x6]
theorem app_ref {M M' : Mem} {n : Nat} {xs : List Wv} {y : Wv} {env : Ev} {o e : Me} (h1 : o env M = .ok (.ref n) M) (h2 : M[n]? = some (.lst xs)) (h3 : e env M = .ok y M') (h4 : M'[n]? = some (.lst xs)) (hl : xs.length < lim) : mLm1 appendW o e env M = .ok .non (M'.set n (.lst (xs ++ [y]))) := by
  unfold mLm1
  rw [h1]
  show (if (lstAt M n).isSome = true then _ else _) = _
  have e1 : lstAt M n = some xs := by unfold lstAt; rw [h2]
  have e2 : lstAt M' n = some xs := by unfold lstAt; rw [h4]
  rw [e1]
  show ((e env M).bind _) = _
  rw [h3]
  show (match lstAt M' n with | some xs => appendW n xs y M' | none => .no) = _
  rw [e2]
  show appendW n xs y M' = _
  unfold appendW
  rw [if_pos hl]
theorem putD_ {env : Ev} {M M1 M2 M3 M4 : Mem} {a o i : Me} {w ov iv : Wv} (h1 : a env M = .ok w M1) (h2 : o env M1 = .ok ov M2) (h3 : i env M2 = .ok iv M3) (h4 : setD ov iv w M3 = .ok () M4) : sPutD a o i env M = .ok (.nx env) M4 := by
  unfold sPutD
  rw [h1]
  show ((o env M1).bind _) = _
  rw [h2]
  show ((i env M2).bind _) = _
  rw [h3]
  show ((setD ov iv w M3).bind _) = _
  rw [h4]
  rfl
theorem delD_ {env : Ev} {M M1 M2 M3 : Mem} {o i : Me} {ov iv : Wv} (h2 : o env M = .ok ov M1) (h3 : i env M1 = .ok iv M2) (h4 : delD ov iv M2 = .ok () M3) : sDelD o i env M = .ok (.nx env) M3 := by
  unfold sDelD
  rw [h2]
  show ((i env M1).bind _) = _
  rw [h3]
  show ((delD ov iv M2).bind _) = _
  rw [h4]
  rfl
theorem hg_if {M : Mem} {kw a : Wv} {kn f g : List P2} {q : P2} {x4 x5 : Option Wv} (hk : Kn M kw kn) (hl : f.length < lim) (hl2 : g.length < lim) :
    i_hanging_1 (hgE kw a M.length x4 x5 (some (mkP q))) (hgM M f g) = .ok (.nx (hgE kw a M.length x4 x5 (some (mkP q)))) (hgM M (push kn (f, g) q).1 (push kn (f, g) q).2) := by
  have t1 : mtCmp (inD false (inE false)) (mVar 6) (mVar 0) (hgE kw a M.length x4 x5 (some (mkP q))) (hgM M f g) = .ok (false ^^ decide (q ∈ kn)) (hgM M f g) := tcmp_ rfl rfl (in_dict hk.hg false _ q)
  have t2 : mtCmp (inD true (inE true)) (mVar 6) (mVar 2) (hgE kw a M.length x4 x5 (some (mkP q))) (hgM M f g) = .ok (true ^^ decide (q ∈ f)) (hgM M f g) := tcmp_ rfl rfl (in_dict (dictAt_ref hg0) true _ q)
  unfold i_hanging_1 push
  by_cases h1 : q ∈ kn
  · by_cases h2 : q ∈ f
    · rw [if_neg (by simp [h2])]
      exact sif_f (tand_t (t1.trans (by rw [decide_eq_true h1]; rfl)) (t2.trans (by rw [decide_eq_true h2]; rfl))) rfl
    · rw [if_pos ⟨h1, h2⟩]
      refine sif_t (tand_t (t1.trans (by rw [decide_eq_true h1]; rfl)) (t2.trans (by rw [decide_eq_false h2]; rfl))) ?_
      refine seq_ (putD_ rfl rfl rfl (set_dict_p hg0 h2 hl)) (exp_ (w := .non) ?_)
      rw [hg0s]
      rw [app_ref (M' := hgM M (f ++ [q]) g) (xs := g.map mkP) (y := mkP q) rfl hg1 rfl hg1 (by simpa using hl2)]
      rw [show g.map mkP ++ [mkP q] = (g ++ [q]).map mkP by simp, hg1s]
  · rw [if_neg (by simp [h1])]
    exact sif_f (tand_f (t1.trans (by rw [decide_eq_false h1]; rfl))) rfl
theorem hg_b {M : Mem} {kw a : Wv} {kn f g : List P2} {p : P2} {s : Nat} {x6 : Option Wv} (hk : Kn M kw kn) (hs : s < 4) (hl : f.length < lim) (hl2 : g.length < lim) :
    b_hanging_2 (hgE kw a M.length (some (mkP p)) (some (.int (s : Nat))) x6) (hgM M f g) = .ok (.nx (hgE kw a M.length (some (mkP p)) (some (.int (s : Nat))) (some (mkP (nb p (sdi s)))))) (hgM M (push kn (f, g) (nb p (sdi s))).1 (push kn (f, g) (nb p (sdi s))).2) := by
  unfold b_hanging_2
  exact seq_ (set_ (app_ (mac2_ rfl rfl) rfl (r_nb p _ s hs))) (hg_if hk hl hl2)
theorem push_le (kn : List P2) (fg : List P2 × List P2) (q : P2) : (push kn fg q).1.length ≤ fg.1.length + 1 ∧ (push kn fg q).2.length ≤ fg.2.length + 1 := by
  unfold push
  by_cases h : q ∈ kn ∧ q ∉ fg.1
  · rw [if_pos h]; simp
  · rw [if_neg h]; omega
/-- a turn -/
theorem hg_turn {M : Mem} {kw a : Wv} {kn f g : List P2} {c p : P2} {x4 x5 x6 : Option Wv} (hk : Kn M kw kn) (hs : Sr kn c f (g ++ [p])) (hl : f.length + 10 < lim) (hl2 : g.length + 10 < lim) :
    ∃ f' g' x5' x6', Sr kn c f' g' ∧ f'.length + g.length = g'.length + f.length ∧
      b_hanging_4 (hgE kw a M.length x4 x5 x6) (hgM M f (g ++ [p])) = .ok (.nx (hgE kw a M.length (some (mkP p)) x5' x6')) (hgM M f' g') := by
  have v0 := hs.pop
  let f0 := push kn (f, g) (nb p (sdi 0))
  let f1 := push kn f0 (nb p (sdi 1))
  let f2 := push kn f1 (nb p (sdi 2))
  let f3 := push kn f2 (nb p (sdi 3))
  have v1 : Sv kn c p _ f0.1 f0.2 := v0.push (by decide)
  have v2 : Sv kn c p _ f1.1 f1.2 := v1.push (by decide)
  have v3 : Sv kn c p _ f2.1 f2.2 := v2.push (by decide)
  have v4 : Sv kn c p _ f3.1 f3.2 := v3.push (by decide)
  have l0 := push_le kn (f, g) (nb p (sdi 0))
  have l1 := push_le kn f0 (nb p (sdi 1))
  have l2 := push_le kn f1 (nb p (sdi 2))
  have l3 := push_le kn f2 (nb p (sdi 3))
  have m0 := push_len kn (f, g) (nb p (sdi 0))
  have m1 := push_len kn f0 (nb p (sdi 1))
  have m2 := push_len kn f1 (nb p (sdi 2))
  have m3 := push_len kn f2 (nb p (sdi 3))
  refine ⟨f3.1, f3.2, some (.int 3), some (mkP (nb p (sdi 3))), v4.done, ?_, ?_⟩
  · show f3.1.length + g.length = f3.2.length + f.length
    have m0 : f0.1.length + g.length = f0.2.length + f.length := m0
    have m1 : f1.1.length + f0.2.length = f1.2.length + f0.1.length := m1
    have m2 : f2.1.length + f1.2.length = f2.2.length + f1.1.length := m2
    have m3 : f3.1.length + f2.2.length = f3.2.length + f2.1.length := m3
    omega
  · have l0 : f0.1.length ≤ f.length + 1 ∧ f0.2.length ≤ g.length + 1 := l0
    have l1 : f1.1.length ≤ f0.1.length + 1 ∧ f1.2.length ≤ f0.2.length + 1 := l1
    have l2 : f2.1.length ≤ f1.1.length + 1 ∧ f2.2.length ≤ f1.2.length + 1 := l2
    unfold b_hanging_4
    have hp : mPop (mVar 3) (hgE kw a M.length x4 x5 x6) (hgM M f (g ++ [p])) = .ok (mkP p) (hgM M f g) := by
      show (match lstAt (hgM M f (g ++ [p])) (M.length + 1) with
        | some xs => match xs[xs.length - 1]? with
          | some y => R.ok y ((hgM M f (g ++ [p])).set (M.length + 1) (.lst xs.dropLast))
          | none => .no
        | none => .no) = _
      have e1 : lstAt (hgM M f (g ++ [p])) (M.length + 1) = some ((g ++ [p]).map mkP) := by unfold lstAt; rw [hg1]
      rw [e1]
      show (match ((g ++ [p]).map mkP)[((g ++ [p]).map mkP).length - 1]? with
          | some y => R.ok y ((hgM M f (g ++ [p])).set (M.length + 1) (.lst ((g ++ [p]).map mkP).dropLast))
          | none => .no) = _
      have e2 : ((g ++ [p]).map mkP)[((g ++ [p]).map mkP).length - 1]? = some (mkP p) := by simp
      have e3 : ((g ++ [p]).map mkP).dropLast = g.map mkP := by simp
      rw [e2, e3]
      show R.ok (mkP p) ((hgM M f (g ++ [p])).set (M.length + 1) (.lst (g.map mkP))) = _
      rw [hg1s]
    refine seq_ (set_ hp) (for_ (ws := [.int 0, .int 1, .int 2, .int 3]) rfl ?_)
    refine forW_cons rfl (hg_b (s := 0) hk (by omega) (by omega) (by omega)) ?_
    refine forW_cons rfl (hg_b (s := 1) (f := f0.1) (g := f0.2) hk (by omega) (by omega) (by omega)) ?_
    refine forW_cons rfl (hg_b (s := 2) (f := f1.1) (g := f1.2) hk (by omega) (by omega) (by omega)) ?_
    refine forW_cons rfl (hg_b (s := 3) (f := f2.1) (g := f2.2) hk (by omega) (by omega) (by omega)) ?_
    rfl
theorem whileW_f {env : Ev} {M M1 : Mem} {t : Mt} {b : Ms} {n : Nat} (h : t env M = .ok false M1) : whileW t b (n + 1) env M = .ok (.nx env) M1 := by
  unfold whileW
  rw [h]
  rfl
theorem whileW_t {env env1 : Ev} {M M1 M2 : Mem} {t : Mt} {b : Ms} {n : Nat} (h : t env M = .ok true M1) (h2 : b env M1 = .ok (.nx env1) M2) : whileW t b (n + 1) env M = whileW t b n env1 M2 := by
  rw [show whileW t b (n + 1) env M = (t env M).bind fun c M1 => if c = true then (b env M1).bind fun fl M2 => match fl with
      | .nx env2 => whileW t b n env2 M2
      | .ct env2 => whileW t b n env2 M2
      | .bk env2 => .ok (.nx env2) M2
      | .ret v => .ok (.ret v) M2
    else .ok (.nx env) M1 from rfl, h]
  show ((b env M1).bind _) = _
  rw [h2]
  rfl
theorem hg_loop {M : Mem} {kw a : Wv} {kn : List P2} {c : P2} (hk : Kn M kw kn) (hn : kn.length + 10 < lim) : ∀ (m fuel : Nat) (f g : List P2) (x4 x5 x6 : Option Wv), Sr kn c f g → kn.length + g.length = m + f.length → g.length ≤ f.length → m < fuel →
    ∃ f' x4' x5' x6', Sr kn c f' [] ∧ whileW t_hanging_3 b_hanging_4 fuel (hgE kw a M.length x4 x5 x6) (hgM M f g) = .ok (.nx (hgE kw a M.length x4' x5' x6')) (hgM M f' []) := by
  intro m
  induction m with
  | zero =>
    intro fuel f g x4 x5 x6 hs hm hg hf
    have hb := hs.bound
    rcases List.eq_nil_or_concat g with rfl | ⟨g0, p, rfl⟩
    · obtain ⟨fu, rfl⟩ : ∃ k, fuel = k + 1 := ⟨fuel - 1, by omega⟩
      exact ⟨f, x4, x5, x6, hs, whileW_f (tcmp_ rfl rfl (ne_nil_ref hg1))⟩
    · rw [List.concat_eq_append, List.length_append, List.length_singleton] at hm
      omega
  | succ m ih =>
    intro fuel f g x4 x5 x6 hs hm hg hf
    have hb := hs.bound
    rcases List.eq_nil_or_concat g with rfl | ⟨g0, p, rfl⟩
    · obtain ⟨fu, rfl⟩ : ∃ k, fuel = k + 1 := ⟨fuel - 1, by omega⟩
      exact ⟨f, x4, x5, x6, hs, whileW_f (tcmp_ rfl rfl (ne_nil_ref hg1))⟩
    · rw [List.concat_eq_append] at hs hm hg ⊢
      rw [List.length_append, List.length_singleton] at hm hg
      obtain ⟨fu, rfl⟩ : ∃ k, fuel = k + 1 := ⟨fuel - 1, by omega⟩
      obtain ⟨f', g', x5', x6', h1, h2, h3⟩ := hg_turn (kw := kw) (a := a) (x4 := x4) (x5 := x5) (x6 := x6) hk hs (by omega) (by omega)
      have e : t_hanging_3 (hgE kw a M.length x4 x5 x6) (hgM M f (g0 ++ [p])) = .ok true (hgM M f (g0 ++ [p])) := by
        have := ne_nil_ref (hg1 (M := M) (f := f) (g := g0 ++ [p]))
        rw [show (!(g0 ++ [p]).isEmpty) = true from by simp] at this
        exact tcmp_ rfl rfl this
      rw [whileW_t e h3]
      exact ih fu f' g' _ x5' x6' h1 (by omega) (by omega) (by omega)
end Law

namespace Law
open PySem PySem.Spec PyProof.Rows L2 Mi
def Held (M : Mem) : Prop := M.all (cleanO M.length) = true
theorem frz_clean {M M' : Mem} {w : Wv} (hM : Held M) (h : clean M.length w = true) : frzR M.length (.ok w (M ++ M')) = .ok w M := by
  have e1 : frz (M ++ M') M.length 40 w = some w := by unfold frz; rw [if_pos h]
  show (match frz (M ++ M') M.length 40 w with
    | some w' => if ((M ++ M').take M.length).all (cleanO M.length) = true then R.ok w' ((M ++ M').take M.length) else .no
    | none => .no) = _
  rw [e1]
  show (if ((M ++ M').take M.length).all (cleanO M.length) = true then R.ok w ((M ++ M').take M.length) else .no) = _
  rw [List.take_left, if_pos (show M.all (cleanO M.length) = true from hM)]
theorem clean_p (n : Nat) (p : P2) : clean n (mkP p) = true := rfl
theorem cleans_ps (n : Nat) : ∀ ps : List P2, cleans n (ps.map mkP) = true
  | [] => rfl
  | p :: ps => by
    show (clean n (mkP p) && cleans n (ps.map mkP)) = true
    rw [cleans_ps n ps]
    rfl
theorem tup_lst (xs : List Wv) (M : Mem) : tupW [.lst xs] M = .ok (.tup xs) M := rfl
theorem r_hanging {M : Mem} {kw : Wv} {kn : List P2} {a : P2} (hM : Held M) (hk : Kn M kw kn) (ha : a ∈ kn) (hn : kn.length < 90000) :
    ∃ f, f.Nodup ∧ (∀ p, p ∈ f ↔ Rch kn a p) ∧ m_hanging [kw, mkP a] M = .ok (.tup ((isortP f).map mkP)) M := by
  have hl : lim = _ := lim_is
  obtain ⟨f, x4, x5, x6, h1, h2⟩ := hg_loop (M := M) (kw := kw) (a := mkP a) hk (by omega) kn.length 1000000 [a] [a] none none none (Sr.begin ha) (by simp) (by simp) (by omega)
  refine ⟨f, h1.nd, h1.fin, ?_⟩
  unfold m_hanging frzF
  have s1 : sPar2 2 3 (maC (mDsp1 (mVar 1) (mC (.bl true))) (maC (mNew (maC (mVar 1) (maN))) (maN))) (evStart 7 [kw, mkP a]) M = .ok (.nx (hgE kw (mkP a) M.length none none none)) (hgM M [a] [a]) := by
    refine (par2_ (mac2_ (M1 := M ++ [dO [a]]) (w := .ref M.length) rfl (new_ (mac1_ rfl) (by show 1 ≤ lim; omega)))).trans ?_
    rw [List.length_append, List.append_assoc]
    rfl
  have s3 : sRet (mCall tupW (maC (mCall (un1 srtD) (maC (mVar 2) (maN))) (maN))) (hgE kw (mkP a) M.length x4 x5 x6) (hgM M f []) = .ok (.ret (.tup ((isortP f).map mkP))) (hgM M f []) :=
    ret_ (call_ (mac1_ (call_ (mac1_ rfl) (srt_dict (dictAt_ref hg0)))) (tup_lst _ _))
  rw [fn_ (seq_ s1 (seq_ h2 s3))]
  exact frz_clean hM (cleans_ps _ _)
/-! ### the lots -/
def ltM (M : Mem) (l : List P2) (xs : List Wv) : Mem := M ++ [dO l, .lst xs]
theorem lt0 {M : Mem} {l : List P2} {xs : List Wv} : (ltM M l xs)[M.length]? = some (dO l) := by unfold ltM; rw [List.getElem?_append_right (by omega)]; simp
theorem lt1 {M : Mem} {l : List P2} {xs : List Wv} : (ltM M l xs)[M.length + 1]? = some (.lst xs) := by unfold ltM; rw [List.getElem?_append_right (by omega)]; simp
theorem lt0s {M : Mem} {l l' : List P2} {xs : List Wv} : (ltM M l xs).set M.length (dO l') = ltM M l' xs := by unfold ltM; rw [List.set_append_right _ _ (by omega)]; simp
theorem lt1s {M : Mem} {l : List P2} {xs xs' : List Wv} : (ltM M l xs).set (M.length + 1) (.lst xs') = ltM M l xs' := by unfold ltM; rw [List.set_append_right _ _ (by omega)]; simp
abbrev ltE (w : Wv) (n : Nat) (x3 x4 : Option Wv) : Ev := [some w, some (.ref n), some (.ref (n + 1)), x3, x4]
theorem held_dO (n : Nat) (l : List P2) : cleanO n (dO l) = true := by
  show cleans n (trs l) = true
  induction l with
  | nil => rfl
  | cons p l ih => exact (Bool.and_eq_true _ _).mpr ⟨rfl, ih⟩
theorem clean_up : ∀ (w : Wv) {n m : Nat}, n ≤ m → clean n w = true → clean m w = true := by
  intro w n m hnm
  exact Wv.rec (motive_1 := fun w => clean n w = true → clean m w = true) (motive_2 := fun ws => cleans n ws = true → cleans m ws = true)
    (fun h => h) (fun _ h => h) (fun _ h => h) (fun _ h => h) (fun _ h => h) (fun _ h => h)
    (fun _ ih h => ih h) (fun _ ih h => ih h) (fun _ ih h => ih h) (fun _ _ ih h => ih h) (fun _ _ ih h => ih h) (fun _ _ _ ih h => ih h) (fun _ _ _ ih h => ih h)
    (fun k h => decide_eq_true (Nat.lt_of_lt_of_le (of_decide_eq_true h) hnm)) (fun h => h)
    (fun x xs i1 i2 h => by
      have h : (clean n x && cleans n xs) = true := h
      rw [Bool.and_eq_true] at h
      exact (Bool.and_eq_true _ _).mpr ⟨i1 h.1, i2 h.2⟩) w
theorem cleans_up {ws : List Wv} {n m : Nat} (hnm : n ≤ m) (h : cleans n ws = true) : cleans m ws = true := clean_up (.lst ws) hnm h
theorem cleanO_up {o : Ob} {n m : Nat} (hnm : n ≤ m) (h : cleanO n o = true) : cleanO m o = true := by
  cases o <;> exact cleans_up hnm h
theorem held_add {M : Mem} {o : Ob} (hM : Held M) (h : cleanO (M.length + 1) o = true) : Held (M ++ [o]) := by
  unfold Held at hM ⊢
  rw [List.all_append, List.length_append, Bool.and_eq_true]
  refine ⟨List.all_eq_true.mpr fun x hx => cleanO_up (by simp) (List.all_eq_true.mp hM x hx), ?_⟩
  rw [List.all_cons, List.all_nil, Bool.and_true]
  exact h
theorem held_lt {M : Mem} {l : List P2} {xs : List Wv} (hM : Held M) (h : cleans (M.length + 2) xs = true) : Held (ltM M l xs) := by
  have h1 := held_add (o := dO l) hM (held_dO _ l)
  have h2 := held_add (o := .lst xs) h1 (by rw [List.length_append]; exact h)
  unfold ltM
  rw [List.append_assoc] at h2
  exact h2
theorem kn_lt {M : Mem} {l : List P2} {xs : List Wv} : Kn (ltM M l xs) (.ref M.length) l := ⟨fun M' => dictAt_ref (by
  rw [List.getElem?_append_left (by unfold ltM; simp)]
  exact lt0)⟩
/-- all of a lot are taken out -/
theorem lt_dels {M : Mem} {w : Wv} {xs : List Wv} {x3 : Option Wv} : ∀ (qs : List P2) (l : List P2) (x4 : Option Wv), qs.Nodup → (∀ q ∈ qs, q ∈ l) → l.length ≤ lim →
    ∃ x4', forW (.nm 4) (sDelD (mVar 1) (mVar 4)) (qs.map mkP) (ltE w M.length x3 x4) (ltM M l xs) = .ok (.nx (ltE w M.length x3 x4')) (ltM M (l.filter fun p => decide (p ∉ qs)) xs)
  | [], l, x4, _, _, _ => ⟨x4, by
    rw [show (l.filter fun p => decide (p ∉ [])) = l from by simp]
    rfl⟩
  | q :: qs, l, x4, nd, h, hl => by
    obtain ⟨n1, n2⟩ := List.nodup_cons.mp nd
    obtain ⟨x4', e⟩ := lt_dels (M := M) (w := w) (xs := xs) (x3 := x3) qs (l.filter fun p => decide (p ≠ q)) (some (mkP q)) n2 (fun p hp => List.mem_filter.mpr ⟨h p (List.mem_cons_of_mem _ hp), by
      simp only [ne_eq, decide_eq_true_eq]
      intro e
      exact n1 (e ▸ hp)⟩) (Nat.le_trans (List.length_filter_le _ _) hl)
    refine ⟨x4', ?_⟩
    rw [List.map_cons]
    refine forW_cons rfl (delD_ rfl rfl (del_dict_p lt0 (h q List.mem_cons_self) hl)) ?_
    rw [lt0s]
    show forW (.nm 4) (sDelD (mVar 1) (mVar 4)) (qs.map mkP) (ltE w M.length x3 (some (mkP q))) _ = _
    rw [e, List.filter_filter]
    congr 2
    congr 1
    funext p
    by_cases h1 : p = q <;> by_cases h2 : p ∈ qs <;> simp [h1, h2]
theorem tup_ref {M : Mem} {n : Nat} {xs : List Wv} (h : M[n]? = some (.lst xs)) : tupW [.ref n] M = .ok (.tup xs) M := by
  show (match (match M[n]? with | some (Ob.lst xs) => some (Sq.l xs) | _ => none) with | some s => R.ok (Wv.tup s.xs) M | none => .no) = _
  rw [h]
  rfl
theorem lt_rest {M : Mem} {w : Wv} {xs : List Wv} : ∀ (qs : List P2) (x3 x4 : Option Wv), ∃ x3', forW (.nm 3) i_lots_in_1 (qs.map mkP) (ltE w M.length x3 x4) (ltM M [] xs) = .ok (.nx (ltE w M.length x3' x4)) (ltM M [] xs)
  | [], x3, x4 => ⟨x3, rfl⟩
  | q :: qs, x3, x4 => by
    obtain ⟨x3', e⟩ := lt_rest (M := M) (w := w) (xs := xs) qs (some (mkP q)) x4
    refine ⟨x3', ?_⟩
    rw [List.map_cons]
    have t1 : mtCmp (inD false (inE false)) (mVar 3) (mVar 1) (ltE w M.length (some (mkP q)) x4) (ltM M [] xs) = .ok false (ltM M [] xs) := (tcmp_ rfl rfl (in_dict (dictAt_ref lt0) false _ q)).trans (by simp)
    exact forW_cons (env1 := ltE w M.length (some (mkP q)) x4) rfl (sif_f t1 rfl) e
theorem one_lot {M : Mem} {ps : List P2} (hM : Held M) (hc : Conn ps) (hn : ps.Nodup) (h1 : ps ≠ []) (h2 : ps.length < 90000) : m_lots_in [.lst (ps.map mkP)] M = .ok (.tup [.tup ((isortP ps).map mkP)]) M := by
  have hl : lim = _ := lim_is
  obtain ⟨c, rest, hcr⟩ : ∃ c rest, isortP ps = c :: rest := by
    cases e : isortP ps with
    | nil =>
      have := (isortP_perm ps).length_eq
      rw [e] at this
      exact absurd (List.length_eq_zero_iff.mp this.symm) h1
    | cons c rest => exact ⟨c, rest, rfl⟩
  have hmem : ∀ p, p ∈ isortP ps ↔ p ∈ ps := fun p => (isortP_perm ps).mem_iff
  have hcm : c ∈ ps := (hmem c).mp (by rw [hcr]; exact List.mem_cons_self)
  unfold m_lots_in frzF
  have s1 : sPar2 1 2 (maC (mDcN [3] (.nm 3) (mSeqI (mVar 0)) (mtYes) (mVar 3) (mC (.bl true))) (maC (mNew (maN)) (maN))) (evStart 5 [.lst (ps.map mkP)]) M = .ok (.nx (ltE (.lst (ps.map mkP)) M.length none none)) (ltM M ps []) := by
    refine (par2_ (mac2_ (M1 := M ++ [dO ps]) (w := .ref M.length) (dc_ps rfl (fun p => ⟨_, rfl, rfl, rfl, rfl⟩) hn (by omega)) (new_ rfl (by simp)))).trans ?_
    rw [List.length_append, List.append_assoc]
    rfl
  have so : mSeqI (mCall (un1 srtD) (maC (mVar 0) (maN))) (ltE (.lst (ps.map mkP)) M.length none none) (ltM M ps []) = .ok ((isortP ps).map mkP) (ltM M ps []) := by
    show ((mCall (un1 srtD) (maC (mVar 0) (maN)) (ltE (.lst (ps.map mkP)) M.length none none) (ltM M ps [])).bind _) = _
    rw [call_ (mac1_ rfl) (show un1 srtD [Wv.lst (ps.map mkP)] (ltM M ps []) = _ from srt_lst)]
    rfl
  obtain ⟨f, f1, f2, f3⟩ := r_hanging (M := ltM M ps []) (a := c) (kn := ps) (held_lt hM rfl) kn_lt hcm h2
  have hf : isortP f = isortP ps := isortP_perm_eq (nd_perm f1 hn fun p => by rw [f2]; exact ⟨fun r => r.mem, fun hp => hc c hcm p hp⟩)
  rw [hf] at f3
  let T : Wv := .tup ((isortP ps).map mkP)
  let e0 : Ev := ltE (.lst (ps.map mkP)) M.length (some (mkP c)) none
  have b1 : mtCmp (inD false (inE false)) (mVar 3) (mVar 1) e0 (ltM M ps []) = .ok true (ltM M ps []) := (tcmp_ rfl rfl (in_dict (dictAt_ref lt0) false _ c)).trans (by simp [hcm])
  have b2 : mLm1 appendW (mVar 2) (mApp 2 m_hanging (maC (mVar 1) (maC (mVar 3) (maN)))) e0 (ltM M ps []) = .ok .non (ltM M ps [T]) := by
    rw [app_ref (env := e0) (o := mVar 2) (e := mApp 2 m_hanging (maC (mVar 1) (maC (mVar 3) (maN)))) (M := ltM M ps []) (M' := ltM M ps []) (xs := []) (y := T) rfl lt1 (app_ (mac2_ rfl rfl) rfl f3) lt1 (by simp [hl])]
    rw [List.nil_append, lt1s]
  have b3 : mSeqI (mBin ixW (mVar 2) (mUn negW (mC (.int 1)))) e0 (ltM M ps [T]) = .ok ((isortP ps).map mkP) (ltM M ps [T]) := by
    show ((mBin ixW (mVar 2) (mUn negW (mC (.int 1))) e0 (ltM M ps [T])).bind _) = _
    rw [bin_ (v := .ref (M.length + 1)) (w := .int (-1)) rfl rfl (zv_ixr _ _ lt1)]
    rfl
  obtain ⟨x4, b4⟩ := lt_dels (M := M) (w := .lst (ps.map mkP)) (xs := [T]) (x3 := some (mkP c)) (isortP ps) ps none ((isortP_perm ps).nodup_iff.mpr hn) (fun q hq => (hmem q).mp hq) (by omega)
  have e2 : (ps.filter fun p => decide (p ∉ isortP ps)) = [] := List.filter_eq_nil_iff.mpr fun p hp => by simp [(hmem p).mpr hp]
  rw [e2] at b4
  obtain ⟨x3, b5⟩ := lt_rest (M := M) (w := .lst (ps.map mkP)) (xs := [T]) rest (some (mkP c)) x4
  have s2 : forW (.nm 3) i_lots_in_1 ((isortP ps).map mkP) (ltE (.lst (ps.map mkP)) M.length none none) (ltM M ps []) = .ok (.nx (ltE (.lst (ps.map mkP)) M.length x3 x4)) (ltM M [] [T]) := by
    rw [hcr, List.map_cons]
    exact forW_cons (env1 := e0) rfl (sif_t b1 (seq_ (exp_ b2) (for_ b3 b4))) b5
  have s3 : sRet (mCall tupW (maC (mVar 2) (maN))) (ltE (.lst (ps.map mkP)) M.length x3 x4) (ltM M [] [T]) = .ok (.ret (.tup [T])) (ltM M [] [T]) := ret_ (call_ (mac1_ rfl) (tup_ref lt1))
  rw [fn_ (seq_ s1 (seq_ (for_ so s2) s3))]
  refine frz_clean hM ?_
  show (cleans M.length ((isortP ps).map mkP) && true) = true
  rw [cleans_ps]
  rfl
/-! ### moved home -/
theorem ints_map : ∀ is : List Int, intsOf (is.map Wv.int) = some is
  | [] => rfl
  | i :: is => by
    show (intsOf (is.map Wv.int)).map (i :: ·) = _
    rw [ints_map is]
    rfl
theorem best_is {big : Bool} {is : List Int} (h : is ≠ []) (M : Mem) : un1 (bestW big) [.lst (is.map .int)] M = .ok (.int (bst big is)) M := by
  show (match intsOf (is.map Wv.int) with | some (i :: is) => R.ok (Wv.int (bestI big i is)) M | _ => .no) = _
  rw [ints_map]
  cases is with
  | nil => exact absurd rfl h
  | cons i is => rfl
/-- what a comprehension over pairs makes -/
theorem lc_ps {T : Tg} {t : Mt} {e : Me} {env : Ev} {M : Mem} {vs : List Nat} {mi : Mi'} {ps : List P2} (p : P2 → Bool) (f : P2 → Wv) (hi : mi env M = .ok (ps.map mkP) M) (h : ∀ q ∈ ps, ∃ env1, T.set (mkP q) (wipeE env vs) M = .ok env1 M ∧ t env1 M = .ok (p q) M ∧ (p q = true → e env1 M = .ok (f q) M)) (hl : ps.length ≤ lim) :
    mLc vs T mi t e env M = .ok (.lst ((ps.filter p).map f)) M := by
  refine lc_ hi ?_
  have go : ∀ (qs : List P2) (acc : List Wv), (∀ q ∈ qs, q ∈ ps) → acc.length + qs.length ≤ lim → lcW T t e (wipeE env vs) (qs.map mkP) acc M = .ok (.lst (acc ++ (qs.filter p).map f)) M := by
    intro qs
    induction qs with
    | nil => intro acc _ _; rw [List.map_nil, x_lc0]; simp
    | cons q qs ih =>
      intro acc hq hl
      obtain ⟨env1, h1, h2, h3⟩ := h q (hq q List.mem_cons_self)
      rw [List.length_cons] at hl
      rw [List.map_cons, x_lc1, h1, noX_ok, kLc2_ok, h2, noX_ok]
      cases c : p q with
      | true =>
        rw [kLc3_t, h3 c, noX_ok, kLc4_ok, if_pos (by omega), ih _ (fun z hz => hq z (List.mem_cons_of_mem _ hz)) (by simp; omega)]
        simp [List.filter_cons, c]
      | false =>
        rw [kLc3_f, ih _ (fun z hz => hq z (List.mem_cons_of_mem _ hz)) (by omega)]
        simp [List.filter_cons, c]
  have := go ps [] (fun _ h => h) (by simpa using hl)
  simpa using this
theorem lc_all {T : Tg} {e : Me} {env : Ev} {M : Mem} {vs : List Nat} {mi : Mi'} {ps : List P2} (f : P2 → Wv) (hi : mi env M = .ok (ps.map mkP) M) (h : ∀ q ∈ ps, ∃ env1, T.set (mkP q) (wipeE env vs) M = .ok env1 M ∧ e env1 M = .ok (f q) M) (hl : ps.length ≤ lim) :
    mLc vs T mi mtYes e env M = .ok (.lst (ps.map f)) M := by
  have := lc_ps (t := mtYes) (ps := ps) (vs := vs) (env := env) (M := M) (mi := mi) (e := e) (T := T) (fun _ => true) f hi (fun q hq => by obtain ⟨env1, h1, h2⟩ := h q hq; exact ⟨env1, h1, rfl, fun _ => h2⟩) hl
  rwa [List.filter_eq_self.mpr (fun _ _ => rfl)] at this
theorem map_fst (ps : List P2) : (ps.map fun q => Wv.int q.1) = (ps.map (·.1)).map Wv.int := by rw [List.map_map]; rfl
theorem map_snd (ps : List P2) : (ps.map fun q => Wv.int q.2) = (ps.map (·.2)).map Wv.int := by rw [List.map_map]; rfl
theorem r_home {ps : List P2} (h1 : ps ≠ []) (h2 : ps.length ≤ lim) (M : Mem) : m_moved_home [.lst (ps.map mkP)] M = .ok (.tup ((home ps).map mkP)) M := by
  unfold m_moved_home
  have a1 : mLc [3, 4] (.tp [3, 4]) (mSeqI (mVar 0)) (mtYes) (mVar 3) (evStart 6 [.lst (ps.map mkP)]) M = .ok (.lst ((ps.map (·.1)).map .int)) M := by
    rw [← map_fst]; exact lc_all _ rfl (fun q _ => ⟨_, rfl, rfl⟩) h2
  have a2 : mLc [4, 5] (.tp [4, 5]) (mSeqI (mVar 0)) (mtYes) (mVar 5) (evStart 6 [.lst (ps.map mkP)]) M = .ok (.lst ((ps.map (·.2)).map .int)) M := by
    rw [← map_snd]; exact lc_all _ rfl (fun q _ => ⟨_, rfl, rfl⟩) h2
  have s1 := unp_ (env := evStart 6 [.lst (ps.map mkP)]) (M := M) (T := .tp [1, 2]) (env1 := [some (.lst (ps.map mkP)), some (.int (lft ps)), some (.int (low ps)), none, none, none])
    (tup_ (mac2_ (call_ (mac1_ a1) (best_is (big := false) (by simpa using h1) M)) (call_ (mac1_ a2) (best_is (big := false) (by simpa using h1) M))) (by simp [lim_is])) rfl
  have a3 : mLc [3, 5] (.tp [3, 5]) (mSeqI (mVar 0)) (mtYes) (e_moved_home_1) [some (.lst (ps.map mkP)), some (.int (lft ps)), some (.int (low ps)), none, none, none] M = .ok (.lst ((ps.map fun p => (p.1 - lft ps, p.2 - low ps)).map mkP)) M := by
    rw [List.map_map]
    exact lc_all _ rfl (fun q _ => ⟨_, rfl, rfl⟩) h2
  exact fn_ (seq_ s1 (ret_ (call_ (mac1_ (call_ (mac1_ a3) (show un1 srtD [Wv.lst _] M = _ from srt_lst))) (tup_lst _ _))))
end Law

namespace Law
open PySem PySem.Spec PyProof.Rows L2 Mi
theorem within_t {i lo mx : Int} (h1 : lo ≤ i) (h2 : i ≤ mx) (M : Mem) : m_is_within [.int i, .int lo, .int mx] M = .ok (.bl true) M := by
  have s1 : i_is_within_1 [some (.int i), some (.int lo), some (.int mx)] M = .ok (.nx [some (.int i), some (.int lo), some (.int mx)]) M := by kernel_rfl
  have c1 : mCmp leW (mVar 1) (mVar 0) [some (.int i), some (.int lo), some (.int mx)] M = .ok (.bl true) M := cmp_ rfl rfl (by show R.ok (decide (lo ≤ i)) M = _; rw [decide_eq_true h1])
  have c2 : mCmp leW (mVar 0) (mVar 2) [some (.int i), some (.int lo), some (.int mx)] M = .ok (.bl true) M := cmp_ rfl rfl (by show R.ok (decide (i ≤ mx)) M = _; rw [decide_eq_true h2])
  have o1 : mOr (mCmp (isNW false) (mVar 1) (mC .non)) (mCmp leW (mVar 1) (mVar 0)) [some (.int i), some (.int lo), some (.int mx)] M = .ok (.bl true) M := c1
  have o2 : mOr (mCmp (isNW false) (mVar 2) (mC .non)) (mCmp leW (mVar 0) (mVar 2)) [some (.int i), some (.int lo), some (.int mx)] M = .ok (.bl true) M := c2
  exact fn_ (seq_ s1 (ret_ (mand_t o1 o2)))

/-- a pair as it is handed: a list, a tuple -/
def pw (q : Bool × P2) : Wv := if q.1 then .lst [.int q.2.1, .int q.2.2] else mkP q.2
def sqv (t : Bool) (xs : List Wv) : Wv := if t then .tup xs else .lst xs
def Near (p : P2) : Prop := -1000000 ≤ p.1 ∧ p.1 ≤ 1000000 ∧ -1000000 ≤ p.2 ∧ p.2 ≤ 1000000
theorem r_is_cell {q : Bool × P2} (h : Near q.2) (M : Mem) : m_is_cell [pw q] M = .ok (.bl true) M := by
  obtain ⟨b, x, y⟩ := q
  obtain ⟨h1, h2, h3, h4⟩ := h
  have go : ∀ w, (w = pw (true, (x, y)) ∨ w = pw (false, (x, y))) → m_is_cell [w] M = .ok (.bl true) M := by
    intro w hw
    have s1 : i_is_cell_1 (evStart 2 [w]) M = .ok (.nx (evStart 2 [w])) M := by rcases hw with rfl | rfl <;> kernel_rfl
    have i1 : mSeqI (mVar 0) (evStart 2 [w]) M = .ok [.int x, .int y] M := by rcases hw with rfl | rfl <;> rfl
    have e1 : e_is_cell_2 [some w, some (.int x)] M = .ok (.bl true) M := app_ (mac3_ rfl rfl rfl) rfl (within_t (by omega) (by omega) M)
    have e2 : e_is_cell_2 [some w, some (.int y)] M = .ok (.bl true) M := app_ (mac3_ rfl rfl rfl) rfl (within_t (by omega) (by omega) M)
    have l1 : mLc [1] (.nm 1) (mSeqI (mVar 0)) (mtYes) (e_is_cell_2) (evStart 2 [w]) M = .ok (.lst [.bl true, .bl true]) M := by
      refine lc_ i1 ?_
      rw [x_lc1]
      show kLc2 (.nm 1) mtYes e_is_cell_2 _ _ _ (noX (R.ok [some w, some (.int x)] M)) = _
      rw [noX_ok, kLc2_ok, x_yes, noX_ok, kLc3_t, e1, noX_ok, kLc4_ok, if_pos (by simp [lim_is]), x_lc1]
      show kLc2 (.nm 1) mtYes e_is_cell_2 _ _ _ (noX (R.ok [some w, some (.int y)] M)) = _
      rw [noX_ok, kLc2_ok, x_yes, noX_ok, kLc3_t, e2, noX_ok, kLc4_ok, if_pos (by simp [lim_is]), x_lc0]
      rfl
    exact fn_ (seq_ s1 (ret_ (call_ (mac1_ l1) rfl)))
  cases b with
  | true => exact go _ (.inl rfl)
  | false => exact go _ (.inr rfl)
theorem bools_true : ∀ n : Nat, bools (List.replicate n (.bl true)) = some (List.replicate n true)
  | 0 => rfl
  | n + 1 => by
    rw [List.replicate_succ, List.replicate_succ]
    show (bools (List.replicate n (.bl true))).map (true :: ·) = _
    rw [bools_true n]
    rfl
theorem all_true (n : Nat) (M : Mem) : allW false [.lst (List.replicate n (.bl true))] M = .ok (.bl true) M := by
  show (match bools (List.replicate n (.bl true)) with | some bs => R.ok (Wv.bl (bs.all id)) M | none => .no) = _
  rw [bools_true]
  show R.ok (Wv.bl ((List.replicate n true).all id)) M = _
  rw [List.all_replicate]
  cases n <;> rfl
/-- a comprehension over anything -/
theorem lc_any {T : Tg} {e : Me} {env : Ev} {M : Mem} {vs : List Nat} {mi : Mi'} {α : Type} {xs : List α} (g f : α → Wv) (hi : mi env M = .ok (xs.map g) M) (h : ∀ q ∈ xs, ∃ env1, T.set (g q) (wipeE env vs) M = .ok env1 M ∧ e env1 M = .ok (f q) M) (hl : xs.length ≤ lim) :
    mLc vs T mi mtYes e env M = .ok (.lst (xs.map f)) M := by
  refine lc_ hi ?_
  have go : ∀ (qs : List α) (acc : List Wv), (∀ q ∈ qs, q ∈ xs) → acc.length + qs.length ≤ lim → lcW T mtYes e (wipeE env vs) (qs.map g) acc M = .ok (.lst (acc ++ qs.map f)) M := by
    intro qs
    induction qs with
    | nil => intro acc _ _; rw [List.map_nil, x_lc0]; simp
    | cons q qs ih =>
      intro acc hq hl
      obtain ⟨env1, h1, h3⟩ := h q (hq q List.mem_cons_self)
      rw [List.length_cons] at hl
      rw [List.map_cons, x_lc1, h1, noX_ok, kLc2_ok, x_yes, noX_ok, kLc3_t, h3, noX_ok, kLc4_ok, if_pos (by omega), ih _ (fun z hz => hq z (List.mem_cons_of_mem _ hz)) (by simp; omega)]
      simp
  have := go xs [] (fun _ h => h) (by simpa using hl)
  simpa using this
theorem need_cells {t : Bool} {qs : List (Bool × P2)} {ps : List P2} (hp : qs.map (·.2) = ps) (h1 : ps ≠ []) (h2 : ps.length < 64) (hn : ps.Nodup) (hb : ∀ p ∈ ps, Near p) (M : Mem) :
    m_need_cells [sqv t (qs.map pw), .str "cells", .int 1] M = .ok (.lst (ps.map mkP)) M := by
  have hq : qs.length = ps.length := by rw [← hp, List.length_map]
  have hpos := List.length_pos_iff.mpr h1
  let e0 : Ev := evStart 5 [sqv t (qs.map pw), .str "cells", .int 1]
  have s1 : i_need_cells_1 e0 M = .ok (.nx e0) M := by
    refine sif_f (tor_f (M1 := M) (by cases t <;> kernel_rfl) (tnot_ (q := true) ?_)) rfl
    have e : mtCh leW leW (mVar 2) (mCall lenW (maC (mVar 0) (maN))) (mC (.int 400)) e0 M = if decide ((1 : Int) ≤ ((qs.map pw).length : Nat)) = true then .ok (decide ((((qs.map pw).length : Nat) : Int) ≤ 400)) M else .ok false M := by cases t <;> rfl
    rw [e, List.length_map, decide_eq_true (by omega), decide_eq_true (by omega), if_pos rfl]
  have i0 : mSeqI (mVar 0) e0 M = .ok (qs.map pw) M := by cases t <;> rfl
  have l1 : mLc [3] (.nm 3) (mSeqI (mVar 0)) (mtYes) (e_need_cells_2) e0 M = .ok (.lst (qs.map fun _ => .bl true)) M := lc_any pw _ i0 (fun q hq => ⟨_, rfl, app_ (mac1_ rfl) rfl (r_is_cell (hb q.2 (hp ▸ List.mem_map.mpr ⟨q, hq, rfl⟩)) M)⟩) (by rw [lim_is]; omega)
  have s2 : i_need_cells_3 e0 M = .ok (.nx e0) M := by
    refine sif_f (M1 := M) (tnot_ (q := true) (te_ (call_ (mac1_ l1) ?_))) rfl
    rw [List.map_const']
    exact all_true _ M
  have l2 : mLc [3] (.nm 3) (mSeqI (mVar 0)) (mtYes) (e_need_cells_4) e0 M = .ok (.lst (ps.map mkP)) M := by
    rw [← hp, List.map_map]
    exact lc_any pw _ i0 (fun q hq => ⟨_, rfl, by obtain ⟨b, p⟩ := q; cases b <;> rfl⟩) (by rw [lim_is]; omega)
  let e1 : Ev := [some (sqv t (qs.map pw)), some (.str "cells"), some (.int 1), none, some (.lst (ps.map mkP))]
  have s4 : i_need_cells_5 e1 M = .ok (.nx e1) M := by
    have a1 : mUn lenSetW (mVar 4) e1 M = .ok (.int (ps.length : Nat)) M := by
      refine un_ rfl ?_
      show (match prs (ps.map mkP) with | some ps => if ps.length < 64 then R.ok (Wv.int (ddP ps).length) M else .no | none => .no) = _
      rw [prs_map]
      show (if ps.length < 64 then R.ok (Wv.int (ddP ps).length) M else .no) = _
      rw [if_pos h2, ddP_id hn]
    refine sif_f (M1 := M) (tcmp_ a1 (call_ (mac1_ rfl) rfl) ?_) rfl
    show R.ok (decide (((ps.length : Nat) : Int) < (((ps.map mkP).length : Nat) : Int))) M = _
    rw [List.length_map, decide_eq_false (by omega)]
  exact fn_ (seq_ s1 (seq_ s2 (seq_ (set_ l2) (seq_ s4 (ret_ rfl)))))

/-! ### making a floor -/
theorem fld_ref {es is : List Str} {f C : Str} {ns : List Str} {xs : List Wv} {M : Mem} {n : Nat} {w : Wv} (h : M[n]? = some (.ins C ns xs)) (hi : is.contains C = true) (hf : (ns.zip xs).lookup f = some w) : fldW es is f (.ref n) M = .ok w M := by
  show (match M[n]? with | some (.ins C ns xs) => if is.contains C = true then getF ns xs f M else .no | _ => .no) = _
  rw [h]
  show (if is.contains C = true then getF ns xs f M else .no) = _
  rw [if_pos hi]
  unfold getF
  rw [hf]
theorem putF_ {is : List Str} {f C : Str} {ns : List Str} {xs : List Wv} {y : Wv} {env : Ev} {v o : Me} {M M1 : Mem} {n : Nat} (hv : v env M = .ok y M1) (ho : o env M1 = .ok (.ref n) M1) (h : M1[n]? = some (.ins C ns xs)) (hi : is.contains C = true ∧ ns.length < 1000) :
    sPutF is f v o env M = .ok (.nx env) (M1.set n (.ins C (putW f y ns xs).1 (putW f y ns xs).2)) := by
  unfold sPutF
  rw [hv]
  show ((o env M1).bind _) = _
  rw [ho]
  show (match M1[n]? with
    | some (.ins C ns xs) => if is.contains C = true ∧ ns.length < 1000 then R.ok (Fl.nx env) (M1.set n (.ins C (putW f y ns xs).1 (putW f y ns xs).2)) else .no
    | _ => .no) = _
  rw [h]
  show (if is.contains C = true ∧ ns.length < 1000 then _ else _) = _
  rw [if_pos hi]
theorem frz_cl {M : Mem} {n f : Nat} {w : Wv} (h : clean n w = true) : frz M n (f + 1) w = some w := by unfold frz; rw [if_pos h]
theorem frz_rins {M : Mem} {n f k : Nat} {C : Str} {ns : List Str} {xs ys : List Wv} (hk : ¬ k < n) (h : M[k]? = some (.ins C ns xs)) (hx : optAll (frz M n f) xs = some ys) : frz M n (f + 1) (.ref k) = some (.ins C ns ys) := by
  unfold frz
  rw [if_neg (by show ¬ decide (k < n) = true; simpa using hk)]
  show (match M[k]? with
      | some (.lst xs) => (optAll (frz M n f) xs).map Wv.lst
      | some (.ins C ns xs) => (optAll (frz M n f) xs).map (Wv.ins C ns)
      | some (.dct ks xs) => (optAll (frz M n f) xs).map (Wv.dct ks)
      | some (.dtt ks xs) => (optAll (frz M n f) xs).map (Wv.dtt ks)
      | none => none) = _
  rw [h]
  show (optAll (frz M n f) xs).map (Wv.ins C ns) = _
  rw [hx]
  rfl
theorem optAll_all {α : Type} {f : α → Option α} : ∀ {xs : List α}, (∀ x ∈ xs, f x = some x) → optAll f xs = some xs
  | [], _ => rfl
  | x :: xs, h => by
    show (match f x, optAll f xs with | some y, some ys => some (y :: ys) | _, _ => none) = _
    rw [h x List.mem_cons_self, optAll_all fun y hy => h y (List.mem_cons_of_mem _ hy)]
theorem optAll_cons {α β : Type} {f : α → Option β} {x : α} {xs : List α} {y : β} {ys : List β} (h1 : f x = some y) (h2 : optAll f xs = some ys) : optAll f (x :: xs) = some (y :: ys) := by
  show (match f x, optAll f xs with | some y, some ys => some (y :: ys) | _, _ => none) = _
  rw [h1, h2]
theorem frz_rdtt {M : Mem} {n f k : Nat} {ps : List P2} (hk : ¬ k < n) (h : M[k]? = some (dO ps)) : frz M n (f + 2) (.ref k) = some (.dtt (ps.map keyP) (trs ps)) := by
  unfold frz
  rw [if_neg (by show ¬ decide (k < n) = true; simpa using hk)]
  show (match M[k]? with
      | some (.lst xs) => (optAll (frz M n (f + 1)) xs).map Wv.lst
      | some (.ins C ns xs) => (optAll (frz M n (f + 1)) xs).map (Wv.ins C ns)
      | some (.dct ks xs) => (optAll (frz M n (f + 1)) xs).map (Wv.dct ks)
      | some (.dtt ks xs) => (optAll (frz M n (f + 1)) xs).map (Wv.dtt ks)
      | none => none) = _
  rw [h]
  show (optAll (frz M n (f + 1)) (trs ps)).map (Wv.dtt (ps.map keyP)) = _
  rw [optAll_all fun x hx => by
    obtain ⟨p, _, rfl⟩ := List.mem_map.mp hx
    exact frz_cl rfl]
  rfl
/-- the floor of cells that lie at home -/
def wid (hs : List P2) : Int := bst true (hs.map (·.1)) + 1
def hei (hs : List P2) : Int := bst true (hs.map (·.2)) + 1
def flV (hs : List P2) : Wv := .ins "Floor" ["cells", "known", "width", "height"] [.tup (hs.map mkP), .dtt (hs.map keyP) (trs hs), .int (wid hs), .int (hei hs)]
abbrev flE (n : Nat) (w told : Wv) : Ev := [some (.ref n), some w, some told, none, none, none, none]
theorem set_end {M : Mem} {o u : Ob} {rest : Mem} : (M ++ o :: rest).set M.length u = M ++ u :: rest := by rw [List.set_append_right _ _ (by omega)]; simp
theorem get_end {M : Mem} {o : Ob} {rest : Mem} : (M ++ o :: rest)[M.length]? = some o := by rw [List.getElem?_append_right (by omega)]; simp
theorem r_floor {t : Bool} {qs : List (Bool × P2)} {ps : List P2} {M : Mem} (hM : Held M) (hp : qs.map (·.2) = ps) (h1 : ps ≠ []) (h2 : ps.length < 64) (hn : ps.Nodup) (hb : ∀ p ∈ ps, Near p) (hc : Conn ps) :
    k_Floor [sqv t (qs.map pw)] M = .ok (flV (home ps)) M := by
  let w := sqv t (qs.map pw)
  let hs := home ps
  let C : Wv := .tup (hs.map mkP)
  have hlen : hs.length = ps.length := home_len ps
  have hne : hs ≠ [] := fun e => h1 (List.length_eq_zero_iff.mp (by rw [← hlen, e]; rfl))
  have hlim : lim = _ := lim_is
  let m0 : Mem := M ++ [.ins "Floor" [] []]
  let m1 : Mem := M ++ [.ins "Floor" ["cells"] [C]]
  let m2 (ns : List Str) (xs : List Wv) : Mem := M ++ [.ins "Floor" ((["cells", "known"] : List Str) ++ ns) ([C, .ref (M.length + 1)] ++ xs), dO hs]
  let env : Ev := flE M.length w (.lst (ps.map mkP))
  have held0 : Held m0 := held_add hM rfl
  have s1 : sSet 2 (mApp 3 m_need_cells (maC (mVar 1) (maC (mC (.str "cells")) (maC (mC (.int 1)) (maN))))) (evStart 7 [.ref M.length, w]) m0 = .ok (.nx env) m0 :=
    set_ (app_ (mac3_ rfl rfl rfl) rfl (need_cells hp h1 h2 hn hb m0))
  have s2 : i_Floor___init___1 env m0 = .ok (.nx env) m0 :=
    sif_f (M1 := m0) (tcmp_ (call_ (mac1_ (app_ (mac1_ rfl) rfl (one_lot held0 hc hn h1 (by omega)))) rfl) rfl rfl) rfl
  have s3 : sPutF is_cells "cells" (mApp 1 m_moved_home (maC (mVar 2) (maN))) (mVar 0) env m0 = .ok (.nx env) m1 := by
    refine Eq.trans (putF_ (n := M.length) (C := "Floor") (ns := []) (xs := []) (M1 := m0) (app_ (mac1_ rfl) rfl (r_home h1 (by omega) m0)) rfl get_end (by decide +kernel)) ?_
    rw [set_end]
    rfl
  have cm1 : mSeqI (mUn (fldW es_cells is_cells "cells") (mVar 0)) env m1 = .ok (hs.map mkP) m1 := by
    show ((mUn (fldW es_cells is_cells "cells") (mVar 0) env m1).bind _) = _
    rw [un_ rfl (fld_ref (w := C) get_end (by decide +kernel) (by rfl))]
    rfl
  have s4 : sPutF is_known "known" (mDcN [3] (.nm 3) (mSeqI (mUn (fldW es_cells is_cells "cells") (mVar 0))) (mtYes) (mVar 3) (mC (.bl true))) (mVar 0) env m1 = .ok (.nx env) (m2 [] []) := by
    have d1 := dc_ps (vs := [3]) (T := .nm 3) (t := mtYes) (ek := mVar 3) (ev := mC (.bl true)) cm1 (fun p => ⟨_, rfl, rfl, rfl, rfl⟩) (home_nodup hn) (by omega)
    have e1 : m1 ++ [dO (home ps)] = M ++ [.ins "Floor" ["cells"] [C], dO hs] := by show (M ++ _) ++ _ = _; rw [List.append_assoc]; rfl
    have e2 : m1.length = M.length + 1 := by show (M ++ _).length = _; simp
    rw [e1, e2] at d1
    refine Eq.trans (putF_ (n := M.length) (C := "Floor") (ns := ["cells"]) (xs := [C]) (M1 := M ++ [.ins "Floor" ["cells"] [C], dO hs]) d1 rfl get_end (by decide +kernel)) ?_
    rw [set_end]
    rfl
  have cm2 : ∀ ns xs, mSeqI (mUn (fldW es_cells is_cells "cells") (mVar 0)) env (m2 ns xs) = .ok (hs.map mkP) (m2 ns xs) := fun ns xs => by
    show ((mUn (fldW es_cells is_cells "cells") (mVar 0) env (m2 ns xs)).bind _) = _
    rw [un_ rfl (fld_ref (w := C) get_end (by decide +kernel) (by rfl))]
    rfl
  have s5 : sPutF is_width "width" (mBin addW (mCall (un1 (bestW true)) (maC (mLc [4, 5] (.tp [4, 5]) (mSeqI (mUn (fldW es_cells is_cells "cells") (mVar 0))) (mtYes) (mVar 4)) (maN))) (mC (.int 1))) (mVar 0) env (m2 [] []) = .ok (.nx env) (m2 ["width"] [.int (wid hs)]) := by
    have l1 : mLc [4, 5] (.tp [4, 5]) (mSeqI (mUn (fldW es_cells is_cells "cells") (mVar 0))) (mtYes) (mVar 4) env (m2 [] []) = .ok (.lst ((hs.map (·.1)).map .int)) (m2 [] []) := by
      rw [← map_fst]; exact lc_all _ (cm2 _ _) (fun q _ => ⟨_, rfl, rfl⟩) (by omega)
    refine Eq.trans (putF_ (n := M.length) (C := "Floor") (ns := ["cells", "known"]) (xs := [C, .ref (M.length + 1)]) (M1 := m2 [] []) (bin_ (call_ (mac1_ l1) (best_is (big := true) (by simpa using hne) _)) rfl rfl) rfl get_end (by decide +kernel)) ?_
    rw [set_end]
    rfl
  have s6 : sPutF is_height "height" (mBin addW (mCall (un1 (bestW true)) (maC (mLc [5, 6] (.tp [5, 6]) (mSeqI (mUn (fldW es_cells is_cells "cells") (mVar 0))) (mtYes) (mVar 6)) (maN))) (mC (.int 1))) (mVar 0) env (m2 ["width"] [.int (wid hs)]) = .ok (.nx env) (m2 ["width", "height"] [.int (wid hs), .int (hei hs)]) := by
    have l1 : mLc [5, 6] (.tp [5, 6]) (mSeqI (mUn (fldW es_cells is_cells "cells") (mVar 0))) (mtYes) (mVar 6) env (m2 ["width"] [.int (wid hs)]) = .ok (.lst ((hs.map (·.2)).map .int)) (m2 ["width"] [.int (wid hs)]) := by
      rw [← map_snd]; exact lc_all _ (cm2 _ _) (fun q _ => ⟨_, rfl, rfl⟩) (by omega)
    refine Eq.trans (putF_ (n := M.length) (C := "Floor") (ns := ["cells", "known", "width"]) (xs := [C, .ref (M.length + 1), .int (wid hs)]) (M1 := m2 ["width"] [.int (wid hs)]) (bin_ (call_ (mac1_ l1) (best_is (big := true) (by simpa using hne) _)) rfl rfl) rfl get_end (by decide +kernel)) ?_
    rw [set_end]
    rfl
  have e : m_Floor___init__ [.ref M.length, w] m0 = .ok .non (m2 ["width", "height"] [.int (wid hs), .int (hei hs)]) := by
    unfold m_Floor___init__
    exact congrArg kFn (seq_ s1 (seq_ s2 (seq_ s3 (seq_ s4 (seq_ s5 s6)))))
  have e2 : mkW "Floor" m_Floor___init__ [w] M = .ok (.ref M.length) (m2 ["width", "height"] [.int (wid hs), .int (hei hs)]) := by
    unfold mkW
    rw [e]
  show frzR M.length (mkW "Floor" m_Floor___init__ [w] M) = _
  rw [e2]
  let m3 := m2 ["width", "height"] [.int (wid hs), .int (hei hs)]
  have f1 : frz m3 M.length 40 (.ref M.length) = some (flV hs) := by
    refine frz_rins (by omega) get_end ?_
    have c1 : frz m3 M.length 39 C = some C := frz_cl (cleans_ps _ _)
    have c2 : frz m3 M.length 39 (.ref (M.length + 1)) = some (.dtt (hs.map keyP) (trs hs)) := frz_rdtt (by omega) (by show (M ++ [_, dO hs])[M.length + 1]? = _; rw [List.getElem?_append_right (by omega)]; simp)
    exact optAll_cons c1 (optAll_cons c2 (optAll_cons (frz_cl rfl) (optAll_cons (frz_cl rfl) rfl)))
  show (match frz m3 M.length 40 (.ref M.length) with
    | some w' => if (m3.take M.length).all (cleanO M.length) = true then R.ok w' (m3.take M.length) else .no
    | none => .no) = _
  rw [f1]
  show (if (m3.take M.length).all (cleanO M.length) = true then R.ok (flV hs) (m3.take M.length) else .no) = _
  have e3 : m3.take M.length = M := List.take_left
  rw [e3, if_pos (show M.all (cleanO M.length) = true from hM)]
end Law

namespace Law
open PySem PySem.Spec PyProof.Rows L2 Mi
/-! ### texts of floors -/
theorem strs_map : ∀ ts : List Str, strsOf (ts.map Wv.str) = some ts
  | [] => rfl
  | t :: ts => by
    show (strsOf (ts.map Wv.str)).map (t :: ·) = _
    rw [strs_map ts]
    rfl
theorem join_l {a : Str} {ts : List Str} (h : (ts.map (·.length)).sum + ts.length * a.length ≤ 16777216) (M : Mem) : joinW a (.lst (ts.map .str)) M = .ok (.str (Str.join a ts)) M := by
  show (match strsOf (ts.map Wv.str) with | some (ys : List Str) => if (ys.map Str.length).sum + ys.length * a.length ≤ 16777216 then R.ok (Wv.str (Txt.join a ys)) M else .no | none => .no) = _
  rw [strs_map]
  show (if (ts.map (·.length)).sum + ts.length * a.length ≤ 16777216 then R.ok (Wv.str (Txt.join a ts)) M else .no) = _
  rw [if_pos h, show Txt.join a ts = Str.join a ts from StrLaws.glued_eq_join a ts]
theorem join_r {a : Str} {ts : List Str} {M : Mem} {n : Nat} (hn : M[n]? = some (.lst (ts.map .str))) (h : (ts.map (·.length)).sum + ts.length * a.length ≤ 16777216) : joinW a (.ref n) M = .ok (.str (Str.join a ts)) M := by
  show (match (match M[n]? with | some (Ob.lst xs) => some (Sq.l xs) | _ => none) with
  | some s => match strsOf s.xs with
    | some (ys : List Str) => if (ys.map Str.length).sum + ys.length * a.length ≤ 16777216 then R.ok (Wv.str (Txt.join a ys)) M else .no
    | none => .no
  | none => .no) = _
  rw [hn]
  exact join_l h M
theorem joinM_ {env : Ev} {M M1 M2 : Mem} {o e : Me} {a : Str} {y : Wv} {r : R Wv} (h1 : o env M = .ok (.str a) M1) (h2 : e env M1 = .ok y M2) (h3 : joinW a y M2 = r) : mJoin o e env M = r := by
  unfold mJoin
  rw [h1]
  show ((e env M1).bind fun y M2 => joinW a y M2) = _
  rw [h2]
  exact h3
/-- only signs of floors and blanks -/
def Sg (x : Str) : Prop := ∀ c ∈ x.cps.toList, c = 35 ∨ c = 46 ∨ c = 32
theorem sg_ok {x : Str} (h : Sg x) : PyData.strOk x = true := strOk_iff.mpr fun c hc => by rcases h c hc with rfl | rfl | rfl <;> decide
theorem sg_join {sep : Str} {ts : List Str} (hs : Sg sep) (h : ∀ t ∈ ts, Sg t) : Sg (Str.join sep ts) := fun c hc => by
  rw [mem_join] at hc
  rcases hc with ⟨t, ht, hc⟩ | ⟨_, hc⟩
  · exact h t ht c hc
  · exact hs c hc
theorem rch_is {q c : Nat} (hq : q = 34 ∨ q = 39) (h : c = 35 ∨ c = 46 ∨ c = 32) : PySem.Builtin.Str.reprChar q c = [c] := by
  rcases hq with rfl | rfl <;> rcases h with rfl | rfl | rfl <;> decide +kernel
theorem quote_is (x : Str) : reprQuote x = 34 ∨ reprQuote x = 39 := by
  unfold reprQuote
  split
  · exact .inl rfl
  · exact .inr rfl
theorem repr_sg {x : Str} (h : Sg x) : PyData.strOk (reprText x) = true := by
  refine strOk_iff.mpr fun c hc => ?_
  have hq := quote_is x
  have go : ∀ (l : List Nat) (acc : Array Nat), (∀ c ∈ l, c = 35 ∨ c = 46 ∨ c = 32) → (∀ c ∈ acc.toList, c < 0x110000) → ∀ c ∈ (l.foldl (fun out c => out ++ (PySem.Builtin.Str.reprChar (reprQuote x) c).toArray) acc).toList, c < 0x110000 := by
    intro l
    induction l with
    | nil => intro acc _ ha c hc; exact ha c hc
    | cons d l ih =>
      intro acc hl ha c hc
      rw [List.foldl_cons, rch_is hq (hl d List.mem_cons_self)] at hc
      refine ih _ (fun c hc => hl c (List.mem_cons_of_mem _ hc)) (fun c hc => ?_) c hc
      rw [Array.toList_append, List.mem_append] at hc
      rcases hc with hc | hc
      · exact ha c hc
      · have : c = d := by simpa using hc
        subst this
        rcases hl c List.mem_cons_self with rfl | rfl | rfl <;> decide
  unfold reprText at hc
  have hc : c ∈ ((x.cps.foldl (fun out c => out ++ (PySem.Builtin.Str.reprChar (reprQuote x) c).toArray) #[reprQuote x]).push (reprQuote x)).toList := hc
  rw [Array.toList_push, List.mem_append, ← Array.foldl_toList] at hc
  rcases hc with hc | hc
  · exact go _ _ h (fun c hc => by
      have : c = reprQuote x := by simpa using hc
      subst this
      rcases hq with e | e <;> rw [e] <;> decide) c hc
  · have : c = reprQuote x := by simpa using hc
    subst this
    rcases hq with e | e <;> rw [e] <;> decide
theorem sg_tame {x : Str} {n k : Nat} (h : Sg x) (hn : 10 * x.length + 2 ≤ n) : Tame n k (.str x) := tame_str (by
  rw [sg_ok h, repr_sg h, decide_eq_true (Nat.le_trans (StrLaws.reprText_len x fun c hc => by rcases h c hc with rfl | rfl | rfl <;> decide) hn)]
  rfl)
def sgn (b : Bool) : Str := if b then "#" else "."
theorem sgn_sg (b : Bool) : Sg (sgn b) := by cases b <;> (intro c hc; revert c; decide +kernel)
theorem sgn_tx (b : Bool) : TxOk 1 (sgn b) := by cases b <;> exact tx_by (by decide +kernel)
def rowT (hs : List P2) (w : Nat) (y : Int) : List Str := (List.range w).map fun x => sgn (decide (((0 : Int) + (x : Nat), y) ∈ hs))
def rowS (hs : List P2) (w : Nat) (y : Int) : Str := Str.join "" (rowT hs w y)
theorem row_sg (hs : List P2) (w : Nat) (y : Int) : Sg (rowS hs w y) := sg_join (fun c hc => by revert c; decide +kernel) fun t ht => by
  obtain ⟨x, _, rfl⟩ := List.mem_map.mp ht
  exact sgn_sg _
theorem row_tx (hs : List P2) (w : Nat) (y : Int) : TxOk w (rowS hs w y) := by
  have := TxOk.join (sep := "") (n := 1) (ts := rowT hs w y) (by decide +kernel) fun t ht => by
    obtain ⟨x, _, rfl⟩ := List.mem_map.mp ht
    exact sgn_tx _
  have e : (rowT hs w y).length * (1 + (("" : Str)).length) = w := by
    rw [show (rowT hs w y).length = w by unfold rowT; simp, show (("" : Str)).length = 0 by decide +kernel]
    omega
  rw [e] at this
  exact this
def ysOf (lo : Int) (n : Nat) : List Int := (List.range n).map fun i => lo + (i : Nat) * (-1)
def txtR (hs : List P2) : List Str := (ysOf (bst true (hs.map (·.2))) (bst true (hs.map (·.2)) - (-1)).toNat).map (rowS hs (wid hs).toNat)
def txt (hs : List P2) : Str := Str.join " " (txtR hs)
theorem txt_sg (hs : List P2) : Sg (txt hs) := sg_join (fun c hc => by revert c; decide +kernel) fun t ht => by
  obtain ⟨y, _, rfl⟩ := List.mem_map.mp ht
  exact row_sg _ _ _
theorem sum_len {ts : List Str} {n : Nat} (h : ∀ t ∈ ts, TxOk n t) (a : Str) {k : Nat} (hk : ts.length * (n + a.length) ≤ k) : (ts.map (·.length)).sum + ts.length * a.length ≤ k := by
  have := sum_le fun t ht => (h t ht).len
  rw [Nat.mul_add] at hk
  omega
/-- cells at home, few of them -/
structure Hm (hs : List P2) : Prop where
  ne : hs ≠ []
  nd : hs.Nodup
  len : hs.length < 64
  inn : ∀ q ∈ hs, 0 ≤ q.1 ∧ q.1 ≤ 48 ∧ 0 ≤ q.2 ∧ q.2 ≤ 48
theorem Hm.w {hs : List P2} (h : Hm hs) : 0 ≤ bst true (hs.map (·.1)) ∧ bst true (hs.map (·.1)) ≤ 48 := by
  obtain ⟨p, hp, e⟩ := List.mem_map.mp (bst_mem (big := true) (is := hs.map (·.1)) (by simpa using h.ne))
  have := h.inn p hp
  rw [← e]
  omega
theorem Hm.h {hs : List P2} (h : Hm hs) : 0 ≤ bst true (hs.map (·.2)) ∧ bst true (hs.map (·.2)) ≤ 48 := by
  obtain ⟨p, hp, e⟩ := List.mem_map.mp (bst_mem (big := true) (is := hs.map (·.2)) (by simpa using h.ne))
  have := h.inn p hp
  rw [← e]
  omega
theorem rowT_len {hs : List P2} (w : Nat) (y : Int) : (rowT hs w y).length = w := by unfold rowT; simp
theorem txtR_len {hs : List P2} (h : Hm hs) : (txtR hs).length ≤ 49 := by
  have := h.h
  unfold txtR ysOf
  simp
  omega
theorem wid_len {hs : List P2} (h : Hm hs) : (wid hs).toNat ≤ 49 := by
  have := h.w
  unfold wid
  omega
theorem txt_len {hs : List P2} (h : Hm hs) : (txt hs).length ≤ 49 * 50 := by
  have h1 := (TxOk.join (sep := " ") (n := 49) (ts := txtR hs) (by decide +kernel) fun t ht => by
    obtain ⟨y, _, rfl⟩ := List.mem_map.mp ht
    exact (row_tx hs _ y).mono (wid_len h)).len
  rw [show ((" " : Str)).length = 1 by decide +kernel] at h1
  exact Nat.le_trans h1 (Nat.mul_le_mul_right _ (txtR_len h))
theorem rows_loop {b : Ms} {E : Option Wv → Ev} {M : Mem} {row : Int → Str} (hset : ∀ y x2 M', Tg.set (.nm 2) (.int y) (E x2) M' = .ok (E (some (.int y))) M')
    (hb : ∀ y (acc : List Str), acc.length < 1000 → b (E (some (.int y))) (M ++ [.lst (acc.map .str)]) = .ok (.nx (E (some (.int y)))) (M ++ [.lst ((acc ++ [row y]).map .str)])) :
    ∀ (ys : List Int) (acc : List Str) (x2 : Option Wv), acc.length + ys.length ≤ 1000 → ∃ x2', forW (.nm 2) b (ys.map .int) (E x2) (M ++ [.lst (acc.map .str)]) = .ok (.nx (E x2')) (M ++ [.lst ((acc ++ ys.map row).map .str)])
  | [], acc, x2, _ => ⟨x2, by rw [List.map_nil, List.map_nil, List.append_nil]; rfl⟩
  | y :: ys, acc, x2, hl => by
    rw [List.length_cons] at hl
    obtain ⟨x2', e⟩ := rows_loop hset hb ys (acc ++ [row y]) (some (.int y)) (by simp; omega)
    refine ⟨x2', ?_⟩
    rw [List.map_cons, List.map_cons]
    refine forW_cons (hset y x2 _) (hb y acc (by omega)) ?_
    rw [e, show acc ++ [row y] ++ ys.map row = acc ++ row y :: ys.map row by simp]
theorem app_end {M : Mem} {xs : List Wv} {y : Wv} {env : Ev} {o e : Me} (h1 : o env (M ++ [.lst xs]) = .ok (.ref M.length) (M ++ [.lst xs])) (h3 : e env (M ++ [.lst xs]) = .ok y (M ++ [.lst xs])) (hl : xs.length < lim) : mLm1 appendW o e env (M ++ [.lst xs]) = .ok .non (M ++ [.lst (xs ++ [y])]) := by
  have := app_ref (env := env) (o := o) (e := e) (M := M ++ [.lst xs]) (M' := M ++ [.lst xs]) (n := M.length) (xs := xs) (y := y) h1 get_end h3 get_end hl
  rw [this, set_end]
theorem rng_is (w : Int) : rng 0 w.toNat = (List.range w.toNat).map fun i => Wv.int ((0 : Int) + (i : Nat)) := rfl
end Law

namespace Law
open PySem PySem.Spec PyProof.Rows L2 Mi
theorem rng1_ {env : Ev} {M M1 : Mem} {a : Me} {j : Int} (h : a env M = .ok (.int j) M1) (hj : -1000000 ≤ j ∧ j ≤ 1000000) : mRng1 a env M = .ok (rng 0 j.toNat) M1 := by
  unfold mRng1
  rw [h]
  show (if -1000000 ≤ j ∧ j ≤ 1000000 then R.ok (rng 0 j.toNat) M1 else .no) = _
  rw [if_pos hj]
theorem rng3_ {env : Ev} {M M1 M2 M3 : Mem} {a b c : Me} {i j : Int} (h1 : a env M = .ok (.int i) M1) (h2 : b env M1 = .ok (.int j) M2) (h3 : c env M2 = .ok (.int (-1)) M3) (hi : -1000000 ≤ i ∧ i ≤ 1000000) (hj : -1000000 ≤ j ∧ j ≤ 1000000) : mRng3 a b c env M = .ok (rngC i (-1) (i - j).toNat) M3 := by
  unfold mRng3
  rw [h1]
  show ((b env M1).bind _) = _
  rw [h2]
  show ((c env M2).bind _) = _
  rw [h3]
  show (if (-1 : Int) = -1 ∧ -1000000 ≤ i ∧ i ≤ 1000000 ∧ -1000000 ≤ j ∧ j ≤ 1000000 then R.ok (rngC i (-1) (i - j).toNat) M3 else .no) = _
  rw [if_pos ⟨rfl, hi.1, hi.2, hj.1, hj.2⟩]
theorem rngC_ys (lo : Int) (n : Nat) : rngC lo (-1) n = (ysOf lo n).map Wv.int := by unfold rngC ysOf; rw [List.map_map]; rfl
theorem dictAt_v (M : Mem) (hs : List P2) : dictAt M (.dtt (hs.map keyP) (trs hs)) = some (.t (hs.map keyP) (trs hs)) := rfl
theorem row_join {hs : List P2} (h : Hm hs) (y : Int) (M : Mem) : joinW "" (.lst ((rowT hs (wid hs).toNat y).map .str)) M = .ok (.str (rowS hs (wid hs).toNat y)) M := join_l (sum_len (n := 1) (fun t ht => by
    obtain ⟨x, _, rfl⟩ := List.mem_map.mp ht
    exact sgn_tx _) _ (by
    rw [rowT_len, show (("" : Str)).length = 0 by decide +kernel]
    have := wid_len h
    omega)) M
theorem txt_join {hs : List P2} (h : Hm hs) {M : Mem} {n : Nat} (hn : M[n]? = some (.lst ((txtR hs).map .str))) : joinW " " (.ref n) M = .ok (.str (txt hs)) M := join_r hn (sum_len (n := 49) (fun t ht => by
    obtain ⟨y, _, rfl⟩ := List.mem_map.mp ht
    exact (row_tx hs _ y).mono (wid_len h)) _ (Nat.le_trans (Nat.mul_le_mul_right _ (txtR_len h)) (by decide +kernel)))
theorem row_map (hs : List P2) (w : Nat) (y : Int) : (rowT hs w y).map Wv.str = (List.range w).map fun x => Wv.str (sgn (decide (((0 : Int) + (x : Nat), y) ∈ hs))) := by unfold rowT; rw [List.map_map]; rfl
theorem if_sgn {t : Mt} {env : Ev} {M : Mem} {b : Bool} (h : t env M = .ok b M) : mIf t (mC (.str "#")) (mC (.str ".")) env M = .ok (.str (sgn b)) M := by
  cases b with
  | true => exact ift_ h rfl
  | false => exact iff_ h rfl
theorem r_str {hs : List P2} {M : Mem} (hM : Held M) (h : Hm hs) : m_Floor___str__ [flV hs] M = .ok (.str (txt hs)) M := by
  have hlim : lim = _ := lim_is
  have hw := h.w
  have hh := h.h
  let E (x2 : Option Wv) : Ev := [some (flV hs), some (.ref M.length), x2, none]
  unfold m_Floor___str__ frzF
  have s1 : sSet 1 (mNew maN) (evStart 4 [flV hs]) M = .ok (.nx (E none)) (M ++ [.lst (([] : List Str).map .str)]) := set_ (new_ rfl (by simp))
  have hb : ∀ y (acc : List Str), acc.length < 1000 → b_Floor___str___2 (E (some (.int y))) (M ++ [.lst (acc.map .str)]) = .ok (.nx (E (some (.int y)))) (M ++ [.lst ((acc ++ [rowS hs (wid hs).toNat y]).map .str)]) := fun y acc hl => by
    have l1 : mLc [3] (.nm 3) (mRng1 (mUn (fldW es_width is_width "width") (mVar 0))) (mtYes) (e_Floor___str___1) (E (some (.int y))) (M ++ [.lst (acc.map .str)]) = .ok (.lst ((rowT hs (wid hs).toNat y).map .str)) (M ++ [.lst (acc.map .str)]) := by
      rw [row_map]
      refine lc_any (fun (i : Nat) => Wv.int ((0 : Int) + (i : Nat))) _ (rng1_ (j := wid hs) rfl (by unfold wid; omega)) (fun i _ => ⟨_, rfl, ?_⟩) (by rw [List.length_range]; have := wid_len h; omega)
      exact if_sgn (tcmp_ rfl rfl (in_dict (ps := hs) (dictAt_v _ hs) false _ ((0 : Int) + (i : Nat), y)) |>.trans (by simp))
    refine exp_ (w := .non) ?_
    rw [app_end (y := .str (rowS hs (wid hs).toNat y)) rfl (joinM_ rfl l1 (row_join h y _)) (by rw [List.length_map]; omega)]
    simp
  obtain ⟨x2, e⟩ := rows_loop (E := E) (M := M) (row := rowS hs (wid hs).toNat) (fun y x2 M' => rfl) hb (ysOf (bst true (hs.map (·.2))) (bst true (hs.map (·.2)) - (-1)).toNat) [] none (by unfold ysOf; simp; omega)
  have i1 : mRng3 (mBin subW (mUn (fldW es_height is_height "height") (mVar 0)) (mC (.int 1))) (mUn negW (mC (.int 1))) (mUn negW (mC (.int 1))) (E none) (M ++ [.lst (([] : List Str).map .str)]) = .ok ((ysOf (bst true (hs.map (·.2))) (bst true (hs.map (·.2)) - (-1)).toNat).map .int) (M ++ [.lst (([] : List Str).map .str)]) := by
    rw [← rngC_ys]
    have e0 : mBin subW (mUn (fldW es_height is_height "height") (mVar 0)) (mC (.int 1)) (E none) (M ++ [.lst (([] : List Str).map .str)]) = .ok (.int (bst true (hs.map (·.2)))) (M ++ [.lst (([] : List Str).map .str)]) := by
      have : (bst true (hs.map (·.2))) + 1 - 1 = bst true (hs.map (·.2)) := by omega
      rw [← this]
      rfl
    exact rng3_ e0 rfl rfl (by omega) (by omega)
  rw [fn_ (seq_ s1 (seq_ (for_ i1 e) (ret_ (joinM_ rfl rfl (txt_join h get_end)))))]
  exact frz_clean hM rfl
theorem r_ltext {hs : List P2} {M : Mem} (hM : Held M) (h : Hm hs) : m_law_text [.tup (hs.map mkP)] M = .ok (.str (txt hs)) M := by
  have hlim : lim = _ := lim_is
  have hw := h.w
  have hh := h.h
  have hn := h.len
  let E (x2 : Option Wv) : Ev := [some (.tup (hs.map mkP)), some (.ref M.length), x2, none, none]
  unfold m_law_text frzF
  have s1 : sSet 1 (mNew maN) (evStart 5 [.tup (hs.map mkP)]) M = .ok (.nx (E none)) (M ++ [.lst (([] : List Str).map .str)]) := set_ (new_ rfl (by simp))
  have mx1 : ∀ x2 M', mCall (un1 (bestW true)) (maC (mLc [3, 4] (.tp [3, 4]) (mSeqI (mVar 0)) (mtYes) (mVar 3)) (maN)) (E x2) M' = .ok (.int (bst true (hs.map (·.1)))) M' := fun x2 M' => by
    have l1 : mLc [3, 4] (.tp [3, 4]) (mSeqI (mVar 0)) (mtYes) (mVar 3) (E x2) M' = .ok (.lst ((hs.map (·.1)).map .int)) M' := by
      rw [← map_fst]; exact lc_all _ rfl (fun q _ => ⟨_, rfl, rfl⟩) (by omega)
    exact call_ (mac1_ l1) (best_is (big := true) (by simpa using h.ne) _)
  have mx2 : ∀ x2 M', mCall (un1 (bestW true)) (maC (mLc [3, 4] (.tp [3, 4]) (mSeqI (mVar 0)) (mtYes) (mVar 4)) (maN)) (E x2) M' = .ok (.int (bst true (hs.map (·.2)))) M' := fun x2 M' => by
    have l1 : mLc [3, 4] (.tp [3, 4]) (mSeqI (mVar 0)) (mtYes) (mVar 4) (E x2) M' = .ok (.lst ((hs.map (·.2)).map .int)) M' := by
      rw [← map_snd]; exact lc_all _ rfl (fun q _ => ⟨_, rfl, rfl⟩) (by omega)
    exact call_ (mac1_ l1) (best_is (big := true) (by simpa using h.ne) _)
  have hb : ∀ y (acc : List Str), acc.length < 1000 → b_law_text_2 (E (some (.int y))) (M ++ [.lst (acc.map .str)]) = .ok (.nx (E (some (.int y)))) (M ++ [.lst ((acc ++ [rowS hs (wid hs).toNat y]).map .str)]) := fun y acc hl => by
    have l1 : mLc [3] (.nm 3) (mRng1 (mBin addW (mCall (un1 (bestW true)) (maC (mLc [3, 4] (.tp [3, 4]) (mSeqI (mVar 0)) (mtYes) (mVar 3)) (maN))) (mC (.int 1)))) (mtYes) (e_law_text_1) (E (some (.int y))) (M ++ [.lst (acc.map .str)]) = .ok (.lst ((rowT hs (wid hs).toNat y).map .str)) (M ++ [.lst (acc.map .str)]) := by
      rw [row_map]
      refine lc_any (fun (i : Nat) => Wv.int ((0 : Int) + (i : Nat))) _ (rng1_ (j := wid hs) (bin_ (mx1 _ _) rfl rfl) (by unfold wid; omega)) (fun i _ => ⟨_, rfl, ?_⟩) (by rw [List.length_range]; have := wid_len h; omega)
      exact if_sgn (tcmp_ rfl rfl (in_ps (ps := hs) .t false ((0 : Int) + (i : Nat), y)) |>.trans (by simp))
    refine exp_ (w := .non) ?_
    rw [app_end (y := .str (rowS hs (wid hs).toNat y)) rfl (joinM_ rfl l1 (row_join h y _)) (by rw [List.length_map]; omega)]
    simp
  obtain ⟨x2, e⟩ := rows_loop (E := E) (M := M) (row := rowS hs (wid hs).toNat) (fun y x2 M' => rfl) hb (ysOf (bst true (hs.map (·.2))) (bst true (hs.map (·.2)) - (-1)).toNat) [] none (by unfold ysOf; simp; omega)
  have i1 : mRng3 (mCall (un1 (bestW true)) (maC (mLc [3, 4] (.tp [3, 4]) (mSeqI (mVar 0)) (mtYes) (mVar 4)) (maN))) (mUn negW (mC (.int 1))) (mUn negW (mC (.int 1))) (E none) (M ++ [.lst (([] : List Str).map .str)]) = .ok ((ysOf (bst true (hs.map (·.2))) (bst true (hs.map (·.2)) - (-1)).toNat).map .int) (M ++ [.lst (([] : List Str).map .str)]) := by
    rw [← rngC_ys]
    exact rng3_ (mx2 _ _) rfl rfl (by omega) (by omega)
  rw [fn_ (seq_ s1 (seq_ (for_ i1 e) (ret_ (joinM_ rfl rfl (txt_join h get_end)))))]
  exact frz_clean hM rfl
end Law

namespace Law
open PySem PySem.Spec PyProof.Rows L2 Mi
theorem r_lhome {ps : List P2} (h1 : ps ≠ []) (h2 : ps.length ≤ lim) (M : Mem) : m_law_home [.lst (ps.map mkP)] M = .ok (.tup ((home ps).map mkP)) M := by
  unfold m_law_home
  have a1 : mLc [3, 4] (.tp [3, 4]) (mSeqI (mVar 0)) (mtYes) (mVar 3) (evStart 5 [.lst (ps.map mkP)]) M = .ok (.lst ((ps.map (·.1)).map .int)) M := by
    rw [← map_fst]; exact lc_all _ rfl (fun q _ => ⟨_, rfl, rfl⟩) h2
  have a2 : mLc [3, 4] (.tp [3, 4]) (mSeqI (mVar 0)) (mtYes) (mVar 4) (evStart 5 [.lst (ps.map mkP)]) M = .ok (.lst ((ps.map (·.2)).map .int)) M := by
    rw [← map_snd]; exact lc_all _ rfl (fun q _ => ⟨_, rfl, rfl⟩) h2
  have s1 := unp_ (env := evStart 5 [.lst (ps.map mkP)]) (M := M) (T := .tp [1, 2]) (env1 := [some (.lst (ps.map mkP)), some (.int (lft ps)), some (.int (low ps)), none, none])
    (tup_ (mac2_ (call_ (mac1_ a1) (best_is (big := false) (by simpa using h1) M)) (call_ (mac1_ a2) (best_is (big := false) (by simpa using h1) M))) (by simp [lim_is])) rfl
  have a3 : mLc [3, 4] (.tp [3, 4]) (mSeqI (mVar 0)) (mtYes) (e_law_home_1) [some (.lst (ps.map mkP)), some (.int (lft ps)), some (.int (low ps)), none, none] M = .ok (.lst ((ps.map fun p => (p.1 - lft ps, p.2 - low ps)).map mkP)) M := by
    rw [List.map_map]
    exact lc_all _ rfl (fun q _ => ⟨_, rfl, rfl⟩) h2
  exact fn_ (seq_ s1 (ret_ (call_ (mac1_ (call_ (mac1_ a3) (show un1 srtD [Wv.lst _] M = _ from srt_lst))) (tup_lst _ _))))
/-! ### equal, has, beside -/
theorem eq_fl (a b : List P2) (M : Mem) : m_Floor___eq__ [flV a, flV b] M = .ok (.bl (decide (a = b))) M := by
  have h1 : mUn (isO [c_Floor]) (mVar 1) (evStart 2 [flV a, flV b]) M = .ok (.bl true) M := by rfl
  have h2 := cmp_ (env := evStart 2 [flV a, flV b]) (a := mUn (fldW es_cells is_cells "cells") (mVar 0)) (b := mUn (fldW es_cells is_cells "cells") (mVar 1)) rfl rfl (eq_tps false a b M)
  rw [Bool.false_xor] at h2
  exact fn_ (ret_ (mand_t h1 h2))
theorem eqi_fl (neg : Bool) (a b : List P2) (M : Mem) (alt) : eqI ["Floor"] ["Floor"] m_Floor___eq__ neg alt (flV a) (flV b) M = .ok (neg ^^ decide (a = b)) M := by
  show (if (["Floor"] : List Str).contains "Floor" = true ∧ sideOk ["Floor"] M (flV b) = true then (m_Floor___eq__ [flV a, flV b] M).bind fun w M1 => match w with
    | .bl b => R.ok (neg ^^ b) M1
    | _ => .no else alt (flV a) (flV b) M) = _
  rw [eq_fl]
  exact if_pos ⟨by decide +kernel, by show (((["Floor"] : List Str)).contains "Floor") = true; decide +kernel⟩
theorem eqi_tup (neg : Bool) (a : List P2) (xs : List Wv) (M : Mem) (alt) : eqI ["Floor"] ["Floor"] m_Floor___eq__ neg alt (flV a) (.tup xs) M = .ok (neg ^^ false) M := by
  show (if (["Floor"] : List Str).contains "Floor" = true ∧ sideOk ["Floor"] M (.tup xs) = true then (m_Floor___eq__ [flV a, .tup xs] M).bind fun w M1 => match w with
    | .bl b => R.ok (neg ^^ b) M1
    | _ => .no else alt (flV a) (.tup xs) M) = _
  rw [show m_Floor___eq__ [flV a, .tup xs] M = .ok (.bl false) M from rfl]
  exact if_pos ⟨by decide +kernel, by rfl⟩
theorem eqi_str (neg : Bool) (a : List P2) (x : Str) (M : Mem) (alt) : eqI ["Floor"] ["Floor"] m_Floor___eq__ neg alt (flV a) (.str x) M = .ok (neg ^^ false) M := by
  show (if (["Floor"] : List Str).contains "Floor" = true ∧ sideOk ["Floor"] M (.str x) = true then (m_Floor___eq__ [flV a, .str x] M).bind fun w M1 => match w with
    | .bl b => R.ok (neg ^^ b) M1
    | _ => .no else alt (flV a) (.str x) M) = _
  rw [show m_Floor___eq__ [flV a, .str x] M = .ok (.bl false) M from rfl]
  exact if_pos ⟨by decide +kernel, by rfl⟩
theorem r_need_cell {q : Bool × P2} (h : Near q.2) (M : Mem) : m_need_cell [pw q, .str "cell"] M = .ok (mkP q.2) M := by
  have s1 : i_need_cell_1 (evStart 2 [pw q, .str "cell"]) M = .ok (.nx (evStart 2 [pw q, .str "cell"])) M := sif_f (M1 := M) (tnot_ (q := true) (te_ (app_ (mac1_ rfl) rfl (r_is_cell h M)))) rfl
  exact fn_ (seq_ s1 (ret_ (call_ (mac1_ rfl) (by obtain ⟨b, p⟩ := q; cases b <;> rfl))))
theorem r_has {q : Bool × P2} (h : Near q.2) (hs : List P2) (M : Mem) : m_Floor_has [flV hs, pw q] M = .ok (.bl (decide (q.2 ∈ hs))) M := by
  have h1 := cmp_ (env := evStart 2 [flV hs, pw q]) (M := M) (a := mAppD 2 m_need_cell [.str "cell"] (maC (mVar 1) maN)) (b := mUn (fldW es_known is_known "known") (mVar 0)) (g := inD false (inE false)) (appD_ (mac1_ rfl) rfl (r_need_cell h M)) rfl (in_dict (dictAt_v M hs) false _ q.2)
  rw [Bool.false_xor] at h1
  exact fn_ (ret_ h1)
def bsd (hs : List P2) (p : P2) : Wv := if p ∈ hs then mkP p else .non
theorem r_beside {q : Bool × P2} (h : Near q.2) {hs : List P2} (hm : q.2 ∈ hs) {s : Nat} (h4 : s < 4) (M : Mem) : m_Floor_beside [flV hs, pw q, .int (s : Nat)] M = .ok (bsd hs (nb q.2 (sdi s))) M := by
  have k1 : mUn (fldW es_known is_known "known") (mVar 0) [some (flV hs), some (pw q), some (.int (s : Nat)), some (mkP q.2), none] M = .ok (.dtt (hs.map keyP) (trs hs)) M := rfl
  have s1 : sSet 3 (mAppD 2 m_need_cell [.str "cell"] (maC (mVar 1) maN)) (evStart 5 [flV hs, pw q, .int (s : Nat)]) M = .ok (.nx [some (flV hs), some (pw q), some (.int (s : Nat)), some (mkP q.2), none]) M := set_ (appD_ (mac1_ rfl) rfl (r_need_cell h M))
  have n1 : m_is_side [.int (s : Nat)] M = .ok (.bl true) M := fn_ (ret_ (app_ (mac3_ rfl rfl rfl) rfl (within_t (by omega) (by omega) M)))
  have n2 : m_need_side [.int (s : Nat), .str "side"] M = .ok .non M := by
    unfold m_need_side
    have s1 : i_need_side_1 (evStart 2 [.int (s : Nat), .str "side"]) M = .ok (.nx (evStart 2 [.int (s : Nat), .str "side"])) M := sif_f (M1 := M) (tnot_ (q := true) (te_ (app_ (mac1_ rfl) rfl n1))) rfl
    exact congrArg kFn s1
  have s2 : sExp (mAppD 2 m_need_side [.str "side"] (maC (mVar 2) maN)) [some (flV hs), some (pw q), some (.int (s : Nat)), some (mkP q.2), none] M = .ok (.nx [some (flV hs), some (pw q), some (.int (s : Nat)), some (mkP q.2), none]) M := exp_ (appD_ (mac1_ rfl) rfl n2)
  have s3 : i_Floor_beside_1 [some (flV hs), some (pw q), some (.int (s : Nat)), some (mkP q.2), none] M = .ok (.nx [some (flV hs), some (pw q), some (.int (s : Nat)), some (mkP q.2), none]) M :=
    sif_f (M1 := M) ((tcmp_ rfl k1 (in_dict (dictAt_v M hs) true _ q.2)).trans (by rw [decide_eq_true hm]; rfl)) rfl
  have s4 : sSet 4 (mApp 2 m_neighbour (maC (mVar 3) (maC (mVar 2) maN))) [some (flV hs), some (pw q), some (.int (s : Nat)), some (mkP q.2), none] M = .ok (.nx [some (flV hs), some (pw q), some (.int (s : Nat)), some (mkP q.2), some (mkP (nb q.2 (sdi s)))]) M := set_ (app_ (mac2_ rfl rfl) rfl (r_nb _ _ s h4))
  have t5 : mtCmp (inD false (inE false)) (mVar 4) (mUn (fldW es_known is_known "known") (mVar 0)) [some (flV hs), some (pw q), some (.int (s : Nat)), some (mkP q.2), some (mkP (nb q.2 (sdi s)))] M = .ok (decide (nb q.2 (sdi s) ∈ hs)) M :=
    (tcmp_ rfl rfl (in_dict (dictAt_v M hs) false _ (nb q.2 (sdi s)))).trans (by rw [Bool.false_xor])
  refine fn_ (seq_ s1 (seq_ s2 (seq_ s3 (seq_ s4 (ret_ ?_)))))
  unfold bsd
  by_cases hn : nb q.2 (sdi s) ∈ hs
  · rw [if_pos hn]
    rw [decide_eq_true hn] at t5
    exact ift_ t5 rfl
  · rw [if_neg hn]
    rw [decide_eq_false hn] at t5
    exact iff_ t5 rfl
/-! ### picking -/
theorem r_pickX {cs : List Int} {t r : Int} {w : Wv} {ws : List Wv} (M : Mem) (hl : ∀ o, len1 w (o :: M) = .ok (.int (ws.length : Nat)) (o :: M)) (hi : ∀ o (j : Nat) (h : j < ws.length), ixW w (.int (j : Nat)) (o :: M) = .ok ws[j] (o :: M)) (hw : 0 < ws.length) (hw2 : ws.length ≤ 100000) (ht : 0 ≤ t) (ht2 : t ≤ 1000000) (hc : cs.length ≤ 1000) :
    ∃ x t' r', x ∈ ws ∧ t ≤ t' ∧ t' ≤ t + 1 ∧ m_law_pick [.ref 0, w] (pawO cs t r :: M) = .ok x (pawO cs t' r' :: M) := by
  obtain ⟨k, t', r', h1, h2, h3, h4, h5⟩ := r_tell (cs := cs) (t := t) (r := r) (m := (ws.length : Int)) M (by omega) (by omega) ht ht2 hc
  obtain ⟨j, rfl⟩ : ∃ j : Nat, k = (j : Int) := ⟨k.toNat, by omega⟩
  have hlt : j < ws.length := by omega
  exact ⟨ws[j], t', r', List.getElem_mem hlt, h3, h4, fn_ (ret_ (bin_ rfl (app_ (mac2_ rfl (call_ (mac1_ rfl) (hl _))) rfl h5) (hi _ j hlt)))⟩
theorem ix_at {ws : List Wv} {j : Nat} (h : j < ws.length) (M : Mem) : (match atI ws (j : Nat) with | some w => R.ok w M | none => .no) = R.ok ws[j] M := by
  rw [atI_nat (List.getElem?_eq_getElem h)]
theorem r_pickT {cs : List Int} {t r : Int} {ws : List Wv} (M : Mem) (hw : 0 < ws.length) (hw2 : ws.length ≤ 100000) (ht : 0 ≤ t) (ht2 : t ≤ 1000000) (hc : cs.length ≤ 1000) :
    ∃ x t' r', x ∈ ws ∧ t ≤ t' ∧ t' ≤ t + 1 ∧ m_law_pick [.ref 0, .tup ws] (pawO cs t r :: M) = .ok x (pawO cs t' r' :: M) :=
  r_pickX M (fun _ => rfl) (fun o j h => ix_at h _) hw hw2 ht ht2 hc
theorem r_pickR {cs : List Int} {t r : Int} {ws : List Wv} (M : Mem) (hw : 0 < ws.length) (hw2 : ws.length ≤ 100000) (ht : 0 ≤ t) (ht2 : t ≤ 1000000) (hc : cs.length ≤ 1000) :
    ∃ x t' r', x ∈ ws ∧ t ≤ t' ∧ t' ≤ t + 1 ∧ m_law_pick [.ref 0, .ref 1] (pawO cs t r :: .lst ws :: M) = .ok x (pawO cs t' r' :: .lst ws :: M) :=
  r_pickX (.lst ws :: M) (fun _ => rfl) (fun o j h => ix_at h _) hw hw2 ht ht2 hc
theorem mem_ps {ps : List P2} {w : Wv} (h : w ∈ ps.map mkP) : ∃ p ∈ ps, w = mkP p := by
  obtain ⟨p, hp, e⟩ := List.mem_map.mp h
  exact ⟨p, hp, e.symm⟩
/-! ### grown cells -/
structure Gw (n : Nat) (ps : List P2) : Prop where
  ne : ps ≠ []
  nd : ps.Nodup
  cn : Conn ps
  len : ps.length ≤ n
  bd : ∀ p ∈ ps, -(ps.length : Int) < p.1 ∧ p.1 < (ps.length : Int) ∧ -(ps.length : Int) < p.2 ∧ p.2 < (ps.length : Int)
theorem Gw.one {n : Nat} (h : 1 ≤ n) : Gw n [(0, 0)] := ⟨by simp, by simp, Conn.one _, by simpa using h, fun p hp => by rw [List.mem_singleton.mp hp]; decide⟩
theorem Gw.add {n : Nat} {ps : List P2} {p d : P2} (h : Gw n ps) (hp : p ∈ ps) (hd : d ∈ stp) (hn : nb p d ∉ ps) (hl : ps.length < n) : Gw n (ps ++ [nb p d]) := by
  refine ⟨by simp, ?_, h.cn.add hp hd, by simp; omega, fun q hq => ?_⟩
  · rw [List.nodup_append]
    exact ⟨h.nd, by simp, fun a ha b hb e => by rw [List.mem_singleton.mp hb] at e; exact hn (e ▸ ha)⟩
  · rw [List.length_append, List.length_singleton]
    rcases List.mem_append.mp hq with hq | hq
    · have := h.bd q hq
      omega
    · rw [List.mem_singleton.mp hq]
      have := h.bd p hp
      have hdd : -1 ≤ d.1 ∧ d.1 ≤ 1 ∧ -1 ≤ d.2 ∧ d.2 ≤ 1 := by
        unfold stp at hd
        simp only [List.mem_cons, List.not_mem_nil, or_false] at hd
        rcases hd with rfl | rfl | rfl | rfl <;> decide
      show _ < p.1 + d.1 ∧ p.1 + d.1 < _ ∧ _ < p.2 + d.2 ∧ p.2 + d.2 < _
      omega
abbrev gwE (n : Nat) (x4 x5 x6 x7 x8 : Option Wv) : Ev := [some (.ref 0), some (.int (n : Nat)), some (.ref 1), some (.lst (stp.map mkP)), x4, x5, x6, x7, x8]
theorem gw_if {n : Nat} {cs : List Int} {t r : Int} {ps : List P2} {p d : P2} {x4 : Option Wv} (hn : n ≤ 1000) (h : Gw n ps) (hp : p ∈ ps) (hd : d ∈ stp) :
    ∃ qs, Gw n qs ∧ i_law_grown_1 (gwE n x4 (some (.int p.1)) (some (.int p.2)) (some (.int d.1)) (some (.int d.2))) [pawO cs t r, .lst (ps.map mkP)] = .ok (.nx (gwE n x4 (some (.int p.1)) (some (.int p.2)) (some (.int d.1)) (some (.int d.2)))) [pawO cs t r, .lst (qs.map mkP)] := by
  have hlim : lim = _ := lim_is
  have hl := h.len
  let E := gwE n x4 (some (.int p.1)) (some (.int p.2)) (some (.int d.1)) (some (.int d.2))
  let M : Mem := [pawO cs t r, .lst (ps.map mkP)]
  have e1 : mTup (maC (mBin addW (mVar 5) (mVar 7)) (maC (mBin addW (mVar 6) (mVar 8)) maN)) E M = .ok (mkP (nb p d)) M := tup_ (mac2_ rfl rfl) (by simp [hlim])
  have t1 : mtCmp (inD true (inE true)) (mTup (maC (mBin addW (mVar 5) (mVar 7)) (maC (mBin addW (mVar 6) (mVar 8)) maN))) (mVar 2) E M = .ok (true ^^ decide (nb p d ∈ ps)) M := tcmp_ e1 rfl (in_ps (.r 1 rfl) true (nb p d))
  have t2 : mtCmp ltW (mCall lenW (maC (mVar 2) maN)) (mVar 1) E M = .ok (decide (((ps.map mkP).length : Int) < (n : Int))) M := rfl
  unfold i_law_grown_1
  by_cases hn : nb p d ∈ ps
  · rw [decide_eq_true hn] at t1
    exact ⟨ps, h, sif_f (tand_f t1) rfl⟩
  · rw [decide_eq_false hn] at t1
    by_cases hlt : ps.length < n
    · refine ⟨ps ++ [nb p d], h.add hp hd hn hlt, sif_t (tand_t t1 (t2.trans (by rw [List.length_map, decide_eq_true (by omega)]))) (exp_ (w := .non) ?_)⟩
      rw [app_ref (env := E) (o := mVar 2) (e := mTup (maC (mBin addW (mVar 5) (mVar 7)) (maC (mBin addW (mVar 6) (mVar 8)) maN))) (M := M) (M' := M) (n := 1) (xs := ps.map mkP) rfl rfl e1 rfl (by rw [List.length_map]; omega)]
      rw [show ps.map mkP ++ [mkP (nb p d)] = (ps ++ [nb p d]).map mkP by simp]
      rfl
    · exact ⟨ps, h, sif_f (tand_t t1 (t2.trans (by rw [List.length_map, decide_eq_false (by omega)]))) rfl⟩
theorem gw_b {n : Nat} {cs : List Int} {t r : Int} {ps : List P2} {x4 x5 x6 x7 x8 : Option Wv} (hn : n ≤ 1000) (h : Gw n ps) (ht : 0 ≤ t) (ht2 : t ≤ 990000) (hc : cs.length ≤ 1000) :
    ∃ qs t' r' y5 y6 y7 y8, Gw n qs ∧ t ≤ t' ∧ t' ≤ t + 3 ∧ b_law_grown_2 (gwE n x4 x5 x6 x7 x8) [pawO cs t r, .lst (ps.map mkP)] = .ok (.nx (gwE n x4 y5 y6 y7 y8)) [pawO cs t' r', .lst (qs.map mkP)] := by
  have hlim : lim = _ := lim_is
  have hl := h.len
  have hpos := List.length_pos_iff.mpr h.ne
  obtain ⟨w1, t1, r1, m1, b1, b2, e1⟩ := r_pickR (cs := cs) (t := t) (r := r) (ws := ps.map mkP) [] (by simpa using hpos) (by rw [List.length_map]; omega) ht (by omega) hc
  obtain ⟨p1, hp1, rfl⟩ := mem_ps m1
  obtain ⟨p0, hp0, l0⟩ : ∃ p ∈ ps, ps.getLast? = some p := ⟨ps.getLast h.ne, List.getLast_mem h.ne, List.getLast?_eq_some_getLast h.ne⟩
  have last : ∀ t r, mBin ixW (mVar 2) (mUn negW (mC (.int 1))) (gwE n x4 x5 x6 x7 x8) [pawO cs t r, .lst (ps.map mkP)] = .ok (mkP p0) [pawO cs t r, .lst (ps.map mkP)] := fun t r => by
    refine bin_ rfl rfl ?_
    show (match atI (ps.map mkP) (-1) with | some w => R.ok w [pawO cs t r, .lst (ps.map mkP)] | none => .no) = _
    have : atI (ps.map mkP) (-1) = some (mkP p0) := by
      unfold atI ixN
      rw [List.length_map]
      rw [List.getLast?_eq_getElem?] at l0
      rw [List.getElem?_eq_some_iff] at l0
      obtain ⟨hlt, l0⟩ := l0
      rw [if_neg (by decide), if_pos (by omega)]
      show (ps.map mkP)[(-1 + (ps.length : Int)).toNat]? = _
      rw [show (-1 + (ps.length : Int)).toNat = ps.length - 1 by omega, List.getElem?_map, List.getElem?_eq_getElem hlt, l0]
      rfl
    rw [this]
  have c1 := lst_ (mac3_ (last t r) (last t r) (app_ (n := 2) (mac2_ (a := mVar 0) (b := mVar 2) rfl rfl) rfl e1)) (by simp [hlim])
  obtain ⟨w2, t2, r2, m2, b3, b4, e2⟩ := r_pick (cs := cs) (t := t1) (r := r1) (ws := [mkP p0, mkP p0, mkP p1]) [.lst (ps.map mkP)] (by simp) (by simp) (by omega) (by omega) hc
  obtain ⟨p, hp, rfl⟩ : ∃ p ∈ ps, w2 = mkP p := by
    simp only [List.mem_cons, List.not_mem_nil, or_false] at m2
    rcases m2 with rfl | rfl | rfl
    · exact ⟨p0, hp0, rfl⟩
    · exact ⟨p0, hp0, rfl⟩
    · exact ⟨p1, hp1, rfl⟩
  obtain ⟨w3, t3, r3, m3, b5, b6, e3⟩ := r_pick (cs := cs) (t := t2) (r := r2) (ws := stp.map mkP) [.lst (ps.map mkP)] (by decide) (by decide) (by omega) (by omega) hc
  obtain ⟨d, hd, rfl⟩ := mem_ps m3
  obtain ⟨qs, g1, g2⟩ := gw_if (cs := cs) (t := t3) (r := r3) (x4 := x4) hn h hp hd
  refine ⟨qs, t3, r3, some (.int p.1), some (.int p.2), some (.int d.1), some (.int d.2), g1, by omega, by omega, ?_⟩
  unfold b_law_grown_2
  exact seq_ (unp_ (app_ (mac2_ rfl c1) rfl e2) rfl) (seq_ (unp_ (app_ (mac2_ rfl rfl) rfl e3) rfl) g2)
theorem gw_loop {n : Nat} {cs : List Int} (hn : n ≤ 1000) (hc : cs.length ≤ 1000) : ∀ (is : List Wv) (t r : Int) (ps : List P2) (x4 x5 x6 x7 x8 : Option Wv), Gw n ps → 0 ≤ t → t + 3 * is.length ≤ 980000 →
    ∃ qs t' r' y4 y5 y6 y7 y8, Gw n qs ∧ t ≤ t' ∧ t' ≤ t + 3 * is.length ∧ forW (.nm 4) b_law_grown_2 is (gwE n x4 x5 x6 x7 x8) [pawO cs t r, .lst (ps.map mkP)] = .ok (.nx (gwE n y4 y5 y6 y7 y8)) [pawO cs t' r', .lst (qs.map mkP)]
  | [], t, r, ps, x4, x5, x6, x7, x8, h, _, _ => ⟨ps, t, r, x4, x5, x6, x7, x8, h, by omega, by simp, rfl⟩
  | i :: is, t, r, ps, x4, x5, x6, x7, x8, h, h0, h1 => by
    rw [List.length_cons] at h1
    obtain ⟨qs, t1, r1, y5, y6, y7, y8, g1, g2, g3, g4⟩ := gw_b (cs := cs) (t := t) (r := r) (x4 := some i) (x5 := x5) (x6 := x6) (x7 := x7) (x8 := x8) hn h h0 (by omega) hc
    obtain ⟨us, t2, r2, z4, z5, z6, z7, z8, k1, k2, k3, k4⟩ := gw_loop hn hc is t1 r1 qs (some i) y5 y6 y7 y8 g1 (by omega) (by omega)
    refine ⟨us, t2, r2, z4, z5, z6, z7, z8, k1, by omega, by rw [List.length_cons]; omega, ?_⟩
    exact forW_cons (env1 := gwE n (some i) x5 x6 x7 x8) rfl g4 k4
theorem cleans_of {n : Nat} : ∀ {ws : List Wv}, (∀ w ∈ ws, clean n w = true) → cleans n ws = true
  | [], _ => rfl
  | w :: ws, h => (Bool.and_eq_true _ _).mpr ⟨h w List.mem_cons_self, cleans_of fun x hx => h x (List.mem_cons_of_mem _ hx)⟩
theorem held_paw (cs : List Int) (t r : Int) : Held [pawO cs t r] := by
  have h : ∀ cs : List Int, cleans 1 (cs.map Wv.int) = true := fun cs => cleans_of fun w hw => by
    obtain ⟨i, _, rfl⟩ := List.mem_map.mp hw; rfl
  show (cleanO 1 (pawO cs t r) && true) = true
  rw [Bool.and_true]
  show (cleans 1 (cs.map Wv.int) && _) = true
  rw [h]; rfl
theorem frz_lst {ps : List P2} {o : Ob} (hM : Held [o]) : frzR 1 (.ok (.ref 1) [o, .lst (ps.map mkP)]) = .ok (.lst (ps.map mkP)) [o] := by
  have e : frz [o, .lst (ps.map mkP)] 1 40 (.ref 1) = some (.lst (ps.map mkP)) := by
    unfold frz
    rw [if_neg (by simp [clean])]
    show (optAll (frz [o, .lst (ps.map mkP)] 1 39) (ps.map mkP)).map Wv.lst = _
    rw [optAll_all fun x hx => by
      obtain ⟨p, _, rfl⟩ := List.mem_map.mp hx
      exact frz_cl rfl]
    rfl
  show (match frz [o, .lst (ps.map mkP)] 1 40 (.ref 1) with | some w' => if ([o] : Mem).all (cleanO 1) = true then R.ok w' [o] else .no | none => .no) = _
  rw [e]
  exact if_pos hM
theorem r_grown {n : Nat} {cs : List Int} {t r : Int} (hn : 1 ≤ n) (hn2 : n ≤ 1000) (hc : cs.length ≤ 1000) (ht : 0 ≤ t) (ht2 : t ≤ 900000) :
    ∃ ps t' r', Gw n ps ∧ t ≤ t' ∧ t' ≤ t + 6 * n ∧ m_law_grown [.ref 0, .int (n : Nat)] [pawO cs t r] = .ok (.lst (ps.map mkP)) [pawO cs t' r'] := by
  obtain ⟨ps, t', r', y4, y5, y6, y7, y8, g1, g2, g3, g4⟩ := gw_loop (n := n) (cs := cs) hn2 hc (rng 0 (2 * (n : Int)).toNat) t r [(0, 0)] none none none none none (.one hn) ht (by unfold rng; simp; omega)
  refine ⟨ps, t', r', g1, g2, by unfold rng at g3; simp at g3; omega, ?_⟩
  unfold m_law_grown frzF
  have s1 : sPar2 2 3 (maC (mNew (maC (mTup (maC (mC (.int 0)) (maC (mC (.int 0)) (maN)))) (maN))) (maC (mLst (maC (mTup (maC (mC (.int 0)) (maC (mC (.int 1)) (maN)))) (maC (mTup (maC (mC (.int 1)) (maC (mC (.int 0)) (maN)))) (maC (mTup (maC (mC (.int 0)) (maC (mUn negW (mC (.int 1))) (maN)))) (maC (mTup (maC (mUn negW (mC (.int 1))) (maC (mC (.int 0)) (maN)))) (maN)))))) (maN))) (evStart 9 [.ref 0, .int (n : Nat)]) [pawO cs t r] = .ok (.nx (gwE n none none none none none)) [pawO cs t r, .lst ([(0, 0)].map mkP)] := by kernel_rfl
  have i1 : mRng1 (mBin mulW (mC (.int 2)) (mVar 1)) (gwE n none none none none none) [pawO cs t r, .lst ([(0, 0)].map mkP)] = .ok (rng 0 (2 * (n : Int)).toNat) [pawO cs t r, .lst ([(0, 0)].map mkP)] := rng1_ (bin_ rfl rfl (by rw [zv_mul, if_pos (mulOk_l (by decide))])) (by omega)
  rw [fn_ (seq_ s1 (seq_ (for_ i1 g4) (ret_ rfl)))]
  exact frz_lst (held_paw _ _ _)
end Law

namespace Law
open PySem PySem.Spec PyProof.Rows L2 Mi
structure Os where
  (o0 o2 o3 o4 o5 o6 o7 o8 o9 o14 o15 o16 : Option Wv)
abbrev lE (O : Os) (hs : List P2) (x17 x18 x19 x20 x21 x22 : Option Wv) : Ev := [O.o0, some (.ref 0), O.o2, O.o3, O.o4, O.o5, O.o6, O.o7, O.o8, O.o9, some (.tup (hs.map mkP)), some (flV hs), some (.int (wid hs)), some (.int (hei hs)), O.o14, O.o15, O.o16, x17, x18, x19, x20, x21, x22]
theorem lstp (p : P2) (M : Mem) : lstW [mkP p] M = .ok (pw (true, p)) M := rfl
theorem shows_bb (b : Bool) : Shows (.lst [.bl b, .bl b]) := by cases b <;> exact shows_by (by decide +kernel)
theorem tame_p {p : P2} {k : Nat} (h : p.1.natAbs < 10 ^ 7 ∧ p.2.natAbs < 10 ^ 7) : Tame 23 (k + 1) (mkP p) := Tames.tup (tames_cons (tame_int (j := 7) (by decide) (by decide) h.1) (tames_cons (tame_int (j := 7) (by decide) (by decide) h.2) tames_nil))
theorem tame_pw {q : Bool × P2} {k : Nat} (h : q.2.1.natAbs < 10 ^ 7 ∧ q.2.2.natAbs < 10 ^ 7) : Tame 23 (k + 1) (pw q) := by
  obtain ⟨b, p⟩ := q
  cases b with
  | false => exact tame_p h
  | true => exact Tames.lst (tames_cons (tame_int (j := 7) (by decide) (by decide) h.1) (tames_cons (tame_int (j := 7) (by decide) (by decide) h.2) tames_nil))
theorem near_10 {p : P2} (h : Near p) : p.1.natAbs < 10 ^ 7 ∧ p.2.natAbs < 10 ^ 7 := by
  obtain ⟨h1, h2, h3, h4⟩ := h
  exact ⟨by omega, by omega⟩
theorem shows_bs {hs : List P2} {p : P2} (h : p ∈ hs → Near p) : Shows (.lst [bsd hs p, bsd hs p]) := by
  unfold bsd
  by_cases hp : p ∈ hs
  · rw [if_pos hp]
    have t := tame_p (k := 3) (near_10 (h hp))
    exact (Tames.lst (tames_cons t (tames_cons t tames_nil))).shows (by show 2 * (23 + 2) + 3 ≤ lim; decide +kernel) (by decide)
  · rw [if_neg hp]
    exact shows_by (by decide +kernel)
theorem Hm.near {hs : List P2} (h : Hm hs) {p : P2} (hp : p ∈ hs) : Near p := by
  have := h.inn p hp
  unfold Near
  omega
theorem mok_has (hs : List P2) (M : Mem) : methOk ["Floor"] "has" M (flV hs) = true := by rfl
theorem mok_beside (hs : List P2) (M : Mem) : methOk ["Floor"] "beside" M (flV hs) = true := by rfl
theorem lit_ix {E : Ev} {M : Mem} {a : Me} : ∀ s < 4, a E M = .ok (.int (s : Nat)) M → mBin ixW (mLst (maC (mTup (maC (mC (.int 0)) (maC (mC (.int 1)) (maN)))) (maC (mTup (maC (mC (.int 1)) (maC (mC (.int 0)) (maN)))) (maC (mTup (maC (mC (.int 0)) (maC (mUn negW (mC (.int 1))) (maN)))) (maC (mTup (maC (mUn negW (mC (.int 1))) (maC (mC (.int 0)) (maN)))) (maN)))))) a E M = .ok (mkP (sdi s)) M
  | 0, _, h => bin_ (v := .lst (stp.map mkP)) (by kernel_rfl) h (by kernel_rfl)
  | 1, _, h => bin_ (v := .lst (stp.map mkP)) (by kernel_rfl) h (by kernel_rfl)
  | 2, _, h => bin_ (v := .lst (stp.map mkP)) (by kernel_rfl) h (by kernel_rfl)
  | 3, _, h => bin_ (v := .lst (stp.map mkP)) (by kernel_rfl) h (by kernel_rfl)
  | n + 4, h, _ => by omega
section
variable {O : Os} {hs : List P2} {x17 x18 x19 x20 x21 x22 : Option Wv} {p : P2} {M : Mem}
theorem lw_six (hn : Near p) : i_law_6 (lE O hs x17 (some (mkP p)) x19 x20 x21 x22) M = .ok (.nx (lE O hs x17 (some (mkP p)) x19 x20 x21 x22)) M := by
  have hlim : lim = _ := lim_is
  let E := lE O hs x17 (some (mkP p)) x19 x20 x21 x22
  have h1 : mMeth ["Floor"] "has" 1 m_Floor_has (mVar 11) (maC (mVar 18) maN) E M = .ok (.bl (decide (p ∈ hs))) M := meth_ rfl (mok_has hs M) (mac1_ rfl) rfl (r_has (q := (false, p)) hn hs M)
  have h2 : mMethK ["Floor"] "has" 2 1 [0, 1] m_Floor_has (mVar 11) (maC (mCall lstW (maC (mVar 18) maN)) maN) E M = .ok (.bl (decide (p ∈ hs))) M := methK_ rfl (mok_has hs M) (mac1_ (call_ (mac1_ rfl) (lstp p M))) ⟨rfl, rfl⟩ (r_has (q := (true, p)) hn hs M)
  have a1 := lst_ (mac2_ h1 h2) (by simp [hlim])
  have b0 : mCmp (inD false (inE false)) (mVar 18) (mVar 10) E M = .ok (.bl (decide (p ∈ hs))) M := by
    have := cmp_ (env := E) (M := M) (a := mVar 18) (b := mVar 10) rfl rfl (in_ps (ps := hs) (M := M) .t false p)
    rwa [Bool.false_xor] at this
  have b1 : mBin mulW (mLst (maC (mCmp (inD false (inE false)) (mVar 18) (mVar 10)) maN)) (mC (.int 2)) E M = .ok (.lst [.bl (decide (p ∈ hs)), .bl (decide (p ∈ hs))]) M := bin_ (lst_ (mac1_ b0) (by simp [hlim])) rfl rfl
  exact sif_f (ne_repr a1 b1 (shows_bb _)) rfl
theorem lw_eight {s : Nat} (h : Hm hs) (hn : Near p) (h4 : s < 4) : ∃ y20 y21 y22, i_law_8 (lE O hs x17 (some (mkP p)) (some (.int (s : Nat))) x20 x21 x22) M = .ok (.nx (lE O hs x17 (some (mkP p)) (some (.int (s : Nat))) y20 y21 y22)) M := by
  have hlim : lim = _ := lim_is
  have t0 : mtCmp (inD false (inE false)) (mVar 18) (mVar 10) (lE O hs x17 (some (mkP p)) (some (.int (s : Nat))) x20 x21 x22) M = .ok (decide (p ∈ hs)) M := (tcmp_ rfl rfl (in_ps (ps := hs) (M := M) .t false p)).trans (by rw [Bool.false_xor])
  by_cases hp : p ∈ hs
  · rw [decide_eq_true hp] at t0
    refine ⟨some (.int (sdi s).1), some (.int (sdi s).2), some (mkP (nb p (sdi s))), sif_t t0 ?_⟩
    let E0 := lE O hs x17 (some (mkP p)) (some (.int (s : Nat))) x20 x21 x22
    have i0 : mBin ixW (mLst (maC (mTup (maC (mC (.int 0)) (maC (mC (.int 1)) (maN)))) (maC (mTup (maC (mC (.int 1)) (maC (mC (.int 0)) (maN)))) (maC (mTup (maC (mC (.int 0)) (maC (mUn negW (mC (.int 1))) (maN)))) (maC (mTup (maC (mUn negW (mC (.int 1))) (maC (mC (.int 0)) (maN)))) (maN)))))) (mVar 19) E0 M = .ok (mkP (sdi s)) M := lit_ix s h4 rfl
    let E1 := lE O hs x17 (some (mkP p)) (some (.int (s : Nat))) (some (.int (sdi s).1)) (some (.int (sdi s).2)) x22
    let E2 := lE O hs x17 (some (mkP p)) (some (.int (s : Nat))) (some (.int (sdi s).1)) (some (.int (sdi s).2)) (some (mkP (nb p (sdi s))))
    have s2 : sSet 22 (mTup (maC (mBin addW (mBin ixW (mVar 18) (mC (.int 0))) (mVar 20)) (maC (mBin addW (mBin ixW (mVar 18) (mC (.int 1))) (mVar 21)) (maN)))) E1 M = .ok (.nx E2) M := set_ (tup_ (mac2_ rfl rfl) (by simp [hlim]))
    have h1 : mMeth ["Floor"] "beside" 2 m_Floor_beside (mVar 11) (maC (mVar 18) (maC (mVar 19) maN)) E2 M = .ok (bsd hs (nb p (sdi s))) M := meth_ rfl (mok_beside hs M) (mac2_ rfl rfl) rfl (r_beside (q := (false, p)) hn hp h4 M)
    have h2 : mMethK ["Floor"] "beside" 3 2 [0, 2, 1] m_Floor_beside (mVar 11) (maC (mVar 19) (maC (mCall lstW (maC (mVar 18) maN)) maN)) E2 M = .ok (bsd hs (nb p (sdi s))) M := methK_ rfl (mok_beside hs M) (mac2_ rfl (call_ (mac1_ rfl) (lstp p M))) ⟨rfl, rfl⟩ (r_beside (q := (true, p)) hn hp h4 M)
    have a1 := lst_ (mac2_ h1 h2) (by simp [hlim])
    have b0 : mIf (mtCmp (inD false (inE false)) (mVar 22) (mVar 10)) (mVar 22) (mC .non) E2 M = .ok (bsd hs (nb p (sdi s))) M := by
      have t5 : mtCmp (inD false (inE false)) (mVar 22) (mVar 10) E2 M = .ok (decide (nb p (sdi s) ∈ hs)) M := (tcmp_ rfl rfl (in_ps (ps := hs) (M := M) .t false (nb p (sdi s)))).trans (by rw [Bool.false_xor])
      unfold bsd
      by_cases hq : nb p (sdi s) ∈ hs
      · rw [decide_eq_true hq] at t5
        rw [if_pos hq]
        exact ift_ t5 rfl
      · rw [decide_eq_false hq] at t5
        rw [if_neg hq]
        exact iff_ t5 rfl
    have b1 : mBin mulW (mLst (maC (mIf (mtCmp (inD false (inE false)) (mVar 22) (mVar 10)) (mVar 22) (mC .non)) maN)) (mC (.int 2)) E2 M = .ok (.lst [bsd hs (nb p (sdi s)), bsd hs (nb p (sdi s))]) M := bin_ (lst_ (mac1_ b0) (by simp [hlim])) rfl rfl
    have s7 : i_law_7 E2 M = .ok (.nx E2) M := sif_f (ne_repr a1 b1 (shows_bs fun hq => h.near hq)) rfl
    exact seq_ (unp_ i0 rfl) (seq_ s2 s7)
  · rw [decide_eq_false hp] at t0
    exact ⟨x20, x21, x22, sif_f t0 rfl⟩
theorem lw_lap {cs : List Int} {t r : Int} (h : Hm hs) (ht : 0 ≤ t) (ht2 : t ≤ 990000) (hc : cs.length ≤ 1000) : ∃ t' r' y18 y19 y20 y21 y22, t ≤ t' ∧ t' ≤ t + 5 ∧
    b_law_9 (lE O hs x17 x18 x19 x20 x21 x22) [pawO cs t r] = .ok (.nx (lE O hs x17 y18 y19 y20 y21 y22)) [pawO cs t' r'] := by
  have hlim : lim = _ := lim_is
  have hw := h.w
  have hh := h.h
  have hlen := h.len
  have hpos := List.length_pos_iff.mpr h.ne
  have w2 : wid hs = bst true (hs.map (·.1)) + 1 := rfl
  have h2 : hei hs = bst true (hs.map (·.2)) + 1 := rfl
  obtain ⟨a, t1, r1, a1, a2, a3, a4, e1⟩ := r_tell (cs := cs) (t := t) (r := r) (m := wid hs + 2) [] (by omega) (by omega) ht (by omega) hc
  obtain ⟨b, t2, r2, b1, b2, b3, b4, e2⟩ := r_tell (cs := cs) (t := t1) (r := r1) (m := hei hs + 2) [] (by omega) (by omega) (by omega) (by omega) hc
  obtain ⟨c, t3, r3, c1, c2, c3, c4, e3⟩ := r_tell (cs := cs) (t := t2) (r := r2) (m := 4) [] (by omega) (by omega) (by omega) (by omega) hc
  obtain ⟨s, rfl⟩ : ∃ s : Nat, c = (s : Int) := ⟨c.toNat, by omega⟩
  obtain ⟨w, t4, r4, d1, d2, d3, e4⟩ := r_pickT (cs := cs) (t := t3) (r := r3) (ws := hs.map mkP) [] (by simpa using hpos) (by rw [List.length_map]; omega) (by omega) (by omega) hc
  obtain ⟨p1, hp1, rfl⟩ := mem_ps d1
  obtain ⟨w', t5, r5, d4, d5, d6, e5⟩ := r_pick (cs := cs) (t := t4) (r := r4) (ws := [mkP (a - 1, b - 1), mkP p1]) [] (by simp) (by simp) (by omega) (by omega) hc
  obtain ⟨p, hn, rfl⟩ : ∃ p, Near p ∧ w' = mkP p := by
    simp only [List.mem_cons, List.not_mem_nil, or_false] at d4
    rcases d4 with rfl | rfl
    · exact ⟨(a - 1, b - 1), ⟨by show -1000000 ≤ a - 1; omega, by show a - 1 ≤ 1000000; omega, by show -1000000 ≤ b - 1; omega, by show b - 1 ≤ 1000000; omega⟩, rfl⟩
    · exact ⟨p1, h.near hp1, rfl⟩
  let E0 := lE O hs x17 x18 x19 x20 x21 x22
  have s1 : sPar2 18 19 (maC (mTup (maC (mBin subW (mApp 2 m_law_tell (maC (mVar 1) (maC (mBin addW (mVar 12) (mC (.int 2))) (maN)))) (mC (.int 1))) (maC (mBin subW (mApp 2 m_law_tell (maC (mVar 1) (maC (mBin addW (mVar 13) (mC (.int 2))) (maN)))) (mC (.int 1))) (maN)))) (maC (mApp 2 m_law_tell (maC (mVar 1) (maC (mC (.int 4)) (maN)))) (maN))) E0 [pawO cs t r] = .ok (.nx (lE O hs x17 (some (mkP (a - 1, b - 1))) (some (.int (s : Nat))) x20 x21 x22)) [pawO cs t3 r3] :=
    par2_ (mac2_ (tup_ (mac2_ (bin_ (app_ (mac2_ rfl rfl) rfl e1) rfl rfl) (bin_ (app_ (mac2_ rfl rfl) rfl e2) rfl rfl)) (by simp [hlim])) (app_ (mac2_ rfl rfl) rfl e3))
  have s2 : sSet 18 (mApp 2 m_law_pick (maC (mVar 1) (maC (mLst (maC (mVar 18) (maC (mApp 2 m_law_pick (maC (mVar 1) (maC (mVar 10) (maN)))) (maN)))) (maN)))) (lE O hs x17 (some (mkP (a - 1, b - 1))) (some (.int (s : Nat))) x20 x21 x22) [pawO cs t3 r3] = .ok (.nx (lE O hs x17 (some (mkP p)) (some (.int (s : Nat))) x20 x21 x22)) [pawO cs t5 r5] :=
    set_ (app_ (mac2_ rfl (lst_ (mac2_ rfl (app_ (mac2_ rfl rfl) rfl e4)) (by simp [hlim]))) rfl e5)
  obtain ⟨y20, y21, y22, s4⟩ := lw_eight (O := O) (x17 := x17) (x20 := x20) (x21 := x21) (x22 := x22) (M := [pawO cs t5 r5]) h hn (show s < 4 by omega)
  exact ⟨t5, r5, some (mkP p), some (.int (s : Nat)), y20, y21, y22, by omega, by omega, seq_ s1 (seq_ s2 (seq_ (lw_six hn) s4))⟩
theorem lw_laps {cs : List Int} (h : Hm hs) (hc : cs.length ≤ 1000) : ∀ (is : List Wv) (t r : Int) (x17 x18 x19 x20 x21 x22 : Option Wv), 0 ≤ t → t + 5 * is.length ≤ 980000 → ∃ t' r' y17 y18 y19 y20 y21 y22, t ≤ t' ∧ t' ≤ t + 5 * is.length ∧
    forW (.nm 17) b_law_9 is (lE O hs x17 x18 x19 x20 x21 x22) [pawO cs t r] = .ok (.nx (lE O hs y17 y18 y19 y20 y21 y22)) [pawO cs t' r']
  | [], t, r, x17, x18, x19, x20, x21, x22, _, _ => ⟨t, r, x17, x18, x19, x20, x21, x22, by omega, by simp, rfl⟩
  | i :: is, t, r, x17, x18, x19, x20, x21, x22, h0, h1 => by
    rw [List.length_cons] at h1
    obtain ⟨t1, r1, y18, y19, y20, y21, y22, g1, g2, g3⟩ := lw_lap (O := O) (x17 := some i) (x18 := x18) (x19 := x19) (x20 := x20) (x21 := x21) (x22 := x22) (cs := cs) (t := t) (r := r) h h0 (by omega) hc
    obtain ⟨t2, r2, z17, z18, z19, z20, z21, z22, k1, k2, k3⟩ := lw_laps h hc is t1 r1 (some i) y18 y19 y20 y21 y22 (by omega) (by omega)
    exact ⟨t2, r2, z17, z18, z19, z20, z21, z22, by omega, by rw [List.length_cons]; omega, forW_cons (env1 := lE O hs (some i) x18 x19 x20 x21 x22) rfl g3 k3⟩
end
end Law

namespace Law
open PySem PySem.Spec PyProof.Rows L2 Mi
theorem lc_hand {cs : List Int} {e n : Int} {E : Wv → Wv → Ev} {E0 : Ev} (hc : cs.length ≤ 1000) (hs : ∀ (p : P2) M, Tg.set (.tp [7, 8]) (mkP p) E0 M = .ok (E (.int p.1) (.int p.2)) M)
    (v1 : ∀ x y, (E x y)[1]? = some (some (.ref 0))) (v4 : ∀ x y, (E x y)[4]? = some (some (.int e))) (v5 : ∀ x y, (E x y)[5]? = some (some (.int n))) (v7 : ∀ x y, (E x y)[7]? = some (some x)) (v8 : ∀ x y, (E x y)[8]? = some (some y)) :
    ∀ (ps : List P2) (acc : List Wv) (t r : Int), 0 ≤ t → t + ps.length ≤ 980000 → acc.length + ps.length ≤ lim → ∃ (qs : List (Bool × P2)) (t' r' : Int), qs.map (·.2) = ps.map (shf e n) ∧ t ≤ t' ∧ t' ≤ t + ps.length ∧
      lcW (.tp [7, 8]) mtYes e_law_1 E0 (ps.map mkP) acc [pawO cs t r] = .ok (.lst (acc ++ qs.map pw)) [pawO cs t' r']
  | [], acc, t, r, _, _, _ => ⟨[], t, r, rfl, by omega, by simp, by rw [List.map_nil, x_lc0]; simp⟩
  | p :: ps, acc, t, r, h0, h1, h2 => by
    have hlim : lim = _ := lim_is
    rw [List.length_cons] at h1 h2
    have var : ∀ {i : Nat} {w : Wv} {E : Ev} {M : Mem}, E[i]? = some (some w) → mVar i E M = .ok w M := fun {i w E M} h => by unfold mVar; rw [h]
    obtain ⟨w, t1, r1, a1, a2, a3, e1⟩ := r_pick (cs := cs) (t := t) (r := r) (ws := [pw (true, shf e n p), pw (false, shf e n p)]) [] (by simp) (by simp) h0 (by omega) hc
    obtain ⟨b, rfl⟩ : ∃ b, w = pw (b, shf e n p) := by
      simp only [List.mem_cons, List.not_mem_nil, or_false] at a1
      rcases a1 with rfl | rfl
      · exact ⟨true, rfl⟩
      · exact ⟨false, rfl⟩
    obtain ⟨qs, t2, r2, k1, k2, k3, k4⟩ := lc_hand hc hs v1 v4 v5 v7 v8 ps (acc ++ [pw (b, shf e n p)]) t1 r1 (by omega) (by omega) (by simp; omega)
    refine ⟨(b, shf e n p) :: qs, t2, r2, by rw [List.map_cons, List.map_cons, k1], by omega, by rw [List.length_cons]; omega, ?_⟩
    have s1 : ∀ M, mBin addW (mVar 7) (mVar 4) (E (.int p.1) (.int p.2)) M = .ok (.int (p.1 + e)) M := fun M => bin_ (var (v7 _ _)) (var (v4 _ _)) rfl
    have s2 : ∀ M, mBin addW (mVar 8) (mVar 5) (E (.int p.1) (.int p.2)) M = .ok (.int (p.2 + n)) M := fun M => bin_ (var (v8 _ _)) (var (v5 _ _)) rfl
    have s3 : e_law_1 (E (.int p.1) (.int p.2)) [pawO cs t r] = .ok (pw (b, shf e n p)) [pawO cs t1 r1] :=
      app_ (mac2_ (var (v1 _ _)) (lst_ (mac2_ (lst_ (mac2_ (s1 _) (s2 _)) (by simp [hlim])) (tup_ (mac2_ (s1 _) (s2 _)) (by simp [hlim]))) (by simp [hlim]))) rfl e1
    rw [List.map_cons, x_lc1, hs, noX_ok, kLc2_ok, x_yes, noX_ok, kLc3_t, s3, noX_ok, kLc4_ok, if_pos (by omega), k4]
    simp
abbrev P25 (ps : List P2) : Prop := Gw 25 ps
theorem gw_hm {ps : List P2} (h : Gw 25 ps) : Hm (home ps) := by
  have hl := h.len
  refine ⟨fun e => h.ne (List.length_eq_zero_iff.mp (by rw [← home_len ps, e]; rfl)), home_nodup h.nd, by rw [home_len]; omega, fun q hq => ?_⟩
  have := home_in (n := 24) (ps := ps) (fun p hp => by have := h.bd p hp; omega) q hq
  omega
theorem gw_near {ps : List P2} (h : Gw 25 ps) {e n : Int} (he : -900000 ≤ e ∧ e ≤ 900000) (hn : -900000 ≤ n ∧ n ≤ 900000) : ∀ p ∈ ps.map (shf e n), Near p := fun p hp => by
  obtain ⟨q, hq, rfl⟩ := List.mem_map.mp hp
  have := h.bd q hq
  have := h.len
  refine ⟨by show -1000000 ≤ q.1 + e; omega, by show q.1 + e ≤ 1000000; omega, by show -1000000 ≤ q.2 + n; omega, by show q.2 + n ≤ 1000000; omega⟩
theorem shf_nd {ps : List P2} (h : ps.Nodup) (e n : Int) : (ps.map (shf e n)).Nodup := List.pairwise_map.mpr (h.imp fun {a b} hne heq => hne (by
  have e1 := congrArg Prod.fst heq
  have e2 := congrArg Prod.snd heq
  exact Prod.ext (by simpa [shf] using e1) (by simpa [shf] using e2)))
theorem fl_moved {ps : List P2} {M : Mem} {t : Bool} {qs : List (Bool × P2)} {e n : Int} (hM : Held M) (h : Gw 25 ps) (hq : qs.map (·.2) = ps.map (shf e n)) (he : -900000 ≤ e ∧ e ≤ 900000) (hn : -900000 ≤ n ∧ n ≤ 900000) : k_Floor [sqv t (qs.map pw)] M = .ok (flV (home ps)) M := by
  have hl := h.len
  rw [r_floor hM hq (by simpa using h.ne) (by rw [List.length_map]; omega) (shf_nd h.nd e n) (gw_near h he hn) (h.cn.shift e n), home_shift h.ne]
theorem plain_is (ps : List P2) : Wv.lst (ps.map mkP) = sqv false ((ps.map fun p => (false, p)).map pw) := by
  show Wv.lst _ = Wv.lst _
  rw [List.map_map]
  rfl
theorem fl_plain {ps : List P2} {M : Mem} (hM : Held M) (h1 : ps ≠ []) (h2 : ps.length < 64) (hn : ps.Nodup) (hb : ∀ p ∈ ps, Near p) (hc : Conn ps) : k_Floor [.lst (ps.map mkP)] M = .ok (flV (home ps)) M := by
  rw [plain_is]
  exact r_floor hM (by rw [List.map_map]; exact List.map_id _) h1 h2 hn hb hc
theorem fl_rev {ps : List P2} {M : Mem} (hM : Held M) (h : Gw 25 ps) : k_Floor [.lst (ps.reverse.map mkP)] M = .ok (flV (home ps)) M := by
  have hl := h.len
  rw [fl_plain hM (by simpa using h.ne) (by rw [List.length_reverse]; omega) ((List.reverse_perm ps).nodup_iff.mpr h.nd) (fun p hp => ?_) (h.cn.iff fun p => by simp), home_perm (List.reverse_perm ps)]
  have := h.bd p (by simpa using hp)
  unfold Near
  omega
theorem fl_more {ps : List P2} {M : Mem} {p : P2} (hM : Held M) (h : Gw 25 ps) (hp : p ∈ ps) (hf : p.1 = bst true (ps.map (·.1))) : k_Floor [.lst ((ps ++ [(bst true (ps.map (·.1)) + 1, p.2)]).map mkP)] M = .ok (flV (home (ps ++ [(bst true (ps.map (·.1)) + 1, p.2)]))) M := by
  have hl := h.len
  have e : (bst true (ps.map (·.1)) + 1, p.2) = nb p (1, 0) := Prod.ext (by show _ = p.1 + 1; rw [hf]) (by show p.2 = p.2 + 0; omega)
  have hnot : nb p (1, 0) ∉ ps := fun hm => by
    have := le_max (is := ps.map (·.1)) (List.mem_map.mpr ⟨_, hm, rfl⟩)
    have e2 : (nb p (1, 0)).1 = p.1 + 1 := rfl
    omega
  rw [e]
  have g := Gw.add (n := 26) ⟨h.ne, h.nd, h.cn, by omega, h.bd⟩ hp (d := (1, 0)) (by decide) hnot (by omega)
  have gl := g.len
  exact fl_plain hM g.ne (by omega) g.nd (fun q hq => by have := g.bd q hq; unfold Near; omega) g.cn
theorem more_ne {ps : List P2} (q : P2) : home (ps ++ [q]) ≠ home ps := fun e => by
  have := congrArg List.length e
  rw [home_len, home_len] at this
  simp at this
theorem str_fl {hs : List P2} (h : Hm hs) {M : Mem} (hM : Held M) {a : Me} {E : Ev} (ha : a E M = .ok (flV hs) M) : mCall (un1 (strI ["Floor"] m_Floor___str__ str1)) (maC a maN) E M = .ok (.str (txt hs)) M := by
  refine call_ (mac1_ ha) ?_
  show (if (["Floor"] : List Str).contains "Floor" = true then (m_Floor___str__ [flV hs] M).bind fun w M1 => match w with
    | .str s => R.ok (Wv.str s) M1
    | _ => .no else .no) = _
  rw [r_str hM h]
  exact if_pos (by decide +kernel)

structure Ts where
  (x0 x2 x3 x4 x5 x6 x7 x8 x9 x10 x11 x12 x13 x14 x15 x16 x17 x18 x19 x20 x21 x22 : Option Wv)
abbrev tE (T : Ts) : Ev := [T.x0, some (.ref 0), T.x2, T.x3, T.x4, T.x5, T.x6, T.x7, T.x8, T.x9, T.x10, T.x11, T.x12, T.x13, T.x14, T.x15, T.x16, T.x17, T.x18, T.x19, T.x20, T.x21, T.x22]
theorem var_ {i : Nat} {w : Wv} {E : Ev} {M : Mem} (h : E[i]? = some (some w)) : mVar i E M = .ok w M := by unfold mVar; rw [h]
theorem moves {xs : List Int} {w : Wv} {lo hi : Int} (h : w ∈ xs.map Wv.int) (hx : ∀ i ∈ xs, lo ≤ i ∧ i ≤ hi) : ∃ i, w = .int i ∧ lo ≤ i ∧ i ≤ hi := by
  obtain ⟨i, hi, rfl⟩ := List.mem_map.mp h
  exact ⟨i, rfl, hx i hi⟩
theorem slA_one {xs : List Wv} {x : Wv} {E : Ev} {M : Mem} {a : Me} (h : a E M = .ok (.lst (x :: xs)) M) : mSlA a moN (moS (mC (.int 1))) E M = .ok (.lst [x]) M := by
  unfold mSlA
  rw [h]
  show R.ok (Wv.lst (cutW (x :: xs) none (some 1))) M = _
  have : cutW (x :: xs) none (some 1) = [x] := by
    unfold cutW
    rw [HT.sIx_none, show (1 : Int) = ((1 : Nat) : Int) from rfl, HT.sIx_nat, List.length_cons]
    simp
  rw [this]
theorem shows4 {hs : List P2} (h : Hm hs) : Shows (.lst [.tup (hs.map mkP), .int (wid hs), .int (hei hs), .str (txt hs)]) := by
  have hw := h.w
  have hh := h.h
  have w2 : wid hs = bst true (hs.map (·.1)) + 1 := rfl
  have h2 : hei hs = bst true (hs.map (·.2)) + 1 := rfl
  have hl := h.len
  have tl := txt_len h
  have t1 : Tame 24502 4 (.tup (hs.map mkP)) := (Tames.tup (tames_of fun w hw => by
    obtain ⟨p, hp, rfl⟩ := List.mem_map.mp hw
    exact tame_p (k := 2) (near_10 (h.near hp)))).mono (by rw [List.length_map]; omega) (by decide)
  have t2 : Tame 24502 4 (.int (wid hs)) := (tame_int (j := 7) (by decide) (by decide) (by omega)).mono (by decide) (Nat.le_refl 4)
  have t3 : Tame 24502 4 (.int (hei hs)) := (tame_int (j := 7) (by decide) (by decide) (by omega)).mono (by decide) (Nat.le_refl 4)
  have t4 : Tame 24502 4 (.str (txt hs)) := sg_tame (txt_sg hs) (by omega)
  exact (Tames.lst (tames_cons t1 (tames_cons t2 (tames_cons t3 (tames_cons t4 tames_nil))))).shows (by show 4 * (24502 + 2) + 3 ≤ lim; decide +kernel) (by decide)
theorem shows_hand {qs : List (Bool × P2)} (hl : qs.length ≤ 25) (h : ∀ q ∈ qs, Near q.2) : Shows (.lst (qs.map pw)) := by
  have := (Tames.lst (tames_of (n := 23) (k := 3) (ws := qs.map pw) fun w hw => by
    obtain ⟨q, hq, rfl⟩ := List.mem_map.mp hw
    exact tame_pw (k := 2) (near_10 (h q hq)))).mono (m := 5000) (j := 5) (by rw [List.length_map]; omega) (by decide)
  exact this.shows (by decide +kernel) (by decide)
/-- one turn of the law -/
theorem l_turn {cs : List Int} {t r : Int} (T : Ts) (hc : cs.length ≤ 1000) (h0 : 0 ≤ t) (ht : t ≤ 800000) : ∃ (T' : Ts) (t' r' : Int), t ≤ t' ∧ t' ≤ t + 1000 ∧ b_law_10 (tE T) [pawO cs t r] = .ok (.nx (tE T')) [pawO cs t' r'] := by
  have hlim : lim = _ := lim_is
  obtain ⟨w0, t0, r0, a1, a2, a3, e0⟩ := r_pick (cs := cs) (t := t) (r := r) (ws := [.int 1, .int 2, .int 4, .int 8, .int 25]) [] (by simp) (by simp) h0 (by omega) hc
  obtain ⟨n, rfl, n1, n2⟩ : ∃ n : Nat, w0 = .int (n : Nat) ∧ 1 ≤ n ∧ n ≤ 25 := by
    simp only [List.mem_cons, List.not_mem_nil, or_false] at a1
    rcases a1 with rfl | rfl | rfl | rfl | rfl
    · exact ⟨1, rfl, by decide, by decide⟩
    · exact ⟨2, rfl, by decide, by decide⟩
    · exact ⟨4, rfl, by decide, by decide⟩
    · exact ⟨8, rfl, by decide, by decide⟩
    · exact ⟨25, rfl, by decide, by decide⟩
  obtain ⟨ps, t1, r1, g0, b1, b2, e1⟩ := r_grown (n := n) (cs := cs) (t := t0) (r := r0) n1 (by omega) hc (by omega) (by omega)
  have g : Gw 25 ps := ⟨g0.ne, g0.nd, g0.cn, Nat.le_trans g0.len n2, g0.bd⟩
  have gl := g.len
  have hm := gw_hm g
  have hml := hm.len
  let hs := home ps
  have hsl : hs.length < 64 := hm.len
  obtain ⟨w2, t2, r2, c1, c2, c3, e2⟩ := r_pick (cs := cs) (t := t1) (r := r1) (ws := [.int 0, .int 7, .int (-900000), .int 900000]) [] (by simp) (by simp) (by omega) (by omega) hc
  obtain ⟨e, rfl, le1, le2⟩ := moves (xs := [0, 7, -900000, 900000]) (lo := -900000) (hi := 900000) c1 (by decide)
  obtain ⟨w3, t3, r3, d1, d2, d3, e3⟩ := r_pick (cs := cs) (t := t2) (r := r2) (ws := [.int 0, .int (-3), .int 900000]) [] (by simp) (by simp) (by omega) (by omega) hc
  obtain ⟨no, rfl, ln1, ln2⟩ := moves (xs := [0, -3, 900000]) (lo := -900000) (hi := 900000) d1 (by decide)
  let T1 : Ts := { T with x3 := some (.lst (ps.map mkP)) }
  let T2 : Ts := { T1 with x4 := some (.int e), x5 := some (.int no) }
  have s1 : sSet 3 (mApp 2 m_law_grown (maC (mVar 1) (maC (mApp 2 m_law_pick (maC (mVar 1) (maC (mLst (maC (mC (.int 1)) (maC (mC (.int 2)) (maC (mC (.int 4)) (maC (mC (.int 8)) (maC (mC (.int 25)) (maN))))))) (maN)))) (maN)))) (tE T) [pawO cs t r] = .ok (.nx (tE T1)) [pawO cs t1 r1] :=
    set_ (app_ (mac2_ rfl (app_ (mac2_ rfl rfl) rfl e0)) rfl e1)
  have s2 : sUnp (.tp [4, 5]) (mTup (maC (mApp 2 m_law_pick (maC (mVar 1) (maC (mLst (maC (mC (.int 0)) (maC (mC (.int 7)) (maC (mUn negW (mC (.int 900000))) (maC (mC (.int 900000)) (maN)))))) (maN)))) (maC (mApp 2 m_law_pick (maC (mVar 1) (maC (mLst (maC (mC (.int 0)) (maC (mUn negW (mC (.int 3))) (maC (mC (.int 900000)) (maN))))) (maN)))) (maN)))) (tE T1) [pawO cs t1 r1] = .ok (.nx (tE T2)) [pawO cs t3 r3] :=
    unp_ (tup_ (mac2_ (app_ (mac2_ rfl rfl) rfl e2) (app_ (mac2_ rfl rfl) rfl e3)) (by simp [hlim])) rfl
  obtain ⟨qs, t4, r4, q1, q2, q3, q4⟩ := lc_hand (cs := cs) (e := e) (n := no) (E0 := tE { T2 with x7 := none, x8 := none }) (E := fun x y => tE { T2 with x7 := some x, x8 := some y }) hc (fun p M => rfl) (fun _ _ => rfl) (fun _ _ => rfl) (fun _ _ => rfl) (fun _ _ => rfl) (fun _ _ => rfl) ps [] t3 r3 (by omega) (by omega) (by simp; omega)
  have ql : qs.length = ps.length := by have := congrArg List.length q1; simpa using this
  have qn : ∀ q ∈ qs, Near q.2 := fun q hq => gw_near g ⟨le1, le2⟩ ⟨ln1, ln2⟩ q.2 (by rw [← q1]; exact List.mem_map.mpr ⟨q, hq, rfl⟩)
  let hv : Wv := .lst (qs.map pw)
  let T3 : Ts := { T2 with x6 := some hv }
  have s3 : sSet 6 (mLc [7, 8] (.tp [7, 8]) (mSeqI (mVar 3)) (mtYes) (e_law_1)) (tE T2) [pawO cs t3 r3] = .ok (.nx (tE T3)) [pawO cs t4 r4] := by
    rw [List.nil_append] at q4
    exact set_ (lc_ rfl q4)
  have sh := shows_hand (by omega) qn
  let T4 : Ts := { T3 with x9 := some (.str (shownOf hv)), x10 := some (.tup (hs.map mkP)) }
  have s4 : sPar2 9 10 (maC (mCall reprD (maC (mVar 6) (maN))) (maC (mApp 1 m_law_home (maC (mVar 3) (maN))) (maN))) (tE T3) [pawO cs t4 r4] = .ok (.nx (tE T4)) [pawO cs t4 r4] :=
    par2_ (mac2_ (c_shown rfl sh) (app_ (mac1_ rfl) rfl (r_lhome g.ne (by omega) _)))
  obtain ⟨w5, t5, r5, f1, f2, f3, e5⟩ := r_pick (cs := cs) (t := t4) (r := r4) (ws := [hv, .tup (qs.map pw)]) [] (by simp) (by simp) (by omega) (by omega) hc
  obtain ⟨b, rfl⟩ : ∃ b, w5 = sqv b (qs.map pw) := by
    simp only [List.mem_cons, List.not_mem_nil, or_false] at f1
    rcases f1 with rfl | rfl
    · exact ⟨false, rfl⟩
    · exact ⟨true, rfl⟩
  let T5 : Ts := { T4 with x11 := some (flV hs) }
  have s5 : sSet 11 (mApp 1 k_Floor (maC (mApp 2 m_law_pick (maC (mVar 1) (maC (mLst (maC (mVar 6) (maC (mCall tupW (maC (mVar 6) (maN))) (maN)))) (maN)))) (maN))) (tE T4) [pawO cs t4 r4] = .ok (.nx (tE T5)) [pawO cs t5 r5] :=
    set_ (app_ (mac1_ (app_ (mac2_ rfl (lst_ (mac2_ rfl rfl) (by simp [hlim]))) rfl e5)) rfl (fl_moved (held_paw _ _ _) g q1 ⟨le1, le2⟩ ⟨ln1, ln2⟩))
  let M5 : Mem := [pawO cs t5 r5]
  have hM : Held M5 := held_paw _ _ _
  let T6 : Ts := { T5 with x12 := some (.int (wid hs)), x13 := some (.int (hei hs)) }
  have mx1 : ∀ T : Ts, T.x10 = some (.tup (hs.map mkP)) → mCall (un1 (bestW true)) (maC (mLc [7, 8] (.tp [7, 8]) (mSeqI (mVar 10)) (mtYes) (mVar 7)) (maN)) (tE T) M5 = .ok (.int (bst true (hs.map (·.1)))) M5 := fun T hT => by
    have l1 : mLc [7, 8] (.tp [7, 8]) (mSeqI (mVar 10)) (mtYes) (mVar 7) (tE T) M5 = .ok (.lst ((hs.map (·.1)).map .int)) M5 := by
      rw [← map_fst]
      refine lc_all _ ?_ (fun q _ => ⟨_, rfl, rfl⟩) (by omega)
      show ((mVar 10 (tE T) M5).bind _) = _
      rw [var_ (show (tE T)[10]? = some (some (.tup (hs.map mkP))) from by show some T.x10 = _; rw [hT])]
      rfl
    exact call_ (mac1_ l1) (best_is (big := true) (by simpa using hm.ne) _)
  have mx2 : ∀ T : Ts, T.x10 = some (.tup (hs.map mkP)) → mCall (un1 (bestW true)) (maC (mLc [7, 8] (.tp [7, 8]) (mSeqI (mVar 10)) (mtYes) (mVar 8)) (maN)) (tE T) M5 = .ok (.int (bst true (hs.map (·.2)))) M5 := fun T hT => by
    have l1 : mLc [7, 8] (.tp [7, 8]) (mSeqI (mVar 10)) (mtYes) (mVar 8) (tE T) M5 = .ok (.lst ((hs.map (·.2)).map .int)) M5 := by
      rw [← map_snd]
      refine lc_all _ ?_ (fun q _ => ⟨_, rfl, rfl⟩) (by omega)
      show ((mVar 10 (tE T) M5).bind _) = _
      rw [var_ (show (tE T)[10]? = some (some (.tup (hs.map mkP))) from by show some T.x10 = _; rw [hT])]
      rfl
    exact call_ (mac1_ l1) (best_is (big := true) (by simpa using hm.ne) _)
  have s6 : sPar2 12 13 (maC (mBin addW (mCall (un1 (bestW true)) (maC (mLc [7, 8] (.tp [7, 8]) (mSeqI (mVar 10)) (mtYes) (mVar 7)) (maN))) (mC (.int 1))) (maC (mBin addW (mCall (un1 (bestW true)) (maC (mLc [7, 8] (.tp [7, 8]) (mSeqI (mVar 10)) (mtYes) (mVar 8)) (maN))) (mC (.int 1))) (maN))) (tE T5) M5 = .ok (.nx (tE T6)) M5 :=
    par2_ (mac2_ (bin_ (mx1 T5 rfl) rfl rfl) (bin_ (mx2 T5 rfl) rfl rfl))
  have strF : ∀ T : Ts, T.x11 = some (flV hs) → mCall (un1 (strI ["Floor"] m_Floor___str__ str1)) (maC (mVar 11) maN) (tE T) M5 = .ok (.str (txt hs)) M5 := fun T hT => str_fl hm hM (by
    exact var_ (show (tE T)[11]? = some (some (flV hs)) from by show some T.x11 = _; rw [hT]))
  have s7 : i_law_2 (tE T6) M5 = .ok (.nx (tE T6)) M5 := by
    have v1 : mLst (maC (mUn (fldW es_cells is_cells "cells") (mVar 11)) (maC (mUn (fldW es_width is_width "width") (mVar 11)) (maC (mUn (fldW es_height is_height "height") (mVar 11)) (maC (mCall (un1 (strI ["Floor"] m_Floor___str__ str1)) (maC (mVar 11) (maN))) (maN))))) (tE T6) M5 = .ok (.lst [.tup (hs.map mkP), .int (wid hs), .int (hei hs), .str (txt hs)]) M5 :=
      lst_ (mac_ rfl (mac_ rfl (mac_ rfl (mac1_ (strF T6 rfl))))) (by simp [hlim])
    have v2 : mLst (maC (mVar 10) (maC (mVar 12) (maC (mVar 13) (maC (mApp 1 m_law_text (maC (mVar 10) (maN))) (maN))))) (tE T6) M5 = .ok (.lst [.tup (hs.map mkP), .int (wid hs), .int (hei hs), .str (txt hs)]) M5 :=
      lst_ (mac_ rfl (mac_ rfl (mac_ rfl (mac1_ (app_ (mac1_ rfl) rfl (r_ltext hM hm)))))) (by simp [hlim])
    exact sif_f (tor_f (ne_repr v1 v2 (shows4 hm)) (tcmp_ (c_shown rfl sh) rfl (zv_rr _ sh.1 _))) rfl
  let T7 : Ts := { T6 with x14 := some (flV hs) }
  have s8 : sSet 14 (mAppK 1 0 1 [0] k_Floor maN (maC (mUn revW (mVar 3)) (maN))) (tE T6) M5 = .ok (.nx (tE T7)) M5 := by
    refine set_ (appK_ rfl (mac1_ (w := .lst (ps.reverse.map mkP)) ?_) ⟨rfl, rfl, rfl⟩ (fl_rev hM g))
    refine un_ rfl ?_
    show R.ok (Wv.lst (ps.map mkP).reverse) M5 = _
    rw [List.map_reverse]
  let far : Int := bst true (ps.map (·.1))
  let T8 : Ts := { T7 with x15 := some (.int far) }
  have s9 : sSet 15 (mCall (un1 (bestW true)) (maC (mLc [7, 8] (.tp [7, 8]) (mSeqI (mVar 3)) (mtYes) (mVar 7)) (maN))) (tE T7) M5 = .ok (.nx (tE T8)) M5 := by
    have l1 : mLc [7, 8] (.tp [7, 8]) (mSeqI (mVar 3)) (mtYes) (mVar 7) (tE T7) M5 = .ok (.lst ((ps.map (·.1)).map .int)) M5 := by
      rw [← map_fst]
      exact lc_all _ rfl (fun q _ => ⟨_, rfl, rfl⟩) (by omega)
    exact set_ (call_ (mac1_ l1) (best_is (big := true) (by simpa using g.ne) _))
  let fs := ps.filter fun q => q.1 == far
  let T9 : Ts := { T8 with x16 := some (.lst (fs.map fun q => mkP (far + 1, q.2))) }
  have s10 : sSet 16 (mLc [7, 8] (.tp [7, 8]) (mSeqI (mVar 3)) (t_law_3) (e_law_4)) (tE T8) M5 = .ok (.nx (tE T9)) M5 := by
    refine set_ (lc_ps (fun q => q.1 == far) (fun q => mkP (far + 1, q.2)) rfl (fun q hq => ⟨tE { T8 with x7 := some (.int q.1), x8 := some (.int q.2) }, rfl, tcmp_ rfl rfl (zv_eqi _ _ _), fun _ => ?_⟩) (by omega))
    exact tup_ (mac2_ rfl rfl) (by simp [hlim])
  obtain ⟨p, hp, hpf⟩ := List.mem_map.mp (bst_mem (big := true) (is := ps.map (·.1)) (by simpa using g.ne))
  obtain ⟨p', rest, hfs⟩ : ∃ p' rest, fs = p' :: rest := by
    cases hf : fs with
    | nil =>
      have : p ∈ fs := List.mem_filter.mpr ⟨hp, by simpa using hpf⟩
      rw [hf] at this
      cases this
    | cons p' rest => exact ⟨p', rest, rfl⟩
  have hp' : p' ∈ ps ∧ p'.1 = far := by
    have : p' ∈ fs := by rw [hfs]; exact List.mem_cons_self
    obtain ⟨h1, h2⟩ := List.mem_filter.mp this
    exact ⟨h1, by simpa using h2⟩
  have s11 : i_law_5 (tE T9) M5 = .ok (.nx (tE T9)) M5 := by
    have u1 : mtCmp (eqI ["Floor"] ["Floor"] m_Floor___eq__ true (eqW true)) (mVar 14) (mVar 11) (tE T9) M5 = .ok false M5 := (tcmp_ rfl rfl (eqi_fl true hs hs M5 _)).trans (by simp)
    have u2 : mtCmp (eqI ["Floor"] ["Floor"] m_Floor___eq__ false (eqW false)) (mVar 11) (mVar 10) (tE T9) M5 = .ok false M5 := tcmp_ rfl rfl (eqi_tup false hs _ M5 _)
    have u3 : mtCmp (eqI ["Floor"] ["Floor"] m_Floor___eq__ false (eqW false)) (mVar 11) (mCall (un1 (strI ["Floor"] m_Floor___str__ str1)) (maC (mVar 11) (maN))) (tE T9) M5 = .ok false M5 := tcmp_ rfl (strF T9 rfl) (eqi_str false hs _ M5 _)
    have m1 : mSlA (mVar 16) (moN) (moS (mC (.int 1))) (tE T9) M5 = .ok (.lst [mkP (far + 1, p'.2)]) M5 := slA_one (xs := rest.map fun q => mkP (far + 1, q.2)) (by
      show R.ok (Wv.lst (fs.map fun q => mkP (far + 1, q.2))) M5 = _
      rw [hfs]
      rfl)
    have m2 : mBin addW (mVar 3) (mSlA (mVar 16) (moN) (moS (mC (.int 1)))) (tE T9) M5 = .ok (.lst ((ps ++ [(far + 1, p'.2)]).map mkP)) M5 := by
      refine bin_ rfl m1 ?_
      show (if (ps.map mkP).length + [mkP (far + 1, p'.2)].length ≤ lim then R.ok (Wv.lst (ps.map mkP ++ [mkP (far + 1, p'.2)])) M5 else .no) = _
      rw [if_pos (by simp; omega), List.map_append]
      rfl
    have u4 : mtCmp (eqI ["Floor"] ["Floor"] m_Floor___eq__ false (eqW false)) (mApp 1 k_Floor (maC (mBin addW (mVar 3) (mSlA (mVar 16) (moN) (moS (mC (.int 1))))) (maN))) (mVar 11) (tE T9) M5 = .ok false M5 :=
      (tcmp_ (app_ (mac1_ m2) rfl (fl_more hM g hp'.1 hp'.2)) rfl (eqi_fl false _ hs M5 _)).trans (by rw [decide_eq_false (more_ne _)]; rfl)
    exact sif_f (tor_f u1 (tor_f u2 (tor_f u3 u4))) rfl
  obtain ⟨t6, r6, z17, z18, z19, z20, z21, z22, k1, k2, k3⟩ := lw_laps (O := ⟨T9.x0, T9.x2, T9.x3, T9.x4, T9.x5, T9.x6, T9.x7, T9.x8, T9.x9, T9.x14, T9.x15, T9.x16⟩) (cs := cs) hm hc (rng 0 8) t5 r5 T9.x17 T9.x18 T9.x19 T9.x20 T9.x21 T9.x22 (by omega) (by show t5 + 5 * ((8 : Nat) : Int) ≤ _; omega)
  have k2 : t6 ≤ t5 + 5 * ((8 : Nat) : Int) := k2
  refine ⟨{ T9 with x17 := z17, x18 := z18, x19 := z19, x20 := z20, x21 := z21, x22 := z22 }, t6, r6, by omega, by omega, ?_⟩
  unfold b_law_10
  exact seq_ s1 (seq_ s2 (seq_ s3 (seq_ s4 (seq_ s5 (seq_ s6 (seq_ s7 (seq_ s8 (seq_ s9 (seq_ s10 (seq_ s11 (for_ (ws := rng 0 8) rfl k3)))))))))))
theorem holds (ns : List Int) : ∃ M, m_law [.rdl (ns.map .int)] [] = .ok (.bl true) M := by
  have hc : (ns.take 53).length ≤ 1000 := by rw [List.length_take]; omega
  let T0 : Ts := ⟨some (.rdl (ns.map .int)), none, none, none, none, none, none, none, none, none, none, none, none, none, none, none, none, none, none, none, none, none⟩
  have s1 : sSet 1 (mApp 1 m_law_paw (maC (mVar 0) (maN))) (evStart 23 [.rdl (ns.map .int)]) [] = .ok (.nx (tE T0)) [pawO (ns.take 53) 0 0] := set_ (app_ (mac1_ rfl) rfl (r_paw ns))
  obtain ⟨T1, t1, r1, a1, a2, a3⟩ := l_turn (cs := ns.take 53) (t := 0) (r := 0) { T0 with x2 := some (.int (0 + (0 : Nat))) } hc (by omega) (by omega)
  obtain ⟨T2, t2, r2, b1, b2, b3⟩ := l_turn (cs := ns.take 53) (t := t1) (r := r1) { T1 with x2 := some (.int (0 + (1 : Nat))) } hc (by omega) (by omega)
  obtain ⟨T3, t3, r3, c1, c2, c3⟩ := l_turn (cs := ns.take 53) (t := t2) (r := r2) { T2 with x2 := some (.int (0 + (2 : Nat))) } hc (by omega) (by omega)
  refine ⟨[pawO (ns.take 53) t3 r3], ?_⟩
  unfold m_law
  have lp : forW (.nm 2) b_law_10 [.int (0 + (0 : Nat)), .int (0 + (1 : Nat)), .int (0 + (2 : Nat))] (tE T0) [pawO (ns.take 53) 0 0] = .ok (.nx (tE T3)) [pawO (ns.take 53) t3 r3] := forW_cons rfl a3 (forW_cons rfl b3 (forW_cons rfl c3 rfl))
  exact fn_ (seq_ s1 (seq_ (for_ rfl lp) (ret_ rfl)))
end Law

namespace Law
open PySem PySem.Spec PyProof.Rows L2 Mi
abbrev N_Floor___eq__ : List Str := ["self", "other"]
theorem sc_Floor___eq__ : FnScope ["self", "other"] ["self", "other"] (defScope s_Floor___eq__) := ⟨rfl, rfl, rfl, by decide +kernel, rfl, by decide +kernel, by decide +kernel⟩
abbrev N_neighbour : List Str := ["cell", "side"]
theorem sc_neighbour : FnScope ["cell", "side"] ["cell", "side"] (defScope s_neighbour) := ⟨rfl, rfl, rfl, by decide +kernel, rfl, by decide +kernel, by decide +kernel⟩
abbrev N_hanging : List Str := ["known", "first", "found", "going", "cell", "side", "other"]
theorem sc_hanging : FnScope ["known", "first", "found", "going", "cell", "side", "other"] ["known", "first"] (defScope s_hanging) := ⟨rfl, rfl, rfl, by decide +kernel, rfl, by decide +kernel, by decide +kernel⟩
abbrev N_lots_in : List Str := ["cells", "left", "found", "cell", "each"]
theorem sc_lots_in : FnScope ["cells", "left", "found", "cell", "each"] ["cells"] (defScope s_lots_in) := ⟨rfl, rfl, rfl, by decide +kernel, rfl, by decide +kernel, by decide +kernel⟩
abbrev N_moved_home : List Str := ["cells", "left", "low", "x", "_", "y"]
theorem sc_moved_home : FnScope ["cells", "left", "low", "x", "_", "y"] ["cells"] (defScope s_moved_home) := ⟨rfl, rfl, rfl, by decide +kernel, rfl, by decide +kernel, by decide +kernel⟩
abbrev N_is_integer : List Str := ["value"]
theorem sc_is_integer : FnScope ["value"] ["value"] (defScope s_is_integer) := ⟨rfl, rfl, rfl, by decide +kernel, rfl, by decide +kernel, by decide +kernel⟩
abbrev N_is_within : List Str := ["value", "least", "most"]
theorem sc_is_within : FnScope ["value", "least", "most"] ["value", "least", "most"] (defScope s_is_within) := ⟨rfl, rfl, rfl, by decide +kernel, rfl, by decide +kernel, by decide +kernel⟩
abbrev N_is_cell : List Str := ["value", "each"]
theorem sc_is_cell : FnScope ["value", "each"] ["value"] (defScope s_is_cell) := ⟨rfl, rfl, rfl, by decide +kernel, rfl, by decide +kernel, by decide +kernel⟩
abbrev N_need_cells : List Str := ["value", "part", "least", "each", "found"]
theorem sc_need_cells : FnScope ["value", "part", "least", "each", "found"] ["value", "part", "least"] (defScope s_need_cells) := ⟨rfl, rfl, rfl, by decide +kernel, rfl, by decide +kernel, by decide +kernel⟩
abbrev N_Floor___init__ : List Str := ["self", "cells", "told", "cell", "x", "_", "y"]
theorem sc_Floor___init__ : FnScope ["self", "cells", "told", "cell", "x", "_", "y"] ["self", "cells"] (defScope s_Floor___init__) := ⟨rfl, rfl, rfl, by decide +kernel, rfl, by decide +kernel, by decide +kernel⟩
abbrev N_Floor___str__ : List Str := ["self", "rows", "y", "x"]
theorem sc_Floor___str__ : FnScope ["self", "rows", "y", "x"] ["self"] (defScope s_Floor___str__) := ⟨rfl, rfl, rfl, by decide +kernel, rfl, by decide +kernel, by decide +kernel⟩
abbrev N_need_cell : List Str := ["value", "part"]
theorem sc_need_cell : FnScope ["value", "part"] ["value", "part"] (defScope s_need_cell) := ⟨rfl, rfl, rfl, by decide +kernel, rfl, by decide +kernel, by decide +kernel⟩
abbrev N_is_side : List Str := ["value"]
theorem sc_is_side : FnScope ["value"] ["value"] (defScope s_is_side) := ⟨rfl, rfl, rfl, by decide +kernel, rfl, by decide +kernel, by decide +kernel⟩
abbrev N_need_side : List Str := ["value", "part"]
theorem sc_need_side : FnScope ["value", "part"] ["value", "part"] (defScope s_need_side) := ⟨rfl, rfl, rfl, by decide +kernel, rfl, by decide +kernel, by decide +kernel⟩
abbrev N_Floor_beside : List Str := ["self", "cell", "side", "told", "other"]
theorem sc_Floor_beside : FnScope ["self", "cell", "side", "told", "other"] ["self", "cell", "side"] (defScope s_Floor_beside) := ⟨rfl, rfl, rfl, by decide +kernel, rfl, by decide +kernel, by decide +kernel⟩
abbrev N_Floor_has : List Str := ["self", "cell"]
theorem sc_Floor_has : FnScope ["self", "cell"] ["self", "cell"] (defScope s_Floor_has) := ⟨rfl, rfl, rfl, by decide +kernel, rfl, by decide +kernel, by decide +kernel⟩
abbrev N_law_tell : List Str := ["_law_paw_here", "_law_many", "_law_rest", "_law_turn", "_law_cell", "_law_mixed"]
theorem sc_law_tell : FnScope ["_law_paw_here", "_law_many", "_law_rest", "_law_turn", "_law_cell", "_law_mixed"] ["_law_paw_here", "_law_many"] (defScope s_law_tell) := ⟨rfl, rfl, rfl, by decide +kernel, rfl, by decide +kernel, by decide +kernel⟩
abbrev N_law_pick : List Str := ["_law_paw_here", "_law_some"]
theorem sc_law_pick : FnScope ["_law_paw_here", "_law_some"] ["_law_paw_here", "_law_some"] (defScope s_law_pick) := ⟨rfl, rfl, rfl, by decide +kernel, rfl, by decide +kernel, by decide +kernel⟩
abbrev N_law_grown : List Str := ["_law_paw_here", "_law_many", "_law_found", "_law_steps", "_law_turn", "_law_x", "_law_y", "_law_across", "_law_up"]
theorem sc_law_grown : FnScope ["_law_paw_here", "_law_many", "_law_found", "_law_steps", "_law_turn", "_law_x", "_law_y", "_law_across", "_law_up"] ["_law_paw_here", "_law_many"] (defScope s_law_grown) := ⟨rfl, rfl, rfl, by decide +kernel, rfl, by decide +kernel, by decide +kernel⟩
abbrev N_law_home : List Str := ["_law_cells", "_law_left", "_law_low", "_law_x", "_law_y"]
theorem sc_law_home : FnScope ["_law_cells", "_law_left", "_law_low", "_law_x", "_law_y"] ["_law_cells"] (defScope s_law_home) := ⟨rfl, rfl, rfl, by decide +kernel, rfl, by decide +kernel, by decide +kernel⟩
abbrev N_law_paw : List Str := ["_law_script", "_law_cell"]
theorem sc_law_paw : FnScope ["_law_script", "_law_cell"] ["_law_script"] (defScope s_law_paw) := ⟨rfl, rfl, rfl, by decide +kernel, rfl, by decide +kernel, by decide +kernel⟩
abbrev N_law_text : List Str := ["_law_cells", "_law_rows", "_law_y", "_law_x", "_law_up"]
theorem sc_law_text : FnScope ["_law_cells", "_law_rows", "_law_y", "_law_x", "_law_up"] ["_law_cells"] (defScope s_law_text) := ⟨rfl, rfl, rfl, by decide +kernel, rfl, by decide +kernel, by decide +kernel⟩
abbrev N_law : List Str := ["_law_script", "_law_paw_here", "_law_turn", "_law_drawn", "_law_east", "_law_north", "_law_handed", "_law_x", "_law_y", "_law_kept", "_law_cells", "_law_floor", "_law_width", "_law_height", "_law_other", "_law_far", "_law_more", "_law_lap", "_law_cell", "_law_side", "_law_across", "_law_up", "_law_near"]
theorem sc_law : FnScope ["_law_script", "_law_paw_here", "_law_turn", "_law_drawn", "_law_east", "_law_north", "_law_handed", "_law_x", "_law_y", "_law_kept", "_law_cells", "_law_floor", "_law_width", "_law_height", "_law_other", "_law_far", "_law_more", "_law_lap", "_law_cell", "_law_side", "_law_across", "_law_up", "_law_near"] ["_law_script"] (defScope s_law) := ⟨rfl, rfl, rfl, by decide +kernel, rfl, by decide +kernel, by decide +kernel⟩
abbrev si_BadNumber : Stmt := inClass (sAt 3) 0
theorem ns_BadNumber : NdefX.NScope ["self", "part", "__class__"] ["self", "part"] ["__class__"] (defScope si_BadNumber) := NdefX.nscope_by (by decide +kernel)
theorem w_BadNumber {mg : Str → Option Value} {P : Program} {K : PySem.W.Frag} {C : Addr} {fd : FuncData} (Z : XF P K "BadNumber" "BadNumber.__init__" si_BadNumber ["part"] C fd) (hs : mg "super" = none) : XOk P K mg C ["self", "part"] [("part", 1)] fd :=
  Z.ok hs ns_BadNumber (slf := "self") rfl (fun _ _ _ => ⟨⟨_, _, _, _, _, _, _, _, _, _, rfl, rfl, rfl, fun _ => rfl, fun _ => rfl, fun _ => rfl⟩, rfl, rfl, rfl⟩) (fun _ _ _ => .cons rfl rfl rfl rfl rfl (fun _ => rfl) rfl rfl rfl rfl (.nil)) rfl (by simp) (by decide)
theorem wb_BadNumber {P : Program} {K : PySem.W.Frag} {C : Addr} {fd : FuncData} (Z : XF P K "BadNumber" "BadNumber.__init__" si_BadNumber ["part"] C fd) : Binds K fd ["self", "part"] [] := Z.binds fun _ _ _ _ _ _ _ us h => match us, h with | [_, _], _ => rfl
abbrev si_BadFloor : Stmt := inClass (sAt 4) 0
theorem ns_BadFloor : NdefX.NScope ["self", "part", "__class__"] ["self", "part"] ["__class__"] (defScope si_BadFloor) := NdefX.nscope_by (by decide +kernel)
theorem w_BadFloor {mg : Str → Option Value} {P : Program} {K : PySem.W.Frag} {C : Addr} {fd : FuncData} (Z : XF P K "BadFloor" "BadFloor.__init__" si_BadFloor ["part"] C fd) (hs : mg "super" = none) : XOk P K mg C ["self", "part"] [("part", 1)] fd :=
  Z.ok hs ns_BadFloor (slf := "self") rfl (fun _ _ _ => ⟨⟨_, _, _, _, _, _, _, _, _, _, rfl, rfl, rfl, fun _ => rfl, fun _ => rfl, fun _ => rfl⟩, rfl, rfl, rfl⟩) (fun _ _ _ => .cons rfl rfl rfl rfl rfl (fun _ => rfl) rfl rfl rfl rfl (.nil)) rfl (by simp) (by decide)
theorem wb_BadFloor {P : Program} {K : PySem.W.Frag} {C : Addr} {fd : FuncData} (Z : XF P K "BadFloor" "BadFloor.__init__" si_BadFloor ["part"] C fd) : Binds K fd ["self", "part"] [] := Z.binds fun _ _ _ _ _ _ _ us h => match us, h with | [_, _], _ => rfl
abbrev si_BadCell : Stmt := inClass (sAt 5) 0
theorem ns_BadCell : NdefX.NScope ["self", "part", "__class__"] ["self", "part"] ["__class__"] (defScope si_BadCell) := NdefX.nscope_by (by decide +kernel)
theorem w_BadCell {mg : Str → Option Value} {P : Program} {K : PySem.W.Frag} {C : Addr} {fd : FuncData} (Z : XF P K "BadCell" "BadCell.__init__" si_BadCell ["part"] C fd) (hs : mg "super" = none) : XOk P K mg C ["self", "part"] [("part", 1)] fd :=
  Z.ok hs ns_BadCell (slf := "self") rfl (fun _ _ _ => ⟨⟨_, _, _, _, _, _, _, _, _, _, rfl, rfl, rfl, fun _ => rfl, fun _ => rfl, fun _ => rfl⟩, rfl, rfl, rfl⟩) (fun _ _ _ => .cons rfl rfl rfl rfl rfl (fun _ => rfl) rfl rfl rfl rfl (.nil)) rfl (by simp) (by decide)
theorem wb_BadCell {P : Program} {K : PySem.W.Frag} {C : Addr} {fd : FuncData} (Z : XF P K "BadCell" "BadCell.__init__" si_BadCell ["part"] C fd) : Binds K fd ["self", "part"] [] := Z.binds fun _ _ _ _ _ _ _ us h => match us, h with | [_, _], _ => rfl
abbrev si_Misfit : Stmt := inClass (sAt 6) 0
theorem ns_Misfit : NdefX.NScope ["self", "part", "__class__"] ["self", "part"] ["__class__"] (defScope si_Misfit) := NdefX.nscope_by (by decide +kernel)
theorem w_Misfit {mg : Str → Option Value} {P : Program} {K : PySem.W.Frag} {C : Addr} {fd : FuncData} (Z : XF P K "Misfit" "Misfit.__init__" si_Misfit ["part"] C fd) (hs : mg "super" = none) : XOk P K mg C ["self", "part"] [("part", 1)] fd :=
  Z.ok hs ns_Misfit (slf := "self") rfl (fun _ _ _ => ⟨⟨_, _, _, _, _, _, _, _, _, _, rfl, rfl, rfl, fun _ => rfl, fun _ => rfl, fun _ => rfl⟩, rfl, rfl, rfl⟩) (fun _ _ _ => .cons rfl rfl rfl rfl rfl (fun _ => rfl) rfl rfl rfl rfl (.nil)) rfl (by simp) (by decide)
theorem wb_Misfit {P : Program} {K : PySem.W.Frag} {C : Addr} {fd : FuncData} (Z : XF P K "Misfit" "Misfit.__init__" si_Misfit ["part"] C fd) : Binds K fd ["self", "part"] [] := Z.binds fun _ _ _ _ _ _ _ us h => match us, h with | [_, _], _ => rfl
abbrev si_BadText : Stmt := inClass (sAt 7) 0
theorem ns_BadText : NdefX.NScope ["self", "line", "item", "__class__"] ["self", "line", "item"] ["__class__"] (defScope si_BadText) := NdefX.nscope_by (by decide +kernel)
theorem w_BadText {mg : Str → Option Value} {P : Program} {K : PySem.W.Frag} {C : Addr} {fd : FuncData} (Z : XF P K "BadText" "BadText.__init__" si_BadText ["line", "item"] C fd) (hs : mg "super" = none) : XOk P K mg C ["self", "line", "item"] [("line", 1), ("item", 2)] fd :=
  Z.ok hs ns_BadText (slf := "self") rfl (fun _ _ _ => ⟨⟨_, _, _, _, _, _, _, _, _, _, rfl, rfl, rfl, fun _ => rfl, fun _ => rfl, fun _ => rfl⟩, rfl, rfl, rfl⟩) (fun _ _ _ => .cons rfl rfl rfl rfl rfl (fun _ => rfl) rfl rfl rfl rfl (.cons rfl rfl rfl rfl rfl (fun _ => rfl) rfl rfl rfl rfl (.nil))) rfl (by simp) (by decide)
theorem wb_BadText {P : Program} {K : PySem.W.Frag} {C : Addr} {fd : FuncData} (Z : XF P K "BadText" "BadText.__init__" si_BadText ["line", "item"] C fd) : Binds K fd ["self", "line", "item"] [] := Z.binds fun _ _ _ _ _ _ _ us h => match us, h with | [_, _, _], _ => rfl
structure Txt (P : Program) (w : World) (K : PySem.W.Frag) (mg : Str → Option Value) where
  A_BadCell : Addr
  g_BadCell : mg "BadCell" = some (.ref A_BadCell)
  A_BadFloor : Addr
  g_BadFloor : mg "BadFloor" = some (.ref A_BadFloor)
  A_BadNumber : Addr
  g_BadNumber : mg "BadNumber" = some (.ref A_BadNumber)
  A_BadText : Addr
  g_BadText : mg "BadText" = some (.ref A_BadText)
  A_Floor : Addr
  g_Floor : mg "Floor" = some (.ref A_Floor)
  A_Misfit : Addr
  g_Misfit : mg "Misfit" = some (.ref A_Misfit)
  I_Floor : Addr
  K_Floor : CF K "Floor" A_Floor I_Floor
  a_Floor___eq__ : Addr
  fd_Floor___eq__ : FuncData
  F_Floor___eq__ : Fun K "__eq__" "Floor.__eq__" s_Floor___eq__ a_Floor___eq__ fd_Floor___eq__
  b_Floor___eq__ : Binds K fd_Floor___eq__ ["self", "other"] []
  a_neighbour : Addr
  fd_neighbour : FuncData
  F_neighbour : Fun K "neighbour" "neighbour" s_neighbour a_neighbour fd_neighbour
  g_neighbour : mg "neighbour" = some (.ref a_neighbour)
  b_neighbour : Binds K fd_neighbour ["cell", "side"] []
  a_hanging : Addr
  fd_hanging : FuncData
  F_hanging : Fun K "hanging" "hanging" s_hanging a_hanging fd_hanging
  g_hanging : mg "hanging" = some (.ref a_hanging)
  b_hanging : Binds K fd_hanging ["known", "first"] []
  a_lots_in : Addr
  fd_lots_in : FuncData
  F_lots_in : Fun K "lots_in" "lots_in" s_lots_in a_lots_in fd_lots_in
  g_lots_in : mg "lots_in" = some (.ref a_lots_in)
  b_lots_in : Binds K fd_lots_in ["cells"] []
  a_moved_home : Addr
  fd_moved_home : FuncData
  F_moved_home : Fun K "moved_home" "moved_home" s_moved_home a_moved_home fd_moved_home
  g_moved_home : mg "moved_home" = some (.ref a_moved_home)
  b_moved_home : Binds K fd_moved_home ["cells"] []
  a_is_integer : Addr
  fd_is_integer : FuncData
  F_is_integer : Fun K "is_integer" "is_integer" s_is_integer a_is_integer fd_is_integer
  g_is_integer : mg "is_integer" = some (.ref a_is_integer)
  b_is_integer : Binds K fd_is_integer ["value"] []
  a_is_within : Addr
  fd_is_within : FuncData
  F_is_within : Fun K "is_within" "is_within" s_is_within a_is_within fd_is_within
  g_is_within : mg "is_within" = some (.ref a_is_within)
  b_is_within : Binds K fd_is_within ["value", "least", "most"] []
  a_is_cell : Addr
  fd_is_cell : FuncData
  F_is_cell : Fun K "is_cell" "is_cell" s_is_cell a_is_cell fd_is_cell
  g_is_cell : mg "is_cell" = some (.ref a_is_cell)
  b_is_cell : Binds K fd_is_cell ["value"] []
  a_need_cells : Addr
  fd_need_cells : FuncData
  F_need_cells : Fun K "need_cells" "need_cells" s_need_cells a_need_cells fd_need_cells
  g_need_cells : mg "need_cells" = some (.ref a_need_cells)
  b_need_cells : Binds K fd_need_cells ["value", "part", "least"] []
  a_Floor___init__ : Addr
  fd_Floor___init__ : FuncData
  F_Floor___init__ : Fun K "__init__" "Floor.__init__" s_Floor___init__ a_Floor___init__ fd_Floor___init__
  b_Floor___init__ : Binds K fd_Floor___init__ ["self", "cells"] []
  a_Floor___str__ : Addr
  fd_Floor___str__ : FuncData
  F_Floor___str__ : Fun K "__str__" "Floor.__str__" s_Floor___str__ a_Floor___str__ fd_Floor___str__
  b_Floor___str__ : Binds K fd_Floor___str__ ["self"] []
  a_need_cell : Addr
  fd_need_cell : FuncData
  F_need_cell : FunV K "need_cell" "need_cell" s_need_cell a_need_cell fd_need_cell
  ds_need_cell_0 : List Value
  dv_need_cell_0 : Vals (([.str "cell"] : List Wv).map litV) ds_need_cell_0
  db_need_cell_0 : Binds K fd_need_cell ["value", "part"] ds_need_cell_0
  g_need_cell : mg "need_cell" = some (.ref a_need_cell)
  a_is_side : Addr
  fd_is_side : FuncData
  F_is_side : Fun K "is_side" "is_side" s_is_side a_is_side fd_is_side
  g_is_side : mg "is_side" = some (.ref a_is_side)
  b_is_side : Binds K fd_is_side ["value"] []
  a_need_side : Addr
  fd_need_side : FuncData
  F_need_side : FunV K "need_side" "need_side" s_need_side a_need_side fd_need_side
  ds_need_side_0 : List Value
  dv_need_side_0 : Vals (([.str "side"] : List Wv).map litV) ds_need_side_0
  db_need_side_0 : Binds K fd_need_side ["value", "part"] ds_need_side_0
  g_need_side : mg "need_side" = some (.ref a_need_side)
  a_Floor_beside : Addr
  fd_Floor_beside : FuncData
  F_Floor_beside : Fun K "beside" "Floor.beside" s_Floor_beside a_Floor_beside fd_Floor_beside
  b_Floor_beside : Binds K fd_Floor_beside ["self", "cell", "side"] []
  a_Floor_has : Addr
  fd_Floor_has : FuncData
  F_Floor_has : Fun K "has" "Floor.has" s_Floor_has a_Floor_has fd_Floor_has
  b_Floor_has : Binds K fd_Floor_has ["self", "cell"] []
  a_law_tell : Addr
  fd_law_tell : FuncData
  F_law_tell : Fun K "_law_tell" "_law_tell" s_law_tell a_law_tell fd_law_tell
  g_law_tell : mg "_law_tell" = some (.ref a_law_tell)
  b_law_tell : Binds K fd_law_tell ["_law_paw_here", "_law_many"] []
  a_law_pick : Addr
  fd_law_pick : FuncData
  F_law_pick : Fun K "_law_pick" "_law_pick" s_law_pick a_law_pick fd_law_pick
  g_law_pick : mg "_law_pick" = some (.ref a_law_pick)
  b_law_pick : Binds K fd_law_pick ["_law_paw_here", "_law_some"] []
  a_law_grown : Addr
  fd_law_grown : FuncData
  F_law_grown : Fun K "_law_grown" "_law_grown" s_law_grown a_law_grown fd_law_grown
  g_law_grown : mg "_law_grown" = some (.ref a_law_grown)
  b_law_grown : Binds K fd_law_grown ["_law_paw_here", "_law_many"] []
  a_law_home : Addr
  fd_law_home : FuncData
  F_law_home : Fun K "_law_home" "_law_home" s_law_home a_law_home fd_law_home
  g_law_home : mg "_law_home" = some (.ref a_law_home)
  b_law_home : Binds K fd_law_home ["_law_cells"] []
  a_law_paw : Addr
  fd_law_paw : FuncData
  F_law_paw : Fun K "_law_paw" "_law_paw" s_law_paw a_law_paw fd_law_paw
  g_law_paw : mg "_law_paw" = some (.ref a_law_paw)
  b_law_paw : Binds K fd_law_paw ["_law_script"] []
  a_law_text : Addr
  fd_law_text : FuncData
  F_law_text : Fun K "_law_text" "_law_text" s_law_text a_law_text fd_law_text
  g_law_text : mg "_law_text" = some (.ref a_law_text)
  b_law_text : Binds K fd_law_text ["_law_cells"] []
  a_law : Addr
  fd_law : FuncData
  F_law : Fun K "law" "law" s_law a_law fd_law
  g_law : mg "law" = some (.ref a_law)
  b_law : Binds K fd_law ["_law_script"] []
  t_Floor_beside : MethT K ["Floor"] "beside" a_Floor_beside
  t_Floor_has : MethT K ["Floor"] "has" a_Floor_has
  q_Floor : EqC K ["Floor"] ["Floor"] a_Floor___eq__
  st_Floor : StrC K ["Floor"] a_Floor___str__
  fi_BadNumber : FuncData
  Z_BadNumber : XF P K "BadNumber" "BadNumber.__init__" si_BadNumber ["part"] A_BadNumber fi_BadNumber
  x_BadNumber : XOk P K mg A_BadNumber ["self", "part"] [("part", 1)] fi_BadNumber
  bx_BadNumber : Binds K fi_BadNumber ["self", "part"] []
  fi_BadFloor : FuncData
  Z_BadFloor : XF P K "BadFloor" "BadFloor.__init__" si_BadFloor ["part"] A_BadFloor fi_BadFloor
  x_BadFloor : XOk P K mg A_BadFloor ["self", "part"] [("part", 1)] fi_BadFloor
  bx_BadFloor : Binds K fi_BadFloor ["self", "part"] []
  fi_BadCell : FuncData
  Z_BadCell : XF P K "BadCell" "BadCell.__init__" si_BadCell ["part"] A_BadCell fi_BadCell
  x_BadCell : XOk P K mg A_BadCell ["self", "part"] [("part", 1)] fi_BadCell
  bx_BadCell : Binds K fi_BadCell ["self", "part"] []
  fi_Misfit : FuncData
  Z_Misfit : XF P K "Misfit" "Misfit.__init__" si_Misfit ["part"] A_Misfit fi_Misfit
  x_Misfit : XOk P K mg A_Misfit ["self", "part"] [("part", 1)] fi_Misfit
  bx_Misfit : Binds K fi_Misfit ["self", "part"] []
  fi_BadText : FuncData
  Z_BadText : XF P K "BadText" "BadText.__init__" si_BadText ["line", "item"] A_BadText fi_BadText
  x_BadText : XOk P K mg A_BadText ["self", "line", "item"] [("line", 1), ("item", 2)] fi_BadText
  bx_BadText : Binds K fi_BadText ["self", "line", "item"] []
  fe_cells : FldE K es_cells "cells"
  fo_cells : FldI K is_cells "cells"
  fe_height : FldE K es_height "height"
  fo_height : FldI K is_height "height"
  fe_known : FldE K es_known "known"
  fo_known : FldI K is_known "known"
  fe_width : FldE K es_width "width"
  fo_width : FldI K is_width "width"
  k_Floor : ClOk K c_Floor (.ref A_Floor)
  G2_STEPS : Addr
  gg2_STEPS : mg "STEPS" = some (.ref G2_STEPS)
  t2_STEPS : GT2 K G2_STEPS gt_STEPS
  c_CELL : ∃ t, mg "CELL" = some (.str "#" t)
  c_MOST_CELLS : ∃ t, mg "MOST_CELLS" = some (.int 400 t)
  c_MOST_PLACE : ∃ t, mg "MOST_PLACE" = some (.int 1000000 t)
  c_NONE : ∃ t, mg "NONE" = some (.str "." t)
  n_abs : mg "abs" = none
  n_all : mg "all" = none
  n_bool : mg "bool" = none
  n_int : mg "int" = none
  n_isinstance : mg "isinstance" = none
  n_len : mg "len" = none
  n_list : mg "list" = none
  n_max : mg "max" = none
  n_min : mg "min" = none
  n_range : mg "range" = none
  n_repr : mg "repr" = none
  n_set : mg "set" = none
  n_sorted : mg "sorted" = none
  n_str : mg "str" = none
  n_tuple : mg "tuple" = none
theorem kb_Floor___init___1_cells {K : PySem.W.Frag} {f : Addr} {fd : FuncData} (F : Fun K "__init__" "Floor.__init__" s_Floor___init__ f fd) : BK fd ["self", "cells"] 1 ["cells"] [0, 1] := .of F fun _ _ _ _ _ _ us ws h1 h2 => match us, ws, h1, h2 with | [_], [_], _, _ => rfl
theorem kb_Floor_beside_1_side_cell {K : PySem.W.Frag} {f : Addr} {fd : FuncData} (F : Fun K "beside" "Floor.beside" s_Floor_beside f fd) : BK fd ["self", "cell", "side"] 1 ["side", "cell"] [0, 2, 1] := .of F fun _ _ _ _ _ _ us ws h1 h2 => match us, ws, h1, h2 with | [_], [_, _], _, _ => rfl
theorem kb_Floor_has_1_cell {K : PySem.W.Frag} {f : Addr} {fd : FuncData} (F : Fun K "has" "Floor.has" s_Floor_has f fd) : BK fd ["self", "cell"] 1 ["cell"] [0, 1] := .of F fun _ _ _ _ _ _ us ws h1 h2 => match us, ws, h1, h2 with | [_], [_], _, _ => rfl
section
variable {P : Program} {w : World} {K : PySem.W.Frag} {mg : Str → Option Value} {base : Heap}
theorem ok_Floor___eq__ (T : Txt P w K mg)  : FnG P w K mg base 1 T.a_Floor___eq__ T.fd_Floor___eq__ ["self", "other"] m_Floor___eq__ := by
  refine FnG.of T.F_Floor___eq__ sc_Floor___eq__ fun cdv A outer s H E hr hgd hx tk => ?_
  exact s_one (s_ret (e_and (e_iso T.n_isinstance (e_var (pv 1)) (isClO rfl T.g_Floor T.k_Floor)) (e_one (e_cmp (o_eq hr.units) (e_fld (e_var (pv 0)) T.fe_cells T.fo_cells) (e_fld (e_var (pv 1)) T.fe_cells T.fo_cells)))))
theorem ok_neighbour (T : Txt P w K mg)  : FnG P w K mg base 1 T.a_neighbour T.fd_neighbour ["cell", "side"] m_neighbour := by
  refine FnG.of T.F_neighbour sc_neighbour fun cdv A outer s H E hr hgd hx tk => ?_
  exact s_one (s_ret (e_tup (a_cons (e_bin o_add (e_ix (e_var (pv 0)) (e_int)) (e_g2 T.t2_STEPS T.gg2_STEPS (e_var (pv 1)) (e_int))) (a_cons (e_bin o_add (e_ix (e_var (pv 0)) (e_int)) (e_g2 T.t2_STEPS T.gg2_STEPS (e_var (pv 1)) (e_int))) (a_nil)))))
theorem ok_hanging (T : Txt P w K mg) (G_neighbour : FnG P w K mg base 1 T.a_neighbour T.fd_neighbour ["cell", "side"] m_neighbour) : FnG P w K mg base 2 T.a_hanging T.fd_hanging ["known", "first"] m_hanging := by
  refine FnG.frz (FnG.of T.F_hanging sc_hanging fun cdv A outer s H E hr hgd hx tk => ?_)
  exact s_cons (s_par2 rfl sc_hanging.nd (a_cons (e_dsp1 hr.units1 (e_var (pv 1)) (e_bl)) (a_cons (e_new (a_cons (e_var (pv 1)) (a_nil))) (a_nil)))) (s_cons (s_while 1000000 (passes_of rfl) (t_cmp (o_ne hr.units) (e_var (pv 3)) (e_lst (a_nil))) (s_cons (s_set sc_hanging.nd (e_pop (e_var (pv 3)))) (s_one (s_for (passes_of rfl) rfl (i_rng1 T.n_range (e_int)) (g_nm sc_hanging.nd) (s_cons (s_set sc_hanging.nd (e_call (G_neighbour.up (by decide)) hr hgd hx T.g_neighbour T.F_neighbour.kp T.b_neighbour (a_cons (e_var (pv 4)) (a_cons (e_var (pv 5)) (a_nil))))) (s_one (s_if (t_w (w_and (t_cmp (o_inD hr.units1 (o_inE (room65 hr))) (e_var (pv 6)) (e_var (pv 0))) (w_one (t_cmp (o_niD hr.units1 (o_niE (room65 hr))) (e_var (pv 6)) (e_var (pv 2))) (.inl rfl)))) (s_cons (s_putD hr.units1 (e_bl) (e_var (pv 2)) (e_var (pv 6))) (s_one (s_expr (e_append (e_var (pv 3)) (e_var (pv 6)))))) (s_nil)))))))) (s_one (s_ret (e_ty c_tup T.n_tuple PyProof.Rows.boot_tuple (a_cons (e_bi (c_sortedD rfl) T.n_sorted PyProof.Rows.boot_sorted (a_cons (e_var (pv 2)) (a_nil))) (a_nil))))))
theorem ok_lots_in (T : Txt P w K mg) (G_hanging : FnG P w K mg base 2 T.a_hanging T.fd_hanging ["known", "first"] m_hanging) : FnG P w K mg base 3 T.a_lots_in T.fd_lots_in ["cells"] m_lots_in := by
  refine FnG.frz (FnG.of T.F_lots_in sc_lots_in fun cdv A outer s H E hr hgd hx tk => ?_)
  exact s_cons (s_par2 rfl sc_lots_in.nd (a_cons (e_dcN hr.units1 rfl sc_lots_in.nd (i_seq (e_var (pv 0))) (blkOk_by (N := N_lots_in) (sc := (defScope s_lots_in)) (own := [("cell", 3)]) (by decide +kernel)) (by decide) (fun _ _ _ _ _ => g_nm sc_lots_in.nd) (fun _ _ _ _ _ => ts_nil) (fun _ _ _ _ _ => e_var (pv 3)) (fun _ _ _ _ _ => e_bl)) (a_cons (e_new (a_nil)) (a_nil)))) (s_cons (s_for (passes_of rfl) rfl (i_seq (e_bi (c_sortedD rfl) T.n_sorted PyProof.Rows.boot_sorted (a_cons (e_var (pv 0)) (a_nil)))) (g_nm sc_lots_in.nd) (s_one (s_if (t_cmp (o_inD hr.units1 (o_inE (room65 hr))) (e_var (pv 3)) (e_var (pv 1))) (s_cons (s_expr (e_append (e_var (pv 2)) (e_call (G_hanging.up (by decide)) hr hgd hx T.g_hanging T.F_hanging.kp T.b_hanging (a_cons (e_var (pv 1)) (a_cons (e_var (pv 3)) (a_nil)))))) (s_one (s_for (passes_of rfl) rfl (i_seq (e_ix (e_var (pv 2)) (e_un o_neg (e_int)))) (g_nm sc_lots_in.nd) (s_one (s_delD hr.units1 (e_var (pv 1)) (e_var (pv 4))))))) (s_nil)))) (s_one (s_ret (e_ty c_tup T.n_tuple PyProof.Rows.boot_tuple (a_cons (e_var (pv 2)) (a_nil))))))
theorem ok_moved_home (T : Txt P w K mg)  : FnG P w K mg base 1 T.a_moved_home T.fd_moved_home ["cells"] m_moved_home := by
  refine FnG.of T.F_moved_home sc_moved_home fun cdv A outer s H E hr hgd hx tk => ?_
  exact s_cons (s_unp (e_tup (a_cons (e_bi (c_min rfl) T.n_min PyProof.Rows.boot_min (a_cons (e_lc rfl sc_moved_home.nd (i_seq (e_var (pv 0))) (blkOk_by (N := N_moved_home) (sc := (defScope s_moved_home)) (own := [("x", 3), ("_", 4)]) (by decide +kernel)) (by decide) (fun _ _ _ _ _ => g_tp rfl (gs_cons (g_nm sc_moved_home.nd) (gs_cons (g_nm sc_moved_home.nd) (gs_nil)))) (fun _ _ _ _ _ => ts_nil) (fun _ _ _ _ _ => e_var (pv 3))) (a_nil))) (a_cons (e_bi (c_min rfl) T.n_min PyProof.Rows.boot_min (a_cons (e_lc rfl sc_moved_home.nd (i_seq (e_var (pv 0))) (blkOk_by (N := N_moved_home) (sc := (defScope s_moved_home)) (own := [("_", 4), ("y", 5)]) (by decide +kernel)) (by decide) (fun _ _ _ _ _ => g_tp rfl (gs_cons (g_nm sc_moved_home.nd) (gs_cons (g_nm sc_moved_home.nd) (gs_nil)))) (fun _ _ _ _ _ => ts_nil) (fun _ _ _ _ _ => e_var (pv 5))) (a_nil))) (a_nil)))) (g_tp rfl (gs_cons (g_nm sc_moved_home.nd) (gs_cons (g_nm sc_moved_home.nd) (gs_nil))))) (s_one (s_ret (e_ty c_tup T.n_tuple PyProof.Rows.boot_tuple (a_cons (e_bi (c_sortedD rfl) T.n_sorted PyProof.Rows.boot_sorted (a_cons (e_lc rfl sc_moved_home.nd (i_seq (e_var (pv 0))) (blkOk_by (N := N_moved_home) (sc := (defScope s_moved_home)) (own := [("x", 3), ("y", 5)]) (by decide +kernel)) (by decide) (fun _ _ _ _ _ => g_tp rfl (gs_cons (g_nm sc_moved_home.nd) (gs_cons (g_nm sc_moved_home.nd) (gs_nil)))) (fun _ _ _ _ _ => ts_nil) (fun _ _ _ _ _ => e_tup (a_cons (e_bin o_sub (e_var (pv 3)) (e_var (pv 1))) (a_cons (e_bin o_sub (e_var (pv 5)) (e_var (pv 2))) (a_nil))))) (a_nil))) (a_nil)))))
theorem ok_is_integer (T : Txt P w K mg)  : FnG P w K mg base 1 T.a_is_integer T.fd_is_integer ["value"] m_is_integer := by
  refine FnG.of T.F_is_integer sc_is_integer fun cdv A outer s H E hr hgd hx tk => ?_
  exact s_one (s_ret (e_and (e_is T.n_isinstance (e_var (pv 0)) (isTy rfl T.n_int PyProof.Rows.boot_int)) (e_one (e_not (e_is T.n_isinstance (e_var (pv 0)) (isTy rfl T.n_bool PyProof.Rows.boot_bool))))))
theorem ok_is_within (T : Txt P w K mg) (G_is_integer : FnG P w K mg base 1 T.a_is_integer T.fd_is_integer ["value"] m_is_integer) : FnG P w K mg base 2 T.a_is_within T.fd_is_within ["value", "least", "most"] m_is_within := by
  refine FnG.of T.F_is_within sc_is_within fun cdv A outer s H E hr hgd hx tk => ?_
  exact s_cons (s_if (t_not (t_val (e_call (G_is_integer.up (by decide)) hr hgd hx T.g_is_integer T.F_is_integer.kp T.b_is_integer (a_cons (e_var (pv 0)) (a_nil))))) (s_one (s_ret (e_bl))) (s_nil)) (s_one (s_ret (e_and (e_or (e_cmp o_isN (e_var (pv 1)) (e_non)) (e_one (e_cmp o_le (e_var (pv 1)) (e_var (pv 0))))) (e_one (e_or (e_cmp o_isN (e_var (pv 2)) (e_non)) (e_one (e_cmp o_le (e_var (pv 0)) (e_var (pv 2)))))))))
theorem ok_is_cell (T : Txt P w K mg) (G_is_within : FnG P w K mg base 2 T.a_is_within T.fd_is_within ["value", "least", "most"] m_is_within) : FnG P w K mg base 3 T.a_is_cell T.fd_is_cell ["value"] m_is_cell := by
  refine FnG.of T.F_is_cell sc_is_cell fun cdv A outer s H E hr hgd hx tk => ?_
  exact s_cons (s_if (t_w (w_or (t_not (t_val (e_ist T.n_isinstance (e_var (pv 0)) (.cons (isTy (t := .lst) rfl T.n_list PyProof.Rows.boot_list) (.cons (isTy (t := .tup) rfl T.n_tuple PyProof.Rows.boot_tuple) (.nil)))))) (w_one (t_cmp (o_ne hr.units) (e_bi c_len T.n_len PySem.boot_len (a_cons (e_var (pv 0)) (a_nil))) (e_int)) (.inr rfl)))) (s_one (s_ret (e_bl))) (s_nil)) (s_one (s_ret (e_bi (c_all rfl) T.n_all PyProof.Rows.boot_all (a_cons (e_lc rfl sc_is_cell.nd (i_seq (e_var (pv 0))) (blkOk_by (N := N_is_cell) (sc := (defScope s_is_cell)) (own := [("each", 1)]) (by decide +kernel)) (by decide) (fun _ _ _ _ _ => g_nm sc_is_cell.nd) (fun _ _ _ _ _ => ts_nil) (fun _ _ _ _ _ => e_call (G_is_within.up (by decide)) hr hgd passL T.g_is_within T.F_is_within.kp T.b_is_within (a_cons (e_var (pv 1)) (a_cons (e_un o_neg (e_gint T.c_MOST_PLACE)) (a_cons (e_gint T.c_MOST_PLACE) (a_nil)))))) (a_nil)))))
theorem ok_need_cells (T : Txt P w K mg) (G_is_cell : FnG P w K mg base 3 T.a_is_cell T.fd_is_cell ["value"] m_is_cell) : FnG P w K mg base 4 T.a_need_cells T.fd_need_cells ["value", "part", "least"] m_need_cells := by
  refine FnG.of T.F_need_cells sc_need_cells fun cdv A outer s H E hr hgd hx tk => ?_
  exact s_cons (s_if (t_w (w_or (t_not (t_val (e_ist T.n_isinstance (e_var (pv 0)) (.cons (isTy (t := .lst) rfl T.n_list PyProof.Rows.boot_list) (.cons (isTy (t := .tup) rfl T.n_tuple PyProof.Rows.boot_tuple) (.nil)))))) (w_one (t_not (t_chain o_le o_le (e_var (pv 2)) (e_bi c_len T.n_len PySem.boot_len (a_cons (e_var (pv 0)) (a_nil))) (e_gint T.c_MOST_CELLS))) (.inr rfl)))) (s_one (s_raise (k := 0) rfl tk T.x_BadFloor (hr.mono (by decide)) T.g_BadFloor T.Z_BadFloor.loc T.bx_BadFloor (a_cons (e_var (pv 1)) (a_nil)))) (s_nil)) (s_cons (s_if (t_not (t_val (e_bi (c_all rfl) T.n_all PyProof.Rows.boot_all (a_cons (e_lc rfl sc_need_cells.nd (i_seq (e_var (pv 0))) (blkOk_by (N := N_need_cells) (sc := (defScope s_need_cells)) (own := [("each", 3)]) (by decide +kernel)) (by decide) (fun _ _ _ _ _ => g_nm sc_need_cells.nd) (fun _ _ _ _ _ => ts_nil) (fun _ _ _ _ _ => e_call (G_is_cell.up (by decide)) hr hgd passL T.g_is_cell T.F_is_cell.kp T.b_is_cell (a_cons (e_var (pv 3)) (a_nil)))) (a_nil))))) (s_one (s_raise (k := 0) rfl tk T.x_BadFloor (hr.mono (by decide)) T.g_BadFloor T.Z_BadFloor.loc T.bx_BadFloor (a_cons (e_var (pv 1)) (a_nil)))) (s_nil)) (s_cons (s_setLc (i := 4) rfl sc_need_cells.nd (sw_true rfl rfl rfl (by decide +kernel)) (i_seq (e_var (pv 0))) (blkOk_by (N := N_need_cells) (sc := (defScope s_need_cells)) (own := [("each", 3)]) (by decide +kernel)) (by decide) (fun _ _ _ _ _ => g_nm sc_need_cells.nd) (fun _ _ _ _ _ => ts_nil) (fun _ _ _ _ _ => e_ty c_tup T.n_tuple PyProof.Rows.boot_tuple (a_cons (e_var (pv 3)) (a_nil)))) (s_cons (s_if (t_cmp o_lt (e_lenSet rfl (room80 hr) T.n_len T.n_set (e_var (pv 4))) (e_bi c_len T.n_len PySem.boot_len (a_cons (e_var (pv 4)) (a_nil)))) (s_one (s_raise (k := 0) rfl tk T.x_BadFloor (hr.mono (by decide)) T.g_BadFloor T.Z_BadFloor.loc T.bx_BadFloor (a_cons (e_var (pv 1)) (a_nil)))) (s_nil)) (s_one (s_ret (e_var (pv 4)))))))
theorem ok_Floor___init__ (T : Txt P w K mg) (G_lots_in : FnG P w K mg base 3 T.a_lots_in T.fd_lots_in ["cells"] m_lots_in) (G_moved_home : FnG P w K mg base 1 T.a_moved_home T.fd_moved_home ["cells"] m_moved_home) (G_need_cells : FnG P w K mg base 4 T.a_need_cells T.fd_need_cells ["value", "part", "least"] m_need_cells) (hI : T.a_Floor___init__ = T.I_Floor) : FnG P w K mg base 5 T.I_Floor T.fd_Floor___init__ ["self", "cells"] m_Floor___init__ := by
  rw [← hI]
  refine FnG.of T.F_Floor___init__ sc_Floor___init__ fun cdv A outer s H E hr hgd hx tk => ?_
  exact s_cons (s_set sc_Floor___init__.nd (e_call (G_need_cells.up (by decide)) hr hgd hx T.g_need_cells T.F_need_cells.kp T.b_need_cells (a_cons (e_var (pv 1)) (a_cons (e_str) (a_cons (e_int) (a_nil)))))) (s_cons (s_if (t_cmp o_gt (e_bi c_len T.n_len PySem.boot_len (a_cons (e_call (G_lots_in.up (by decide)) hr hgd hx T.g_lots_in T.F_lots_in.kp T.b_lots_in (a_cons (e_var (pv 2)) (a_nil))) (a_nil))) (e_int)) (s_one (s_raise (k := 0) rfl tk T.x_Misfit (hr.mono (by decide)) T.g_Misfit T.Z_Misfit.loc T.bx_Misfit (a_cons (e_str) (a_nil)))) (s_nil)) (s_cons (s_fld (e_var (pv 0)) (e_call (G_moved_home.up (by decide)) hr hgd hx T.g_moved_home T.F_moved_home.kp T.b_moved_home (a_cons (e_var (pv 2)) (a_nil))) T.fo_cells) (s_cons (s_fld (e_var (pv 0)) (e_dcN hr.units1 rfl sc_Floor___init__.nd (i_seq (e_fld (e_var (pv 0)) T.fe_cells T.fo_cells)) (blkOk_by (N := N_Floor___init__) (sc := (defScope s_Floor___init__)) (own := [("cell", 3)]) (by decide +kernel)) (by decide) (fun _ _ _ _ _ => g_nm sc_Floor___init__.nd) (fun _ _ _ _ _ => ts_nil) (fun _ _ _ _ _ => e_var (pv 3)) (fun _ _ _ _ _ => e_bl)) T.fo_known) (s_cons (s_fld (e_var (pv 0)) (e_bin o_add (e_bi (c_max rfl) T.n_max PyProof.Rows.boot_max (a_cons (e_lc rfl sc_Floor___init__.nd (i_seq (e_fld (e_var (pv 0)) T.fe_cells T.fo_cells)) (blkOk_by (N := N_Floor___init__) (sc := (defScope s_Floor___init__)) (own := [("x", 4), ("_", 5)]) (by decide +kernel)) (by decide) (fun _ _ _ _ _ => g_tp rfl (gs_cons (g_nm sc_Floor___init__.nd) (gs_cons (g_nm sc_Floor___init__.nd) (gs_nil)))) (fun _ _ _ _ _ => ts_nil) (fun _ _ _ _ _ => e_var (pv 4))) (a_nil))) (e_int)) T.fo_width) (s_one (s_fld (e_var (pv 0)) (e_bin o_add (e_bi (c_max rfl) T.n_max PyProof.Rows.boot_max (a_cons (e_lc rfl sc_Floor___init__.nd (i_seq (e_fld (e_var (pv 0)) T.fe_cells T.fo_cells)) (blkOk_by (N := N_Floor___init__) (sc := (defScope s_Floor___init__)) (own := [("_", 5), ("y", 6)]) (by decide +kernel)) (by decide) (fun _ _ _ _ _ => g_tp rfl (gs_cons (g_nm sc_Floor___init__.nd) (gs_cons (g_nm sc_Floor___init__.nd) (gs_nil)))) (fun _ _ _ _ _ => ts_nil) (fun _ _ _ _ _ => e_var (pv 6))) (a_nil))) (e_int)) T.fo_height))))))
theorem ok_Floor___str__ (T : Txt P w K mg)  : FnG P w K mg base 1 T.a_Floor___str__ T.fd_Floor___str__ ["self"] m_Floor___str__ := by
  refine FnG.frz (FnG.of T.F_Floor___str__ sc_Floor___str__ fun cdv A outer s H E hr hgd hx tk => ?_)
  exact s_cons (s_set sc_Floor___str__.nd (e_new (a_nil))) (s_cons (s_for (passes_of rfl) rfl (i_rng3 T.n_range (e_bin o_sub (e_fld (e_var (pv 0)) T.fe_height T.fo_height) (e_int)) (e_un o_neg (e_int)) (e_un o_neg (e_int))) (g_nm sc_Floor___str__.nd) (s_one (s_expr (e_append (e_var (pv 1)) (e_join (e_str) (e_lc rfl sc_Floor___str__.nd (i_rng1 T.n_range (e_fld (e_var (pv 0)) T.fe_width T.fo_width)) (blkOk_by (N := N_Floor___str__) (sc := (defScope s_Floor___str__)) (own := [("x", 3)]) (by decide +kernel)) (by decide) (fun _ _ _ _ _ => g_nm sc_Floor___str__.nd) (fun _ _ _ _ _ => ts_nil) (fun _ _ _ _ _ => e_if (t_cmp (o_inD hr.units1 (o_inE (room65 hr))) (e_tup (a_cons (e_var (pv 3)) (a_cons (e_var (pv 2)) (a_nil)))) (e_fld (e_var (pv 0)) T.fe_known T.fo_known)) (e_gstr T.c_CELL) (e_gstr T.c_NONE)))))))) (s_one (s_ret (e_join (e_str) (e_var (pv 1))))))
theorem ok_need_cell (T : Txt P w K mg) (G_is_cell : FnG P w K mg base 3 T.a_is_cell T.fd_is_cell ["value"] m_is_cell) : FnG P w K mg base 4 T.a_need_cell T.fd_need_cell ["value", "part"] m_need_cell := by
  refine FnG.ofV T.F_need_cell sc_need_cell fun cdv A outer s H E hr hgd hx tk => ?_
  exact s_cons (s_if (t_not (t_val (e_call (G_is_cell.up (by decide)) hr hgd hx T.g_is_cell T.F_is_cell.kp T.b_is_cell (a_cons (e_var (pv 0)) (a_nil))))) (s_one (s_raise (k := 0) rfl tk T.x_BadCell (hr.mono (by decide)) T.g_BadCell T.Z_BadCell.loc T.bx_BadCell (a_cons (e_var (pv 1)) (a_nil)))) (s_nil)) (s_one (s_ret (e_ty c_tup T.n_tuple PyProof.Rows.boot_tuple (a_cons (e_var (pv 0)) (a_nil)))))
theorem ok_is_side (T : Txt P w K mg) (G_is_within : FnG P w K mg base 2 T.a_is_within T.fd_is_within ["value", "least", "most"] m_is_within) : FnG P w K mg base 3 T.a_is_side T.fd_is_side ["value"] m_is_side := by
  refine FnG.of T.F_is_side sc_is_side fun cdv A outer s H E hr hgd hx tk => ?_
  exact s_one (s_ret (e_call (G_is_within.up (by decide)) hr hgd hx T.g_is_within T.F_is_within.kp T.b_is_within (a_cons (e_var (pv 0)) (a_cons (e_int) (a_cons (e_int) (a_nil))))))
theorem ok_need_side (T : Txt P w K mg) (G_is_side : FnG P w K mg base 3 T.a_is_side T.fd_is_side ["value"] m_is_side) : FnG P w K mg base 4 T.a_need_side T.fd_need_side ["value", "part"] m_need_side := by
  refine FnG.ofV T.F_need_side sc_need_side fun cdv A outer s H E hr hgd hx tk => ?_
  exact s_one (s_if (t_not (t_val (e_call (G_is_side.up (by decide)) hr hgd hx T.g_is_side T.F_is_side.kp T.b_is_side (a_cons (e_var (pv 0)) (a_nil))))) (s_one (s_raise (k := 0) rfl tk T.x_BadNumber (hr.mono (by decide)) T.g_BadNumber T.Z_BadNumber.loc T.bx_BadNumber (a_cons (e_var (pv 1)) (a_nil)))) (s_nil))
theorem ok_Floor_beside (T : Txt P w K mg) (G_need_cell : FnG P w K mg base 4 T.a_need_cell T.fd_need_cell ["value", "part"] m_need_cell) (G_need_side : FnG P w K mg base 4 T.a_need_side T.fd_need_side ["value", "part"] m_need_side) (G_neighbour : FnG P w K mg base 1 T.a_neighbour T.fd_neighbour ["cell", "side"] m_neighbour) : FnG P w K mg base 5 T.a_Floor_beside T.fd_Floor_beside ["self", "cell", "side"] m_Floor_beside := by
  refine FnG.of T.F_Floor_beside sc_Floor_beside fun cdv A outer s H E hr hgd hx tk => ?_
  exact s_cons (s_set sc_Floor_beside.nd (e_callD (G_need_cell.up (by decide)) hr hgd hx T.g_need_cell T.F_need_cell.kp T.db_need_cell_0 T.dv_need_cell_0 (lits_rvs (by rfl)) (a_cons (e_var (pv 1)) (a_nil)))) (s_cons (s_expr (e_callD (G_need_side.up (by decide)) hr hgd hx T.g_need_side T.F_need_side.kp T.db_need_side_0 T.dv_need_side_0 (lits_rvs (by rfl)) (a_cons (e_var (pv 2)) (a_nil)))) (s_cons (s_if (t_cmp (o_niD hr.units1 (o_niE (room65 hr))) (e_var (pv 3)) (e_fld (e_var (pv 0)) T.fe_known T.fo_known)) (s_one (s_raise (k := 0) rfl tk T.x_Misfit (hr.mono (by decide)) T.g_Misfit T.Z_Misfit.loc T.bx_Misfit (a_cons (e_str) (a_nil)))) (s_nil)) (s_cons (s_set sc_Floor_beside.nd (e_call (G_neighbour.up (by decide)) hr hgd hx T.g_neighbour T.F_neighbour.kp T.b_neighbour (a_cons (e_var (pv 3)) (a_cons (e_var (pv 2)) (a_nil))))) (s_one (s_ret (e_if (t_cmp (o_inD hr.units1 (o_inE (room65 hr))) (e_var (pv 4)) (e_fld (e_var (pv 0)) T.fe_known T.fo_known)) (e_var (pv 4)) (e_non)))))))
theorem ok_Floor_has (T : Txt P w K mg) (G_need_cell : FnG P w K mg base 4 T.a_need_cell T.fd_need_cell ["value", "part"] m_need_cell) : FnG P w K mg base 5 T.a_Floor_has T.fd_Floor_has ["self", "cell"] m_Floor_has := by
  refine FnG.of T.F_Floor_has sc_Floor_has fun cdv A outer s H E hr hgd hx tk => ?_
  exact s_one (s_ret (e_cmp (o_inD hr.units1 (o_inE (room65 hr))) (e_callD (G_need_cell.up (by decide)) hr hgd hx T.g_need_cell T.F_need_cell.kp T.db_need_cell_0 T.dv_need_cell_0 (lits_rvs (by rfl)) (a_cons (e_var (pv 1)) (a_nil))) (e_fld (e_var (pv 0)) T.fe_known T.fo_known)))
theorem ok_law_tell (T : Txt P w K mg)  : FnG P w K mg base 1 T.a_law_tell T.fd_law_tell ["_law_paw_here", "_law_many"] m_law_tell := by
  refine FnG.of T.F_law_tell sc_law_tell fun cdv A outer s H E hr hgd hx tk => ?_
  exact s_cons (s_if (t_cmp o_gt (e_ix (e_var (pv 0)) (e_int)) (e_int)) (s_cons (s_set sc_law_tell.nd (e_ty c_int T.n_int PyProof.Rows.boot_int (a_cons (e_ix (e_var (pv 0)) (e_int)) (a_nil)))) (s_cons (s_put (e_bin o_div (e_var (pv 2)) (e_var (pv 1))) (e_var (pv 0)) (e_int)) (s_one (s_ret (e_bin o_mod (e_ty c_int T.n_int PyProof.Rows.boot_int (a_cons (e_var (pv 2)) (a_nil))) (e_var (pv 1))))))) (s_nil)) (s_cons (s_set sc_law_tell.nd (e_ix (e_var (pv 0)) (e_int))) (s_cons (s_put (e_bin o_add (e_var (pv 3)) (e_int)) (e_var (pv 0)) (e_int)) (s_cons (s_set sc_law_tell.nd (e_bin o_add (e_bin o_mul (e_int) (e_var (pv 3))) (e_int))) (s_cons (s_if (t_cmp (o_ne hr.units) (e_ix (e_var (pv 0)) (e_int)) (e_lst (a_nil))) (s_one (s_set sc_law_tell.nd (e_ix (e_ix (e_var (pv 0)) (e_int)) (e_bin o_mod (e_ty c_int T.n_int PyProof.Rows.boot_int (a_cons (e_var (pv 3)) (a_nil))) (e_bi c_len T.n_len PySem.boot_len (a_cons (e_ix (e_var (pv 0)) (e_int)) (a_nil))))))) (s_nil)) (s_cons (s_if (t_w (w_and (t_cmp o_lt (e_var (pv 3)) (e_bi c_len T.n_len PySem.boot_len (a_cons (e_ix (e_var (pv 0)) (e_int)) (a_nil)))) (w_one (t_cmp o_ge (e_bi c_abs T.n_abs PyProof.Rows.boot_abs (a_cons (e_var (pv 4)) (a_nil))) (e_bin o_pow (e_int) (e_int))) (.inl rfl)))) (s_cons (s_set sc_law_tell.nd (e_bin o_add (e_bin o_mul (e_int) (e_bin o_sub (e_bi c_abs T.n_abs PyProof.Rows.boot_abs (a_cons (e_var (pv 4)) (a_nil))) (e_bin o_pow (e_int) (e_int)))) (e_ty c_int T.n_int PyProof.Rows.boot_int (a_cons (e_cmp o_lt (e_var (pv 4)) (e_int)) (a_nil))))) (s_cons (s_put (e_bin o_div (e_var (pv 2)) (e_var (pv 1))) (e_var (pv 0)) (e_int)) (s_one (s_ret (e_bin o_mod (e_ty c_int T.n_int PyProof.Rows.boot_int (a_cons (e_var (pv 2)) (a_nil))) (e_var (pv 1))))))) (s_nil)) (s_cons (s_set sc_law_tell.nd (e_bin o_mod (e_ty c_int T.n_int PyProof.Rows.boot_int (a_cons (e_bin o_pow (e_bin o_add (e_bin o_add (e_bin o_mod (e_ty c_int T.n_int PyProof.Rows.boot_int (a_cons (e_var (pv 4)) (a_nil))) (e_int)) (e_bin o_mul (e_int) (e_var (pv 3)))) (e_int)) (e_int)) (a_nil))) (e_int))) (s_cons (s_set sc_law_tell.nd (e_bin o_mod (e_ty c_int T.n_int PyProof.Rows.boot_int (a_cons (e_bin o_pow (e_bin o_add (e_bin o_add (e_bin o_mul (e_var (pv 5)) (e_bin o_add (e_bin o_mul (e_int) (e_var (pv 3))) (e_int))) (e_bin o_mul (e_bin o_mul (e_int) (e_var (pv 3))) (e_var (pv 3)))) (e_int)) (e_int)) (a_nil))) (e_int))) (s_one (s_ret (e_bin o_mod (e_ty c_int T.n_int PyProof.Rows.boot_int (a_cons (e_bin o_div (e_var (pv 5)) (e_int)) (a_nil))) (e_var (pv 1))))))))))))
theorem ok_law_pick (T : Txt P w K mg) (G_law_tell : FnG P w K mg base 1 T.a_law_tell T.fd_law_tell ["_law_paw_here", "_law_many"] m_law_tell) : FnG P w K mg base 2 T.a_law_pick T.fd_law_pick ["_law_paw_here", "_law_some"] m_law_pick := by
  refine FnG.of T.F_law_pick sc_law_pick fun cdv A outer s H E hr hgd hx tk => ?_
  exact s_one (s_ret (e_ix (e_var (pv 1)) (e_call (G_law_tell.up (by decide)) hr hgd hx T.g_law_tell T.F_law_tell.kp T.b_law_tell (a_cons (e_var (pv 0)) (a_cons (e_bi c_len T.n_len PySem.boot_len (a_cons (e_var (pv 1)) (a_nil))) (a_nil))))))
theorem ok_law_grown (T : Txt P w K mg) (G_law_pick : FnG P w K mg base 2 T.a_law_pick T.fd_law_pick ["_law_paw_here", "_law_some"] m_law_pick) : FnG P w K mg base 3 T.a_law_grown T.fd_law_grown ["_law_paw_here", "_law_many"] m_law_grown := by
  refine FnG.frz (FnG.of T.F_law_grown sc_law_grown fun cdv A outer s H E hr hgd hx tk => ?_)
  exact s_cons (s_par2 rfl sc_law_grown.nd (a_cons (e_new (a_cons (e_tup (a_cons (e_int) (a_cons (e_int) (a_nil)))) (a_nil))) (a_cons (e_lst (a_cons (e_tup (a_cons (e_int) (a_cons (e_int) (a_nil)))) (a_cons (e_tup (a_cons (e_int) (a_cons (e_int) (a_nil)))) (a_cons (e_tup (a_cons (e_int) (a_cons (e_un o_neg (e_int)) (a_nil)))) (a_cons (e_tup (a_cons (e_un o_neg (e_int)) (a_cons (e_int) (a_nil)))) (a_nil)))))) (a_nil)))) (s_cons (s_for (passes_of rfl) rfl (i_rng1 T.n_range (e_bin o_mul (e_int) (e_var (pv 1)))) (g_nm sc_law_grown.nd) (s_cons (s_unp (e_call (G_law_pick.up (by decide)) hr hgd hx T.g_law_pick T.F_law_pick.kp T.b_law_pick (a_cons (e_var (pv 0)) (a_cons (e_lst (a_cons (e_ix (e_var (pv 2)) (e_un o_neg (e_int))) (a_cons (e_ix (e_var (pv 2)) (e_un o_neg (e_int))) (a_cons (e_call (G_law_pick.up (by decide)) hr hgd hx T.g_law_pick T.F_law_pick.kp T.b_law_pick (a_cons (e_var (pv 0)) (a_cons (e_var (pv 2)) (a_nil)))) (a_nil))))) (a_nil)))) (g_tp rfl (gs_cons (g_nm sc_law_grown.nd) (gs_cons (g_nm sc_law_grown.nd) (gs_nil))))) (s_cons (s_unp (e_call (G_law_pick.up (by decide)) hr hgd hx T.g_law_pick T.F_law_pick.kp T.b_law_pick (a_cons (e_var (pv 0)) (a_cons (e_var (pv 3)) (a_nil)))) (g_tp rfl (gs_cons (g_nm sc_law_grown.nd) (gs_cons (g_nm sc_law_grown.nd) (gs_nil))))) (s_one (s_if (t_w (w_and (t_cmp (o_niD hr.units1 (o_niE (room65 hr))) (e_tup (a_cons (e_bin o_add (e_var (pv 5)) (e_var (pv 7))) (a_cons (e_bin o_add (e_var (pv 6)) (e_var (pv 8))) (a_nil)))) (e_var (pv 2))) (w_one (t_cmp o_lt (e_bi c_len T.n_len PySem.boot_len (a_cons (e_var (pv 2)) (a_nil))) (e_var (pv 1))) (.inl rfl)))) (s_one (s_expr (e_append (e_var (pv 2)) (e_tup (a_cons (e_bin o_add (e_var (pv 5)) (e_var (pv 7))) (a_cons (e_bin o_add (e_var (pv 6)) (e_var (pv 8))) (a_nil))))))) (s_nil)))))) (s_one (s_ret (e_var (pv 2)))))
theorem ok_law_home (T : Txt P w K mg)  : FnG P w K mg base 1 T.a_law_home T.fd_law_home ["_law_cells"] m_law_home := by
  refine FnG.of T.F_law_home sc_law_home fun cdv A outer s H E hr hgd hx tk => ?_
  exact s_cons (s_unp (e_tup (a_cons (e_bi (c_min rfl) T.n_min PyProof.Rows.boot_min (a_cons (e_lc rfl sc_law_home.nd (i_seq (e_var (pv 0))) (blkOk_by (N := N_law_home) (sc := (defScope s_law_home)) (own := [("_law_x", 3), ("_law_y", 4)]) (by decide +kernel)) (by decide) (fun _ _ _ _ _ => g_tp rfl (gs_cons (g_nm sc_law_home.nd) (gs_cons (g_nm sc_law_home.nd) (gs_nil)))) (fun _ _ _ _ _ => ts_nil) (fun _ _ _ _ _ => e_var (pv 3))) (a_nil))) (a_cons (e_bi (c_min rfl) T.n_min PyProof.Rows.boot_min (a_cons (e_lc rfl sc_law_home.nd (i_seq (e_var (pv 0))) (blkOk_by (N := N_law_home) (sc := (defScope s_law_home)) (own := [("_law_x", 3), ("_law_y", 4)]) (by decide +kernel)) (by decide) (fun _ _ _ _ _ => g_tp rfl (gs_cons (g_nm sc_law_home.nd) (gs_cons (g_nm sc_law_home.nd) (gs_nil)))) (fun _ _ _ _ _ => ts_nil) (fun _ _ _ _ _ => e_var (pv 4))) (a_nil))) (a_nil)))) (g_tp rfl (gs_cons (g_nm sc_law_home.nd) (gs_cons (g_nm sc_law_home.nd) (gs_nil))))) (s_one (s_ret (e_ty c_tup T.n_tuple PyProof.Rows.boot_tuple (a_cons (e_bi (c_sortedD rfl) T.n_sorted PyProof.Rows.boot_sorted (a_cons (e_lc rfl sc_law_home.nd (i_seq (e_var (pv 0))) (blkOk_by (N := N_law_home) (sc := (defScope s_law_home)) (own := [("_law_x", 3), ("_law_y", 4)]) (by decide +kernel)) (by decide) (fun _ _ _ _ _ => g_tp rfl (gs_cons (g_nm sc_law_home.nd) (gs_cons (g_nm sc_law_home.nd) (gs_nil)))) (fun _ _ _ _ _ => ts_nil) (fun _ _ _ _ _ => e_tup (a_cons (e_bin o_sub (e_var (pv 3)) (e_var (pv 1))) (a_cons (e_bin o_sub (e_var (pv 4)) (e_var (pv 2))) (a_nil))))) (a_nil))) (a_nil)))))
theorem ok_law_paw (T : Txt P w K mg)  : FnG P w K mg base 1 T.a_law_paw T.fd_law_paw ["_law_script"] m_law_paw := by
  refine FnG.of T.F_law_paw sc_law_paw fun cdv A outer s H E hr hgd hx tk => ?_
  exact s_one (s_ret (e_new (a_cons (e_lc rfl sc_law_paw.nd (i_seq (e_sl (e_var (pv 0)) (o_none) (o_some (e_int)))) (blkOk_by (N := N_law_paw) (sc := (defScope s_law_paw)) (own := [("_law_cell", 1)]) (by decide +kernel)) (by decide) (fun _ _ _ _ _ => g_nm sc_law_paw.nd) (fun _ _ _ _ _ => ts_nil) (fun _ _ _ _ _ => e_ty c_int T.n_int PyProof.Rows.boot_int (a_cons (e_var (pv 1)) (a_nil)))) (a_cons (e_int) (a_cons (e_int) (a_nil))))))
theorem ok_law_text (T : Txt P w K mg)  : FnG P w K mg base 1 T.a_law_text T.fd_law_text ["_law_cells"] m_law_text := by
  refine FnG.frz (FnG.of T.F_law_text sc_law_text fun cdv A outer s H E hr hgd hx tk => ?_)
  exact s_cons (s_set sc_law_text.nd (e_new (a_nil))) (s_cons (s_for (passes_of rfl) rfl (i_rng3 T.n_range (e_bi (c_max rfl) T.n_max PyProof.Rows.boot_max (a_cons (e_lc rfl sc_law_text.nd (i_seq (e_var (pv 0))) (blkOk_by (N := N_law_text) (sc := (defScope s_law_text)) (own := [("_law_x", 3), ("_law_up", 4)]) (by decide +kernel)) (by decide) (fun _ _ _ _ _ => g_tp rfl (gs_cons (g_nm sc_law_text.nd) (gs_cons (g_nm sc_law_text.nd) (gs_nil)))) (fun _ _ _ _ _ => ts_nil) (fun _ _ _ _ _ => e_var (pv 4))) (a_nil))) (e_un o_neg (e_int)) (e_un o_neg (e_int))) (g_nm sc_law_text.nd) (s_one (s_expr (e_append (e_var (pv 1)) (e_join (e_str) (e_lc rfl sc_law_text.nd (i_rng1 T.n_range (e_bin o_add (e_bi (c_max rfl) T.n_max PyProof.Rows.boot_max (a_cons (e_lc rfl sc_law_text.nd (i_seq (e_var (pv 0))) (blkOk_by (N := N_law_text) (sc := (defScope s_law_text)) (own := [("_law_x", 3), ("_law_up", 4)]) (by decide +kernel)) (by decide) (fun _ _ _ _ _ => g_tp rfl (gs_cons (g_nm sc_law_text.nd) (gs_cons (g_nm sc_law_text.nd) (gs_nil)))) (fun _ _ _ _ _ => ts_nil) (fun _ _ _ _ _ => e_var (pv 3))) (a_nil))) (e_int))) (blkOk_by (N := N_law_text) (sc := (defScope s_law_text)) (own := [("_law_x", 3)]) (by decide +kernel)) (by decide) (fun _ _ _ _ _ => g_nm sc_law_text.nd) (fun _ _ _ _ _ => ts_nil) (fun _ _ _ _ _ => e_if (t_cmp (o_inD hr.units1 (o_inE (room65 hr))) (e_tup (a_cons (e_var (pv 3)) (a_cons (e_var (pv 2)) (a_nil)))) (e_var (pv 0))) (e_str) (e_str)))))))) (s_one (s_ret (e_join (e_str) (e_var (pv 1))))))
theorem ok_law (T : Txt P w K mg) (G_Floor___eq__ : FnG P w K mg base 1 T.a_Floor___eq__ T.fd_Floor___eq__ ["self", "other"] m_Floor___eq__) (G_Floor___init__ : FnG P w K mg base 5 T.I_Floor T.fd_Floor___init__ ["self", "cells"] m_Floor___init__) (G_Floor___str__ : FnG P w K mg base 1 T.a_Floor___str__ T.fd_Floor___str__ ["self"] m_Floor___str__) (G_Floor_beside : FnG P w K mg base 5 T.a_Floor_beside T.fd_Floor_beside ["self", "cell", "side"] m_Floor_beside) (G_Floor_has : FnG P w K mg base 5 T.a_Floor_has T.fd_Floor_has ["self", "cell"] m_Floor_has) (G_law_grown : FnG P w K mg base 3 T.a_law_grown T.fd_law_grown ["_law_paw_here", "_law_many"] m_law_grown) (G_law_home : FnG P w K mg base 1 T.a_law_home T.fd_law_home ["_law_cells"] m_law_home) (G_law_paw : FnG P w K mg base 1 T.a_law_paw T.fd_law_paw ["_law_script"] m_law_paw) (G_law_pick : FnG P w K mg base 2 T.a_law_pick T.fd_law_pick ["_law_paw_here", "_law_some"] m_law_pick) (G_law_tell : FnG P w K mg base 1 T.a_law_tell T.fd_law_tell ["_law_paw_here", "_law_many"] m_law_tell) (G_law_text : FnG P w K mg base 1 T.a_law_text T.fd_law_text ["_law_cells"] m_law_text) : FnG P w K mg base 7 T.a_law T.fd_law ["_law_script"] m_law := by
  refine FnG.of T.F_law sc_law fun cdv A outer s H E hr hgd hx tk => ?_
  exact s_cons (s_set sc_law.nd (e_call (G_law_paw.up (by decide)) hr hgd hx T.g_law_paw T.F_law_paw.kp T.b_law_paw (a_cons (e_var (pv 0)) (a_nil)))) (s_cons (s_for (passes_of rfl) rfl (i_rng1 T.n_range (e_int)) (g_nm sc_law.nd) (s_cons (s_set sc_law.nd (e_call (G_law_grown.up (by decide)) hr hgd hx T.g_law_grown T.F_law_grown.kp T.b_law_grown (a_cons (e_var (pv 1)) (a_cons (e_call (G_law_pick.up (by decide)) hr hgd hx T.g_law_pick T.F_law_pick.kp T.b_law_pick (a_cons (e_var (pv 1)) (a_cons (e_lst (a_cons (e_int) (a_cons (e_int) (a_cons (e_int) (a_cons (e_int) (a_cons (e_int) (a_nil))))))) (a_nil)))) (a_nil))))) (s_cons (s_unp (e_tup (a_cons (e_call (G_law_pick.up (by decide)) hr hgd hx T.g_law_pick T.F_law_pick.kp T.b_law_pick (a_cons (e_var (pv 1)) (a_cons (e_lst (a_cons (e_int) (a_cons (e_int) (a_cons (e_un o_neg (e_int)) (a_cons (e_int) (a_nil)))))) (a_nil)))) (a_cons (e_call (G_law_pick.up (by decide)) hr hgd hx T.g_law_pick T.F_law_pick.kp T.b_law_pick (a_cons (e_var (pv 1)) (a_cons (e_lst (a_cons (e_int) (a_cons (e_un o_neg (e_int)) (a_cons (e_int) (a_nil))))) (a_nil)))) (a_nil)))) (g_tp rfl (gs_cons (g_nm sc_law.nd) (gs_cons (g_nm sc_law.nd) (gs_nil))))) (s_cons (s_setLc (i := 6) rfl sc_law.nd (sw_true rfl rfl rfl (by decide +kernel)) (i_seq (e_var (pv 3))) (blkOk_by (N := N_law) (sc := (defScope s_law)) (own := [("_law_x", 7), ("_law_y", 8)]) (by decide +kernel)) (by decide) (fun _ _ _ _ _ => g_tp rfl (gs_cons (g_nm sc_law.nd) (gs_cons (g_nm sc_law.nd) (gs_nil)))) (fun _ _ _ _ _ => ts_nil) (fun _ _ _ _ _ => e_call (G_law_pick.up (by decide)) hr hgd passL T.g_law_pick T.F_law_pick.kp T.b_law_pick (a_cons (e_var (pv 1)) (a_cons (e_lst (a_cons (e_lst (a_cons (e_bin o_add (e_var (pv 7)) (e_var (pv 4))) (a_cons (e_bin o_add (e_var (pv 8)) (e_var (pv 5))) (a_nil)))) (a_cons (e_tup (a_cons (e_bin o_add (e_var (pv 7)) (e_var (pv 4))) (a_cons (e_bin o_add (e_var (pv 8)) (e_var (pv 5))) (a_nil)))) (a_nil)))) (a_nil))))) (s_cons (s_par2 rfl sc_law.nd (a_cons (e_bi (c_reprD hgd hr.units) T.n_repr PyProof.Rows.boot_repr (a_cons (e_var (pv 6)) (a_nil))) (a_cons (e_call (G_law_home.up (by decide)) hr hgd hx T.g_law_home T.F_law_home.kp T.b_law_home (a_cons (e_var (pv 3)) (a_nil))) (a_nil)))) (s_cons (s_set sc_law.nd (e_mk Kept.frz T.K_Floor.mks G_Floor___init__ (hr.mono (by decide)) hgd hx T.g_Floor T.K_Floor.loc T.b_Floor___init__ (a_cons (e_call (G_law_pick.up (by decide)) hr hgd hx T.g_law_pick T.F_law_pick.kp T.b_law_pick (a_cons (e_var (pv 1)) (a_cons (e_lst (a_cons (e_var (pv 6)) (a_cons (e_ty c_tup T.n_tuple PyProof.Rows.boot_tuple (a_cons (e_var (pv 6)) (a_nil))) (a_nil)))) (a_nil)))) (a_nil)))) (s_cons (s_par2 rfl sc_law.nd (a_cons (e_bin o_add (e_bi (c_max rfl) T.n_max PyProof.Rows.boot_max (a_cons (e_lc rfl sc_law.nd (i_seq (e_var (pv 10))) (blkOk_by (N := N_law) (sc := (defScope s_law)) (own := [("_law_x", 7), ("_law_y", 8)]) (by decide +kernel)) (by decide) (fun _ _ _ _ _ => g_tp rfl (gs_cons (g_nm sc_law.nd) (gs_cons (g_nm sc_law.nd) (gs_nil)))) (fun _ _ _ _ _ => ts_nil) (fun _ _ _ _ _ => e_var (pv 7))) (a_nil))) (e_int)) (a_cons (e_bin o_add (e_bi (c_max rfl) T.n_max PyProof.Rows.boot_max (a_cons (e_lc rfl sc_law.nd (i_seq (e_var (pv 10))) (blkOk_by (N := N_law) (sc := (defScope s_law)) (own := [("_law_x", 7), ("_law_y", 8)]) (by decide +kernel)) (by decide) (fun _ _ _ _ _ => g_tp rfl (gs_cons (g_nm sc_law.nd) (gs_cons (g_nm sc_law.nd) (gs_nil)))) (fun _ _ _ _ _ => ts_nil) (fun _ _ _ _ _ => e_var (pv 8))) (a_nil))) (e_int)) (a_nil)))) (s_cons (s_if (t_w (w_or (t_cmp (o_ne hr.units) (e_bi (c_reprD hgd hr.units) T.n_repr PyProof.Rows.boot_repr (a_cons (e_lst (a_cons (e_fld (e_var (pv 11)) T.fe_cells T.fo_cells) (a_cons (e_fld (e_var (pv 11)) T.fe_width T.fo_width) (a_cons (e_fld (e_var (pv 11)) T.fe_height T.fo_height) (a_cons (e_ty (c_strI Kept.id T.st_Floor G_Floor___str__ (hr.mono (by decide)) hgd hx T.b_Floor___str__ rfl c_str) T.n_str (by rfl) (a_cons (e_var (pv 11)) (a_nil))) (a_nil)))))) (a_nil))) (e_bi (c_reprD hgd hr.units) T.n_repr PyProof.Rows.boot_repr (a_cons (e_lst (a_cons (e_var (pv 10)) (a_cons (e_var (pv 12)) (a_cons (e_var (pv 13)) (a_cons (e_call (G_law_text.up (by decide)) hr hgd hx T.g_law_text T.F_law_text.kp T.b_law_text (a_cons (e_var (pv 10)) (a_nil))) (a_nil)))))) (a_nil)))) (w_one (t_cmp (o_ne hr.units) (e_bi (c_reprD hgd hr.units) T.n_repr PyProof.Rows.boot_repr (a_cons (e_var (pv 6)) (a_nil))) (e_var (pv 9))) (.inr rfl)))) (s_one (s_ret (e_bl))) (s_nil)) (s_cons (s_set sc_law.nd (e_mkK0 (perm := [0]) Kept.frz T.K_Floor.mks G_Floor___init__ (hr.mono (by decide)) hgd hx T.g_Floor T.K_Floor.loc (kb_Floor___init___1_cells T.F_Floor___init__) (k_cons (e_rev (e_var (pv 3))) (k_nil)))) (s_cons (s_set sc_law.nd (e_bi (c_max rfl) T.n_max PyProof.Rows.boot_max (a_cons (e_lc rfl sc_law.nd (i_seq (e_var (pv 3))) (blkOk_by (N := N_law) (sc := (defScope s_law)) (own := [("_law_x", 7), ("_law_y", 8)]) (by decide +kernel)) (by decide) (fun _ _ _ _ _ => g_tp rfl (gs_cons (g_nm sc_law.nd) (gs_cons (g_nm sc_law.nd) (gs_nil)))) (fun _ _ _ _ _ => ts_nil) (fun _ _ _ _ _ => e_var (pv 7))) (a_nil)))) (s_cons (s_setLc (i := 16) rfl sc_law.nd (sw_true rfl rfl rfl (by decide +kernel)) (i_seq (e_var (pv 3))) (blkOk_by (N := N_law) (sc := (defScope s_law)) (own := [("_law_x", 7), ("_law_y", 8)]) (by decide +kernel)) (by decide) (fun _ _ _ _ _ => g_tp rfl (gs_cons (g_nm sc_law.nd) (gs_cons (g_nm sc_law.nd) (gs_nil)))) (fun _ _ _ _ _ => ts_one (t_cmp (o_eq hr.units) (e_var (pv 7)) (e_var (pv 15)))) (fun _ _ _ _ _ => e_tup (a_cons (e_bin o_add (e_var (pv 15)) (e_int)) (a_cons (e_var (pv 8)) (a_nil))))) (s_cons (s_if (t_w (w_or (t_cmp (o_neI Kept.id T.q_Floor G_Floor___eq__ (hr.mono (by decide)) hgd hx T.b_Floor___eq__ rfl (o_ne hr.units)) (e_var (pv 14)) (e_var (pv 11))) (w_or (t_cmp (o_eqI Kept.id T.q_Floor G_Floor___eq__ (hr.mono (by decide)) hgd hx T.b_Floor___eq__ rfl (o_eq hr.units)) (e_var (pv 11)) (e_var (pv 10))) (w_or (t_cmp (o_eqI Kept.id T.q_Floor G_Floor___eq__ (hr.mono (by decide)) hgd hx T.b_Floor___eq__ rfl (o_eq hr.units)) (e_var (pv 11)) (e_ty (c_strI Kept.id T.st_Floor G_Floor___str__ (hr.mono (by decide)) hgd hx T.b_Floor___str__ rfl c_str) T.n_str (by rfl) (a_cons (e_var (pv 11)) (a_nil)))) (w_one (t_cmp (o_eqI Kept.id T.q_Floor G_Floor___eq__ (hr.mono (by decide)) hgd hx T.b_Floor___eq__ rfl (o_eq hr.units)) (e_mk Kept.frz T.K_Floor.mks G_Floor___init__ (hr.mono (by decide)) hgd hx T.g_Floor T.K_Floor.loc T.b_Floor___init__ (a_cons (e_bin o_add (e_var (pv 3)) (e_slA (e_var (pv 16)) (o_none) (o_some (e_int)))) (a_nil))) (e_var (pv 11))) (.inr rfl)))))) (s_one (s_ret (e_bl))) (s_nil)) (s_one (s_for (passes_of rfl) rfl (i_rng1 T.n_range (e_int)) (g_nm sc_law.nd) (s_cons (s_par2 rfl sc_law.nd (a_cons (e_tup (a_cons (e_bin o_sub (e_call (G_law_tell.up (by decide)) hr hgd hx T.g_law_tell T.F_law_tell.kp T.b_law_tell (a_cons (e_var (pv 1)) (a_cons (e_bin o_add (e_var (pv 12)) (e_int)) (a_nil)))) (e_int)) (a_cons (e_bin o_sub (e_call (G_law_tell.up (by decide)) hr hgd hx T.g_law_tell T.F_law_tell.kp T.b_law_tell (a_cons (e_var (pv 1)) (a_cons (e_bin o_add (e_var (pv 13)) (e_int)) (a_nil)))) (e_int)) (a_nil)))) (a_cons (e_call (G_law_tell.up (by decide)) hr hgd hx T.g_law_tell T.F_law_tell.kp T.b_law_tell (a_cons (e_var (pv 1)) (a_cons (e_int) (a_nil)))) (a_nil)))) (s_cons (s_set sc_law.nd (e_call (G_law_pick.up (by decide)) hr hgd hx T.g_law_pick T.F_law_pick.kp T.b_law_pick (a_cons (e_var (pv 1)) (a_cons (e_lst (a_cons (e_var (pv 18)) (a_cons (e_call (G_law_pick.up (by decide)) hr hgd hx T.g_law_pick T.F_law_pick.kp T.b_law_pick (a_cons (e_var (pv 1)) (a_cons (e_var (pv 10)) (a_nil)))) (a_nil)))) (a_nil))))) (s_cons (s_if (t_cmp (o_ne hr.units) (e_bi (c_reprD hgd hr.units) T.n_repr PyProof.Rows.boot_repr (a_cons (e_lst (a_cons (e_meth Kept.id T.t_Floor_has (G_Floor_has.up (by decide)) hr hgd hx T.b_Floor_has (e_var (pv 11)) (a_cons (e_var (pv 18)) (a_nil))) (a_cons (e_methK0 Kept.id T.t_Floor_has (G_Floor_has.up (by decide)) hr hgd hx (kb_Floor_has_1_cell T.F_Floor_has) (e_var (pv 11)) (k_cons (e_ty c_lst T.n_list PyProof.Rows.boot_list (a_cons (e_var (pv 18)) (a_nil))) (k_nil))) (a_nil)))) (a_nil))) (e_bi (c_reprD hgd hr.units) T.n_repr PyProof.Rows.boot_repr (a_cons (e_bin o_mul (e_lst (a_cons (e_cmp (o_inD hr.units1 (o_inE (room65 hr))) (e_var (pv 18)) (e_var (pv 10))) (a_nil))) (e_int)) (a_nil)))) (s_one (s_ret (e_bl))) (s_nil)) (s_one (s_if (t_cmp (o_inD hr.units1 (o_inE (room65 hr))) (e_var (pv 18)) (e_var (pv 10))) (s_cons (s_unp (e_ix (e_lst (a_cons (e_tup (a_cons (e_int) (a_cons (e_int) (a_nil)))) (a_cons (e_tup (a_cons (e_int) (a_cons (e_int) (a_nil)))) (a_cons (e_tup (a_cons (e_int) (a_cons (e_un o_neg (e_int)) (a_nil)))) (a_cons (e_tup (a_cons (e_un o_neg (e_int)) (a_cons (e_int) (a_nil)))) (a_nil)))))) (e_var (pv 19))) (g_tp rfl (gs_cons (g_nm sc_law.nd) (gs_cons (g_nm sc_law.nd) (gs_nil))))) (s_cons (s_set sc_law.nd (e_tup (a_cons (e_bin o_add (e_ix (e_var (pv 18)) (e_int)) (e_var (pv 20))) (a_cons (e_bin o_add (e_ix (e_var (pv 18)) (e_int)) (e_var (pv 21))) (a_nil))))) (s_one (s_if (t_cmp (o_ne hr.units) (e_bi (c_reprD hgd hr.units) T.n_repr PyProof.Rows.boot_repr (a_cons (e_lst (a_cons (e_meth Kept.id T.t_Floor_beside (G_Floor_beside.up (by decide)) hr hgd hx T.b_Floor_beside (e_var (pv 11)) (a_cons (e_var (pv 18)) (a_cons (e_var (pv 19)) (a_nil)))) (a_cons (e_methK0 Kept.id T.t_Floor_beside (G_Floor_beside.up (by decide)) hr hgd hx (kb_Floor_beside_1_side_cell T.F_Floor_beside) (e_var (pv 11)) (k_cons (e_var (pv 19)) (k_cons (e_ty c_lst T.n_list PyProof.Rows.boot_list (a_cons (e_var (pv 18)) (a_nil))) (k_nil)))) (a_nil)))) (a_nil))) (e_bi (c_reprD hgd hr.units) T.n_repr PyProof.Rows.boot_repr (a_cons (e_bin o_mul (e_lst (a_cons (e_if (t_cmp (o_inD hr.units1 (o_inE (room65 hr))) (e_var (pv 22)) (e_var (pv 10))) (e_var (pv 22)) (e_non)) (a_nil))) (e_int)) (a_nil)))) (s_one (s_ret (e_bl))) (s_nil))))) (s_nil)))))))))))))))))))) (s_one (s_ret (e_bl))))
theorem ok_all (T : Txt P w K mg) (hI_Floor : T.a_Floor___init__ = T.I_Floor) : FnG P w K mg base 7 T.a_law T.fd_law ["_law_script"] m_law := by
  have G_Floor___eq__ : FnG P w K mg base 1 T.a_Floor___eq__ T.fd_Floor___eq__ ["self", "other"] m_Floor___eq__ := ok_Floor___eq__ T 
  have G_neighbour : FnG P w K mg base 1 T.a_neighbour T.fd_neighbour ["cell", "side"] m_neighbour := ok_neighbour T 
  have G_hanging : FnG P w K mg base 2 T.a_hanging T.fd_hanging ["known", "first"] m_hanging := ok_hanging T G_neighbour
  have G_lots_in : FnG P w K mg base 3 T.a_lots_in T.fd_lots_in ["cells"] m_lots_in := ok_lots_in T G_hanging
  have G_moved_home : FnG P w K mg base 1 T.a_moved_home T.fd_moved_home ["cells"] m_moved_home := ok_moved_home T 
  have G_is_integer : FnG P w K mg base 1 T.a_is_integer T.fd_is_integer ["value"] m_is_integer := ok_is_integer T 
  have G_is_within : FnG P w K mg base 2 T.a_is_within T.fd_is_within ["value", "least", "most"] m_is_within := ok_is_within T G_is_integer
  have G_is_cell : FnG P w K mg base 3 T.a_is_cell T.fd_is_cell ["value"] m_is_cell := ok_is_cell T G_is_within
  have G_need_cells : FnG P w K mg base 4 T.a_need_cells T.fd_need_cells ["value", "part", "least"] m_need_cells := ok_need_cells T G_is_cell
  have G_Floor___init__ : FnG P w K mg base 5 T.I_Floor T.fd_Floor___init__ ["self", "cells"] m_Floor___init__ := ok_Floor___init__ T G_lots_in G_moved_home G_need_cells hI_Floor
  have G_Floor___str__ : FnG P w K mg base 1 T.a_Floor___str__ T.fd_Floor___str__ ["self"] m_Floor___str__ := ok_Floor___str__ T 
  have G_need_cell : FnG P w K mg base 4 T.a_need_cell T.fd_need_cell ["value", "part"] m_need_cell := ok_need_cell T G_is_cell
  have G_is_side : FnG P w K mg base 3 T.a_is_side T.fd_is_side ["value"] m_is_side := ok_is_side T G_is_within
  have G_need_side : FnG P w K mg base 4 T.a_need_side T.fd_need_side ["value", "part"] m_need_side := ok_need_side T G_is_side
  have G_Floor_beside : FnG P w K mg base 5 T.a_Floor_beside T.fd_Floor_beside ["self", "cell", "side"] m_Floor_beside := ok_Floor_beside T G_need_cell G_need_side G_neighbour
  have G_Floor_has : FnG P w K mg base 5 T.a_Floor_has T.fd_Floor_has ["self", "cell"] m_Floor_has := ok_Floor_has T G_need_cell
  have G_law_tell : FnG P w K mg base 1 T.a_law_tell T.fd_law_tell ["_law_paw_here", "_law_many"] m_law_tell := ok_law_tell T 
  have G_law_pick : FnG P w K mg base 2 T.a_law_pick T.fd_law_pick ["_law_paw_here", "_law_some"] m_law_pick := ok_law_pick T G_law_tell
  have G_law_grown : FnG P w K mg base 3 T.a_law_grown T.fd_law_grown ["_law_paw_here", "_law_many"] m_law_grown := ok_law_grown T G_law_pick
  have G_law_home : FnG P w K mg base 1 T.a_law_home T.fd_law_home ["_law_cells"] m_law_home := ok_law_home T 
  have G_law_paw : FnG P w K mg base 1 T.a_law_paw T.fd_law_paw ["_law_script"] m_law_paw := ok_law_paw T 
  have G_law_text : FnG P w K mg base 1 T.a_law_text T.fd_law_text ["_law_cells"] m_law_text := ok_law_text T 
  exact ok_law T G_Floor___eq__ G_Floor___init__ G_Floor___str__ G_Floor_beside G_Floor_has G_law_grown G_law_home G_law_paw G_law_pick G_law_tell G_law_text
end
theorem all_mk {l : PySem.W.OpenLaw} {w : World} {K : PySem.W.Frag} {h : Heap} {mg : Str → Option Value} {fa f0 f1 f2 f3 f4 f5 f6 f7 f8 f9 f10 f11 f12 f13 f14 f15 f16 f17 f18 f19 f20 f21 f22 ac0 ac1 ac2 ac3 ac4 ac5 in_Floor gtSTEPS : Addr} (X : K.In h) (G : h.Ns mainGlobals mg) (hfa : mg "law" = some (.ref fa))
    {od0 od1 od2 od3 od4 od5 od6 od7 od8 od9 od10 od11 od12 od13 od14 od15 od16 od17 od18 od19 od20 od21 od22 an0 an1 an2 an3 an4 an5 an6 an7 an8 an9 an10 an11 an12 an13 an14 an15 an16 an17 an18 an19 an20 an21 an22 : Option Addr} {sl0 sl1 sl2 sl3 sl4 sl5 sl6 sl7 sl8 sl9 sl10 sl11 sl12 sl13 sl14 sl15 sl16 sl17 sl18 sl19 sl20 sl21 sl22 : Array (Option Value)} {oc0 oc1 oc2 oc3 oc4 oc5 oc6 oc7 oc8 oc9 oc10 oc11 oc12 oc13 oc14 oc15 oc16 oc17 oc18 oc19 oc20 oc21 oc22 kV0 kV1 kV2 kV3 kV4 kV5 kV6 kV7 kV8 kV9 kV10 kV11 kV12 kV13 kV14 kV15 kV16 kV17 kV18 kV19 kV20 kV21 kV22 dc0 dc1 dc2 dc3 dc4 dc5 dc6 dc7 dc8 dc9 dc10 dc11 dc12 dc13 dc14 dc15 dc16 dc17 dc18 dc19 dc20 dc21 dc22 pm0 pm1 pm2 pm3 pm4 pm5 pm6 pm7 pm8 pm9 pm10 pm11 pm12 pm13 pm14 pm15 pm16 pm17 pm18 pm19 pm20 pm21 pm22 cd0 cd1 cd2 cd3 cd4 cd5 cd6 cd7 cd8 cd9 cd10 cd11 cd12 cd13 cd14 cd15 cd16 cd17 cd18 cd19 cd20 cd21 cd22 ct0 ct1 ct2 ct3 ct4 ct5 ct6 ct7 ct8 ct9 ct10 ct11 ct12 ct13 ct14 ct15 ct16 ct17 ct18 ct19 ct20 ct21 ct22 dV11 dV13 : Value} {t_CELL : Tok} {t_MOST_CELLS : Tok} {t_MOST_PLACE : Tok} {t_NONE : Tok} {fi_BadNumber : FuncData} {fi_BadFloor : FuncData} {fi_BadCell : FuncData} {fi_Misfit : FuncData} {fi_BadText : FuncData}
    (ga_BadCell : PySem.W.nsIn K mainGlobals "BadCell" = some (some (.ref ac0)))
    (ga_BadFloor : PySem.W.nsIn K mainGlobals "BadFloor" = some (some (.ref ac1)))
    (ga_BadNumber : PySem.W.nsIn K mainGlobals "BadNumber" = some (some (.ref ac2)))
    (ga_BadText : PySem.W.nsIn K mainGlobals "BadText" = some (some (.ref ac3)))
    (ga_Floor : PySem.W.nsIn K mainGlobals "Floor" = some (some (.ref ac4)))
    (ga_Misfit : PySem.W.nsIn K mainGlobals "Misfit" = some (some (.ref ac5)))
    (K_Floor : CF K "Floor" ac4 in_Floor)
    (a_Floor___eq__ : PySem.W.findIn K (.ref ac4) "__eq__" = some (some (.ref f0)))
    (l_Floor___eq__ : K.lookup f0 = some ⟨oc0, od0, .func (PySem.W.fnOf "__eq__" "Floor.__eq__" (defArgs s_Floor___eq__) (defBody s_Floor___eq__) (defScope s_Floor___eq__) .none kV0 dc0 pm0 an0 cd0 ct0), sl0⟩)
    (d_Floor___eq__ : PySem.W.codeIn K cd0 "Floor.__eq__" = true)
    (k_Floor___eq__ : PySem.W.keepIn K (.ref f0) = true)
    (a_neighbour : PySem.W.nsIn K mainGlobals "neighbour" = some (some (.ref f1)))
    (l_neighbour : K.lookup f1 = some ⟨oc1, od1, .func (PySem.W.fnOf "neighbour" "neighbour" (defArgs s_neighbour) (defBody s_neighbour) (defScope s_neighbour) .none kV1 dc1 pm1 an1 cd1 ct1), sl1⟩)
    (d_neighbour : PySem.W.codeIn K cd1 "neighbour" = true)
    (k_neighbour : PySem.W.keepIn K (.ref f1) = true)
    (a_hanging : PySem.W.nsIn K mainGlobals "hanging" = some (some (.ref f2)))
    (l_hanging : K.lookup f2 = some ⟨oc2, od2, .func (PySem.W.fnOf "hanging" "hanging" (defArgs s_hanging) (defBody s_hanging) (defScope s_hanging) .none kV2 dc2 pm2 an2 cd2 ct2), sl2⟩)
    (d_hanging : PySem.W.codeIn K cd2 "hanging" = true)
    (k_hanging : PySem.W.keepIn K (.ref f2) = true)
    (a_lots_in : PySem.W.nsIn K mainGlobals "lots_in" = some (some (.ref f3)))
    (l_lots_in : K.lookup f3 = some ⟨oc3, od3, .func (PySem.W.fnOf "lots_in" "lots_in" (defArgs s_lots_in) (defBody s_lots_in) (defScope s_lots_in) .none kV3 dc3 pm3 an3 cd3 ct3), sl3⟩)
    (d_lots_in : PySem.W.codeIn K cd3 "lots_in" = true)
    (k_lots_in : PySem.W.keepIn K (.ref f3) = true)
    (a_moved_home : PySem.W.nsIn K mainGlobals "moved_home" = some (some (.ref f4)))
    (l_moved_home : K.lookup f4 = some ⟨oc4, od4, .func (PySem.W.fnOf "moved_home" "moved_home" (defArgs s_moved_home) (defBody s_moved_home) (defScope s_moved_home) .none kV4 dc4 pm4 an4 cd4 ct4), sl4⟩)
    (d_moved_home : PySem.W.codeIn K cd4 "moved_home" = true)
    (k_moved_home : PySem.W.keepIn K (.ref f4) = true)
    (a_is_integer : PySem.W.nsIn K mainGlobals "is_integer" = some (some (.ref f5)))
    (l_is_integer : K.lookup f5 = some ⟨oc5, od5, .func (PySem.W.fnOf "is_integer" "is_integer" (defArgs s_is_integer) (defBody s_is_integer) (defScope s_is_integer) .none kV5 dc5 pm5 an5 cd5 ct5), sl5⟩)
    (d_is_integer : PySem.W.codeIn K cd5 "is_integer" = true)
    (k_is_integer : PySem.W.keepIn K (.ref f5) = true)
    (a_is_within : PySem.W.nsIn K mainGlobals "is_within" = some (some (.ref f6)))
    (l_is_within : K.lookup f6 = some ⟨oc6, od6, .func (PySem.W.fnOf "is_within" "is_within" (defArgs s_is_within) (defBody s_is_within) (defScope s_is_within) .none kV6 dc6 pm6 an6 cd6 ct6), sl6⟩)
    (d_is_within : PySem.W.codeIn K cd6 "is_within" = true)
    (k_is_within : PySem.W.keepIn K (.ref f6) = true)
    (a_is_cell : PySem.W.nsIn K mainGlobals "is_cell" = some (some (.ref f7)))
    (l_is_cell : K.lookup f7 = some ⟨oc7, od7, .func (PySem.W.fnOf "is_cell" "is_cell" (defArgs s_is_cell) (defBody s_is_cell) (defScope s_is_cell) .none kV7 dc7 pm7 an7 cd7 ct7), sl7⟩)
    (d_is_cell : PySem.W.codeIn K cd7 "is_cell" = true)
    (k_is_cell : PySem.W.keepIn K (.ref f7) = true)
    (a_need_cells : PySem.W.nsIn K mainGlobals "need_cells" = some (some (.ref f8)))
    (l_need_cells : K.lookup f8 = some ⟨oc8, od8, .func (PySem.W.fnOf "need_cells" "need_cells" (defArgs s_need_cells) (defBody s_need_cells) (defScope s_need_cells) .none kV8 dc8 pm8 an8 cd8 ct8), sl8⟩)
    (d_need_cells : PySem.W.codeIn K cd8 "need_cells" = true)
    (k_need_cells : PySem.W.keepIn K (.ref f8) = true)
    (a_Floor___init__ : PySem.W.findIn K (.ref ac4) "__init__" = some (some (.ref f9)))
    (l_Floor___init__ : K.lookup f9 = some ⟨oc9, od9, .func (PySem.W.fnOf "__init__" "Floor.__init__" (defArgs s_Floor___init__) (defBody s_Floor___init__) (defScope s_Floor___init__) .none kV9 dc9 pm9 an9 cd9 ct9), sl9⟩)
    (d_Floor___init__ : PySem.W.codeIn K cd9 "Floor.__init__" = true)
    (k_Floor___init__ : PySem.W.keepIn K (.ref f9) = true)
    (a_Floor___str__ : PySem.W.findIn K (.ref ac4) "__str__" = some (some (.ref f10)))
    (l_Floor___str__ : K.lookup f10 = some ⟨oc10, od10, .func (PySem.W.fnOf "__str__" "Floor.__str__" (defArgs s_Floor___str__) (defBody s_Floor___str__) (defScope s_Floor___str__) .none kV10 dc10 pm10 an10 cd10 ct10), sl10⟩)
    (d_Floor___str__ : PySem.W.codeIn K cd10 "Floor.__str__" = true)
    (k_Floor___str__ : PySem.W.keepIn K (.ref f10) = true)
    (a_need_cell : PySem.W.nsIn K mainGlobals "need_cell" = some (some (.ref f11)))
    (l_need_cell : K.lookup f11 = some ⟨oc11, od11, .func (PySem.W.fnOf "need_cell" "need_cell" (defArgs s_need_cell) (defBody s_need_cell) (defScope s_need_cell) dV11 kV11 dc11 pm11 an11 cd11 ct11), sl11⟩)
    (d_need_cell : PySem.W.codeIn K cd11 "need_cell" = true)
    (k_need_cell : PySem.W.keepIn K (.ref f11) = true)
    (df_need_cell : defB K dV11 [.str "cell"] = true)
    (a_is_side : PySem.W.nsIn K mainGlobals "is_side" = some (some (.ref f12)))
    (l_is_side : K.lookup f12 = some ⟨oc12, od12, .func (PySem.W.fnOf "is_side" "is_side" (defArgs s_is_side) (defBody s_is_side) (defScope s_is_side) .none kV12 dc12 pm12 an12 cd12 ct12), sl12⟩)
    (d_is_side : PySem.W.codeIn K cd12 "is_side" = true)
    (k_is_side : PySem.W.keepIn K (.ref f12) = true)
    (a_need_side : PySem.W.nsIn K mainGlobals "need_side" = some (some (.ref f13)))
    (l_need_side : K.lookup f13 = some ⟨oc13, od13, .func (PySem.W.fnOf "need_side" "need_side" (defArgs s_need_side) (defBody s_need_side) (defScope s_need_side) dV13 kV13 dc13 pm13 an13 cd13 ct13), sl13⟩)
    (d_need_side : PySem.W.codeIn K cd13 "need_side" = true)
    (k_need_side : PySem.W.keepIn K (.ref f13) = true)
    (df_need_side : defB K dV13 [.str "side"] = true)
    (a_Floor_beside : PySem.W.findIn K (.ref ac4) "beside" = some (some (.ref f14)))
    (l_Floor_beside : K.lookup f14 = some ⟨oc14, od14, .func (PySem.W.fnOf "beside" "Floor.beside" (defArgs s_Floor_beside) (defBody s_Floor_beside) (defScope s_Floor_beside) .none kV14 dc14 pm14 an14 cd14 ct14), sl14⟩)
    (d_Floor_beside : PySem.W.codeIn K cd14 "Floor.beside" = true)
    (k_Floor_beside : PySem.W.keepIn K (.ref f14) = true)
    (a_Floor_has : PySem.W.findIn K (.ref ac4) "has" = some (some (.ref f15)))
    (l_Floor_has : K.lookup f15 = some ⟨oc15, od15, .func (PySem.W.fnOf "has" "Floor.has" (defArgs s_Floor_has) (defBody s_Floor_has) (defScope s_Floor_has) .none kV15 dc15 pm15 an15 cd15 ct15), sl15⟩)
    (d_Floor_has : PySem.W.codeIn K cd15 "Floor.has" = true)
    (k_Floor_has : PySem.W.keepIn K (.ref f15) = true)
    (a_law_tell : PySem.W.nsIn K mainGlobals "_law_tell" = some (some (.ref f16)))
    (l_law_tell : K.lookup f16 = some ⟨oc16, od16, .func (PySem.W.fnOf "_law_tell" "_law_tell" (defArgs s_law_tell) (defBody s_law_tell) (defScope s_law_tell) .none kV16 dc16 pm16 an16 cd16 ct16), sl16⟩)
    (d_law_tell : PySem.W.codeIn K cd16 "_law_tell" = true)
    (k_law_tell : PySem.W.keepIn K (.ref f16) = true)
    (a_law_pick : PySem.W.nsIn K mainGlobals "_law_pick" = some (some (.ref f17)))
    (l_law_pick : K.lookup f17 = some ⟨oc17, od17, .func (PySem.W.fnOf "_law_pick" "_law_pick" (defArgs s_law_pick) (defBody s_law_pick) (defScope s_law_pick) .none kV17 dc17 pm17 an17 cd17 ct17), sl17⟩)
    (d_law_pick : PySem.W.codeIn K cd17 "_law_pick" = true)
    (k_law_pick : PySem.W.keepIn K (.ref f17) = true)
    (a_law_grown : PySem.W.nsIn K mainGlobals "_law_grown" = some (some (.ref f18)))
    (l_law_grown : K.lookup f18 = some ⟨oc18, od18, .func (PySem.W.fnOf "_law_grown" "_law_grown" (defArgs s_law_grown) (defBody s_law_grown) (defScope s_law_grown) .none kV18 dc18 pm18 an18 cd18 ct18), sl18⟩)
    (d_law_grown : PySem.W.codeIn K cd18 "_law_grown" = true)
    (k_law_grown : PySem.W.keepIn K (.ref f18) = true)
    (a_law_home : PySem.W.nsIn K mainGlobals "_law_home" = some (some (.ref f19)))
    (l_law_home : K.lookup f19 = some ⟨oc19, od19, .func (PySem.W.fnOf "_law_home" "_law_home" (defArgs s_law_home) (defBody s_law_home) (defScope s_law_home) .none kV19 dc19 pm19 an19 cd19 ct19), sl19⟩)
    (d_law_home : PySem.W.codeIn K cd19 "_law_home" = true)
    (k_law_home : PySem.W.keepIn K (.ref f19) = true)
    (a_law_paw : PySem.W.nsIn K mainGlobals "_law_paw" = some (some (.ref f20)))
    (l_law_paw : K.lookup f20 = some ⟨oc20, od20, .func (PySem.W.fnOf "_law_paw" "_law_paw" (defArgs s_law_paw) (defBody s_law_paw) (defScope s_law_paw) .none kV20 dc20 pm20 an20 cd20 ct20), sl20⟩)
    (d_law_paw : PySem.W.codeIn K cd20 "_law_paw" = true)
    (k_law_paw : PySem.W.keepIn K (.ref f20) = true)
    (a_law_text : PySem.W.nsIn K mainGlobals "_law_text" = some (some (.ref f21)))
    (l_law_text : K.lookup f21 = some ⟨oc21, od21, .func (PySem.W.fnOf "_law_text" "_law_text" (defArgs s_law_text) (defBody s_law_text) (defScope s_law_text) .none kV21 dc21 pm21 an21 cd21 ct21), sl21⟩)
    (d_law_text : PySem.W.codeIn K cd21 "_law_text" = true)
    (k_law_text : PySem.W.keepIn K (.ref f21) = true)
    (a_law : PySem.W.nsIn K mainGlobals "law" = some (some (.ref f22)))
    (l_law : K.lookup f22 = some ⟨oc22, od22, .func (PySem.W.fnOf "law" "law" (defArgs s_law) (defBody s_law) (defScope s_law) .none kV22 dc22 pm22 an22 cd22 ct22), sl22⟩)
    (d_law : PySem.W.codeIn K cd22 "law" = true)
    (k_law : PySem.W.keepIn K (.ref f22) = true)
    (tf_Floor_beside : PySem.W.isFn K (.ref f14) = true)
    (tf_Floor_has : PySem.W.isFn K (.ref f15) = true)
    (qf_Floor : PySem.W.isFn K (.ref f0) = true)
    (qt_Floor : ∀ t : Mi.Ty, PySem.W.notFirst K ac4 (.type t.name) = true)
    (qc_Floor : PySem.W.notFirst K ac4 (.ref ac4) = true)
    (qn_Floor : PySem.W.findIn K (.ref ac4) "__ne__" = some (some (.builtin "object.__ne__")))
    (sf_Floor : PySem.W.isFn K (.ref f10) = true)
    (Z_BadNumber : XF l.prog K "BadNumber" "BadNumber.__init__" si_BadNumber ["part"] ac2 fi_BadNumber)
    (Z_BadFloor : XF l.prog K "BadFloor" "BadFloor.__init__" si_BadFloor ["part"] ac1 fi_BadFloor)
    (Z_BadCell : XF l.prog K "BadCell" "BadCell.__init__" si_BadCell ["part"] ac0 fi_BadCell)
    (Z_Misfit : XF l.prog K "Misfit" "Misfit.__init__" si_Misfit ["part"] ac5 fi_Misfit)
    (Z_BadText : XF l.prog K "BadText" "BadText.__init__" si_BadText ["line", "item"] ac3 fi_BadText)
    (nf_Floor_cells : PySem.W.findIn K (.ref ac4) "cells" = some none)
    (nf_Floor_height : PySem.W.findIn K (.ref ac4) "height" = some none)
    (nf_Floor_known : PySem.W.findIn K (.ref ac4) "known" = some none)
    (nf_Floor_width : PySem.W.findIn K (.ref ac4) "width" = some none)
    (kt_Floor : ∀ t : Mi.Ty, PySem.W.kitOne K (.type t.name) (.ref ac4) = some false)
    (kx_Floor_Floor : PySem.W.kitOne K (.ref ac4) (.ref ac4) = some true)
    (kx_Floor_BadNumber : PySem.W.kitOne K (.ref ac2) (.ref ac4) = some false)
    (kx_Floor_BadFloor : PySem.W.kitOne K (.ref ac1) (.ref ac4) = some false)
    (kx_Floor_BadCell : PySem.W.kitOne K (.ref ac0) (.ref ac4) = some false)
    (kx_Floor_Misfit : PySem.W.kitOne K (.ref ac5) (.ref ac4) = some false)
    (kx_Floor_BadText : PySem.W.kitOne K (.ref ac3) (.ref ac4) = some false)
    (gg_STEPS : PySem.W.nsIn K mainGlobals "STEPS" = some (some (.ref gtSTEPS)))
    (gt_STEPS : gt2B K gt_STEPS gtSTEPS = true)
    (c_CELL : PySem.W.nsIn K mainGlobals "CELL" = some (some (.str "#" t_CELL)))
    (c_MOST_CELLS : PySem.W.nsIn K mainGlobals "MOST_CELLS" = some (some (.int 400 t_MOST_CELLS)))
    (c_MOST_PLACE : PySem.W.nsIn K mainGlobals "MOST_PLACE" = some (some (.int 1000000 t_MOST_PLACE)))
    (c_NONE : PySem.W.nsIn K mainGlobals "NONE" = some (some (.str "." t_NONE)))
    (n_abs : PySem.W.nsIn K mainGlobals "abs" = some none)
    (n_all : PySem.W.nsIn K mainGlobals "all" = some none)
    (n_bool : PySem.W.nsIn K mainGlobals "bool" = some none)
    (n_int : PySem.W.nsIn K mainGlobals "int" = some none)
    (n_isinstance : PySem.W.nsIn K mainGlobals "isinstance" = some none)
    (n_len : PySem.W.nsIn K mainGlobals "len" = some none)
    (n_list : PySem.W.nsIn K mainGlobals "list" = some none)
    (n_max : PySem.W.nsIn K mainGlobals "max" = some none)
    (n_min : PySem.W.nsIn K mainGlobals "min" = some none)
    (n_range : PySem.W.nsIn K mainGlobals "range" = some none)
    (n_repr : PySem.W.nsIn K mainGlobals "repr" = some none)
    (n_set : PySem.W.nsIn K mainGlobals "set" = some none)
    (n_sorted : PySem.W.nsIn K mainGlobals "sorted" = some none)
    (n_str : PySem.W.nsIn K mainGlobals "str" = some none)
    (n_tuple : PySem.W.nsIn K mainGlobals "tuple" = some none)
    (n_super : PySem.W.nsIn K mainGlobals "super" = some none)
    (res : ∀ ns : List Int, ns.length ≤ 63 → (∀ z ∈ ns, Builtin.Int.intBits z ≤ 1048576) → ∃ M, m_law [.rdl (ns.map Wv.int)] [] = .ok (.bl true) M) :
    ∃ (fd : FuncData) (m : List Wv → Mem → R Wv), (∀ (s : Shared) (u : Value), BindsTo s fd ⟨[u], []⟩ [("_law_script", u)]) ∧ (∀ base : Heap, K.In base → base.Ns mainGlobals mg → FnG l.prog w K mg base 7 fa fd ["_law_script"] m) ∧
      ∀ ns : List Int, ns.length ≤ 63 → (∀ z ∈ ns, Builtin.Int.intBits z ≤ 1048576) → ∃ M, m [.rdl (ns.map Wv.int)] [] = .ok (.bl true) M := by
  have e := hfa.symm.trans (PySem.W.mg_of X G a_law)
  cases e
  have eFloor : in_Floor = f9 := by have := K_Floor.mks.init.symm.trans a_Floor___init__; cases this; rfl
  subst eFloor
  have F0 := fun_mk (st := s_Floor___eq__) l_Floor___eq__ d_Floor___eq__ k_Floor___eq__
  have F1 := fun_mk (st := s_neighbour) l_neighbour d_neighbour k_neighbour
  have F2 := fun_mk (st := s_hanging) l_hanging d_hanging k_hanging
  have F3 := fun_mk (st := s_lots_in) l_lots_in d_lots_in k_lots_in
  have F4 := fun_mk (st := s_moved_home) l_moved_home d_moved_home k_moved_home
  have F5 := fun_mk (st := s_is_integer) l_is_integer d_is_integer k_is_integer
  have F6 := fun_mk (st := s_is_within) l_is_within d_is_within k_is_within
  have F7 := fun_mk (st := s_is_cell) l_is_cell d_is_cell k_is_cell
  have F8 := fun_mk (st := s_need_cells) l_need_cells d_need_cells k_need_cells
  have F9 := fun_mk (st := s_Floor___init__) l_Floor___init__ d_Floor___init__ k_Floor___init__
  have F10 := fun_mk (st := s_Floor___str__) l_Floor___str__ d_Floor___str__ k_Floor___str__
  have F11 := funV_mk (st := s_need_cell) l_need_cell d_need_cell k_need_cell
  obtain ⟨ds_need_cell_0, dv_need_cell_0, db_need_cell_0⟩ := (funD_mk (st := s_need_cell) l_need_cell d_need_cell k_need_cell df_need_cell).binds1 (ps := ["value", "part"]) 1 0 (by simp) (by decide) fun T kV doc pm an cdv ct us its h1 h2 => match us, its, h1, h2 with | [_], [_], _, _ => ⟨_, rfl, rfl⟩
  have F12 := fun_mk (st := s_is_side) l_is_side d_is_side k_is_side
  have F13 := funV_mk (st := s_need_side) l_need_side d_need_side k_need_side
  obtain ⟨ds_need_side_0, dv_need_side_0, db_need_side_0⟩ := (funD_mk (st := s_need_side) l_need_side d_need_side k_need_side df_need_side).binds1 (ps := ["value", "part"]) 1 0 (by simp) (by decide) fun T kV doc pm an cdv ct us its h1 h2 => match us, its, h1, h2 with | [_], [_], _, _ => ⟨_, rfl, rfl⟩
  have F14 := fun_mk (st := s_Floor_beside) l_Floor_beside d_Floor_beside k_Floor_beside
  have F15 := fun_mk (st := s_Floor_has) l_Floor_has d_Floor_has k_Floor_has
  have F16 := fun_mk (st := s_law_tell) l_law_tell d_law_tell k_law_tell
  have F17 := fun_mk (st := s_law_pick) l_law_pick d_law_pick k_law_pick
  have F18 := fun_mk (st := s_law_grown) l_law_grown d_law_grown k_law_grown
  have F19 := fun_mk (st := s_law_home) l_law_home d_law_home k_law_home
  have F20 := fun_mk (st := s_law_paw) l_law_paw d_law_paw k_law_paw
  have F21 := fun_mk (st := s_law_text) l_law_text d_law_text k_law_text
  have F22 := fun_mk (st := s_law) l_law d_law k_law
  have NS : mg "super" = none := PySem.W.mg_none_of X G n_super
  exact ⟨PySem.W.fnOf "law" "law" (defArgs s_law) (defBody s_law) (defScope s_law) .none kV22 dc22 pm22 an22 cd22 ct22, m_law, fun s v => .of_eq rfl, fun base _ _ => ok_all ⟨
    ac0,
    (PySem.W.mg_of X G ga_BadCell),
    ac1,
    (PySem.W.mg_of X G ga_BadFloor),
    ac2,
    (PySem.W.mg_of X G ga_BadNumber),
    ac3,
    (PySem.W.mg_of X G ga_BadText),
    ac4,
    (PySem.W.mg_of X G ga_Floor),
    ac5,
    (PySem.W.mg_of X G ga_Misfit),
    in_Floor,
    K_Floor,
    f0,
    _,
    F0,
    (F0.binds (ps := ["self", "other"]) fun _ _ _ _ _ _ us hl => match us, hl with | [_, _], _ => rfl),
    f1,
    _,
    F1,
    (PySem.W.mg_of X G a_neighbour),
    (F1.binds (ps := ["cell", "side"]) fun _ _ _ _ _ _ us hl => match us, hl with | [_, _], _ => rfl),
    f2,
    _,
    F2,
    (PySem.W.mg_of X G a_hanging),
    (F2.binds (ps := ["known", "first"]) fun _ _ _ _ _ _ us hl => match us, hl with | [_, _], _ => rfl),
    f3,
    _,
    F3,
    (PySem.W.mg_of X G a_lots_in),
    (F3.binds (ps := ["cells"]) fun _ _ _ _ _ _ us hl => match us, hl with | [_], _ => rfl),
    f4,
    _,
    F4,
    (PySem.W.mg_of X G a_moved_home),
    (F4.binds (ps := ["cells"]) fun _ _ _ _ _ _ us hl => match us, hl with | [_], _ => rfl),
    f5,
    _,
    F5,
    (PySem.W.mg_of X G a_is_integer),
    (F5.binds (ps := ["value"]) fun _ _ _ _ _ _ us hl => match us, hl with | [_], _ => rfl),
    f6,
    _,
    F6,
    (PySem.W.mg_of X G a_is_within),
    (F6.binds (ps := ["value", "least", "most"]) fun _ _ _ _ _ _ us hl => match us, hl with | [_, _, _], _ => rfl),
    f7,
    _,
    F7,
    (PySem.W.mg_of X G a_is_cell),
    (F7.binds (ps := ["value"]) fun _ _ _ _ _ _ us hl => match us, hl with | [_], _ => rfl),
    f8,
    _,
    F8,
    (PySem.W.mg_of X G a_need_cells),
    (F8.binds (ps := ["value", "part", "least"]) fun _ _ _ _ _ _ us hl => match us, hl with | [_, _, _], _ => rfl),
    in_Floor,
    _,
    F9,
    (F9.binds (ps := ["self", "cells"]) fun _ _ _ _ _ _ us hl => match us, hl with | [_, _], _ => rfl),
    f10,
    _,
    F10,
    (F10.binds (ps := ["self"]) fun _ _ _ _ _ _ us hl => match us, hl with | [_], _ => rfl),
    f11,
    _,
    F11,
    ds_need_cell_0,
    dv_need_cell_0,
    db_need_cell_0,
    (PySem.W.mg_of X G a_need_cell),
    f12,
    _,
    F12,
    (PySem.W.mg_of X G a_is_side),
    (F12.binds (ps := ["value"]) fun _ _ _ _ _ _ us hl => match us, hl with | [_], _ => rfl),
    f13,
    _,
    F13,
    ds_need_side_0,
    dv_need_side_0,
    db_need_side_0,
    (PySem.W.mg_of X G a_need_side),
    f14,
    _,
    F14,
    (F14.binds (ps := ["self", "cell", "side"]) fun _ _ _ _ _ _ us hl => match us, hl with | [_, _, _], _ => rfl),
    f15,
    _,
    F15,
    (F15.binds (ps := ["self", "cell"]) fun _ _ _ _ _ _ us hl => match us, hl with | [_, _], _ => rfl),
    f16,
    _,
    F16,
    (PySem.W.mg_of X G a_law_tell),
    (F16.binds (ps := ["_law_paw_here", "_law_many"]) fun _ _ _ _ _ _ us hl => match us, hl with | [_, _], _ => rfl),
    f17,
    _,
    F17,
    (PySem.W.mg_of X G a_law_pick),
    (F17.binds (ps := ["_law_paw_here", "_law_some"]) fun _ _ _ _ _ _ us hl => match us, hl with | [_, _], _ => rfl),
    f18,
    _,
    F18,
    (PySem.W.mg_of X G a_law_grown),
    (F18.binds (ps := ["_law_paw_here", "_law_many"]) fun _ _ _ _ _ _ us hl => match us, hl with | [_, _], _ => rfl),
    f19,
    _,
    F19,
    (PySem.W.mg_of X G a_law_home),
    (F19.binds (ps := ["_law_cells"]) fun _ _ _ _ _ _ us hl => match us, hl with | [_], _ => rfl),
    f20,
    _,
    F20,
    (PySem.W.mg_of X G a_law_paw),
    (F20.binds (ps := ["_law_script"]) fun _ _ _ _ _ _ us hl => match us, hl with | [_], _ => rfl),
    f21,
    _,
    F21,
    (PySem.W.mg_of X G a_law_text),
    (F21.binds (ps := ["_law_cells"]) fun _ _ _ _ _ _ us hl => match us, hl with | [_], _ => rfl),
    fa,
    _,
    F22,
    (PySem.W.mg_of X G a_law),
    (F22.binds (ps := ["_law_script"]) fun _ _ _ _ _ _ us hl => match us, hl with | [_], _ => rfl),
    (MethT.one K_Floor a_Floor_beside tf_Floor_beside k_Floor_beside),
    (MethT.one K_Floor a_Floor_has tf_Floor_has k_Floor_has),
    (EqC.one K_Floor a_Floor___eq__ qf_Floor qt_Floor qc_Floor qn_Floor),
    (StrC.one K_Floor a_Floor___str__ sf_Floor),
    fi_BadNumber,
    Z_BadNumber,
    (w_BadNumber Z_BadNumber NS),
    (wb_BadNumber Z_BadNumber),
    fi_BadFloor,
    Z_BadFloor,
    (w_BadFloor Z_BadFloor NS),
    (wb_BadFloor Z_BadFloor),
    fi_BadCell,
    Z_BadCell,
    (w_BadCell Z_BadCell NS),
    (wb_BadCell Z_BadCell),
    fi_Misfit,
    Z_Misfit,
    (w_Misfit Z_Misfit NS),
    (wb_Misfit Z_Misfit),
    fi_BadText,
    Z_BadText,
    (w_BadText Z_BadText NS),
    (wb_BadText Z_BadText),
    FldE.nil,
    (FldI.cons K_Floor nf_Floor_cells (FldI.nil)),
    FldE.nil,
    (FldI.cons K_Floor nf_Floor_height (FldI.nil)),
    FldE.nil,
    (FldI.cons K_Floor nf_Floor_known (FldI.nil)),
    FldE.nil,
    (FldI.cons K_Floor nf_Floor_width (FldI.nil)),
    (ClOk.mk2 kt_Floor (ITab.cons K_Floor kx_Floor_Floor (ITab.nil)) (XTab.cons Z_BadNumber kx_Floor_BadNumber (XTab.cons Z_BadFloor kx_Floor_BadFloor (XTab.cons Z_BadCell kx_Floor_BadCell (XTab.cons Z_Misfit kx_Floor_Misfit (XTab.cons Z_BadText kx_Floor_BadText (XTab.nil))))))),
    gtSTEPS,
    (PySem.W.mg_of X G gg_STEPS),
    (gt2_mk gt_STEPS),
    ⟨_, PySem.W.mg_of X G c_CELL⟩,
    ⟨_, PySem.W.mg_of X G c_MOST_CELLS⟩,
    ⟨_, PySem.W.mg_of X G c_MOST_PLACE⟩,
    ⟨_, PySem.W.mg_of X G c_NONE⟩,
    (PySem.W.mg_none_of X G n_abs),
    (PySem.W.mg_none_of X G n_all),
    (PySem.W.mg_none_of X G n_bool),
    (PySem.W.mg_none_of X G n_int),
    (PySem.W.mg_none_of X G n_isinstance),
    (PySem.W.mg_none_of X G n_len),
    (PySem.W.mg_none_of X G n_list),
    (PySem.W.mg_none_of X G n_max),
    (PySem.W.mg_none_of X G n_min),
    (PySem.W.mg_none_of X G n_range),
    (PySem.W.mg_none_of X G n_repr),
    (PySem.W.mg_none_of X G n_set),
    (PySem.W.mg_none_of X G n_sorted),
    (PySem.W.mg_none_of X G n_str),
    (PySem.W.mg_none_of X G n_tuple)⟩ rfl, res⟩
end Law

open PySem PySem.W PyProof.Rows in
set_option maxRecDepth 100000 in
set_option maxHeartbeats 0 in
theorem PySem.Challenge.cw_fourstones_k03_floors_and_their_cells_holds : PySem.Challenge.rw_fourstones_k03_floors_and_their_cells.Holds := by
  w_on; o_law; k_head; (case hw => w_witness2)
  k_fill
  refine Mi.walkG (l := PySem.Challenge.rw_fourstones_k03_floors_and_their_cells) (n := 63) (k := 7) (x := "_law_script") rfl (by decide) rfl ⟨rfl, by decide, by decide⟩ (fun w h Y => PySem.W.kIn_of Y) ?F
  case F =>
    intro w mg fa h KX G hmg
    refine' Law.all_mk KX G hmg ?ga_BadCell ?ga_BadFloor ?ga_BadNumber ?ga_BadText ?ga_Floor ?ga_Misfit ?K_Floor ?a_Floor___eq__ ?l_Floor___eq__ ?d_Floor___eq__ ?k_Floor___eq__ ?a_neighbour ?l_neighbour ?d_neighbour ?k_neighbour ?a_hanging ?l_hanging ?d_hanging ?k_hanging ?a_lots_in ?l_lots_in ?d_lots_in ?k_lots_in ?a_moved_home ?l_moved_home ?d_moved_home ?k_moved_home ?a_is_integer ?l_is_integer ?d_is_integer ?k_is_integer ?a_is_within ?l_is_within ?d_is_within ?k_is_within ?a_is_cell ?l_is_cell ?d_is_cell ?k_is_cell ?a_need_cells ?l_need_cells ?d_need_cells ?k_need_cells ?a_Floor___init__ ?l_Floor___init__ ?d_Floor___init__ ?k_Floor___init__ ?a_Floor___str__ ?l_Floor___str__ ?d_Floor___str__ ?k_Floor___str__ ?a_need_cell ?l_need_cell ?d_need_cell ?k_need_cell ?df_need_cell ?a_is_side ?l_is_side ?d_is_side ?k_is_side ?a_need_side ?l_need_side ?d_need_side ?k_need_side ?df_need_side ?a_Floor_beside ?l_Floor_beside ?d_Floor_beside ?k_Floor_beside ?a_Floor_has ?l_Floor_has ?d_Floor_has ?k_Floor_has ?a_law_tell ?l_law_tell ?d_law_tell ?k_law_tell ?a_law_pick ?l_law_pick ?d_law_pick ?k_law_pick ?a_law_grown ?l_law_grown ?d_law_grown ?k_law_grown ?a_law_home ?l_law_home ?d_law_home ?k_law_home ?a_law_paw ?l_law_paw ?d_law_paw ?k_law_paw ?a_law_text ?l_law_text ?d_law_text ?k_law_text ?a_law ?l_law ?d_law ?k_law ?tf_Floor_beside ?tf_Floor_has ?qf_Floor ?qt_Floor ?qc_Floor ?qn_Floor ?sf_Floor ?Z_BadNumber ?Z_BadFloor ?Z_BadCell ?Z_Misfit ?Z_BadText ?nf_Floor_cells ?nf_Floor_height ?nf_Floor_known ?nf_Floor_width ?kt_Floor ?kx_Floor_Floor ?kx_Floor_BadNumber ?kx_Floor_BadFloor ?kx_Floor_BadCell ?kx_Floor_Misfit ?kx_Floor_BadText ?gg_STEPS ?gt_STEPS ?c_CELL ?c_MOST_CELLS ?c_MOST_PLACE ?c_NONE ?n_abs ?n_all ?n_bool ?n_int ?n_isinstance ?n_len ?n_list ?n_max ?n_min ?n_range ?n_repr ?n_set ?n_sorted ?n_str ?n_tuple ?n_super (fun ns _ _ => Law.holds ns)
    (case ga_BadCell => k_is)
    (case ga_BadFloor => k_is)
    (case ga_BadNumber => k_is)
    (case ga_BadText => k_is)
    (case ga_Floor => k_is)
    (case ga_Misfit => k_is)
    (case K_Floor => refine' Mi.cf_mk ?k0_Floor ?k1_Floor ?k2_Floor ?k3_Floor ?k4_Floor ?k5_Floor ?k6_Floor ?k7_Floor ?k8_Floor ?j1_Floor ?j2_Floor ?j3_Floor ?j4_Floor; (case k0_Floor => kernel_rfl); (case j2_Floor => k_is); (case k1_Floor => k_is); (case k2_Floor => k_is); (case k3_Floor => k_is); (case k4_Floor => k_is); (case k5_Floor => k_is); (case k6_Floor => k_is); (case k7_Floor => k_is); (case k8_Floor => k_is); (case j1_Floor => k_is); (case j3_Floor => k_is); (case j4_Floor => k_is))
    (case a_Floor___eq__ => k_is)
    (case l_Floor___eq__ => k_is)
    (case d_Floor___eq__ => k_is)
    (case k_Floor___eq__ => k_is)
    (case a_neighbour => k_is)
    (case l_neighbour => k_is)
    (case d_neighbour => k_is)
    (case k_neighbour => k_is)
    (case a_hanging => k_is)
    (case l_hanging => k_is)
    (case d_hanging => k_is)
    (case k_hanging => k_is)
    (case a_lots_in => k_is)
    (case l_lots_in => k_is)
    (case d_lots_in => k_is)
    (case k_lots_in => k_is)
    (case a_moved_home => k_is)
    (case l_moved_home => k_is)
    (case d_moved_home => k_is)
    (case k_moved_home => k_is)
    (case a_is_integer => k_is)
    (case l_is_integer => k_is)
    (case d_is_integer => k_is)
    (case k_is_integer => k_is)
    (case a_is_within => k_is)
    (case l_is_within => k_is)
    (case d_is_within => k_is)
    (case k_is_within => k_is)
    (case a_is_cell => k_is)
    (case l_is_cell => k_is)
    (case d_is_cell => k_is)
    (case k_is_cell => k_is)
    (case a_need_cells => k_is)
    (case l_need_cells => k_is)
    (case d_need_cells => k_is)
    (case k_need_cells => k_is)
    (case a_Floor___init__ => k_is)
    (case l_Floor___init__ => k_is)
    (case d_Floor___init__ => k_is)
    (case k_Floor___init__ => k_is)
    (case a_Floor___str__ => k_is)
    (case l_Floor___str__ => k_is)
    (case d_Floor___str__ => k_is)
    (case k_Floor___str__ => k_is)
    (case a_need_cell => k_is)
    (case l_need_cell => k_is)
    (case d_need_cell => k_is)
    (case k_need_cell => k_is)
    (case df_need_cell => kernel_rfl)
    (case a_is_side => k_is)
    (case l_is_side => k_is)
    (case d_is_side => k_is)
    (case k_is_side => k_is)
    (case a_need_side => k_is)
    (case l_need_side => k_is)
    (case d_need_side => k_is)
    (case k_need_side => k_is)
    (case df_need_side => kernel_rfl)
    (case a_Floor_beside => k_is)
    (case l_Floor_beside => k_is)
    (case d_Floor_beside => k_is)
    (case k_Floor_beside => k_is)
    (case a_Floor_has => k_is)
    (case l_Floor_has => k_is)
    (case d_Floor_has => k_is)
    (case k_Floor_has => k_is)
    (case a_law_tell => k_is)
    (case l_law_tell => k_is)
    (case d_law_tell => k_is)
    (case k_law_tell => k_is)
    (case a_law_pick => k_is)
    (case l_law_pick => k_is)
    (case d_law_pick => k_is)
    (case k_law_pick => k_is)
    (case a_law_grown => k_is)
    (case l_law_grown => k_is)
    (case d_law_grown => k_is)
    (case k_law_grown => k_is)
    (case a_law_home => k_is)
    (case l_law_home => k_is)
    (case d_law_home => k_is)
    (case k_law_home => k_is)
    (case a_law_paw => k_is)
    (case l_law_paw => k_is)
    (case d_law_paw => k_is)
    (case k_law_paw => k_is)
    (case a_law_text => k_is)
    (case l_law_text => k_is)
    (case d_law_text => k_is)
    (case k_law_text => k_is)
    (case a_law => k_is)
    (case l_law => k_is)
    (case d_law => k_is)
    (case k_law => k_is)
    (case tf_Floor_beside => k_is)
    (case tf_Floor_has => k_is)
    (case qf_Floor => k_is)
    (case qt_Floor => intro t; cases t <;> kernel_rfl)
    (case qc_Floor => kernel_rfl)
    (case qn_Floor => k_is)
    (case sf_Floor => k_is)
    (case Z_BadNumber => refine' Mi.xf_mk ?hI_BadNumber ?hL_BadNumber ?hT_BadNumber ?hC_BadNumber ?hc_BadNumber ?hv_BadNumber ?hf_BadNumber ?hcc_BadNumber ?t1_BadNumber ?t2_BadNumber ?t3_BadNumber ?t4_BadNumber ?t5_BadNumber ?t6_BadNumber ?h1_BadNumber ?h2_BadNumber ?h3_BadNumber ?h4_BadNumber ?h5_BadNumber (Mi.no_cons ?n_0_BadNumber Mi.no_nil) ?h7_BadNumber ?g1_BadNumber ?g2_BadNumber ?g3_BadNumber ?g4_BadNumber ?g5_BadNumber ?g6_BadNumber ?g7_BadNumber; (case hI_BadNumber => k_is); (case hL_BadNumber => k_is); (case hT_BadNumber => k_is); (case hC_BadNumber => k_is); (case hc_BadNumber => k_is); (case hv_BadNumber => rfl); (case hf_BadNumber => kernel_rfl); (case hcc_BadNumber => k_is); (case t1_BadNumber => k_is); (case t2_BadNumber => decide +kernel); (case t3_BadNumber => k_is); (case t4_BadNumber => k_is); (case t5_BadNumber => k_is); (case t6_BadNumber => k_is); (case h1_BadNumber => kernel_rfl); (case h2_BadNumber => k_is); (case h3_BadNumber => k_is); (case h4_BadNumber => k_is); (case h5_BadNumber => kernel_rfl); (case h7_BadNumber => kernel_rfl); (case g1_BadNumber => k_is); (case g2_BadNumber => k_is); (case g3_BadNumber => k_is); (case g4_BadNumber => k_is); (case g5_BadNumber => k_is); (case g6_BadNumber => k_is); (case g7_BadNumber => k_is); (case n_0_BadNumber => k_is))
    (case Z_BadFloor => refine' Mi.xf_mk ?hI_BadFloor ?hL_BadFloor ?hT_BadFloor ?hC_BadFloor ?hc_BadFloor ?hv_BadFloor ?hf_BadFloor ?hcc_BadFloor ?t1_BadFloor ?t2_BadFloor ?t3_BadFloor ?t4_BadFloor ?t5_BadFloor ?t6_BadFloor ?h1_BadFloor ?h2_BadFloor ?h3_BadFloor ?h4_BadFloor ?h5_BadFloor (Mi.no_cons ?n_0_BadFloor Mi.no_nil) ?h7_BadFloor ?g1_BadFloor ?g2_BadFloor ?g3_BadFloor ?g4_BadFloor ?g5_BadFloor ?g6_BadFloor ?g7_BadFloor; (case hI_BadFloor => k_is); (case hL_BadFloor => k_is); (case hT_BadFloor => k_is); (case hC_BadFloor => k_is); (case hc_BadFloor => k_is); (case hv_BadFloor => rfl); (case hf_BadFloor => kernel_rfl); (case hcc_BadFloor => k_is); (case t1_BadFloor => k_is); (case t2_BadFloor => decide +kernel); (case t3_BadFloor => k_is); (case t4_BadFloor => k_is); (case t5_BadFloor => k_is); (case t6_BadFloor => k_is); (case h1_BadFloor => kernel_rfl); (case h2_BadFloor => k_is); (case h3_BadFloor => k_is); (case h4_BadFloor => k_is); (case h5_BadFloor => kernel_rfl); (case h7_BadFloor => kernel_rfl); (case g1_BadFloor => k_is); (case g2_BadFloor => k_is); (case g3_BadFloor => k_is); (case g4_BadFloor => k_is); (case g5_BadFloor => k_is); (case g6_BadFloor => k_is); (case g7_BadFloor => k_is); (case n_0_BadFloor => k_is))
    (case Z_BadCell => refine' Mi.xf_mk ?hI_BadCell ?hL_BadCell ?hT_BadCell ?hC_BadCell ?hc_BadCell ?hv_BadCell ?hf_BadCell ?hcc_BadCell ?t1_BadCell ?t2_BadCell ?t3_BadCell ?t4_BadCell ?t5_BadCell ?t6_BadCell ?h1_BadCell ?h2_BadCell ?h3_BadCell ?h4_BadCell ?h5_BadCell (Mi.no_cons ?n_0_BadCell Mi.no_nil) ?h7_BadCell ?g1_BadCell ?g2_BadCell ?g3_BadCell ?g4_BadCell ?g5_BadCell ?g6_BadCell ?g7_BadCell; (case hI_BadCell => k_is); (case hL_BadCell => k_is); (case hT_BadCell => k_is); (case hC_BadCell => k_is); (case hc_BadCell => k_is); (case hv_BadCell => rfl); (case hf_BadCell => kernel_rfl); (case hcc_BadCell => k_is); (case t1_BadCell => k_is); (case t2_BadCell => decide +kernel); (case t3_BadCell => k_is); (case t4_BadCell => k_is); (case t5_BadCell => k_is); (case t6_BadCell => k_is); (case h1_BadCell => kernel_rfl); (case h2_BadCell => k_is); (case h3_BadCell => k_is); (case h4_BadCell => k_is); (case h5_BadCell => kernel_rfl); (case h7_BadCell => kernel_rfl); (case g1_BadCell => k_is); (case g2_BadCell => k_is); (case g3_BadCell => k_is); (case g4_BadCell => k_is); (case g5_BadCell => k_is); (case g6_BadCell => k_is); (case g7_BadCell => k_is); (case n_0_BadCell => k_is))
    (case Z_Misfit => refine' Mi.xf_mk ?hI_Misfit ?hL_Misfit ?hT_Misfit ?hC_Misfit ?hc_Misfit ?hv_Misfit ?hf_Misfit ?hcc_Misfit ?t1_Misfit ?t2_Misfit ?t3_Misfit ?t4_Misfit ?t5_Misfit ?t6_Misfit ?h1_Misfit ?h2_Misfit ?h3_Misfit ?h4_Misfit ?h5_Misfit (Mi.no_cons ?n_0_Misfit Mi.no_nil) ?h7_Misfit ?g1_Misfit ?g2_Misfit ?g3_Misfit ?g4_Misfit ?g5_Misfit ?g6_Misfit ?g7_Misfit; (case hI_Misfit => k_is); (case hL_Misfit => k_is); (case hT_Misfit => k_is); (case hC_Misfit => k_is); (case hc_Misfit => k_is); (case hv_Misfit => rfl); (case hf_Misfit => kernel_rfl); (case hcc_Misfit => k_is); (case t1_Misfit => k_is); (case t2_Misfit => decide +kernel); (case t3_Misfit => k_is); (case t4_Misfit => k_is); (case t5_Misfit => k_is); (case t6_Misfit => k_is); (case h1_Misfit => kernel_rfl); (case h2_Misfit => k_is); (case h3_Misfit => k_is); (case h4_Misfit => k_is); (case h5_Misfit => kernel_rfl); (case h7_Misfit => kernel_rfl); (case g1_Misfit => k_is); (case g2_Misfit => k_is); (case g3_Misfit => k_is); (case g4_Misfit => k_is); (case g5_Misfit => k_is); (case g6_Misfit => k_is); (case g7_Misfit => k_is); (case n_0_Misfit => k_is))
    (case Z_BadText => refine' Mi.xf_mk ?hI_BadText ?hL_BadText ?hT_BadText ?hC_BadText ?hc_BadText ?hv_BadText ?hf_BadText ?hcc_BadText ?t1_BadText ?t2_BadText ?t3_BadText ?t4_BadText ?t5_BadText ?t6_BadText ?h1_BadText ?h2_BadText ?h3_BadText ?h4_BadText ?h5_BadText (Mi.no_cons ?n_0_BadText (Mi.no_cons ?n_1_BadText Mi.no_nil)) ?h7_BadText ?g1_BadText ?g2_BadText ?g3_BadText ?g4_BadText ?g5_BadText ?g6_BadText ?g7_BadText; (case hI_BadText => k_is); (case hL_BadText => k_is); (case hT_BadText => k_is); (case hC_BadText => k_is); (case hc_BadText => k_is); (case hv_BadText => rfl); (case hf_BadText => kernel_rfl); (case hcc_BadText => k_is); (case t1_BadText => k_is); (case t2_BadText => decide +kernel); (case t3_BadText => k_is); (case t4_BadText => k_is); (case t5_BadText => k_is); (case t6_BadText => k_is); (case h1_BadText => kernel_rfl); (case h2_BadText => k_is); (case h3_BadText => k_is); (case h4_BadText => k_is); (case h5_BadText => kernel_rfl); (case h7_BadText => kernel_rfl); (case g1_BadText => k_is); (case g2_BadText => k_is); (case g3_BadText => k_is); (case g4_BadText => k_is); (case g5_BadText => k_is); (case g6_BadText => k_is); (case g7_BadText => k_is); (case n_0_BadText => k_is); (case n_1_BadText => k_is))
    (case nf_Floor_cells => k_is)
    (case nf_Floor_height => k_is)
    (case nf_Floor_known => k_is)
    (case nf_Floor_width => k_is)
    (case kt_Floor => intro t; cases t <;> kernel_rfl)
    (case kx_Floor_Floor => kernel_rfl)
    (case kx_Floor_BadNumber => kernel_rfl)
    (case kx_Floor_BadFloor => kernel_rfl)
    (case kx_Floor_BadCell => kernel_rfl)
    (case kx_Floor_Misfit => kernel_rfl)
    (case kx_Floor_BadText => kernel_rfl)
    (case gg_STEPS => k_is)
    (case gt_STEPS => kernel_rfl)
    (case c_CELL => k_is)
    (case c_MOST_CELLS => k_is)
    (case c_MOST_PLACE => k_is)
    (case c_NONE => k_is)
    (case n_abs => k_is)
    (case n_all => k_is)
    (case n_bool => k_is)
    (case n_int => k_is)
    (case n_isinstance => k_is)
    (case n_len => k_is)
    (case n_list => k_is)
    (case n_max => k_is)
    (case n_min => k_is)
    (case n_range => k_is)
    (case n_repr => k_is)
    (case n_set => k_is)
    (case n_sorted => k_is)
    (case n_str => k_is)
    (case n_tuple => k_is)
    (case n_super => k_is)
