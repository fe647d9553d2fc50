import PyProof.Rows.All
import Wide.All
import OpenK.AllK
import Wide.FinOn
import HandS.ForMost
import HandS.Exc
import HandS.IsInst
import HandS.Wide
import HandS.WideMore
import HandS.Style
import HandS.Defaults
import HandS.Nested
import HandS.ExcInit
import HandS.Zip
import HandS.Comp
import HandS.ExcOwn
import HandS.Iter
import HandS.Text
import HandS.Rev
import HandS.TryMany
import HandS.HeadHook4
import KE.KExcSuper
import HandS.Ends
import HandS.HeadWalk
import HandS.Lambda
import HandS.ExcField
import HandS.ExcValue
import KE.KNest
import HandS.ExcIs
import HandS.Dict
import HandS.WordsDict
import KE.KExcInit
import HandS.Head0
import HandS.Head1
import HandS.Head2
import HandS.HeadEnd
import KE.KStateDown
import PySem.Challenge.RW_floormill_k00_errors_made
set_option Elab.async false
set_option linter.all false
set_option maxRecDepth 100000
set_option maxHeartbeats 4000000
/-! A layer of plain data over HandS: a reading is answered by a mirror that reckons on data alone. -/
namespace Dy
open PySem PySem.Spec L2

/-- plain data; fn k cl: the k-th lambda of the text over the cells cl; is v d: this very value, being d; exc x fs ds: an exception as a value; scr ns: a list of ints that stays as it is -/
inductive D where
  | non | bl (b : Bool) | int (i : Int) | str (x : Str)
  | lst (xs : List D) | tup (xs : List D)
  | dct (ks : List Key) (ds : List D)
  | fn (k : Nat) (cl : List (Str × Addr))
  | is (v : V) (d : D)
  | exc (x : Str) (fs : List Str) (ds : List D)
  | scr (ns : List Int)

/-- one world of known objects within another -/
def GLe (G G' : Hp) : Prop := ∀ a u, G a = some u → G' a = some u
theorem GLe.rfl {G : Hp} : GLe G G := fun _ _ h => h
theorem GLe.trans {G G1 G2 : Hp} (a : GLe G G1) (b : GLe G1 G2) : GLe G G2 := fun x u h => b x u (a x u h)
/-- the world within the heap (that a dict be locked is left room for, and never used) -/
def NoObj := {o : Obj // False}
def Le (G H : Hp) : Prop := ∀ a u, G a = some u → H a = some u ∨ ∃ (o : NoObj) (kvs : List (Key × V)), u = .dK kvs ∧ H a = some (.frz o.1 u)
theorem Le.at_ {G H : Hp} (g : Le G H) {a : Addr} {u : HO} (h : G a = some u) : H a = some u := by
  rcases g a u h with z | ⟨o, _⟩
  · exact z
  · exact o.2.elim

structure Wx where
  K : PySem.W.Frag
  mg : Str → Option Value
  Φ : Nat → List (Str × Addr) → Hp → V → Prop
  T : List (Addr × Str)
  Φm : ∀ {k cl G G' v}, GLe G G' → Φ k cl G v → Φ k cl G' v

mutual
/-- the value v stands for the data d in the world G -/
def Rep (W : Wx) (G : Hp) : D → V → Prop
  | .non, v => v = .non
  | .bl b, v => v = .bl b
  | .int i, v => v = .int i
  | .str x, v => v = .str x
  | .lst ds, v => ∃ a vs, v = .ref a ∧ G a = some (.lst vs) ∧ RepL W G ds vs
  | .tup ds, v => ∃ a vs, v = .ref a ∧ SqT W.K G a vs ∧ RepL W G ds vs
  | .dct ks ds, v => ∃ a kvs, v = .ref a ∧ G a = some (.dK kvs) ∧ kvs.map (·.1) = ks ∧ RepL W G ds (kvs.map (·.2))
  | .fn k cl, v => W.Φ k cl G v
  | .is u d, v => v = u ∧ Rep W G d u
  | .exc x fs ds, v => ∃ a C od vs, v = .ref a ∧ W.mg x = some (.ref C) ∧ G a = some (exo a C od) ∧ (∀ dd, od = some dd → G dd = some (.xd (fs.zip vs))) ∧ (od = none → fs = []) ∧ RepL W G ds vs
  | .scr ns, v => ∃ a, v = .ref a ∧ SqL W.K G a (ns.map V.int)
def RepL (W : Wx) (G : Hp) : List D → List V → Prop
  | [], vs => vs = []
  | d :: ds, vs => ∃ v r, vs = v :: r ∧ Rep W G d v ∧ RepL W G ds r
end
variable {W : Wx}
theorem glSq {K : PySem.W.Frag} {G G' : Hp} (g : GLe G G') {a : Addr} {vs : List V} (h : SqL K G a vs) : SqL K G' a vs := by
  rcases h with (h | ⟨o, h⟩) | h
  · exact .inl (.inl (g _ _ h))
  · exact .inl (.inr ⟨o, g _ _ h⟩)
  · exact .inr h
theorem gtSq {K : PySem.W.Frag} {G G' : Hp} (g : GLe G G') {a : Addr} {vs : List V} (h : SqT K G a vs) : SqT K G' a vs := by
  rcases h with (h | ⟨o, h⟩) | h
  · exact .inl (.inl (g _ _ h))
  · exact .inl (.inr ⟨o, g _ _ h⟩)
  · exact .inr h
mutual
theorem Rep.mono {G G' : Hp} (g : GLe G G') : ∀ {d : D} {v : V}, Rep W G d v → Rep W G' d v
  | .non, _, h => by simpa [Rep] using h
  | .bl _, _, h => by simpa [Rep] using h
  | .int _, _, h => by simpa [Rep] using h
  | .str _, _, h => by simpa [Rep] using h
  | .lst ds, _, h => by
    rw [Rep] at h ⊢
    obtain ⟨a, vs, e, q, r⟩ := h
    exact ⟨a, vs, e, g _ _ q, RepL.mono g r⟩
  | .tup ds, _, h => by
    rw [Rep] at h ⊢
    obtain ⟨a, vs, e, q, r⟩ := h
    exact ⟨a, vs, e, gtSq g q, RepL.mono g r⟩
  | .dct ks ds, _, h => by
    rw [Rep] at h ⊢
    obtain ⟨a, kvs, e, q, k, r⟩ := h
    exact ⟨a, kvs, e, g _ _ q, k, RepL.mono g r⟩
  | .fn k cl, _, h => by
    rw [Rep] at h ⊢
    exact W.Φm g h
  | .is u d, _, h => by
    rw [Rep] at h ⊢
    exact ⟨h.1, Rep.mono g h.2⟩
  | .exc x fs ds, _, h => by
    rw [Rep] at h ⊢
    obtain ⟨a, C, od, vs, e, m, q, qd, n, r⟩ := h
    exact ⟨a, C, od, vs, e, m, g _ _ q, fun dd z => g _ _ (qd dd z), n, RepL.mono g r⟩
  | .scr ns, _, h => by
    rw [Rep] at h ⊢
    obtain ⟨a, e, q⟩ := h
    exact ⟨a, e, glSq g q⟩
theorem RepL.mono {G G' : Hp} (g : GLe G G') : ∀ {ds : List D} {vs : List V}, RepL W G ds vs → RepL W G' ds vs
  | [], _, h => by simpa [RepL] using h
  | d :: ds, _, h => by
    rw [RepL] at h ⊢
    obtain ⟨v, r, e, q, t⟩ := h
    exact ⟨v, r, e, Rep.mono g q, RepL.mono g t⟩
end
theorem RepL.length {G : Hp} : ∀ {ds : List D} {vs : List V}, RepL W G ds vs → vs.length = ds.length
  | [], _, h => by rw [RepL] at h; rw [h]; rfl
  | d :: ds, _, h => by
    rw [RepL] at h
    obtain ⟨v, r, rfl, _, t⟩ := h
    simp [RepL.length t]
theorem RepL.get {G : Hp} : ∀ {ds : List D} {vs : List V} {i : Nat} {d : D}, RepL W G ds vs → ds[i]? = some d → ∃ v, vs[i]? = some v ∧ Rep W G d v
  | [], _, _, _, _, e => by simp at e
  | d :: ds, _, 0, _, h, e => by
    rw [RepL] at h
    obtain ⟨v, r, rfl, q, t⟩ := h
    simp at e; subst e
    exact ⟨v, rfl, q⟩
  | d :: ds, _, i + 1, _, h, e => by
    rw [RepL] at h
    obtain ⟨v, r, rfl, q, t⟩ := h
    simpa using RepL.get t (by simpa using e)
theorem RepL.nil {G : Hp} : RepL W G [] [] := by rw [RepL]
theorem RepL.cons {G : Hp} {d : D} {v : V} {ds : List D} {vs : List V} (h : Rep W G d v) (t : RepL W G ds vs) : RepL W G (d :: ds) (v :: vs) := by
  rw [RepL]; exact ⟨v, vs, rfl, h, t⟩
theorem RepL.app {G : Hp} : ∀ {ds es : List D} {vs ws : List V}, RepL W G ds vs → RepL W G es ws → RepL W G (ds ++ es) (vs ++ ws)
  | [], _, _, _, h, t => by rw [RepL] at h; subst h; simpa using t
  | d :: ds, _, _, _, h, t => by
    rw [RepL] at h
    obtain ⟨v, r, rfl, q, z⟩ := h
    exact RepL.cons q (RepL.app z t)
theorem RepL.set {G : Hp} {d : D} {v : V} (q : Rep W G d v) : ∀ {ds : List D} {vs : List V} (i : Nat), RepL W G ds vs → RepL W G (ds.set i d) (vs.set i v)
  | [], _, _, h => by rw [RepL] at h; subst h; simpa using RepL.nil
  | e :: ds, _, 0, h => by
    rw [RepL] at h
    obtain ⟨u, r, rfl, _, t⟩ := h
    exact RepL.cons q t
  | e :: ds, _, i + 1, h => by
    rw [RepL] at h
    obtain ⟨u, r, rfl, z, t⟩ := h
    exact RepL.cons z (RepL.set q i t)
theorem RepL.drop {G : Hp} : ∀ {ds : List D} {vs : List V} (i : Nat), RepL W G ds vs → RepL W G (ds.drop i) (vs.drop i)
  | _, _, 0, h => by simpa using h
  | [], _, i + 1, h => by rw [RepL] at h; subst h; simpa using RepL.nil
  | e :: ds, _, i + 1, h => by
    rw [RepL] at h
    obtain ⟨u, r, rfl, z, t⟩ := h
    simpa using RepL.drop i t
theorem RepL.take {G : Hp} : ∀ {ds : List D} {vs : List V} (i : Nat), RepL W G ds vs → RepL W G (ds.take i) (vs.take i)
  | _, _, 0, h => by simpa using RepL.nil
  | [], _, i + 1, h => by rw [RepL] at h; subst h; simpa using RepL.nil
  | e :: ds, _, i + 1, h => by
    rw [RepL] at h
    obtain ⟨u, r, rfl, z, t⟩ := h
    simpa using RepL.cons z (RepL.take i t)
theorem RepL.erase {G : Hp} {ds : List D} {vs : List V} (i : Nat) (h : RepL W G ds vs) : RepL W G (ds.eraseIdx i) (vs.eraseIdx i) := by
  rw [List.eraseIdx_eq_take_drop_succ, List.eraseIdx_eq_take_drop_succ]
  exact RepL.app (RepL.take i h) (RepL.drop (i + 1) h)
theorem RepL.rev {G : Hp} : ∀ {ds : List D} {vs : List V}, RepL W G ds vs → RepL W G ds.reverse vs.reverse
  | [], _, h => by rw [RepL] at h; subst h; simpa using RepL.nil
  | e :: ds, _, h => by
    rw [RepL] at h
    obtain ⟨u, r, rfl, z, t⟩ := h
    rw [List.reverse_cons, List.reverse_cons]
    exact RepL.app (RepL.rev t) (RepL.cons z RepL.nil)
theorem RepL.reps {G : Hp} {ds : List D} {vs : List V} (h : RepL W G ds vs) : ∀ k : Nat, RepL W G (List.replicate k ds).flatten (List.replicate k vs).flatten
  | 0 => RepL.nil
  | k + 1 => by
    rw [List.replicate_succ, List.replicate_succ, List.flatten_cons, List.flatten_cons]
    exact RepL.app h (RepL.reps h k)

/-- a local's data: nothing, immutable data (o: still the argument), an own list (p: handed in), an own dict -/
inductive LV where
  | no | im (d : D) (o : Bool) | ow (ds : List D) (p : Bool) | od (ks : List Key) (ds : List D) (p : Bool)
/-- what stands fixed through a def's run -/
structure Cn where
  H0 : Hp
  G0 : Hp
  A0 : List Addr
  vs0 : List V
  Lk : List Addr
/-- slot i owns the object at a -/
def Owns (σ : L2.St) (S : List LV) (i : Nat) (a : Addr) : Prop :=
  σ[i]? = some (some (V.ref a)) ∧ ((∃ ds p, S[i]? = some (LV.ow ds p)) ∨ ∃ ks ds p, S[i]? = some (LV.od ks ds p))
abbrev Tm := List (Addr × HO)
/-- the tables' code objects are known -/
def TabG (T : List (Addr × Str)) (H G : Hp) : Prop := ∀ p ∈ T, ∀ ps : Array Value, H p.1 = some (HO.tbl ps) → ∀ (pos : Pos) (b : Addr), codeAmong pos ps.toList = some (.ref b) → G b = some (LamX.CodeO b p.2)
theorem TabG.mono {T : List (Addr × Str)} {H G G' : Hp} (h : TabG T H G) (g : GLe G G') : TabG T H G' := fun p hp ps e pos b z => g _ _ (h p hp ps e pos b z)
theorem TabG.upd {T : List (Addr × Str)} {H G : Hp} {a : Addr} {o : HO} (h : TabG T H G) (ho : ∀ ps, o ≠ .tbl ps) : TabG T (upd H a o) G := fun p hp ps e pos b z => by
  by_cases ha : p.1 = a
  · rw [ha, upd_same] at e
    exact absurd (Option.some.inj e) (ho ps)
  · rw [upd_ne ha] at e
    exact h p hp ps e pos b z
structure StOk (W : Wx) (c : Cn) (T : Tm) (σ : L2.St) (H G : Hp) (S : List LV) : Prop where
  le : Le G H
  g0 : GLe c.G0 G
  new : ∀ a u, G a = some u → c.G0 a = some u ∨ c.H0 a = none
  fr : ∀ a u, c.H0 a = some u → (∀ ps, u ≠ .tbl ps) → a ∉ c.A0 → H a = some u ∨ (a ∈ c.Lk ∧ ∃ o, H a = some (HO.frz o u))
  all : ∀ a u, c.H0 a = some u → ∃ u', H a = some u'
  im : ∀ (i : Nat) (d : D) (o : Bool), S[i]? = some (LV.im d o) → ∃ v, σ[i]? = some (some v) ∧ Rep W G d v ∧ (o = true → c.vs0[i]? = some v)
  ow : ∀ (i : Nat) (ds : List D) (p : Bool), S[i]? = some (LV.ow ds p) → ∃ a vs, σ[i]? = some (some (V.ref a)) ∧ H a = some (HO.lst vs) ∧ G a = none ∧ RepL W G ds vs ∧ (p = false → c.H0 a = none) ∧ (p = true → a ∈ c.A0 ∧ c.vs0[i]? = some (V.ref a))
  od : ∀ (i : Nat) (ks : List Key) (ds : List D) (p : Bool), S[i]? = some (LV.od ks ds p) → ∃ a kvs, σ[i]? = some (some (V.ref a)) ∧ H a = some (HO.dK kvs) ∧ G a = none ∧ kvs.map (·.1) = ks ∧ RepL W G ds (kvs.map (·.2)) ∧ (p = false → c.H0 a = none) ∧ (p = true → a ∈ c.A0 ∧ c.vs0[i]? = some (V.ref a))
  sep : ∀ (i j : Nat) (a : Addr), Owns σ S i a → Owns σ S j a → i = j
  tm : ∀ p ∈ T, H p.1 = some p.2 ∧ G p.1 = none ∧ c.H0 p.1 = none ∧ (∀ i, ¬ Owns σ S i p.1) ∧ ∀ ps, p.2 ≠ .tbl ps
  tn : (T.map (·.1)).Nodup
  len : S.length = σ.length
  tb : LamX.Tabs W.T H
  gt : ∀ a ps, G a ≠ some (HO.tbl ps)
  cd : ∀ a q, c.H0 a = some (LamX.CodeO a q) → H a = some (LamX.CodeO a q)
  tg : TabG W.T H G

theorem leL {K : PySem.W.Frag} {G H : Hp} (g : Le G H) {a : Addr} {vs : List V} (h : SqL K G a vs) : SqL K H a vs := by
  rcases h with (h | ⟨o, h⟩) | h
  · rcases g _ _ h with q | ⟨o, kvs, e, q⟩
    · exact .inl (.inl q)
    · cases e
  · rcases g _ _ h with q | ⟨o, kvs, e, q⟩
    · exact .inl (.inr ⟨_, q⟩)
    · cases e
  · exact .inr h
theorem leT {K : PySem.W.Frag} {G H : Hp} (g : Le G H) {a : Addr} {vs : List V} (h : SqT K G a vs) : SqT K H a vs := by
  rcases h with (h | ⟨o, h⟩) | h
  · rcases g _ _ h with q | ⟨o, kvs, e, q⟩
    · exact .inl (.inl q)
    · cases e
  · rcases g _ _ h with q | ⟨o, kvs, e, q⟩
    · exact .inl (.inr ⟨_, q⟩)
    · cases e
  · exact .inr h
theorem Le.none {G H : Hp} (g : Le G H) {a : Addr} (h : H a = none) : G a = none := by
  cases e : G a with
  | none => rfl
  | some u =>
    rcases g _ _ e with q | ⟨_, _, _, q⟩ <;> rw [h] at q <;> cases q
section
variable {c : Cn} {T : Tm} {σ : L2.St} {H G : Hp} {S : List LV}
theorem StOk.fresh (I : StOk W c T σ H G S) {a : Addr} (h : H a = none) : c.H0 a = none := by
  cases e : c.H0 a with
  | none => rfl
  | some u =>
    obtain ⟨u', q⟩ := I.all _ _ e
    rw [h] at q; cases q
theorem StOk.own_at (I : StOk W c T σ H G S) {i : Nat} {a : Addr} (o : Owns σ S i a) : (∃ u, H a = some u) ∧ G a = none := by
  obtain ⟨e, ⟨ds, p, q⟩ | ⟨ks, ds, p, q⟩⟩ := o
  · obtain ⟨b, vs, e', h, g, _⟩ := I.ow _ _ _ q
    rw [e] at e'; cases e'
    exact ⟨⟨_, h⟩, g⟩
  · obtain ⟨b, vs, e', h, g, _⟩ := I.od _ _ _ _ q
    rw [e] at e'; cases e'
    exact ⟨⟨_, h⟩, g⟩
/-- the heap may grow, and the world with it, by new objects -/
theorem StOk.grow (I : StOk W c T σ H G S) {H' G' : Hp} (hh : ∀ a u, H a = some u → (∀ ps, u ≠ .tbl ps) → H' a = some u) (ht : ∀ a u, H a = some u → ∃ u', H' a = some u') (hg : GLe G G') (hl : Le G' H')
    (hn : ∀ a u, G' a = some u → G a = some u ∨ H a = none) (hT : LamX.Tabs W.T H') (hgt : ∀ a ps, G' a ≠ some (HO.tbl ps)) (htg : TabG W.T H' G') : StOk W c T σ H' G' S where
  le := hl
  g0 := I.g0.trans hg
  new := fun a u e => by
    rcases hn a u e with q | q
    · exact I.new a u q
    · exact .inr (I.fresh q)
  fr := fun a u e n m => by
    rcases I.fr a u e n m with q | ⟨l, o, q⟩
    · exact .inl (hh _ _ q n)
    · exact .inr ⟨l, o, hh _ _ q fun ps z => by cases z⟩
  all := fun a u e => by
    obtain ⟨u', q⟩ := I.all a u e
    exact ht _ _ q
  im := fun i d o e => by
    obtain ⟨v, e1, r, k⟩ := I.im i d o e
    exact ⟨v, e1, r.mono hg, k⟩
  ow := fun i ds p e => by
    obtain ⟨a, vs, e1, h, g, r, k1, k2⟩ := I.ow i ds p e
    refine ⟨a, vs, e1, hh _ _ h (fun ps z => by cases z), ?_, r.mono hg, k1, k2⟩
    cases q : G' a with
    | none => rfl
    | some u =>
      rcases hn a u q with z | z
      · rw [g] at z; cases z
      · rw [h] at z; cases z
  od := fun i ks ds p e => by
    obtain ⟨a, vs, e1, h, g, kk, r, k1, k2⟩ := I.od i ks ds p e
    refine ⟨a, vs, e1, hh _ _ h (fun ps z => by cases z), ?_, kk, r.mono hg, k1, k2⟩
    cases q : G' a with
    | none => rfl
    | some u =>
      rcases hn a u q with z | z
      · rw [g] at z; cases z
      · rw [h] at z; cases z
  sep := I.sep
  tm := fun p hp => by
    obtain ⟨h1, h2, h3, h4, h5⟩ := I.tm p hp
    refine ⟨hh _ _ h1 h5, ?_, h3, h4, h5⟩
    cases q : G' p.1 with
    | none => rfl
    | some u =>
      rcases hn _ u q with z | z
      · rw [h2] at z; cases z
      · rw [h1] at z; cases z
  tn := I.tn
  len := I.len
  tb := hT
  gt := hgt
  cd := fun a q e => hh _ _ (I.cd a q e) fun ps => LamX.codeO_ne ps
  tg := htg
theorem cd_upd {H0 H : Hp} {a : Addr} {o : HO} (h : ∀ b q, H0 b = some (LamX.CodeO b q) → H b = some (LamX.CodeO b q)) (hn : ∀ u, H a = some u → ∀ q c, u ≠ LamX.CodeO c q) : ∀ b q, H0 b = some (LamX.CodeO b q) → upd H a o b = some (LamX.CodeO b q) := fun b q e => by
  have z := h b q e
  rw [upd_ne fun y => hn _ (by rw [← y]; exact z) _ _ rfl]
  exact z
theorem gt_upd {G : Hp} {a : Addr} {o : HO} (h : ∀ b ps, G b ≠ some (HO.tbl ps)) (ho : ∀ ps, o ≠ .tbl ps) : ∀ b ps, upd G a o b ≠ some (HO.tbl ps) := fun b ps e => by
  by_cases hb : b = a
  · subst hb
    rw [upd_same] at e
    exact ho ps (Option.some.inj e)
  · rw [upd_ne hb] at e
    exact h b ps e
theorem tabs_upd {T : List (Addr × Str)} {H : Hp} {a : Addr} {o : HO} (h : LamX.Tabs T H) (hn : ∀ u, H a = some u → (∀ ps, u ≠ .tbl ps) ∧ ∀ q c, u ≠ LamX.CodeO c q) : LamX.Tabs T (upd H a o) := fun p hp => by
  obtain ⟨ps, h1, h2, h3⟩ := h p hp
  refine ⟨ps, ?_, h2, fun pos cv hc => ?_⟩
  · rw [upd_ne fun z => (hn _ (by rw [← z]; exact h1)).1 ps rfl]
    exact h1
  · obtain ⟨c, e1, e2⟩ := h3 pos cv hc
    refine ⟨c, e1, ?_⟩
    rw [upd_ne fun z => (hn _ (by rw [← z]; exact e2)).2 _ _ rfl]
    exact e2
theorem lst_not {vs : List V} : (∀ ps, HO.lst vs ≠ .tbl ps) ∧ ∀ q c, HO.lst vs ≠ LamX.CodeO c q := ⟨fun _ z => (by cases z), fun q c z => (by unfold LamX.CodeO at z; cases z)⟩
theorem gle_upd {G : Hp} {p : Addr} {o : HO} (h : G p = none) : GLe G (upd G p o) := fun a u e => by
  rw [upd_ne (ne_of_none e h)]; exact e
end
end Dy

set_option Elab.async false
set_option linter.all false
set_option maxRecDepth 100000
set_option maxHeartbeats 4000000
namespace Dy
open PySem PySem.Spec L2
variable {W : Wx} {c : Cn} {T : Tm} {σ : L2.St} {H G : Hp} {S : List LV}
theorem StOk.free (I : StOk W c T σ H G S) {p : Addr} (h : H p = none) : G p = none ∧ (∀ i, ¬ Owns σ S i p) ∧ ∀ q ∈ T, q.1 ≠ p := by
  refine ⟨I.le.none h, fun i o => ?_, fun q hq z => ?_⟩
  · obtain ⟨⟨u, e⟩, _⟩ := I.own_at o
    rw [h] at e; cases e
  · obtain ⟨e, _⟩ := I.tm q hq
    rw [z, h] at e; cases e
/-- a new object, not known to the world -/
theorem StOk.alloc (I : StOk W c T σ H G S) {p : Addr} {o : HO} (h : H p = none) (ho : ∀ ps, o ≠ .tbl ps) : StOk W c ((p, o) :: T) σ (upd H p o) G S := by
  obtain ⟨hg, hO, hT⟩ := I.free h
  have hu : ∀ a u, H a = some u → upd H p o a = some u := fun a u e => by rw [upd_ne (ne_of_none e h)]; exact e
  have J : StOk W c T σ (upd H p o) G S := I.grow (fun a u e _ => hu a u e) (fun a u e => ⟨u, hu a u e⟩) GLe.rfl (fun a u e => by
    rcases I.le a u e with q | ⟨o', kvs, e1, q⟩
    · exact .inl (hu _ _ q)
    · exact .inr ⟨o', kvs, e1, hu _ _ q⟩) (fun a u e => .inl e) (I.tb.ext hu) I.gt (I.tg.upd ho)
  refine { J with tm := fun q hq => ?_, tn := ?_ }
  · rcases List.mem_cons.mp hq with rfl | hq
    · exact ⟨upd_same, hg, I.fresh h, hO, ho⟩
    · exact J.tm q hq
  · rw [List.map_cons, List.nodup_cons]
    refine ⟨fun hm => ?_, I.tn⟩
    obtain ⟨q, hq, e⟩ := List.mem_map.mp hm
    exact hT q hq e
/-- a temporary goes into the world -/
theorem StOk.known {p : Addr} {o : HO} (I : StOk W c ((p, o) :: T) σ H G S) : StOk W c T σ H (upd G p o) S := by
  obtain ⟨h1, h2, h3, h4, h5⟩ := I.tm (p, o) List.mem_cons_self
  have hT : ∀ q ∈ T, q.1 ≠ p := fun q hq z => by
    have := I.tn
    rw [List.map_cons, List.nodup_cons] at this
    exact this.1 (List.mem_map.mpr ⟨q, hq, z⟩)
  have gu := gle_upd (o := o) h2
  refine ⟨fun a u e => ?_, I.g0.trans gu, fun a u e => ?_, I.fr, I.all, fun i d o' e => ?_, fun i ds q e => ?_, fun i ks ds q e => ?_, I.sep, fun q hq => ?_, ?_, I.len, I.tb, gt_upd I.gt h5, I.cd, I.tg.mono gu⟩
  · by_cases ha : a = p
    · subst ha; rw [upd_same] at e; cases e; exact .inl h1
    · rw [upd_ne ha] at e; exact I.le a u e
  · by_cases ha : a = p
    · subst ha; exact .inr h3
    · rw [upd_ne ha] at e; exact I.new a u e
  · obtain ⟨v, e1, r, k⟩ := I.im i d o' e
    exact ⟨v, e1, r.mono gu, k⟩
  · obtain ⟨a, vs, e1, e2, e3, r, k1, k2⟩ := I.ow i ds q e
    have na : a ≠ p := fun z => h4 i ⟨by rw [← z]; exact e1, .inl ⟨_, _, e⟩⟩
    exact ⟨a, vs, e1, e2, by rw [upd_ne na]; exact e3, r.mono gu, k1, k2⟩
  · obtain ⟨a, vs, e1, e2, e3, kk, r, k1, k2⟩ := I.od i ks ds q e
    have na : a ≠ p := fun z => h4 i ⟨by rw [← z]; exact e1, .inr ⟨_, _, _, e⟩⟩
    exact ⟨a, vs, e1, e2, by rw [upd_ne na]; exact e3, kk, r.mono gu, k1, k2⟩
  · obtain ⟨q1, q2, q3⟩ := I.tm q (List.mem_cons_of_mem _ hq)
    exact ⟨q1, by rw [upd_ne (hT q hq)]; exact q2, q3⟩
  · have := I.tn
    rw [List.map_cons, List.nodup_cons] at this
    exact this.2
/-- a temporary is forgotten -/
theorem StOk.drop {p : Addr × HO} (I : StOk W c (p :: T) σ H G S) : StOk W c T σ H G S :=
  { I with tm := fun q hq => I.tm q (List.mem_cons_of_mem _ hq), tn := (List.nodup_cons.mp (by have z := I.tn; rw [List.map_cons] at z; exact z)).2 }
theorem StOk.allocI (I : StOk W c T σ H G S) {p : Addr} {o : HO} (h : H p = none) (ho : ∀ ps, o ≠ .tbl ps) : StOk W c T σ (upd H p o) (upd G p o) S := (I.alloc h ho).known
theorem StOk.gle (I : StOk W c ((p, o) :: T) σ H G S) : GLe G (upd G p o) := gle_upd (I.tm (p, o) List.mem_cons_self).2.1

/-! ### mirrors -/
structure Er where
  cls : Str
  fs : List (Str × D × Option Nat)
inductive Res (α : Type) where
  | stuck | ok (x : α) (S : List LV) | er (e : Er) (S : List LV)
def Res.bind {α β : Type} (m : Res α) (f : α → List LV → Res β) : Res β := match m with
  | .stuck => .stuck
  | .ok x S => f x S
  | .er e S => .er e S
@[simp] theorem Res.bind_stuck {α β : Type} (f : α → List LV → Res β) : Res.bind .stuck f = .stuck := rfl
@[simp] theorem Res.bind_ok {α β : Type} (x : α) (S : List LV) (f : α → List LV → Res β) : Res.bind (.ok x S) f = f x S := rfl
@[simp] theorem Res.bind_er {α β : Type} (e : Er) (S : List LV) (f : α → List LV → Res β) : Res.bind (.er e S) f = .er e S := rfl
def Res.of {α : Type} (o : Option α) (S : List LV) : Res α := match o with
  | some x => .ok x S
  | none => .stuck
@[simp] theorem Res.of_some {α : Type} (x : α) (S : List LV) : Res.of (some x) S = .ok x S := rfl
@[simp] theorem Res.of_none {α : Type} (S : List LV) : Res.of (none : Option α) S = .stuck := rfl
/-- data, and the slot whose very value it is -/
abbrev EV := D × Option Nat
abbrev ME := List LV → Res EV
abbrev MT := List LV → Res Bool
abbrev MF := List LV → Res (List D)
inductive AV where
  | im (d : D) (t : Option Nat) | own (j : Nat)
abbrev MA := List LV → Res (List AV)

def Tok (σ : L2.St) (t : Option Nat) (v : V) : Prop := ∀ j, t = some j → σ[j]? = some (some v)
theorem tok_none {v : V} : Tok σ none v := fun j e => by cases e
def FldOk (W : Wx) (G : Hp) (σ : L2.St) : List (Str × D × Option Nat) → List (Str × V) → Prop
  | [], fs => fs = []
  | (n, d, t) :: r, fs => ∃ v q, fs = (n, v) :: q ∧ Rep W G d v ∧ Tok σ t v ∧ FldOk W G σ r q
theorem FldOk.mono {G' : Hp} (g : GLe G G') : ∀ {es : List (Str × D × Option Nat)} {fs : List (Str × V)}, FldOk W G σ es fs → FldOk W G' σ es fs
  | [], _, h => h
  | (n, d, t) :: r, _, h => by
    obtain ⟨v, q, e, a, b, z⟩ := h
    exact ⟨v, q, e, a.mono g, b, FldOk.mono g z⟩
/-- the exception e lies there: its class, its dict -/
def ErOk (W : Wx) (σ : L2.St) (c : Cn) (G H : Hp) (cls : Value) (dd : Option Addr) (e : Er) : Prop :=
  ∃ (C : Addr) (d : Addr) (fs : List (Str × V)), W.mg e.cls = some (.ref C) ∧ cls = .ref C ∧ dd = some d ∧ H d = some (.xd fs) ∧ c.H0 d = none ∧ FldOk W G σ e.fs fs

def PR (W : Wx) (c : Cn) (T : Tm) (E : XK) (σ : L2.St) {α : Type} (k : Hp → α → List LV → Prop) (G : Hp) : Res α → Prop
  | .stuck => False
  | .ok x S => k G x S
  | .er e S => ∀ cls dd H' G', GLe G G' → StOk W c T σ H' G' S → ErOk W σ c G' H' cls dd e → E cls dd H'
def Mono {α : Type} (k : Hp → α → List LV → Prop) : Prop := ∀ G G1 x S, GLe G G1 → k G x S → k G1 x S
section
variable {E : XK} {α β : Type} {k k1 : Hp → α → List LV → Prop}
theorem PR.mono {G1 : Hp} (hk : Mono k) (g : GLe G G1) : ∀ {m : Res α}, PR W c T E σ k G m → PR W c T E σ k G1 m
  | .stuck, h => h
  | .ok x S, h => hk _ _ _ _ g h
  | .er e S, h => fun cls dd H' G' g' I x => h cls dd H' G' (g.trans g') I x
theorem PR.bind {k : Hp → β → List LV → Prop} {m : Res α} {f : α → List LV → Res β} (h : PR W c T E σ k G (m.bind f)) (hk : ∀ x S1, m = .ok x S1 → PR W c T E σ k G (f x S1) → k1 G x S1) : PR W c T E σ k1 G m := by
  cases m with
  | stuck => exact h
  | ok x S => exact hk x S rfl h
  | er e S => exact h
theorem PR.imp {m : Res α} (h : PR W c T E σ k G m) (hk : ∀ x S1, m = .ok x S1 → k G x S1 → k1 G x S1) : PR W c T E σ k1 G m := by
  cases m with
  | stuck => exact h
  | ok x S => exact hk x S rfl h
  | er e S => exact h
/-- the temporaries may be fewer in what is wanted -/
theorem PR.tail {p : Addr × HO} {m : Res α} (h : PR W c T E σ k G m) : PR W c (p :: T) E σ k G m := by
  cases m with
  | stuck => exact h
  | ok x S => exact h
  | er e S => exact fun cls dd H' G' g I x => h cls dd H' G' g I.drop x

def kE (W : Wx) (c : Cn) (T : Tm) (σ : L2.St) (Q : VK) : Hp → EV → List LV → Prop := fun G x S =>
  ∀ v H' G', GLe G G' → StOk W c T σ H' G' S → Rep W G' x.1 v → Tok σ x.2 v → Q v H'
def kT (W : Wx) (c : Cn) (T : Tm) (σ : L2.St) (Q : Bool → Hp → Prop) : Hp → Bool → List LV → Prop := fun G x S =>
  ∀ H' G', GLe G G' → StOk W c T σ H' G' S → Q x H'
/-- a fresh list | dict, of which nobody knows -/
def kF (W : Wx) (c : Cn) (T : Tm) (σ : L2.St) (Q : VK) : Hp → List D → List LV → Prop := fun G ds S =>
  ∀ a vs H' G', GLe G G' → StOk W c ((a, .lst vs) :: T) σ H' G' S → RepL W G' ds vs → Q (.ref a) H'
def kD (W : Wx) (c : Cn) (T : Tm) (σ : L2.St) (Q : VK) : Hp → (List Key × List D) → List LV → Prop := fun G x S =>
  ∀ a kvs H' G', GLe G G' → StOk W c ((a, .dK kvs) :: T) σ H' G' S → kvs.map (·.1) = x.1 → RepL W G' x.2 (kvs.map (·.2)) → Q (.ref a) H'
def ArgsOk (W : Wx) (G : Hp) (σ : L2.St) : List AV → List V → Prop
  | [], vs => vs = []
  | .im d t :: r, vs => ∃ v q, vs = v :: q ∧ Rep W G d v ∧ Tok σ t v ∧ ArgsOk W G σ r q
  | .own j :: r, vs => ∃ v q, vs = v :: q ∧ σ[j]? = some (some v) ∧ ArgsOk W G σ r q
theorem ArgsOk.mono {G' : Hp} (g : GLe G G') : ∀ {es : List AV} {fs : List V}, ArgsOk W G σ es fs → ArgsOk W G' σ es fs
  | [], _, h => h
  | .im d t :: r, _, h => by
    obtain ⟨v, q, e, a, b, z⟩ := h
    exact ⟨v, q, e, a.mono g, b, ArgsOk.mono g z⟩
  | .own j :: r, _, h => by
    obtain ⟨v, q, e, a, z⟩ := h
    exact ⟨v, q, e, a, ArgsOk.mono g z⟩
def kA (W : Wx) (c : Cn) (T : Tm) (σ : L2.St) (Q : List V → Hp → Prop) : Hp → List AV → List LV → Prop := fun G x S =>
  ∀ vs H' G', GLe G G' → StOk W c T σ H' G' S → ArgsOk W G' σ x vs → Q vs H'
theorem mE {Q : VK} : Mono (kE W c T σ Q) := fun _ _ _ _ g h v H' G' g' => h v H' G' (g.trans g')
theorem mT {Q : Bool → Hp → Prop} : Mono (kT W c T σ Q) := fun _ _ _ _ g h H' G' g' => h H' G' (g.trans g')
theorem mF {Q : VK} : Mono (kF W c T σ Q) := fun _ _ _ _ g h a vs H' G' g' => h a vs H' G' (g.trans g')
theorem mD {Q : VK} : Mono (kD W c T σ Q) := fun _ _ _ _ g h a vs H' G' g' => h a vs H' G' (g.trans g')
theorem mA {Q : List V → Hp → Prop} : Mono (kA W c T σ Q) := fun _ _ _ _ g h vs H' G' g' => h vs H' G' (g.trans g')

end
/-! ### what a reading comes to -/
variable {E : L2.St → XK}
def ER (W : Wx) (E : L2.St → XK) (te : TE) (m : ME) : Prop := ∀ c T σ H G S (Q : VK), StOk W c T σ H G S → PR W c T (E σ) σ (kE W c T σ Q) G (m S) → te σ H Q
def EF (W : Wx) (E : L2.St → XK) (te : TE) (m : MF) : Prop := ∀ c T σ H G S (Q : VK), StOk W c T σ H G S → PR W c T (E σ) σ (kF W c T σ Q) G (m S) → te σ H Q
def ED (W : Wx) (E : L2.St → XK) (te : TE) (m : List LV → Res (List Key × List D)) : Prop := ∀ c T σ H G S (Q : VK), StOk W c T σ H G S → PR W c T (E σ) σ (kD W c T σ Q) G (m S) → te σ H Q
def TR (W : Wx) (E : L2.St → XK) (tt : TT) (m : MT) : Prop := ∀ c T σ H G S (Q : Bool → Hp → Prop), StOk W c T σ H G S → PR W c T (E σ) σ (kT W c T σ Q) G (m S) → tt σ H Q
def AR (W : Wx) (E : L2.St → XK) (ta : TA) (m : MA) : Prop := ∀ c T σ H G S (Q : List V → Hp → Prop), StOk W c T σ H G S → PR W c T (E σ) σ (kA W c T σ Q) G (m S) → ta σ H Q

/-- a fresh list becomes known -/
def mFrz (m : MF) : ME := fun S => (m S).bind fun ds S => .ok (.lst ds, none) S
theorem rep_lst {a : Addr} {vs : List V} {ds : List D} (h : G a = some (.lst vs)) (r : RepL W G ds vs) : Rep W G (.lst ds) (.ref a) := by
  rw [Rep]; exact ⟨a, vs, rfl, h, r⟩
theorem rep_tup {a : Addr} {vs : List V} {ds : List D} (h : G a = some (.tup vs)) (r : RepL W G ds vs) : Rep W G (.tup ds) (.ref a) := by
  rw [Rep]; exact ⟨a, vs, rfl, SqT.of h, r⟩
theorem er_frz {te : TE} {m : MF} (h : EF W E te m) : ER W E te (mFrz m) := fun c T σ H G S Q I hq =>
  h c T σ H G S Q I (hq.bind fun ds S1 _ h1 a vs H' G' g I' r => by
    have gu := I'.gle
    exact h1 _ _ _ (g.trans gu) I'.known (rep_lst upd_same (r.mono gu)) tok_none)
def mFrzD (m : List LV → Res (List Key × List D)) : ME := fun S => (m S).bind fun x S => .ok (.dct x.1 x.2, none) S
theorem er_frzD {te : TE} {m : List LV → Res (List Key × List D)} (h : ED W E te m) : ER W E te (mFrzD m) := fun c T σ H G S Q I hq =>
  h c T σ H G S Q I (hq.bind fun x S1 _ h1 a kvs H' G' g I' e r => by
    have gu := I'.gle
    refine h1 _ _ _ (g.trans gu) I'.known ?_ tok_none
    rw [Rep]
    exact ⟨a, kvs, rfl, upd_same, e, r.mono gu⟩)

/-! ### names, constants -/
/-- the slot's data; an own list is let go into the world -/
def mVar (i : Nat) : ME := fun S => match S[i]? with
  | some (.im d _) => .ok (d, some i) S
  | some (.ow ds false) => .ok (.lst ds, some i) (S.set i (.im (.lst ds) false))
  | some (.od ks ds false) => .ok (.dct ks ds, some i) (S.set i (.im (.dct ks ds) false))
  | _ => .stuck
theorem get_set_ne {α : Type} {l : List α} {i j : Nat} {x : α} (h : i ≠ j) : (l.set i x)[j]? = l[j]? := List.getElem?_set_ne h
theorem owns_set {i : Nat} {x : LV} (hx : (∀ ds p, x ≠ .ow ds p) ∧ ∀ ks ds p, x ≠ .od ks ds p) {j : Nat} {a : Addr} (o : Owns σ (S.set i x) j a) : j ≠ i ∧ Owns σ S j a := by
  obtain ⟨e, o⟩ := o
  have hj : j ≠ i := fun z => by
    subst z
    rcases o with ⟨ds, p, q⟩ | ⟨ks, ds, p, q⟩
    · rw [List.getElem?_set] at q
      simp only [if_true] at q
      split at q
      · exact hx.1 _ _ (Option.some.inj q)
      · cases q
    · rw [List.getElem?_set] at q
      simp only [if_true] at q
      split at q
      · exact hx.2 _ _ _ (Option.some.inj q)
      · cases q
  rw [get_set_ne (Ne.symm hj)] at o
  exact ⟨hj, e, o⟩
theorem frz_own (I : StOk W c T σ H G S) {i : Nat} {a : Addr} {o : HO} {d : D} (hl : i < S.length) (ho : Owns σ S i a) (h : H a = some o) (hn : ∀ ps, o ≠ .tbl ps) (h0 : c.H0 a = none) (r : Rep W (upd G a o) d (.ref a)) :
    GLe G (upd G a o) ∧ StOk W c T σ H (upd G a o) (S.set i (.im d false)) := by
  have hg := (I.own_at ho).2
  have gu := gle_upd (o := o) hg
  have nx : (∀ ds p, LV.im d false ≠ .ow ds p) ∧ ∀ ks ds p, LV.im d false ≠ .od ks ds p := ⟨fun _ _ z => (by cases z), fun _ _ _ z => (by cases z)⟩
  refine ⟨gu, ⟨fun b u e => ?_, I.g0.trans gu, fun b u e => ?_, I.fr, I.all, fun j d' o' e => ?_, fun j ds p e => ?_, fun j ks ds p e => ?_, fun x y b p q => ?_, fun q hq => ?_, I.tn, by simpa using I.len, I.tb, gt_upd I.gt hn, I.cd, I.tg.mono gu⟩⟩
  · by_cases ha : b = a
    · subst ha; rw [upd_same] at e; cases e; exact .inl h
    · rw [upd_ne ha] at e; exact I.le b u e
  · by_cases ha : b = a
    · subst ha; exact .inr h0
    · rw [upd_ne ha] at e; exact I.new b u e
  · by_cases hj : j = i
    · subst hj
      rw [List.getElem?_set_self hl] at e
      cases e
      exact ⟨_, ho.1, r, fun z => by cases z⟩
    · rw [get_set_ne (Ne.symm hj)] at e
      obtain ⟨v, e1, r, k⟩ := I.im j d' o' e
      exact ⟨v, e1, r.mono gu, k⟩
  · have hj : j ≠ i := fun z => by
      subst z; rw [List.getElem?_set_self hl] at e; cases e
    rw [get_set_ne (Ne.symm hj)] at e
    obtain ⟨b, vs, e1, e2, e3, r, k1, k2⟩ := I.ow j ds p e
    have na : b ≠ a := fun z => hj (I.sep j i b ⟨e1, .inl ⟨_, _, e⟩⟩ (by rw [z]; exact ho))
    exact ⟨b, vs, e1, e2, by rw [upd_ne na]; exact e3, r.mono gu, k1, k2⟩
  · have hj : j ≠ i := fun z => by
      subst z; rw [List.getElem?_set_self hl] at e; cases e
    rw [get_set_ne (Ne.symm hj)] at e
    obtain ⟨b, vs, e1, e2, e3, kk, r, k1, k2⟩ := I.od j ks ds p e
    have na : b ≠ a := fun z => hj (I.sep j i b ⟨e1, .inr ⟨_, _, _, e⟩⟩ (by rw [z]; exact ho))
    exact ⟨b, vs, e1, e2, by rw [upd_ne na]; exact e3, kk, r.mono gu, k1, k2⟩
  · exact I.sep x y b (owns_set nx p).2 (owns_set nx q).2
  · obtain ⟨q1, q2, q3, q4, q5⟩ := I.tm q hq
    have na : q.1 ≠ a := fun z => q4 i (by rw [z]; exact ho)
    exact ⟨q1, by rw [upd_ne na]; exact q2, q3, fun j o => q4 j (owns_set nx o).2, q5⟩
theorem lt_of_get {α : Type} {l : List α} {i : Nat} {x : α} (h : l[i]? = some x) : i < l.length := (List.getElem?_eq_some_iff.mp h).1
theorem er_var {i : Nat} : ER W E (tVar i) (mVar i) := fun c T σ H G S Q I hq => by
  unfold mVar at hq
  split at hq
  · rename_i d o e
    obtain ⟨v, e1, r, _⟩ := I.im i d o e
    exact ⟨v, e1, hq v H G GLe.rfl I r fun j z => by cases z; exact e1⟩
  · rename_i ds e
    obtain ⟨a, vs, e1, e2, e3, r, k1, k2⟩ := I.ow i ds false e
    have gu := gle_upd (o := HO.lst vs) e3
    have rr : Rep W (upd G a (.lst vs)) (.lst ds) (.ref a) := rep_lst upd_same (r.mono gu)
    obtain ⟨g, J⟩ := frz_own I (lt_of_get e) ⟨e1, .inl ⟨_, _, e⟩⟩ e2 (fun ps z => by cases z) (k1 rfl) rr
    exact ⟨_, e1, hq _ H _ g J rr fun j z => by cases z; exact e1⟩
  · rename_i ks ds e
    obtain ⟨a, kvs, e1, e2, e3, kk, r, k1, k2⟩ := I.od i ks ds false e
    have gu := gle_upd (o := HO.dK kvs) e3
    have rr : Rep W (upd G a (.dK kvs)) (.dct ks ds) (.ref a) := by
      rw [Rep]; exact ⟨a, kvs, rfl, upd_same, kk, r.mono gu⟩
    obtain ⟨g, J⟩ := frz_own I (lt_of_get e) ⟨e1, .inr ⟨_, _, _, e⟩⟩ e2 (fun ps z => by cases z) (k1 rfl) rr
    exact ⟨_, e1, hq _ H _ g J rr fun j z => by cases z; exact e1⟩
  · exact hq.elim
def mC (d : D) : ME := fun S => .ok (d, none) S
/-- a written value -/
theorem er_c {v : V} {d : D} (h : ∀ G, Rep W G d v) : ER W E (tC v) (mC d) := fun c T σ H G S Q I hq => hq v H G GLe.rfl I (h G) tok_none

/-! ### operations by data -/
def OpD (W : Wx) (r : R2) (f : D → D → Option D) : Prop :=
  ∀ c T σ H G S x y dx dy d (Q : VK), StOk W c T σ H G S → Rep W G dx x → Rep W G dy y → f dx dy = some d → (∀ v H' G', GLe G G' → StOk W c T σ H' G' S → Rep W G' d v → Q v H') → r x y H Q
def OpF (W : Wx) (r : R2) (f : D → D → Option (List D)) : Prop :=
  ∀ c T σ H G S x y dx dy ds (Q : VK), StOk W c T σ H G S → Rep W G dx x → Rep W G dy y → f dx dy = some ds → (∀ a vs H' G', GLe G G' → StOk W c ((a, .lst vs) :: T) σ H' G' S → RepL W G' ds vs → Q (.ref a) H') → r x y H Q
def mBin (f : D → D → Option D) (ma mb : ME) : ME := fun S => (ma S).bind fun x S1 => (mb S1).bind fun y S2 => Res.of ((f x.1 y.1).map fun d => (d, none)) S2
theorem er_op {r : R2} {f : D → D → Option D} {ta tb : TE} {ma mb : ME} (hr : OpD W r f) (ha : ER W E ta ma) (hb : ER W E tb mb) : ER W E (tOp r ta tb) (mBin f ma mb) := fun c T σ H G S Q I hq => by
  refine ha c T σ H G S _ I (hq.bind fun x S1 _ h1 v H1 G1 g1 I1 r1 t1 => ?_)
  refine hb c T σ H1 G1 S1 _ I1 ((h1.mono mE g1).bind fun y S2 _ h2 u H2 G2 g2 I2 r2 t2 => ?_)
  cases e : f x.1 y.1 with
  | none => rw [e] at h2; exact (h2 : False).elim
  | some d =>
    rw [e] at h2
    exact hr c T σ H2 G2 S2 v u x.1 y.1 d Q I2 (r1.mono g2) r2 e fun w H' G' g I' r' => h2 w H' G' (g2.trans g) I' r' tok_none
theorem OpD.or {r r' : R2} {f f' : D → D → Option D} (h : OpD W r f) (h' : OpD W r' f') : OpD W (fun x y H Q => r x y H Q ∨ r' x y H Q) (fun a b => (f a b).or (f' a b)) := by
  intro c T σ H G S x y dx dy d Q I rx ry e k
  replace e : (f dx dy).or (f' dx dy) = some d := e
  cases q : f dx dy with
  | some z =>
    rw [q] at e
    cases e
    exact .inl (h c T σ H G S x y dx dy _ Q I rx ry q k)
  | none =>
    rw [q] at e
    exact .inr (h' c T σ H G S x y dx dy _ Q I rx ry e k)
end Dy

set_option Elab.async false
set_option linter.all false
set_option maxRecDepth 100000
set_option maxHeartbeats 4000000
namespace Dy
open PySem PySem.Spec L2
variable {W : Wx} {c : Cn} {T : Tm} {σ : L2.St} {H G : Hp} {S : List LV} {E : L2.St → XK}

/-! ### what a world's data is in the heap -/
theorem Rep.sqL (I : StOk W c T σ H G S) {ds : List D} {v : V} (r : Rep W G (.lst ds) v) : ∃ a vs, v = .ref a ∧ SqL W.K H a vs ∧ RepL W G ds vs := by
  rw [Rep] at r
  obtain ⟨a, vs, e, h, q⟩ := r
  exact ⟨a, vs, e, leL I.le (SqL.of h), q⟩
theorem Rep.sqT (I : StOk W c T σ H G S) {ds : List D} {v : V} (r : Rep W G (.tup ds) v) : ∃ a vs, v = .ref a ∧ SqT W.K H a vs ∧ RepL W G ds vs := by
  rw [Rep] at r
  obtain ⟨a, vs, e, h, q⟩ := r
  exact ⟨a, vs, e, leT I.le h, q⟩
@[simp] theorem rep_non {v : V} : Rep W G .non v ↔ v = .non := by rw [Rep]
@[simp] theorem rep_bl {b : Bool} {v : V} : Rep W G (.bl b) v ↔ v = .bl b := by rw [Rep]
@[simp] theorem rep_int {b : Int} {v : V} : Rep W G (.int b) v ↔ v = .int b := by rw [Rep]
@[simp] theorem rep_str {b : Str} {v : V} : Rep W G (.str b) v ↔ v = .str b := by rw [Rep]
theorem no_tbl_lst {xs : List V} : ∀ ps, HO.lst xs ≠ .tbl ps := fun _ z => by cases z
theorem no_tbl_tup {xs : List V} : ∀ ps, HO.tup xs ≠ .tbl ps := fun _ z => by cases z
theorem no_tbl_dK {xs : List (Key × V)} : ∀ ps, HO.dK xs ≠ .tbl ps := fun _ z => by cases z

/-! ### own rules: + and * of lists that may be written ones -/
def rCatS (K : PySem.W.Frag) : R2 := fun x y H Q => ∃ l b xs zs, x = .ref l ∧ y = .ref b ∧ SqL K H l xs ∧ SqL K H b zs ∧ xs.length + zs.length ≤ sizeLine ∧ ∀ p, H p = none → Q (.ref p) (upd H p (.lst (xs ++ zs)))
theorem op_catS {X : Cx} : OpR X (binaryOp .Add) (rCatS X.K) := by
  intro pins s σ H x y v u Q I rx ry hh
  obtain ⟨l, b, xs, zs, rfl, rfl, h1, h2, hz, q⟩ := hh
  cases rx
  cases ry
  obtain ⟨its, r, p1, z1⟩ := I.list h1
  obtain ⟨jts, r', p2, z2⟩ := I.list h2
  obtain ⟨⟨oc, od, dt, sl⟩, n, g1, c1, d1, e1⟩ := p1
  obtain ⟨⟨oc', od', dt', sl'⟩, n', g2, c2, d2, e2⟩ := p2
  dsimp only at c1 d1 e1 c2 d2 e2
  subst c1 d1 e1 c2 d2 e2
  have l1 := r.length
  have l2 := r'.length
  refine PySem.concat_meets ⟨_, g1, rfl⟩ ⟨_, g2, rfl⟩ PySem.noFill_list_add PySem.seq_list_add PySem.F.slot_list_add PySem.F.entry_list_add (PySem.F.args_list_add_2 _ _)
    (PyProof.Rows.list_addW l b its.toArray jts.toArray n n' none none sl sl' (by rw [List.size_toArray, List.size_toArray]; omega)) ⟨g1, g2, ?_⟩
  have ea : its.toArray ++ jts.toArray = (its ++ jts).toArray := by simp
  rw [ea]
  exact ⟨.ref _, _, I.lnew (t' := s.toks) (r.append r') (by rw [List.length_append]; omega), rfl, q _ I.fresh⟩

/-! ### + -/
abbrev LIM : Nat := 1000000
theorem lim_line {n : Nat} (h : n ≤ LIM) : n ≤ sizeLine := Nat.le_trans h (by decide)
theorem lim_lt {n : Nat} (h : n ≤ LIM) : n < sizeLine := Nat.lt_of_le_of_lt h (by decide)
def addI : D → D → Option D
  | .int i, .int j => some (.int (i + j))
  | _, _ => none
theorem od_addI : OpD W (rI0 fun i j => .int (i + j)) addI := by
  intro c T σ H G S x y dx dy d Q I rx ry e k
  unfold addI at e
  split at e
  · cases e
    rw [rep_int] at rx ry
    exact ⟨_, _, rx, ry, k _ H G GLe.rfl I (by simp)⟩
  · cases e
def addS : D → D → Option D
  | .str i, .str j => if i.length + j.length ≤ LIM then some (.str (i ++ j)) else none
  | _, _ => none
theorem od_addS : OpD W (fun x y H Q => ∃ i j, x = .str i ∧ y = .str j ∧ i.length + j.length ≤ sizeLine ∧ Q (.str (i ++ j)) H) addS := by
  intro c T σ H G S x y dx dy d Q I rx ry e k
  unfold addS at e
  split at e
  · split at e
    · rename_i h
      cases e
      rw [rep_str] at rx ry
      exact ⟨_, _, rx, ry, lim_line h, k _ H G GLe.rfl I (by simp)⟩
    · cases e
  · cases e
def addL : D → D → Option D
  | .lst i, .lst j => if i.length + j.length ≤ LIM then some (.lst (i ++ j)) else none
  | _, _ => none
theorem od_addL : OpD W (rCatS W.K) addL := by
  intro c T σ H G S x y dx dy d Q I rx ry e k
  unfold addL at e
  split at e
  · split at e
    · rename_i h
      cases e
      obtain ⟨a, vs, rfl, h1, r1⟩ := rx.sqL I
      obtain ⟨b, ws, rfl, h2, r2⟩ := ry.sqL I
      refine ⟨a, b, vs, ws, rfl, rfl, h1, h2, by rw [r1.length, r2.length]; exact lim_line h, fun p hp => ?_⟩
      have J := I.allocI hp (no_tbl_lst (xs := vs ++ ws))
      have gu := gle_upd (o := HO.lst (vs ++ ws)) (I.le.none hp)
      exact k _ _ _ gu J (rep_lst upd_same (RepL.app (r1.mono gu) (r2.mono gu)))
    · cases e
  · cases e
def addT : D → D → Option D
  | .tup (i :: is), .tup (j :: js) => if is.length + js.length + 2 ≤ LIM then some (.tup ((i :: is) ++ (j :: js))) else none
  | _, _ => none
theorem od_addT : OpD W (rCatT W.K) addT := by
  intro c T σ H G S x y dx dy d Q I rx ry e k
  unfold addT at e
  split at e
  · split at e
    · rename_i h
      cases e
      obtain ⟨a, vs, rfl, h1, r1⟩ := rx.sqT I
      obtain ⟨b, ws, rfl, h2, r2⟩ := ry.sqT I
      have e1 := r1.length
      have e2 := r2.length
      simp only [List.length_cons] at e1 e2
      refine ⟨a, b, vs, ws, rfl, rfl, h1, h2, fun z => by rw [z] at e1; simp at e1, by rw [e1, e2]; exact lim_line (by omega), fun z => by rw [z] at e2; simp at e2, fun _ p hp => ?_⟩
      have J := I.allocI hp (no_tbl_tup (xs := vs ++ ws))
      have gu := gle_upd (o := HO.tup (vs ++ ws)) (I.le.none hp)
      exact k _ _ _ gu J (rep_tup upd_same (RepL.app (r1.mono gu) (r2.mono gu)))
    · cases e
  · cases e
def addD (a b : D) : Option D := (addI a b).or ((addS a b).or ((addL a b).or (addT a b)))

/-! ### other operators on ints -/
def intOp (C : Int → Int → Bool) (g : Int → Int → Int) : D → D → Option D
  | .int i, .int j => if C i j = true then some (.int (g i j)) else none
  | _, _ => none
theorem od_int {C : Int → Int → Prop} {Cb : Int → Int → Bool} {g : Int → Int → Int} (hC : ∀ i j, Cb i j = true → C i j) : OpD W (rI C fun i j => .int (g i j)) (intOp Cb g) := by
  intro c T σ H G S x y dx dy d Q I rx ry e k
  unfold intOp at e
  split at e
  · split at e
    · rename_i h
      cases e
      rw [rep_int] at rx ry
      exact ⟨_, _, rx, ry, hC _ _ h, k _ H G GLe.rfl I (by simp)⟩
    · cases e
  · cases e
theorem od_int0 {g : Int → Int → Int} : OpD W (rI0 fun i j => .int (g i j)) (intOp (fun _ _ => true) g) := by
  intro c T σ H G S x y dx dy d Q I rx ry e k
  unfold intOp at e
  split at e
  · rw [if_pos rfl] at e
    cases e
    rw [rep_int] at rx ry
    exact ⟨_, _, rx, ry, k _ H G GLe.rfl I (by simp)⟩
  · cases e
def subD : D → D → Option D := intOp (fun _ _ => true) fun i j => i - j
/-- a factor below 2^64, or both together below a million bits -/
def mulB (i j : Int) : Bool := decide (j.natAbs < 2 ^ 64) || decide (i.natAbs < 2 ^ 64) || decide (i.natAbs.log2 + j.natAbs.log2 < 1000000)
theorem op_mulX {X : Cx} : OpR X (binaryOp .Mult) (rI (fun i j => CMul i j ∨ CMulW i j) fun i j => .int (i * j)) := by
  intro pins s σ H x y v u Q I rx ry hh
  obtain ⟨i, j, ei, ej, h, q⟩ := hh
  rcases h with h | h
  · exact op_mul pins s σ H x y v u Q I rx ry ⟨i, j, ei, ej, h, q⟩
  · exact op_mulW pins s σ H x y v u Q I rx ry ⟨i, j, ei, ej, h, q⟩
theorem mulB_ok (i j : Int) (h : mulB i j = true) : CMul i j ∨ CMulW i j := by
  unfold mulB at h
  rw [Bool.or_eq_true, Bool.or_eq_true] at h
  rcases h with (h | h) | h
  · have := of_decide_eq_true h
    exact .inl (.inr (by omega))
  · have := of_decide_eq_true h
    exact .inl (.inl (by omega))
  · exact .inr (show i.natAbs.log2 + j.natAbs.log2 < 1000000 from of_decide_eq_true h)
def mulI : D → D → Option D := intOp mulB fun i j => i * j
theorem od_mulI : OpD W (rI (fun i j => CMul i j ∨ CMulW i j) fun i j => .int (i * j)) mulI := od_int mulB_ok
def divB (_ j : Int) : Bool := decide (0 < j) && decide (j.natAbs.log2 < 9000)
def divD : D → D → Option D := intOp divB fun i j => i / j
theorem od_div : OpD W (rI CDivW fun i j => .int (i / j)) divD := od_int fun i j h => by
  unfold divB at h
  rw [Bool.and_eq_true] at h
  exact ⟨of_decide_eq_true h.1, of_decide_eq_true h.2⟩
def modD : D → D → Option D := intOp (fun _ j => decide (0 < j)) fun i j => i % j
theorem od_mod : OpD W (rI (fun _ j => 0 < j) fun i j => .int (i % j)) modD := od_int fun i j h => of_decide_eq_true h
def powB (i j : Int) : Bool := decide (0 ≤ j) && decide (j ≤ 1000000) && decide (i.natAbs < 2 ^ 64)
def powD : D → D → Option D := intOp powB fun i j => i ^ j.toNat
theorem od_pow : OpD W (rI CPow fun i j => .int (i ^ j.toNat)) powD := od_int fun i j h => by
  unfold powB at h
  rw [Bool.and_eq_true, Bool.and_eq_true] at h
  exact ⟨of_decide_eq_true h.1.1, of_decide_eq_true h.1.2, of_decide_eq_true h.2⟩
/-- a list that stands in the world, times an int -/
def rRepS (K : PySem.W.Frag) : R2 := fun x y H Q => ∃ l k xs, x = .ref l ∧ y = .int k ∧ H l = some (.lst xs) ∧ -(2 ^ 63) ≤ k ∧ k < 2 ^ 63 ∧ xs.length * k.toNat ≤ sizeLine ∧ ∀ p, H p = none → Q (.ref p) (upd H p (.lst (List.replicate k.toNat xs).flatten))
end Dy

set_option Elab.async false
set_option linter.all false
set_option maxRecDepth 100000
set_option maxHeartbeats 4000000
namespace Dy
open PySem PySem.Spec L2
variable {W : Wx} {c : Cn} {T : Tm} {σ : L2.St} {H G : Hp} {S : List LV} {E : L2.St → XK}

/-! ### == -/
def scV : D → Option V
  | .non => some .non | .bl b => some (.bl b) | .int i => some (.int i) | .str x => some (.str x)
  | _ => none
theorem scV_rep {d : D} {u v : V} (h : scV d = some u) (r : Rep W G d v) : v = u := by
  unfold scV at h
  split at h <;> first | (cases h; simpa using r) | cases h
def eqS (a b : D) : Option Bool := match scV a, scV b with
  | some x, some y => if scal x y = true then some (decide (x = y)) else none
  | _, _ => none
theorem od_eqS {neg : Bool} : OpD W (fun x y H Q => scal x y = true ∧ Q (.bl (if neg then !decide (x = y) else decide (x = y))) H) (fun a b => (eqS a b).map fun k => .bl (if neg then !k else k)) := by
  intro c T σ H G S x y dx dy d Q I rx ry e k
  replace e : (eqS dx dy).map (fun k => D.bl (if neg then !k else k)) = some d := e
  cases q : eqS dx dy with
  | none => rw [q] at e; cases e
  | some b =>
    rw [q] at e
    cases e
    unfold eqS at q
    split at q
    · rename_i u w h1 h2
      split at q
      · rename_i h
        cases q
        have e1 := scV_rep h1 rx
        have e2 := scV_rep h2 ry
        subst e1 e2
        exact ⟨h, k _ H G GLe.rfl I (by simp)⟩
      · cases q
    · cases q
mutual
/-- the library's data -/
def toP : D → PyData
  | .non => .none | .bl b => .bool b | .int i => .int i | .str x => .str x
  | .lst ds => .list (toPs ds) | .tup ds => .tuple (toPs ds)
  | .dct _ _ => .dict [] | .fn _ _ => .dict [] | .is _ _ => .dict [] | .exc _ _ _ => .dict [] | .scr _ => .dict []
def toPs : List D → List PyData
  | [] => [] | d :: ds => toP d :: toPs ds
end
mutual
def plain : D → Bool
  | .lst ds => plains ds | .tup ds => plains ds | .dct _ _ => false | .fn _ _ => false | .is _ _ => false | .exc _ _ _ => false | .scr _ => false
  | _ => true
def plains : List D → Bool
  | [] => true | d :: ds => plain d && plains ds
end
mutual
theorem dp_of (hl : Le G H) : ∀ {d : D} {v : V}, plain d = true → Rep W G d v → Dp W.K H v (toP d)
  | .non, _, _, r => by rw [rep_non] at r; subst r; exact .non
  | .bl b, _, _, r => by rw [rep_bl] at r; subst r; exact .bl b
  | .int i, _, _, r => by rw [rep_int] at r; subst r; exact .int i
  | .str x, _, _, r => by rw [rep_str] at r; subst r; exact .str x
  | .lst ds, _, p, r => by
    rw [Rep] at r
    obtain ⟨a, vs, rfl, h, q⟩ := r
    rw [toP]
    exact .lst (leL hl (SqL.of h)) (dps_of hl (by rw [plain] at p; exact p) q)
  | .tup ds, _, p, r => by
    rw [Rep] at r
    obtain ⟨a, vs, rfl, h, q⟩ := r
    rw [toP]
    exact .tup (leT hl h) (dps_of hl (by rw [plain] at p; exact p) q)
  | .dct _ _, _, p, _ => by rw [plain] at p; cases p
  | .fn _ _, _, p, _ => by rw [plain] at p; cases p
  | .is _ _, _, p, _ => by rw [plain] at p; cases p
  | .exc _ _ _, _, p, _ => by rw [plain] at p; cases p
  | .scr _, _, p, _ => by rw [plain] at p; cases p
theorem dps_of (hl : Le G H) : ∀ {ds : List D} {vs : List V}, plains ds = true → RepL W G ds vs → DpAll W.K H vs (toPs ds)
  | [], _, _, r => by rw [RepL] at r; subst r; rw [toPs]; exact .nil
  | d :: ds, _, p, r => by
    rw [RepL] at r
    obtain ⟨v, vs, rfl, h, q⟩ := r
    rw [plains, Bool.and_eq_true] at p
    rw [toPs]
    exact .cons (dp_of hl p.1 h) (dps_of hl p.2 q)
end
def okP (d : D) : Bool := plain d && SeqAt.shaped (toP d)
def eqP (a b : D) : Option Bool := if okP a = true ∧ okP b = true then some (PyData.eqv (toP a) (toP b)) else none
theorem od_eqP {neg : Bool} : OpD W (fun x y H Q => ∃ d e, Dp W.K H x d ∧ Dp W.K H y e ∧ SeqAt.shaped d = true ∧ SeqAt.shaped e = true ∧ Q (.bl (if neg then !PyData.eqv d e else PyData.eqv d e)) H) (fun a b => (eqP a b).map fun k => .bl (if neg then !k else k)) := by
  intro c T σ H G S x y dx dy d Q I rx ry e k
  replace e : (eqP dx dy).map (fun k => D.bl (if neg then !k else k)) = some d := e
  cases q : eqP dx dy with
  | none => rw [q] at e; cases e
  | some b =>
    rw [q] at e
    cases e
    unfold eqP at q
    split at q
    · rename_i h
      obtain ⟨h1, h2⟩ := h
      unfold okP at h1 h2
      rw [Bool.and_eq_true] at h1 h2
      cases q
      exact ⟨_, _, dp_of I.le h1.1 rx, dp_of I.le h2.1 ry, h1.2, h2.2, k _ H G GLe.rfl I (by simp)⟩
    · cases q
def eqD (a b : D) : Option Bool := (eqS a b).or (eqP a b)
def mEq (neg : Bool) : D → D → Option D := fun a b => ((eqS a b).map fun k => D.bl (if neg then !k else k)).or ((eqP a b).map fun k => .bl (if neg then !k else k))
abbrev rEqX (K : PySem.W.Frag) (neg : Bool) : R2 := fun x y H Q => (scal x y = true ∧ Q (.bl (if neg then !decide (x = y) else decide (x = y))) H) ∨ (∃ d e, Dp K H x d ∧ Dp K H y e ∧ SeqAt.shaped d = true ∧ SeqAt.shaped e = true ∧ Q (.bl (if neg then !PyData.eqv d e else PyData.eqv d e)) H)
theorem od_eq {neg : Bool} : OpD W (rEqX W.K neg) (mEq neg) := OpD.or od_eqS od_eqP
theorem op_eqX {X : Cx} (hu : X.A.units + 64 < cLine) : OpR X (compareOp .Eq) (rEqX X.K false) := OpR.or op_eq (op_eqD hu)
theorem op_neX {X : Cx} (hu : X.A.units + 64 < cLine) : OpR X (compareOp .NotEq) (rEqX X.K true) := OpR.or op_ne (op_neD hu)

/-! ### order of ints, is None, in -/
def cmpI (p : Int → Int → Bool) : D → D → Option D
  | .int i, .int j => some (.bl (p i j))
  | _, _ => none
theorem od_cmp {p : Int → Int → Bool} : OpD W (rI0 fun i j => .bl (p i j)) (cmpI p) := by
  intro c T σ H G S x y dx dy d Q I rx ry e k
  unfold cmpI at e
  split at e
  · cases e
    rw [rep_int] at rx ry
    exact ⟨_, _, rx, ry, k _ H G GLe.rfl I (by simp)⟩
  · cases e
def isNonB : D → Option Bool
  | .non => some true | .fn _ _ => none | .is _ _ => none | .exc _ _ _ => none | .scr _ => none | _ => some false
theorem isNon_ok {d : D} {v : V} {b : Bool} (h : isNonB d = some b) (r : Rep W G d v) : b = decide (v = .non) := by
  cases d with
  | non => rw [rep_non] at r; subst r; cases h; rfl
  | bl _ => rw [rep_bl] at r; subst r; cases h; rfl
  | int _ => rw [rep_int] at r; subst r; cases h; rfl
  | str _ => rw [rep_str] at r; subst r; cases h; rfl
  | lst _ => rw [Rep] at r; obtain ⟨a, _, rfl, _⟩ := r; cases h; rfl
  | tup _ => rw [Rep] at r; obtain ⟨a, _, rfl, _⟩ := r; cases h; rfl
  | dct _ _ => rw [Rep] at r; obtain ⟨a, _, rfl, _⟩ := r; cases h; rfl
  | fn _ _ => cases h
  | is _ _ => cases h
  | exc _ _ _ => cases h
  | scr _ => cases h
def isN (neg : Bool) (a b : D) : Option D := match b with
  | .non => (isNonB a).map fun k => .bl (if neg then !k else k)
  | _ => none
theorem od_isN {neg : Bool} : OpD W (fun x y H Q => y = .non ∧ Q (.bl (if neg then !decide (x = .non) else decide (x = .non))) H) (isN neg) := by
  intro c T σ H G S x y dx dy d Q I rx ry e k
  unfold isN at e
  split at e
  · cases q : isNonB dx with
    | none => rw [q] at e; cases e
    | some b =>
      rw [q] at e
      cases e
      rw [rep_non] at ry
      refine ⟨ry, ?_⟩
      rw [← isNon_ok q rx]
      exact k _ H G GLe.rfl I (by simp)
  · cases e
def eqF : V → D → Bool := fun x d => match scV d with
  | some y => eqV y x
  | none => false
def flats (ds : List D) : Bool := ds.all fun d => (scV d).isSome
theorem flats_ok : ∀ {ds : List D} {vs : List V}, flats ds = true → RepL W G ds vs → vs.all flatV = true ∧ ∀ x, inV x vs = ds.any (eqF x)
  | [], _, _, r => by rw [RepL] at r; subst r; exact ⟨rfl, fun _ => rfl⟩
  | d :: ds, _, f, r => by
    rw [RepL] at r
    obtain ⟨v, vs, rfl, h, q⟩ := r
    unfold flats at f
    rw [List.all_cons, Bool.and_eq_true] at f
    obtain ⟨f1, f2⟩ := f
    obtain ⟨i1, i2⟩ := flats_ok (ds := ds) f2 q
    cases e : scV d with
    | none => rw [e] at f1; cases f1
    | some y =>
      have ev := scV_rep e h
      subst ev
      refine ⟨?_, fun x => ?_⟩
      · rw [List.all_cons, i1, Bool.and_true]
        unfold scV at e
        split at e <;> first | (cases e; rfl) | cases e
      · unfold inV
        rw [List.any_cons, List.any_cons]
        have := i2 x
        unfold inV at this
        rw [this]
        unfold eqF
        rw [e]
def inD (neg : Bool) (a b : D) : Option D := match scV a, b with
  | some x, .lst ds => if flats ds = true then some (.bl (if neg then !ds.any (eqF x) else ds.any (eqF x))) else none
  | some x, .tup ds => if flats ds = true then some (.bl (if neg then !ds.any (eqF x) else ds.any (eqF x))) else none
  | _, _ => none
theorem flat_sc {d : D} {x : V} (h : scV d = some x) : flatV x = true := by
  unfold scV at h
  split at h <;> first | (cases h; rfl) | cases h
theorem od_in {neg : Bool} : OpD W (rIn W.K neg) (inD neg) := by
  intro c T σ H G S x y dx dy d Q I rx ry e k
  unfold inD at e
  split at e
  · rename_i u ds hx
    split at e
    · rename_i f
      cases e
      have ex := scV_rep hx rx
      subst ex
      obtain ⟨a, vs, rfl, h1, r1⟩ := ry.sqL I
      obtain ⟨g1, g2⟩ := flats_ok f r1
      refine ⟨a, vs, rfl, .inl h1, flat_sc hx, g1, ?_⟩
      rw [g2]
      exact k _ H G GLe.rfl I (by simp)
    · cases e
  · rename_i u ds hx
    split at e
    · rename_i f
      cases e
      have ex := scV_rep hx rx
      subst ex
      obtain ⟨a, vs, rfl, h1, r1⟩ := ry.sqT I
      obtain ⟨g1, g2⟩ := flats_ok f r1
      refine ⟨a, vs, rfl, .inr h1, flat_sc hx, g1, ?_⟩
      rw [g2]
      exact k _ H G GLe.rfl I (by simp)
    · cases e
  · cases e
/-- one sign in a text -/
def inStr (neg : Bool) (a b : D) : Option D := match a, b with
  | .str x, .str y => match x.cps.toList with
    | [ch] => some (.bl (if neg then !decide (ch ∈ y.cps.toList) else decide (ch ∈ y.cps.toList)))
    | _ => none
  | _, _ => none
theorem od_inStr {neg : Bool} : OpD W (fun x y H Q => ∃ (ch : Nat) (z : Str), x = .str ⟨#[ch]⟩ ∧ y = .str z ∧ Q (.bl (if neg then !decide (ch ∈ z.cps.toList) else decide (ch ∈ z.cps.toList))) H) (inStr neg) := by
  intro c T σ H G S x y dx dy d Q I rx ry e k
  unfold inStr at e
  split at e
  · rename_i x0 y0
    split at e
    · rename_i ch hc
      cases e
      rw [rep_str] at rx ry
      have ex : x0 = ⟨#[ch]⟩ := by
        obtain ⟨cps⟩ := x0
        have : cps = #[ch] := by
          apply Array.toList_inj.mp
          simpa using hc
        rw [this]
      subst ex
      exact ⟨ch, _, rx, ry, k _ H G GLe.rfl I (by simp)⟩
    · cases e
  · cases e

/-! ### chains -/
def mChain (f f' : D → D → Option D) (ma mb mc : ME) : ME := fun S => (ma S).bind fun x S1 => (mb S1).bind fun y S2 => match f x.1 y.1 with
  | some (.bl true) => (mc S2).bind fun z S3 => Res.of ((f' y.1 z.1).map fun d => (d, none)) S3
  | some (.bl false) => .ok (.bl false, none) S2
  | _ => .stuck
theorem er_chain {r r' : R2} {f f' : D → D → Option D} {ta tb tc : TE} {ma mb mc : ME} (hr : OpD W r f) (hr' : OpD W r' f') (ha : ER W E ta ma) (hb : ER W E tb mb) (hc : ER W E tc mc) : ER W E (tChain r r' ta tb tc) (mChain f f' ma mb mc) := fun c T σ H G S Q I hq => by
  refine ha c T σ H G S _ I (hq.bind fun x S1 _ h1 v H1 G1 g1 I1 r1 t1 => ?_)
  refine hb c T σ H1 G1 S1 _ I1 ((h1.mono mE g1).bind fun y S2 _ h2 u H2 G2 g2 I2 r2 t2 => ?_)
  have h3 := h2.mono mE g2
  cases e : f x.1 y.1 with
  | none => rw [e] at h3; exact (h3 : False).elim
  | some d =>
    rw [e] at h3
    refine hr c T σ H2 G2 S2 v u x.1 y.1 d _ I2 (r1.mono g2) r2 e fun w H' G' g I' r' => ?_
    cases d with
    | bl b =>
      rw [rep_bl] at r'
      subst r'
      refine ⟨b, rfl, ?_⟩
      cases b with
      | true =>
        show tc σ H' _
        refine hc c T σ H' G' S2 _ I' ((h3.mono mE g).bind fun z S3 _ h4 w3 H3 G3 g3 I3 r3 t3 => ?_)
        cases e' : f' y.1 z.1 with
        | none => rw [e'] at h4; exact (h4 : False).elim
        | some d' =>
          rw [e'] at h4
          exact hr' c T σ H3 G3 S3 u w3 y.1 z.1 d' Q I3 ((r2.mono g).mono g3) r3 e' fun w4 H4 G4 g4 I4 r4 => h4 w4 H4 G4 (g3.trans g4) I4 r4 tok_none
      | false =>
        show Q (.bl false) H'
        exact h3 _ H' G' g I' (by simp) tok_none
    | _ => exact (h3 : False).elim

/-! ### tests -/
def asB (x : EV) (S : List LV) : Res Bool := match x.1 with
  | .bl b => .ok b S
  | _ => .stuck
def mTst (m : ME) : MT := fun S => (m S).bind asB
theorem tr_tst {te : TE} {m : ME} (h : ER W E te m) : TR W E (tTest te) (mTst m) := fun c T σ H G S Q I hq => by
  refine h c T σ H G S _ I (hq.bind fun x S1 _ h1 v H1 G1 g1 I1 r1 t1 => ?_)
  obtain ⟨d, t⟩ := x
  cases d with
  | bl b =>
    rw [rep_bl] at r1
    exact ⟨b, r1, h1 H1 G1 g1 I1⟩
  | _ => exact (h1 : False).elim
theorem tr_B {te : TE} {m : ME} (h : ER W E te m) : TR W E (tB te) (mTst m) := tr_tst h
def mAndT (ma mb : MT) : MT := fun S => (ma S).bind fun b S1 => if b = true then mb S1 else .ok false S1
def mOrT (ma mb : MT) : MT := fun S => (ma S).bind fun b S1 => if b = true then .ok true S1 else mb S1
def mNotT (ma : MT) : MT := fun S => (ma S).bind fun b S1 => .ok (!b) S1
theorem tr_and {t u : TT} {ma mb : MT} (ha : TR W E t ma) (hb : TR W E u mb) : TR W E (tAnd t u) (mAndT ma mb) := fun c T σ H G S Q I hq => by
  refine ha c T σ H G S _ I (hq.bind fun b S1 _ h1 H1 G1 g1 I1 => ?_)
  have h2 := h1.mono mT g1
  cases b with
  | true => exact hb c T σ H1 G1 S1 Q I1 h2
  | false => exact h2 H1 G1 GLe.rfl I1
theorem tr_or {t u : TT} {ma mb : MT} (ha : TR W E t ma) (hb : TR W E u mb) : TR W E (tOr t u) (mOrT ma mb) := fun c T σ H G S Q I hq => by
  refine ha c T σ H G S _ I (hq.bind fun b S1 _ h1 H1 G1 g1 I1 => ?_)
  have h2 := h1.mono mT g1
  cases b with
  | true => exact h2 H1 G1 GLe.rfl I1
  | false => exact hb c T σ H1 G1 S1 Q I1 h2
theorem tr_not {t : TT} {ma : MT} (ha : TR W E t ma) : TR W E (tNot t) (mNotT ma) := fun c T σ H G S Q I hq =>
  ha c T σ H G S _ I (hq.bind fun b S1 _ h1 H1 G1 g1 I1 => h1 H1 G1 g1 I1)
/-- truth of data -/
def truD : D → Option Bool
  | .non => some false | .bl b => some b | .int i => some (i != 0)
  | .str x => if x.length ≤ LIM then some ((x.length : Int) != 0) else none
  | .lst ds => some !ds.isEmpty | .tup ds => some !ds.isEmpty
  | _ => none
theorem isEmpty_len {α β : Type} {l : List α} {m : List β} (h : l.length = m.length) : l.isEmpty = m.isEmpty := by
  cases l <;> cases m <;> simp_all
theorem truD_ok (I : StOk W c T σ H G S) {d : D} {v : V} {b : Bool} (h : truD d = some b) (r : Rep W G d v) : TruV W.K v H b := by
  unfold truD at h
  split at h
  · rw [rep_non] at r; subst r; cases h; rfl
  · rw [rep_bl] at r; subst r; cases h; rfl
  · rw [rep_int] at r; subst r; cases h; rfl
  · rw [rep_str] at r; subst r
    split at h
    · rename_i q; cases h; exact ⟨lim_line q, rfl⟩
    · cases h
  · obtain ⟨a, vs, rfl, h1, r1⟩ := r.sqL I
    cases h
    exact .inl ⟨vs, h1, by rw [isEmpty_len r1.length]⟩
  · obtain ⟨a, vs, rfl, h1, r1⟩ := r.sqT I
    cases h
    exact .inr (.inl ⟨vs, h1, by rw [isEmpty_len r1.length]⟩)
  · cases h
def mTru (m : ME) : MT := fun S => (m S).bind fun x S1 => Res.of (truD x.1) S1
theorem tr_tru {te : TE} {m : ME} (h : ER W E te m) : TR W E (fun σ H Q => te σ H fun x H' => ∃ k, TruV W.K x H' k ∧ Q k H') (mTru m) := fun c T σ H G S Q I hq => by
  refine h c T σ H G S _ I (hq.bind fun x S1 _ h1 v H1 G1 g1 I1 r1 t1 => ?_)
  cases e : truD x.1 with
  | none => rw [e] at h1; exact (h1 : False).elim
  | some b =>
    rw [e] at h1
    exact ⟨b, truD_ok I1 e r1, h1 H1 G1 g1 I1⟩
/-- truth of an own list, dict: it stays own -/
def mTruO (i : Nat) : MT := fun S => match S[i]? with
  | some (.ow ds _) => .ok (!ds.isEmpty) S
  | some (.od ks _ _) => .ok (!ks.isEmpty) S
  | _ => mTru (mVar i) S
theorem tr_truO {i : Nat} : TR W E (fun σ H Q => tVar i σ H fun x H' => ∃ k, TruV W.K x H' k ∧ Q k H') (mTruO i) := fun c T σ H G S Q I hq => by
  unfold mTruO at hq
  split at hq
  · rename_i ds p e
    obtain ⟨a, vs, e1, e2, e3, r, _⟩ := I.ow _ _ _ e
    exact ⟨_, e1, _, .inl ⟨vs, SqL.of e2, rfl⟩, by rw [isEmpty_len r.length]; exact hq H G GLe.rfl I⟩
  · rename_i ks ds p e
    obtain ⟨a, kvs, e1, e2, e3, kk, r, _⟩ := I.od _ _ _ _ e
    refine ⟨_, e1, _, .inr (.inr ⟨kvs, e2, rfl⟩), ?_⟩
    have : kvs.isEmpty = ks.isEmpty := isEmpty_len (by rw [← kk, List.length_map])
    rw [this]
    exact hq H G GLe.rfl I
  · exact tr_tru er_var c T σ H G S Q I hq

/-! ### and, or, not as values; a if t else b -/
def mAndV (ma mb : ME) : ME := fun S => (ma S).bind fun x S1 => match x.1 with
  | .bl true => mb S1
  | .bl false => .ok (.bl false, none) S1
  | _ => .stuck
def mOrV (ma mb : ME) : ME := fun S => (ma S).bind fun x S1 => match x.1 with
  | .bl false => mb S1
  | .bl true => .ok (.bl true, none) S1
  | _ => .stuck
theorem er_andV {ta tb : TE} {ma mb : ME} (ha : ER W E ta ma) (hb : ER W E tb mb) : ER W E (tAndV ta tb) (mAndV ma mb) := fun c T σ H G S Q I hq => by
  refine ha c T σ H G S _ I (hq.bind fun x S1 _ h1 v H1 G1 g1 I1 r1 t1 => ?_)
  have h2 := h1.mono mE g1
  obtain ⟨d, t⟩ := x
  cases d with
  | bl b =>
    rw [rep_bl] at r1
    refine ⟨b, r1, ?_⟩
    cases b with
    | true => exact hb c T σ H1 G1 S1 Q I1 h2
    | false => exact h2 _ H1 G1 GLe.rfl I1 (by simp) tok_none
  | _ => exact (h2 : False).elim
theorem er_orV {ta tb : TE} {ma mb : ME} (ha : ER W E ta ma) (hb : ER W E tb mb) : ER W E (tOrV ta tb) (mOrV ma mb) := fun c T σ H G S Q I hq => by
  refine ha c T σ H G S _ I (hq.bind fun x S1 _ h1 v H1 G1 g1 I1 r1 t1 => ?_)
  have h2 := h1.mono mE g1
  obtain ⟨d, t⟩ := x
  cases d with
  | bl b =>
    rw [rep_bl] at r1
    refine ⟨b, r1, ?_⟩
    cases b with
    | true => exact h2 _ H1 G1 GLe.rfl I1 (by simp) tok_none
    | false => exact hb c T σ H1 G1 S1 Q I1 h2
  | _ => exact (h2 : False).elim
def mNotV (ma : ME) : ME := fun S => (ma S).bind fun x S1 => match x.1 with
  | .bl b => .ok (.bl (!b), none) S1
  | _ => .stuck
theorem er_notV {ta : TE} {ma : ME} (ha : ER W E ta ma) : ER W E (tNotV ta) (mNotV ma) := fun c T σ H G S Q I hq => by
  refine ha c T σ H G S _ I (hq.bind fun x S1 _ h1 v H1 G1 g1 I1 r1 t1 => ?_)
  have h2 := h1.mono mE g1
  obtain ⟨d, t⟩ := x
  cases d with
  | bl b =>
    rw [rep_bl] at r1
    exact ⟨b, r1, h2 _ H1 G1 GLe.rfl I1 (by simp) tok_none⟩
  | _ => exact (h2 : False).elim
def mNeg (ma : ME) : ME := fun S => (ma S).bind fun x S1 => match x.1 with
  | .int i => .ok (.int (-i), none) S1
  | _ => .stuck
theorem er_neg {ta : TE} {ma : ME} (ha : ER W E ta ma) : ER W E (tUn (rU fun i => .int (-i)) ta) (mNeg ma) := fun c T σ H G S Q I hq => by
  refine ha c T σ H G S _ I (hq.bind fun x S1 _ h1 v H1 G1 g1 I1 r1 t1 => ?_)
  have h2 := h1.mono mE g1
  obtain ⟨d, t⟩ := x
  cases d with
  | int b =>
    rw [rep_int] at r1
    exact ⟨b, r1, h2 _ H1 G1 GLe.rfl I1 (by simp) tok_none⟩
  | _ => exact (h2 : False).elim
def mIf {α : Type} (mt : MT) (ma mb : List LV → Res α) : List LV → Res α := fun S => (mt S).bind fun b S1 => if b = true then ma S1 else mb S1
theorem er_if {t : TT} {ta tb : TE} {mt : MT} {ma mb : ME} (ht : TR W E t mt) (ha : ER W E ta ma) (hb : ER W E tb mb) : ER W E (tIf t ta tb) (mIf mt ma mb) := fun c T σ H G S Q I hq => by
  refine ht c T σ H G S _ I (hq.bind fun b S1 _ h1 H1 G1 g1 I1 => ?_)
  have h2 := h1.mono mE g1
  cases b with
  | true => exact ha c T σ H1 G1 S1 Q I1 h2
  | false => exact hb c T σ H1 G1 S1 Q I1 h2
theorem ef_if {t : TT} {ta tb : TE} {mt : MT} {ma mb : MF} (ht : TR W E t mt) (ha : EF W E ta ma) (hb : EF W E tb mb) : EF W E (tIf t ta tb) (mIf mt ma mb) := fun c T σ H G S Q I hq => by
  refine ht c T σ H G S _ I (hq.bind fun b S1 _ h1 H1 G1 g1 I1 => ?_)
  have h2 := h1.mono mF g1
  cases b with
  | true => exact ha c T σ H1 G1 S1 Q I1 h2
  | false => exact hb c T σ H1 G1 S1 Q I1 h2
end Dy

set_option Elab.async false
set_option linter.all false
set_option maxRecDepth 100000
set_option maxHeartbeats 4000000
namespace Dy
open PySem PySem.Spec L2
variable {W : Wx} {c : Cn} {T : Tm} {σ : L2.St} {H G : Hp} {S : List LV} {E : L2.St → XK}

/-! ### argument lists of data -/
def kI (W : Wx) (c : Cn) (T : Tm) (σ : L2.St) (Q : List V → Hp → Prop) : Hp → List D → List LV → Prop := fun G ds S =>
  ∀ vs H' G', GLe G G' → StOk W c T σ H' G' S → RepL W G' ds vs → Q vs H'
theorem mI {Q : List V → Hp → Prop} : Mono (kI W c T σ Q) := fun _ _ _ _ g h vs H' G' g' => h vs H' G' (g.trans g')
def AI (W : Wx) (E : L2.St → XK) (ta : TA) (m : MF) : Prop := ∀ c T σ H G S (Q : List V → Hp → Prop), StOk W c T σ H G S → PR W c T (E σ) σ (kI W c T σ Q) G (m S) → ta σ H Q
def mNil : MF := fun S => .ok [] S
def mCons (me : ME) (mr : MF) : MF := fun S => (me S).bind fun x S1 => (mr S1).bind fun r S2 => .ok (x.1 :: r) S2
theorem ai_nil : AI W E tNil mNil := fun c T σ H G S Q I hq => hq [] H G GLe.rfl I RepL.nil
theorem ai_cons {te : TE} {ta : TA} {me : ME} {mr : MF} (he : ER W E te me) (hr : AI W E ta mr) : AI W E (tCons te ta) (mCons me mr) := fun c T σ H G S Q I hq => by
  refine he c T σ H G S _ I (hq.bind fun x S1 _ h1 v H1 G1 g1 I1 r1 t1 => ?_)
  refine hr c T σ H1 G1 S1 _ I1 ((h1.mono mI g1).bind fun ds S2 _ h2 vs H2 G2 g2 I2 r2 => ?_)
  exact h2 _ H2 G2 g2 I2 (RepL.cons (r1.mono g2) r2)
/-- a written tuple -/
def mTup (m : MF) : ME := fun S => (m S).bind fun ds S1 => if ds.length ≤ LIM then .ok (.tup ds, none) S1 else .stuck
theorem er_tup {ta : TA} {m : MF} (h : AI W E ta m) : ER W E (tTup ta) (mTup m) := fun c T σ H G S Q I hq => by
  refine h c T σ H G S _ I (hq.bind fun ds S1 _ h1 vs H1 G1 g1 I1 r1 => ?_)
  split at h1
  · rename_i hz
    refine ⟨by rw [r1.length]; exact lim_line hz, fun p hp => ?_⟩
    have J := I1.allocI hp (no_tbl_tup (xs := vs))
    have gu := gle_upd (o := HO.tup vs) (I1.le.none hp)
    exact h1 _ _ _ (g1.trans gu) J (rep_tup upd_same (r1.mono gu)) tok_none
  · exact (h1 : False).elim
/-- a written list: fresh -/
def mLst (m : MF) : MF := fun S => (m S).bind fun ds S1 => if ds.length ≤ LIM then .ok ds S1 else .stuck
theorem ef_lst {ta : TA} {m : MF} (h : AI W E ta m) : EF W E (tLst ta) (mLst m) := fun c T σ H G S Q I hq => by
  refine h c T σ H G S _ I (hq.bind fun ds S1 _ h1 vs H1 G1 g1 I1 r1 => ?_)
  split at h1
  · rename_i hz
    refine ⟨by rw [r1.length]; exact lim_line hz, fun p hp => ?_⟩
    have J := I1.alloc hp (no_tbl_lst (xs := vs))
    exact h1 p vs _ _ g1 J r1
  · exact (h1 : False).elim

/-! ### calls of built-ins -/
def CallD (W : Wx) (r : List V → Hp → VK → Prop) (f : List D → Option D) : Prop :=
  ∀ c T σ H G S vs ds d (Q : VK), StOk W c T σ H G S → RepL W G ds vs → f ds = some d → (∀ v H' G', GLe G G' → StOk W c T σ H' G' S → Rep W G' d v → Q v H') → r vs H Q
def CallF (W : Wx) (r : List V → Hp → VK → Prop) (f : List D → Option (List D)) : Prop :=
  ∀ c T σ H G S vs ds es (Q : VK), StOk W c T σ H G S → RepL W G ds vs → f ds = some es → (∀ a ws H' G', GLe G G' → StOk W c ((a, .lst ws) :: T) σ H' G' S → RepL W G' es ws → Q (.ref a) H') → r vs H Q
def mCall (f : List D → Option D) (m : MF) : ME := fun S => (m S).bind fun ds S1 => Res.of ((f ds).map fun d => (d, none)) S1
def mCallF (f : List D → Option (List D)) (m : MF) : MF := fun S => (m S).bind fun ds S1 => Res.of (f ds) S1
theorem er_call {r : List V → Hp → VK → Prop} {f : List D → Option D} {ta : TA} {m : MF} (hf : CallD W r f) (h : AI W E ta m) : ER W E (tCB r ta) (mCall f m) := fun c T σ H G S Q I hq => by
  refine h c T σ H G S _ I (hq.bind fun ds S1 _ h1 vs H1 G1 g1 I1 r1 => ?_)
  cases e : f ds with
  | none => rw [e] at h1; exact (h1 : False).elim
  | some d =>
    rw [e] at h1
    exact hf c T σ H1 G1 S1 vs ds d Q I1 r1 e fun v H' G' g I' r' => h1 v H' G' (g1.trans g) I' r' tok_none
theorem ef_call {r : List V → Hp → VK → Prop} {f : List D → Option (List D)} {ta : TA} {m : MF} (hf : CallF W r f) (h : AI W E ta m) : EF W E (tCB r ta) (mCallF f m) := fun c T σ H G S Q I hq => by
  refine h c T σ H G S _ I (hq.bind fun ds S1 _ h1 vs H1 G1 g1 I1 r1 => ?_)
  cases e : f ds with
  | none => rw [e] at h1; exact (h1 : False).elim
  | some d =>
    rw [e] at h1
    exact hf c T σ H1 G1 S1 vs ds d Q I1 r1 e fun a ws H' G' g I' r' => h1 a ws H' G' (g1.trans g) I' r'
theorem repL1 {d : D} {vs : List V} (h : RepL W G [d] vs) : ∃ v, vs = [v] ∧ Rep W G d v := by
  rw [RepL] at h
  obtain ⟨v, r, rfl, h1, h2⟩ := h
  rw [RepL] at h2
  exact ⟨v, by rw [h2], h1⟩
theorem repL2 {d e : D} {vs : List V} (h : RepL W G [d, e] vs) : ∃ v u, vs = [v, u] ∧ Rep W G d v ∧ Rep W G e u := by
  rw [RepL] at h
  obtain ⟨v, r, rfl, h1, h2⟩ := h
  obtain ⟨u, rfl, h3⟩ := repL1 h2
  exact ⟨v, u, rfl, h1, h3⟩
def lenD : List D → Option D
  | [.str x] => if x.length ≤ LIM then some (.int x.length) else none
  | [.lst ds] => some (.int ds.length)
  | [.tup ds] => some (.int ds.length)
  | [.scr ns] => some (.int ns.length)
  | _ => none
theorem cd_len : CallD W (fun xs H Q => ∃ x n, xs = [x] ∧ LenV W.K x H n ∧ Q (.int n) H) lenD := by
  intro c T σ H G S vs ds d Q I r e k
  unfold lenD at e
  split at e
  · split at e
    · rename_i x hx
      cases e
      obtain ⟨v, rfl, r1⟩ := repL1 r
      rw [rep_str] at r1; subst r1
      exact ⟨_, _, rfl, ⟨lim_line hx, rfl⟩, k _ H G GLe.rfl I (by simp)⟩
    · cases e
  · rename_i xs
    cases e
    obtain ⟨v, rfl, r1⟩ := repL1 r
    obtain ⟨a, vs, rfl, h1, r2⟩ := r1.sqL I
    exact ⟨_, xs.length, rfl, .inl ⟨vs, h1, r2.length.symm⟩, k _ H G GLe.rfl I (by simp)⟩
  · rename_i xs
    cases e
    obtain ⟨v, rfl, r1⟩ := repL1 r
    obtain ⟨a, vs, rfl, h1, r2⟩ := r1.sqT I
    exact ⟨_, xs.length, rfl, .inr ⟨vs, h1, r2.length.symm⟩, k _ H G GLe.rfl I (by simp)⟩
  · rename_i ns
    cases e
    obtain ⟨v, rfl, r1⟩ := repL1 r
    rw [Rep] at r1
    obtain ⟨a, rfl, h1⟩ := r1
    exact ⟨_, ns.length, rfl, .inl ⟨_, leL I.le h1, by rw [List.length_map]⟩, k _ H G GLe.rfl I (by simp)⟩
  · cases e
/-- len of an own list: it stays own -/
def mLenO (i : Nat) : ME := fun S => match S[i]? with
  | some (.ow ds _) => .ok (.int ds.length, none) S
  | _ => mCall lenD (mCons (mVar i) mNil) S
theorem er_lenO {i : Nat} : ER W E (tCB (fun xs H Q => ∃ x n, xs = [x] ∧ LenV W.K x H n ∧ Q (.int n) H) (tCons (tVar i) tNil)) (mLenO i) := fun c T σ H G S Q I hq => by
  unfold mLenO at hq
  split at hq
  · rename_i ds p e
    obtain ⟨a, vs, e1, e2, e3, r, _⟩ := I.ow _ _ _ e
    exact ⟨_, e1, _, ds.length, rfl, .inl ⟨vs, SqL.of e2, r.length.symm⟩, hq _ H G GLe.rfl I (by simp) tok_none⟩
  · exact er_call cd_len (ai_cons er_var ai_nil) c T σ H G S Q I hq
def listD : List D → Option (List D)
  | [.lst ds] => some ds
  | [.tup ds] => some ds
  | _ => none
theorem cf_list : CallF W (fun xs H Q => ∃ p ys, xs = [.ref p] ∧ (SqL W.K H p ys ∨ SqT W.K H p ys) ∧ ∀ l, H l = none → Q (.ref l) (upd H l (.lst ys))) listD := by
  intro c T σ H G S vs ds d Q I r e k
  unfold listD at e
  split at e
  · cases e
    obtain ⟨v, rfl, r1⟩ := repL1 r
    obtain ⟨a, vs, rfl, h1, r2⟩ := r1.sqL I
    exact ⟨a, vs, rfl, .inl h1, fun l hl => k l vs _ _ GLe.rfl (I.alloc hl no_tbl_lst) r2⟩
  · cases e
    obtain ⟨v, rfl, r1⟩ := repL1 r
    obtain ⟨a, vs, rfl, h1, r2⟩ := r1.sqT I
    exact ⟨a, vs, rfl, .inr h1, fun l hl => k l vs _ _ GLe.rfl (I.alloc hl no_tbl_lst) r2⟩
  · cases e
def tupleD : List D → Option D
  | [.lst ds] => some (.tup ds)
  | [.tup ds] => some (.tup ds)
  | _ => none
theorem cd_tuple : CallD W (fun xs H Q => ∃ p ys, xs = [.ref p] ∧ ((SqL W.K H p ys ∧ ∀ l, H l = none → Q (.ref l) (upd H l (.tup ys))) ∨ (SqT W.K H p ys ∧ Q (.ref p) H))) tupleD := by
  intro c T σ H G S vs ds d Q I r e k
  unfold tupleD at e
  split at e
  · cases e
    obtain ⟨v, rfl, r1⟩ := repL1 r
    obtain ⟨a, vs, rfl, h1, r2⟩ := r1.sqL I
    refine ⟨a, vs, rfl, .inl ⟨h1, fun l hl => ?_⟩⟩
    have gu := gle_upd (o := HO.tup vs) (I.le.none hl)
    exact k _ _ _ gu (I.allocI hl no_tbl_tup) (rep_tup upd_same (r2.mono gu))
  · cases e
    obtain ⟨v, rfl, r1⟩ := repL1 r
    obtain ⟨a, vs, rfl, h1, r2⟩ := id (r1.sqT I)
    exact ⟨a, vs, rfl, .inr ⟨h1, k _ H G GLe.rfl I r1⟩⟩
  · cases e
def intD : List D → Option D
  | [.int i] => some (.int i)
  | [.bl b] => some (.int (if b then 1 else 0))
  | _ => none
theorem cd_int : CallD W (fun xs H Q => (∃ i, xs = [.int i] ∧ Q (.int i) H) ∨ ∃ k, xs = [.bl k] ∧ Q (.int (if k then 1 else 0)) H) intD := by
  intro c T σ H G S vs ds d Q I r e k
  unfold intD at e
  split at e
  · cases e
    obtain ⟨v, rfl, r1⟩ := repL1 r
    rw [rep_int] at r1; subst r1
    exact .inl ⟨_, rfl, k _ H G GLe.rfl I (by simp)⟩
  · cases e
    obtain ⟨v, rfl, r1⟩ := repL1 r
    rw [rep_bl] at r1; subst r1
    exact .inr ⟨_, rfl, k _ H G GLe.rfl I (by simp)⟩
  · cases e
def absD : List D → Option D
  | [.int i] => some (.int (if i < 0 then -i else i))
  | _ => none
theorem cd_abs : CallD W (fun xs H Q => ∃ i, xs = [.int i] ∧ Q (.int (if i < 0 then -i else i)) H) absD := by
  intro c T σ H G S vs ds d Q I r e k
  unfold absD at e
  split at e
  · cases e
    obtain ⟨v, rfl, r1⟩ := repL1 r
    rw [rep_int] at r1; subst r1
    exact ⟨_, rfl, k _ H G GLe.rfl I (by simp)⟩
  · cases e
def max2D : List D → Option D
  | [.int i, .int j] => some (.int (if j > i then j else i))
  | _ => none
def min2D : List D → Option D
  | [.int i, .int j] => some (.int (if j < i then j else i))
  | _ => none
theorem cd_max2 : CallD W (fun xs H Q => ∃ i j, xs = [.int i, .int j] ∧ Q (.int (if j > i then j else i)) H) max2D := by
  intro c T σ H G S vs ds d Q I r e k
  unfold max2D at e
  split at e
  · cases e
    obtain ⟨v, u, rfl, r1, r2⟩ := repL2 r
    rw [rep_int] at r1 r2; subst r1 r2
    exact ⟨_, _, rfl, k _ H G GLe.rfl I (by simp)⟩
  · cases e
theorem cd_min2 : CallD W (fun xs H Q => ∃ i j, xs = [.int i, .int j] ∧ Q (.int (if j < i then j else i)) H) min2D := by
  intro c T σ H G S vs ds d Q I r e k
  unfold min2D at e
  split at e
  · cases e
    obtain ⟨v, u, rfl, r1, r2⟩ := repL2 r
    rw [rep_int] at r1 r2; subst r1 r2
    exact ⟨_, _, rfl, k _ H G GLe.rfl I (by simp)⟩
  · cases e
/-- ints, truths of a list -/
def intsOf : List D → Option (List Int)
  | [] => some []
  | .int i :: r => (intsOf r).map (i :: ·)
  | _ :: _ => none
def blsOf : List D → Option (List Bool)
  | [] => some []
  | .bl i :: r => (blsOf r).map (i :: ·)
  | _ :: _ => none
theorem intsOf_rep : ∀ {ds : List D} {vs : List V} {ns : List Int}, intsOf ds = some ns → RepL W G ds vs → vs = ns.map V.int
  | [], _, _, e, r => by rw [RepL] at r; subst r; cases e; rfl
  | .int i :: ds, _, ns, e, r => by
    rw [RepL] at r
    obtain ⟨v, vs, rfl, h, q⟩ := r
    rw [rep_int] at h; subst h
    rw [intsOf] at e
    cases z : intsOf ds with
    | none => rw [z] at e; cases e
    | some ms =>
      rw [z] at e; cases e
      rw [intsOf_rep z q]; rfl
  | .non :: ds, _, ns, e, r => by cases e
  | .bl _ :: ds, _, ns, e, r => by cases e
  | .str _ :: ds, _, ns, e, r => by cases e
  | .lst _ :: ds, _, ns, e, r => by cases e
  | .tup _ :: ds, _, ns, e, r => by cases e
  | .dct _ _ :: ds, _, ns, e, r => by cases e
  | .fn _ _ :: ds, _, ns, e, r => by cases e
  | .is _ _ :: ds, _, ns, e, r => by cases e
  | .exc _ _ _ :: ds, _, ns, e, r => by cases e
  | .scr _ :: ds, _, ns, e, r => by cases e
theorem blsOf_rep : ∀ {ds : List D} {vs : List V} {ns : List Bool}, blsOf ds = some ns → RepL W G ds vs → vs = ns.map V.bl
  | [], _, _, e, r => by rw [RepL] at r; subst r; cases e; rfl
  | .bl i :: ds, _, ns, e, r => by
    rw [RepL] at r
    obtain ⟨v, vs, rfl, h, q⟩ := r
    rw [rep_bl] at h; subst h
    rw [blsOf] at e
    cases z : blsOf ds with
    | none => rw [z] at e; cases e
    | some ms =>
      rw [z] at e; cases e
      rw [blsOf_rep z q]; rfl
  | .non :: ds, _, ns, e, r => by cases e
  | .int _ :: ds, _, ns, e, r => by cases e
  | .str _ :: ds, _, ns, e, r => by cases e
  | .lst _ :: ds, _, ns, e, r => by cases e
  | .tup _ :: ds, _, ns, e, r => by cases e
  | .dct _ _ :: ds, _, ns, e, r => by cases e
  | .fn _ _ :: ds, _, ns, e, r => by cases e
  | .is _ _ :: ds, _, ns, e, r => by cases e
  | .exc _ _ _ :: ds, _, ns, e, r => by cases e
  | .scr _ :: ds, _, ns, e, r => by cases e
def sumD : List D → Option D
  | [.lst ds] => (intsOf ds).map fun ns => .int ns.sum
  | _ => none
theorem cd_sum : CallD W (rSum W.K) sumD := by
  intro c T σ H G S vs ds d Q I r e k
  unfold sumD at e
  split at e
  · rename_i xs
    cases z : intsOf xs with
    | none => rw [z] at e; cases e
    | some ns =>
      rw [z] at e; cases e
      obtain ⟨v, rfl, r1⟩ := repL1 r
      obtain ⟨a, vs, rfl, h1, r2⟩ := r1.sqL I
      rw [intsOf_rep z r2] at h1
      exact ⟨a, ns, rfl, h1, k _ H G GLe.rfl I (by simp)⟩
  · cases e
def allD : List D → Option D
  | [.lst ds] => (blsOf ds).map fun bs => .bl (bs.all id)
  | _ => none
theorem cd_all : CallD W (rAll W.K) allD := by
  intro c T σ H G S vs ds d Q I r e k
  unfold allD at e
  split at e
  · rename_i xs
    cases z : blsOf xs with
    | none => rw [z] at e; cases e
    | some ns =>
      rw [z] at e; cases e
      obtain ⟨v, rfl, r1⟩ := repL1 r
      obtain ⟨a, vs, rfl, h1, r2⟩ := r1.sqL I
      rw [blsOf_rep z r2] at h1
      exact ⟨a, ns, rfl, h1, k _ H G GLe.rfl I (by simp)⟩
  · cases e
def anyD : List D → Option D
  | [.lst ds] => (blsOf ds).map fun bs => .bl (bs.any id)
  | _ => none
theorem cd_any : CallD W (rAny W.K) anyD := by
  intro c T σ H G S vs ds d Q I r e k
  unfold anyD at e
  split at e
  · rename_i xs
    cases z : blsOf xs with
    | none => rw [z] at e; cases e
    | some ns =>
      rw [z] at e; cases e
      obtain ⟨v, rfl, r1⟩ := repL1 r
      obtain ⟨a, vs, rfl, h1, r2⟩ := r1.sqL I
      rw [blsOf_rep z r2] at h1
      exact ⟨a, ns, rfl, h1, k _ H G GLe.rfl I (by simp)⟩
  · cases e

/-! ### isinstance of built-in types -/
def tyN : D → Option String
  | .non => some "NoneType" | .bl _ => some "bool" | .int _ => some "int" | .str _ => some "str"
  | .lst _ => some "list" | .tup _ => some "tuple" | .dct _ _ => some "dict" | .fn _ _ => none | .is _ _ => none | .exc _ _ _ => none | .scr _ => none
theorem tyN_ok (I : StOk W c T σ H G S) {d : D} {v : V} {t : String} (h : tyN d = some t) (r : Rep W G d v) : TyX W.K H v (.type t) := by
  cases d with
  | non => cases h; rw [rep_non] at r; subst r; exact .base .non
  | bl b => cases h; rw [rep_bl] at r; subst r; exact .base (.bl b)
  | int i => cases h; rw [rep_int] at r; subst r; exact .base (.int i)
  | str x => cases h; rw [rep_str] at r; subst r; exact .base (.str x)
  | lst ds =>
    cases h
    obtain ⟨a, vs, rfl, h1, _⟩ := r.sqL I
    rcases h1 with (h1 | ⟨o, h1⟩) | ⟨o, its, n, k, hc, _⟩
    · exact .base (.lst h1)
    · exact .base (.frz h1)
    · exact .kList k hc
  | tup ds =>
    cases h
    obtain ⟨a, vs, rfl, h1, _⟩ := r.sqT I
    rcases h1 with (h1 | ⟨o, h1⟩) | ⟨o, its, n, k, hc, _⟩
    · exact .base (.tup h1)
    · exact .fTuple h1
    · exact .kTuple k hc
  | dct ks ds =>
    cases h
    rw [Rep] at r
    obtain ⟨a, kvs, rfl, h1, _⟩ := r
    rcases I.le _ _ h1 with q | ⟨o, kvs', e, q⟩
    · exact .base (.dK q)
    · cases e; exact .fDict q
  | fn _ _ => cases h
  | is _ _ => cases h
  | exc _ _ _ => cases h
  | scr _ => cases h
/-- which of the types in hand are subtypes -/
def subN (a b : String) : Bool := a == b || (a == "bool" && b == "int")
def TYS : List String := ["NoneType", "bool", "int", "str", "list", "tuple", "dict"]
theorem subN_ok : ∀ a ∈ TYS, ∀ b ∈ TYS.tail, kitB a b = some (subN a b) := by decide +kernel
theorem tyN_mem {d : D} {t : String} (h : tyN d = some t) : t ∈ TYS := by
  cases d <;> first | (cases h; decide) | cases h
def mIsi (Ts : List String) (m : ME) : ME := fun S => (m S).bind fun x S1 => match tyN x.1 with
  | some t => .ok (.bl (Ts.any fun b => subN t b), none) S1
  | none => .stuck
theorem kitOne_ok {K : PySem.W.Frag} {a b : String} (ha : a ∈ TYS) (hb : b ∈ TYS.tail) : PySem.W.kitOne K (.type a) (.type b) = some (subN a b) := kit_ty (subN_ok a ha b hb)
theorem kitAny_ok {K : PySem.W.Frag} {a : String} (ha : a ∈ TYS) : ∀ {Ts : List String}, (∀ b ∈ Ts, b ∈ TYS.tail) → PySem.W.kitAny K (.type a) (Ts.map Value.type) = some (Ts.any fun b => subN a b)
  | [], _ => kitAny_nil
  | b :: Ts, h => by
    rw [List.map_cons, List.any_cons]
    refine kitAny_cons (kitOne_ok ha (h b List.mem_cons_self)) (fun hb => ?_) fun hb => by rw [hb, Bool.true_or]
    rw [hb, Bool.false_or]
    exact kitAny_ok ha fun b' hb' => h b' (List.mem_cons_of_mem _ hb')
theorem er_isi {te : TE} {m : ME} {t : String} (ht : t ∈ TYS.tail) (h : ER W E te m) : ER W E (tCB (rIsi W.K) (tCons te (tCons (tC (.ty t)) tNil))) (mIsi [t] m) := fun c T σ H G S Q I hq => by
  refine h c T σ H G S _ I (hq.bind fun x S1 _ h1 v H1 G1 g1 I1 r1 t1 => ?_)
  split at h1
  · rename_i a ha
    refine ⟨v, .ty t, _, _, subN a t, rfl, .ty t, tyN_ok I1 ha r1, kitOne_ok (tyN_mem ha) ht, ?_⟩
    have h2 := h1 (.bl (subN a t)) H1 G1 g1 I1 (by simp) tok_none
    exact h2
  · exact (h1 : False).elim
theorem pair_cls : ∀ Ts : List String, Paired ClsV (Ts.map V.ty) (Ts.map Value.type)
  | [] => .nil
  | t :: Ts => .cons (.ty t) (pair_cls Ts)
/-- the classes' own tuple -/
def tTys : List String → TA
  | [] => tNil
  | t :: Ts => tCons (tC (.ty t)) (tTys Ts)
theorem tTys_ok {Q : List V → Hp → Prop} : ∀ {Ts : List String} {H : Hp}, Q (Ts.map V.ty) H → tTys Ts σ H Q
  | [], _, h => h
  | t :: Ts, H, h => by
    show tTys Ts σ H fun xs H2 => Q (.ty t :: xs) H2
    exact tTys_ok h
theorem er_isiT {te : TE} {m : ME} {Ts : List String} (ht : ∀ t ∈ Ts, t ∈ TYS.tail) (hz : Ts.length ≤ 100) (h : ER W E te m) : ER W E (tCB (rIsiT W.K) (tCons te (tCons (tTup (tTys Ts)) tNil))) (mIsi Ts m) := fun c T σ H G S Q I hq => by
  refine h c T σ H G S _ I (hq.bind fun x S1 _ h1 v H1 G1 g1 I1 r1 t1 => ?_)
  split at h1
  · rename_i a ha
    refine tTys_ok ⟨by rw [List.length_map]; exact Nat.le_trans hz (by decide), fun p hp => ?_⟩
    have J := I1.allocI hp (no_tbl_tup (xs := Ts.map V.ty))
    have gu := gle_upd (o := HO.tup (Ts.map V.ty)) (I1.le.none hp)
    exact ⟨v, p, _, _, _, _, rfl, upd_same, pair_cls Ts, tyN_ok J ha (r1.mono gu), kitAny_ok (tyN_mem ha) ht, h1 _ _ _ (g1.trans gu) J (by simp) tok_none⟩
  · exact (h1 : False).elim
end Dy

set_option Elab.async false
set_option linter.all false
set_option maxRecDepth 100000
set_option maxHeartbeats 4000000
namespace Dy
open PySem PySem.Spec L2
variable {W : Wx} {c : Cn} {T : Tm} {σ : L2.St} {H G : Hp} {S : List LV} {E : L2.St → XK}

/-! ### own lists change -/
theorem StOk.setOwn (I : StOk W c T σ H G S) {i : Nat} {ds ds' : List D} {p : Bool} {a : Addr} {vs vs' : List V} (e : S[i]? = some (.ow ds p)) (ea : σ[i]? = some (some (.ref a))) (h : H a = some (.lst vs)) (r : RepL W G ds' vs') :
    StOk W c T σ (upd H a (.lst vs')) G (S.set i (.ow ds' p)) := by
  have oi : Owns σ S i a := ⟨ea, .inl ⟨_, _, e⟩⟩
  have hg := (I.own_at oi).2
  have hl := lt_of_get e
  obtain ⟨a', _, ea', _, _, _, k1, k2⟩ := I.ow _ _ _ e
  rw [ea] at ea'; cases ea'
  have own' : ∀ {j b}, Owns σ (S.set i (.ow ds' p)) j b → Owns σ S j b := fun {j b} o => by
    obtain ⟨o1, o2⟩ := o
    by_cases hj : j = i
    · subst hj; rw [ea] at o1; cases o1; exact oi
    · rw [get_set_ne (Ne.symm hj)] at o2
      exact ⟨o1, o2⟩
  refine ⟨fun b u q => ?_, I.g0, I.new, fun b u q n m => ?_, fun b u q => ?_, fun j d o q => ?_, fun j es q' q => ?_, fun j ks es q' q => ?_, fun x y b o1 o2 => I.sep x y b (own' o1) (own' o2), fun q hq => ?_, I.tn, by simpa using I.len, tabs_upd I.tb fun u q => (by rw [h] at q; cases q; exact lst_not), I.gt, cd_upd I.cd fun u q => (by rw [h] at q; cases q; exact lst_not.2), I.tg.upd fun ps z => (by cases z)⟩
  · have hb : b ≠ a := fun z => by rw [z, hg] at q; cases q
    rw [upd_ne hb]; exact I.le b u q
  · by_cases hb : b = a
    · subst hb
      cases p with
      | false => rw [k1 rfl] at q; cases q
      | true => exact absurd (k2 rfl).1 m
    · rw [upd_ne hb]; exact I.fr b u q n m
  · by_cases hb : b = a
    · subst hb; exact ⟨_, upd_same⟩
    · rw [upd_ne hb]; exact I.all b u q
  · have hj : j ≠ i := fun z => by subst z; rw [List.getElem?_set_self hl] at q; cases q
    rw [get_set_ne (Ne.symm hj)] at q
    exact I.im j d o q
  · by_cases hj : j = i
    · subst hj
      rw [List.getElem?_set_self hl] at q
      cases q
      exact ⟨a, vs', ea, upd_same, hg, r, k1, k2⟩
    · rw [get_set_ne (Ne.symm hj)] at q
      obtain ⟨b, ws, e1, e2, e3⟩ := I.ow j es q' q
      have nb : b ≠ a := fun z => hj (I.sep j i b ⟨e1, .inl ⟨_, _, q⟩⟩ (by rw [z]; exact oi))
      exact ⟨b, ws, e1, by rw [upd_ne nb]; exact e2, e3⟩
  · have hj : j ≠ i := fun z => by subst z; rw [List.getElem?_set_self hl] at q; cases q
    rw [get_set_ne (Ne.symm hj)] at q
    obtain ⟨b, ws, e1, e2, e3⟩ := I.od j ks es q' q
    have nb : b ≠ a := fun z => hj (I.sep j i b ⟨e1, .inr ⟨_, _, _, q⟩⟩ (by rw [z]; exact oi))
    exact ⟨b, ws, e1, by rw [upd_ne nb]; exact e2, e3⟩
  · obtain ⟨q1, q2, q3, q4, q5⟩ := I.tm q hq
    have nb : q.1 ≠ a := fun z => q4 i (by rw [z]; exact oi)
    exact ⟨by rw [upd_ne nb]; exact q1, q2, q3, fun j o => q4 j (own' o), q5⟩

/-! ### subscripts -/
def ixD : D → D → Option D
  | .lst ds, .int i => atI ds i
  | .tup ds, .int i => atI ds i
  | .scr ns, .int i => (atI ns i).map D.int
  | .str z, .int i => if z.length ≤ LIM then (atI z.cps.toList i).map fun ch => .str ⟨#[ch]⟩ else none
  | _, _ => none
theorem atI_rep {ds : List D} {vs : List V} {i : Int} {d : D} (h : atI ds i = some d) (r : RepL W G ds vs) : ∃ v, atI vs i = some v ∧ Rep W G d v := by
  unfold atI at h ⊢
  rw [r.length]
  cases e : ixN ds.length i with
  | none => rw [e] at h; cases h
  | some j =>
    rw [e] at h
    exact r.get h
theorem atI_map {ns : List Int} {i z : Int} (h : atI ns i = some z) : atI (ns.map V.int) i = some (.int z) := by
  unfold atI at h ⊢
  rw [List.length_map]
  cases e : ixN ns.length i with
  | none => rw [e] at h; cases h
  | some j =>
    rw [e, Option.bind_some] at h
    rw [Option.bind_some, List.getElem?_map, h] <;> rfl
theorem repL_ints {G : Hp} : ∀ ns : List Int, RepL W G (ns.map D.int) (ns.map V.int)
  | [] => RepL.nil
  | n :: ns => RepL.cons (by simp) (repL_ints ns)
theorem od_ix : OpD W (rIx W.K) ixD := by
  intro c T σ H G S x y dx dy d Q I rx ry e k
  unfold ixD at e
  split at e
  · rw [rep_int] at ry; subst ry
    obtain ⟨a, vs, rfl, h1, r1⟩ := rx.sqL I
    obtain ⟨v, hv, rv⟩ := atI_rep e r1
    exact .inl ⟨a, vs, _, v, rfl, rfl, h1, hv, k v H G GLe.rfl I rv⟩
  · rw [rep_int] at ry; subst ry
    obtain ⟨a, vs, rfl, h1, r1⟩ := rx.sqT I
    obtain ⟨v, hv, rv⟩ := atI_rep e r1
    exact .inr (.inl ⟨a, vs, _, v, rfl, rfl, h1, hv, k v H G GLe.rfl I rv⟩)
  · rw [rep_int] at ry; subst ry
    rw [Rep] at rx
    obtain ⟨a, rfl, h1⟩ := rx
    rename_i ns i
    cases q : atI ns i with
    | none => rw [q] at e; cases e
    | some z =>
      rw [q] at e; cases e
      exact .inl ⟨a, _, _, .int z, rfl, rfl, leL I.le h1, atI_map q, k _ H G GLe.rfl I (by simp)⟩
  · split at e
    · rename_i hz
      rw [rep_int] at ry; subst ry
      rw [rep_str] at rx; subst rx
      cases q : atI (Array.toList (Str.cps _)) _ with
      | none => rw [q] at e; cases e
      | some ch =>
        rw [q] at e; cases e
        exact .inr (.inr ⟨_, _, ch, rfl, rfl, lim_line hz, q, k _ H G GLe.rfl I (by simp)⟩)
    · cases e
  · cases e
/-- an item of an own list: it stays own -/
def mIxO (i : Nat) (mb : ME) : ME := fun S => match S[i]? with
  | some (.ow _ _) => (mb S).bind fun y S1 => match S1[i]?, y.1 with
    | some (.ow ds _), .int k => Res.of ((atI ds k).map fun d => (d, none)) S1
    | _, _ => .stuck
  | _ => mBin ixD (mVar i) mb S
theorem er_ixO {i : Nat} {tb : TE} {mb : ME} (hb : ER W E tb mb) : ER W E (tOp (rIx W.K) (tVar i) tb) (mIxO i mb) := fun c T σ H G S Q I hq => by
  unfold mIxO at hq
  split at hq
  · rename_i ds p e
    obtain ⟨a, vs, e1, _⟩ := I.ow _ _ _ e
    refine ⟨_, e1, hb c T σ H G S _ I (hq.bind fun y S1 _ h1 u H1 G1 g1 I1 r1 t1 => ?_)⟩
    split at h1
    · rename_i es q k z1 z2
      obtain ⟨b, ws, f1, f2, f3, r, _⟩ := I1.ow _ _ _ z1
      rw [e1] at f1; cases f1
      rw [z2, rep_int] at r1; subst r1
      cases q2 : atI es k with
      | none => rw [q2] at h1; exact (h1 : False).elim
      | some d =>
        rw [q2] at h1
        obtain ⟨v, hv, rv⟩ := atI_rep q2 r
        exact .inl ⟨a, ws, k, v, rfl, rfl, SqL.of f2, hv, h1 v H1 G1 g1 I1 rv tok_none⟩
    · exact (h1 : False).elim
  · exact er_op od_ix er_var hb c T σ H G S Q I hq

/-! ### slices of lists -/
abbrev MO := List LV → Res (Option Int)
def kO (W : Wx) (c : Cn) (T : Tm) (σ : L2.St) (Q : Option Int → Hp → Prop) : Hp → Option Int → List LV → Prop := fun G x S => ∀ H' G', GLe G G' → StOk W c T σ H' G' S → Q x H'
theorem mO {Q : Option Int → Hp → Prop} : Mono (kO W c T σ Q) := fun _ _ _ _ g h H' G' g' => h H' G' (g.trans g')
def OR (W : Wx) (E : L2.St → XK) (t : TO) (m : MO) : Prop := ∀ c T σ H G S (Q : Option Int → Hp → Prop), StOk W c T σ H G S → PR W c T (E σ) σ (kO W c T σ Q) G (m S) → t σ H Q
def mNo : MO := fun S => .ok none S
def mSome (m : ME) : MO := fun S => (m S).bind fun x S1 => match x.1 with
  | .int i => .ok (some i) S1
  | _ => .stuck
theorem or_no : OR W E tNoPart mNo := fun c T σ H G S Q I hq => hq H G GLe.rfl I
theorem or_some {te : TE} {m : ME} (h : ER W E te m) : OR W E (tPart te) (mSome m) := fun c T σ H G S Q I hq => by
  refine h c T σ H G S _ I (hq.bind fun x S1 _ h1 v H1 G1 g1 I1 r1 t1 => ?_)
  obtain ⟨d, t⟩ := x
  cases d with
  | int i =>
    rw [rep_int] at r1
    exact ⟨i, r1, h1 H1 G1 g1 I1⟩
  | _ => exact (h1 : False).elim
/-- the items of xs[lo:hi] -/
def cutD (ds : List D) (lo hi : Option Int) : List D := (ds.drop (HT.sIx ds.length 0 lo)).take (HT.sIx ds.length ds.length hi - HT.sIx ds.length 0 lo)
def mSl (me : ME) (ml mh : MO) : MF := fun S => (me S).bind fun x S1 => (ml S1).bind fun l S2 => (mh S2).bind fun h S3 => match x.1 with
  | .lst ds => .ok (cutD ds l h) S3
  | .scr ns => .ok (cutD (ns.map D.int) l h) S3
  | _ => .stuck
theorem ef_sl {te : TE} {tl th : TO} {me : ME} {ml mh : MO} (he : ER W E te me) (hl : OR W E tl ml) (hh : OR W E th mh) : EF W E (tSl (rSlL W.K) te tl th) (mSl me ml mh) := fun c T σ H G S Q I hq => by
  refine he c T σ H G S _ I (hq.bind fun x S1 _ h1 v H1 G1 g1 I1 r1 t1 => ?_)
  refine hl c T σ H1 G1 S1 _ I1 ((h1.mono mF g1).bind fun l S2 _ h2 H2 G2 g2 I2 => ?_)
  refine hh c T σ H2 G2 S2 _ I2 ((h2.mono mF g2).bind fun h S3 _ h3 H3 G3 g3 I3 => ?_)
  have h4 := h3.mono mF g3
  obtain ⟨d, t⟩ := x
  cases d with
  | lst ds =>
    have r3 := (r1.mono g2).mono g3
    obtain ⟨a, vs, rfl, q1, r4⟩ := r3.sqL I3
    refine ⟨a, vs, rfl, q1, fun p hp => ?_⟩
    refine h4 p _ _ G3 GLe.rfl (I3.alloc hp no_tbl_lst) ?_
    show RepL W G3 (cutD ds l h) (cutV vs l h)
    unfold cutD cutV
    rw [r4.length]
    exact RepL.take _ (RepL.drop _ r4)
  | scr ns =>
    have r3 := (r1.mono g2).mono g3
    rw [Rep] at r3
    obtain ⟨a, rfl, q1⟩ := r3
    refine ⟨a, ns.map V.int, rfl, leL I3.le q1, fun p hp => ?_⟩
    refine h4 p _ _ G3 GLe.rfl (I3.alloc hp no_tbl_lst) ?_
    show RepL W G3 (cutD (ns.map D.int) l h) (cutV (ns.map V.int) l h)
    unfold cutD cutV
    rw [List.length_map, List.length_map]
    exact RepL.take _ (RepL.drop _ (repL_ints ns))
  | _ => exact (h4 : False).elim
/-- xs[lo:hi:k], k written -/
def pickL {α : Type} (xs : List α) (lo hi st : Option Int) : List α := (sliceRange (sliceBounds lo hi st xs.length).1 (sliceBounds lo hi st xs.length).2.1 (sliceBounds lo hi st xs.length).2.2).filterMap (xs[·]?)
theorem slicePick_L (its : List Value) (lo hi st : Option Int) : slicePick its.toArray lo hi st = (pickL its lo hi st).toArray := by
  unfold slicePick pickL
  simp
theorem pick_vals {xs : List V} {us : List Value} (r : Vals xs us) (l : List Nat) : Vals (l.filterMap (xs[·]?)) (l.filterMap (us[·]?)) := by
  induction l with
  | nil => exact .nil
  | cons i l ih =>
    rw [List.filterMap_cons, List.filterMap_cons]
    cases e : xs[i]? with
    | none => rw [r.none_of e]; exact ih
    | some x =>
      obtain ⟨u, hu, ru⟩ := r.get e
      rw [hu]
      exact .cons ru ih
theorem pick_rep {ds : List D} {vs : List V} (r : RepL W G ds vs) (l : List Nat) : RepL W G (l.filterMap (ds[·]?)) (l.filterMap (vs[·]?)) := by
  induction l with
  | nil => exact RepL.nil
  | cons i l ih =>
    rw [List.filterMap_cons, List.filterMap_cons]
    cases e : ds[i]? with
    | none =>
      have : vs[i]? = none := by
        rw [List.getElem?_eq_none_iff] at e ⊢
        rw [r.length]; exact e
      rw [this]; exact ih
    | some x =>
      obtain ⟨u, hu, ru⟩ := r.get e
      rw [hu]
      exact RepL.cons ru ih
def tSlS (K : PySem.W.Frag) (st : Int) (te : TE) (tl th : TO) : TE := fun σ H Q => te σ H fun x H1 => tl σ H1 fun l H2 => th σ H2 fun u H3 => ∃ a xs, x = .ref a ∧ SqL K H3 a xs ∧ ∀ p, H3 p = none → Q (.ref p) (upd H3 p (.lst (pickL xs l u (some st))))
theorem pick_len {α : Type} (xs : List α) (lo hi : Option Int) {st : Int} (h : st ≠ 0) (hn : 0 < st ∨ (lo = none ∧ hi = none)) : (pickL xs lo hi (some st)).length ≤ xs.length := by
  unfold pickL
  refine Nat.le_trans (List.length_filterMap_le _ _) ?_
  refine sliceRange_length_le _ _ _ _ (fun hp => ?_) (fun hp => ?_)
  · unfold sliceBounds
    have e : (some st).getD 1 = st := rfl
    simp only [e]
    have hp' : st > 0 := hp
    constructor
    · cases lo with
      | none => simp [hp']
      | some i => simp only [if_pos hp']; omega
    · cases hi with
      | none => simp [hp']
      | some i => simp only [if_pos hp']; omega
  · unfold sliceBounds
    have e : (some st).getD 1 = st := rfl
    simp only [e]
    have hp' : ¬ st > 0 := hp
    rcases hn with hn | ⟨rfl, rfl⟩
    · omega
    · simp only [if_neg hp']; omega
theorem pe_sliceS {X : Cx} {e : Expr} {te : TE} {lo hi : Option Expr} {es : Expr} {tl th ts : TO} {st : Int} {pos p2 : Pos} (he : PE X e te) (hl : PO X lo tl) (hu : PO X hi th) (hs : PO X (some es) ts) (hst : ∀ σ H (Q : Option Int → Hp → Prop), Q (some st) H → ts σ H Q) (h0 : 0 < st)
    (hsub : ∀ a b, subscripted (.Slice lo hi (some es) p2) false a b = operate [a, b] (getItem a b) := by intros; with_unfolding_all rfl) :
    PE X (.Subscript e (.Slice lo hi (some es) p2) pos) (tSlS X.K st te tl th) := by
  refine ⟨fun pins s σ H Q I h => ?_⟩
  refine PyProof.Rows.Subscript_ (thn (he.run pins s σ H _ I h) fun v s1 ⟨x, H1, I1, r1, q1⟩ => ?_)
  refine wpAny_Slice (thn (hl.run pins s1 σ H1 _ I1 q1) fun vl s2 ⟨l, H2, I2, pl, q2⟩ => thn (hu.run pins s2 σ H2 _ I2 q2) fun vu s3 ⟨u, H3, I3, pu, q3⟩ => ?_)
  refine thn (hs.run pins s3 σ H3 (fun o H4 => o = some st ∧ H4 = H3) I3 (hst σ H3 _ ⟨rfl, rfl⟩)) fun vs s4 ⟨o, H4, I4, ps, eo, e4⟩ => ?_
  subst eo e4
  obtain ⟨a, xs, ex, hx, q⟩ := q3
  subst ex
  cases r1
  have I5 : Inv X pins σ H4 { s4 with heap := s4.heap.push { cls := .type "slice", data := .fields #[vl, vu, vs] } } := I4.kept (t' := s4.toks) fun b ob q => Heap.get?_push_of_some _ q
  obtain ⟨its, r, ht, hz⟩ := I5.list hx
  have hlen := r.length
  show wpAny (model X.prog X.w) X.A (PyProof.Rows.subscriptTail e (.Slice lo hi (some es) p2) (.ref a) (.ref s4.heap.objs.size)) (EP X pins σ Q) X.xe { s4 with heap := s4.heap.push { cls := .type "slice", data := .fields #[vl, vu, vs] } }
  refine PyProof.Rows.tail_any (ops := [.ref a, .ref s4.heap.objs.size]) ht.isList.typeIs (PySem.slot_list_getitem.lookup) ?_ (hsub _ _)
  refine wpAny_getItem_list_slice ht.isList (Heap.IsSliceOf.new _ vl vu vs) pl pu ps (by intro z; cases z; omega) ?_ (by rw [List.size_toArray]; omega)
  rw [slicePick_L]
  have el : pickL xs l u (some st) = (sliceRange (sliceBounds l u (some st) its.length).1 (sliceBounds l u (some st) its.length).2.1 (sliceBounds l u (some st) its.length).2.2).filterMap (xs[·]?) := by
    unfold pickL; rw [hlen]
  refine ⟨.ref _, _, I5.laid (t' := s4.toks) (o := .lst (pickL xs l u (some st))) (fun b ob q => Heap.get?_push_of_some _ q) (Nat.le_refl _) ?_, rfl, q _ (I5.hok.fresh (Nat.le_refl _))⟩
  refine ⟨Nat.le_trans (pick_len xs l u (by omega) (.inl h0)) hz, pickL its l u (some st), 0, ?_, Heap.get?_push_size _ rfl⟩
  rw [el]
  exact pick_vals r _
def mSlS (st : Int) (me : ME) (ml mh : MO) : MF := fun S => (me S).bind fun x S1 => (ml S1).bind fun l S2 => (mh S2).bind fun h S3 => match x.1 with
  | .lst ds => .ok (pickL ds l h (some st)) S3
  | _ => .stuck
theorem ef_slS {st : Int} {te : TE} {tl th : TO} {me : ME} {ml mh : MO} (he : ER W E te me) (hl : OR W E tl ml) (hh : OR W E th mh) : EF W E (tSlS W.K st te tl th) (mSlS st me ml mh) := fun c T σ H G S Q I hq => by
  refine he c T σ H G S _ I (hq.bind fun x S1 _ h1 v H1 G1 g1 I1 r1 t1 => ?_)
  refine hl c T σ H1 G1 S1 _ I1 ((h1.mono mF g1).bind fun l S2 _ h2 H2 G2 g2 I2 => ?_)
  refine hh c T σ H2 G2 S2 _ I2 ((h2.mono mF g2).bind fun h S3 _ h3 H3 G3 g3 I3 => ?_)
  have h4 := h3.mono mF g3
  obtain ⟨d, t⟩ := x
  cases d with
  | lst ds =>
    have r3 := (r1.mono g2).mono g3
    obtain ⟨a, vs, rfl, q1, r4⟩ := r3.sqL I3
    refine ⟨a, vs, rfl, q1, fun p hp => ?_⟩
    refine h4 p _ _ G3 GLe.rfl (I3.alloc hp no_tbl_lst) ?_
    show RepL W G3 (pickL ds l h (some st)) (pickL vs l h (some st))
    unfold pickL
    rw [r4.length]
    exact pick_rep r4 _
  | _ => exact (h4 : False).elim
/-- xs[::-1] -/
def mRev (me : ME) : MF := fun S => (me S).bind fun x S1 => match x.1 with
  | .lst ds => .ok ds.reverse S1
  | _ => .stuck
theorem ef_rev {te : TE} {me : ME} (he : ER W E te me) : EF W E (tRevL W.K te) (mRev me) := fun c T σ H G S Q I hq => by
  refine he c T σ H G S _ I (hq.bind fun x S1 _ h1 v H1 G1 g1 I1 r1 t1 => ?_)
  have h4 := h1.mono mF g1
  obtain ⟨d, t⟩ := x
  cases d with
  | lst ds =>
    obtain ⟨a, vs, rfl, q1, r4⟩ := r1.sqL I1
    exact ⟨a, vs, rfl, q1, fun p hp => h4 p _ _ G1 GLe.rfl (I1.alloc hp no_tbl_lst) (RepL.rev r4)⟩
  | _ => exact (h4 : False).elim

/-! ### fresh list times an int -/
def mRepF (me : MF) (mk : ME) : MF := fun S => (me S).bind fun ds S1 => (mk S1).bind fun y S2 => match y.1 with
  | .int k => if k < 1000000 ∧ -1000000 < k ∧ ds.length * k.toNat ≤ LIM then .ok (List.replicate k.toNat ds).flatten S2 else .stuck
  | _ => .stuck
theorem ef_rep {te tk : TE} {me : MF} {mk : ME} (he : EF W E te me) (hk : ER W E tk mk) : EF W E (tOp rRep te tk) (mRepF me mk) := fun c T σ H G S Q I hq => by
  refine he c T σ H G S _ I (hq.bind fun ds S1 _ h1 a vs H1 G1 g1 I1 r1 => ?_)
  refine hk c _ σ H1 G1 S1 _ I1 (PR.tail ((h1.mono mF g1).bind fun y S2 _ h2 v H2 G2 g2 I2 r2 t2 => ?_))
  have h3 := h2.mono mF g2
  obtain ⟨d, t⟩ := y
  cases d with
  | int k =>
    rw [rep_int] at r2
    subst r2
    dsimp only at h3
    split at h3
    · rename_i hk
      obtain ⟨k1, k2, k3⟩ := hk
      refine ⟨a, k, vs, rfl, rfl, (I2.tm _ List.mem_cons_self).1, by omega, by omega, by rw [r1.length]; exact lim_line k3, fun p hp => ?_⟩
      exact h3 p _ _ G2 GLe.rfl (I2.drop.alloc hp no_tbl_lst) (RepL.reps (r1.mono g2) _)
    · exact (h3 : False).elim
  | _ => exact (h3 : False).elim
end Dy

set_option Elab.async false
set_option linter.all false
set_option maxRecDepth 100000
set_option maxHeartbeats 4000000
namespace Dy
open PySem PySem.Spec L2
variable {W : Wx} {c : Cn} {T : Tm} {σ : L2.St} {H G : Hp} {S : List LV} {E : L2.St → XK}

inductive SRes where
  | stuck | nx (S : List LV) | rt (d : D) (S : List LV) | rf (ds : List D) (S : List LV) | bk (S : List LV) | ct (S : List LV) | er (e : Er) (S : List LV)
abbrev MS := List LV → SRes
def SPo (W : Wx) (c : Cn) (T : Tm) (E : L2.St → XK) (D : Ends) (G : Hp) : SRes → Prop
  | .stuck => False
  | .nx S => ∀ σ' H' G', GLe G G' → StOk W c T σ' H' G' S → D.nx σ' H'
  | .bk S => ∀ σ' H' G', GLe G G' → StOk W c T σ' H' G' S → D.bk σ' H'
  | .ct S => ∀ σ' H' G', GLe G G' → StOk W c T σ' H' G' S → D.ct σ' H'
  | .rt d S => ∀ σ' v H' G', GLe G G' → StOk W c T σ' H' G' S → Rep W G' d v → D.rt v H'
  | .rf ds S => ∀ σ' a vs H' G', GLe G G' → StOk W c ((a, .lst vs) :: T) σ' H' G' S → RepL W G' ds vs → D.rt (.ref a) H'
  | .er e S => ∀ σ' cls dd H' G', GLe G G' → StOk W c T σ' H' G' S → ErOk W σ' c G' H' cls dd e → E σ' cls dd H'
variable {D : Ends}
theorem SPo.mono {G1 : Hp} (g : GLe G G1) : ∀ {r : SRes}, SPo W c T E D G r → SPo W c T E D G1 r
  | .stuck, h => h
  | .nx _, h => fun σ' H' G' g' => h σ' H' G' (g.trans g')
  | .bk _, h => fun σ' H' G' g' => h σ' H' G' (g.trans g')
  | .ct _, h => fun σ' H' G' g' => h σ' H' G' (g.trans g')
  | .rt _ _, h => fun σ' v H' G' g' => h σ' v H' G' (g.trans g')
  | .rf _ _, h => fun σ' a v H' G' g' => h σ' a v H' G' (g.trans g')
  | .er _ _, h => fun σ' a v H' G' g' => h σ' a v H' G' (g.trans g')
def SR (W : Wx) (E : L2.St → XK) (ts : TS) (m : MS) : Prop := ∀ c T σ H G S (D : Ends), StOk W c T σ H G S → SPo W c T E D G (m S) → ts D σ H
def Res.sb {α : Type} (m : Res α) (f : α → List LV → SRes) : SRes := match m with
  | .stuck => .stuck
  | .ok x S => f x S
  | .er e S => .er e S
@[simp] theorem Res.sb_stuck {α : Type} (f : α → List LV → SRes) : Res.sb .stuck f = .stuck := rfl
@[simp] theorem Res.sb_ok {α : Type} (x : α) (S : List LV) (f : α → List LV → SRes) : Res.sb (.ok x S) f = f x S := rfl
@[simp] theorem Res.sb_er {α : Type} (e : Er) (S : List LV) (f : α → List LV → SRes) : Res.sb (.er e S) f = .er e S := rfl
/-- a test, an expression, and what follows -/
theorem SPo.sb {α : Type} {k : Hp → α → List LV → Prop} {m : Res α} {f : α → List LV → SRes} (h : SPo W c T E D G (m.sb f)) (hk : ∀ x S1, m = .ok x S1 → SPo W c T E D G (f x S1) → k G x S1) : PR W c T (E σ) σ k G m := by
  cases m with
  | stuck => exact h
  | ok x S => exact hk x S rfl h
  | er e S => exact fun cls dd H' G' => h σ cls dd H' G'

/-! ### blocks -/
def mNext : MS := fun S => .nx S
def mSeq (a b : MS) : MS := fun S => match a S with
  | .nx S1 => b S1
  | r => r
theorem sr_next : SR W E tNext mNext := fun c T σ H G S D I h => h σ H G GLe.rfl I
theorem sr_seq {t u : TS} {a b : MS} (ha : SR W E t a) (hb : SR W E u b) : SR W E (tSeq t u) (mSeq a b) := fun c T σ H G S D I h => by
  refine ha c T σ H G S _ I ?_
  unfold mSeq at h
  cases e : a S with
  | nx S1 =>
    rw [e] at h
    exact fun σ' H' G' g I' => hb c T σ' H' G' S1 D I' (h.mono g)
  | stuck => rw [e] at h; exact h
  | rt _ _ => rw [e] at h; exact h
  | rf _ _ => rw [e] at h; exact h
  | bk _ => rw [e] at h; exact h
  | ct _ => rw [e] at h; exact h
  | er _ _ => rw [e] at h; exact h
def mBreak : MS := fun S => .bk S
def mCont : MS := fun S => .ct S
def mNever : MS := fun _ => .stuck
theorem sr_break : SR W E tBreak mBreak := fun c T σ H G S D I h => h σ H G GLe.rfl I
theorem sr_cont : SR W E tCont mCont := fun c T σ H G S D I h => h σ H G GLe.rfl I
theorem sr_never : SR W E tNever mNever := fun c T σ H G S D I h => h
def mIfS (mt : MT) (a b : MS) : MS := fun S => (mt S).sb fun x S1 => if x = true then a S1 else b S1
theorem sr_if {tc : TT} {t u : TS} {mt : MT} {a b : MS} (hc : TR W E tc mt) (ha : SR W E t a) (hb : SR W E u b) : SR W E (tIfS tc t u) (mIfS mt a b) := fun c T σ H G S D I h => by
  refine hc c T σ H G S _ I (h.sb fun x S1 _ h1 H1 G1 g1 I1 => ?_)
  have h2 := h1.mono g1
  cases x with
  | true => exact ha c T σ H1 G1 S1 D I1 h2
  | false => exact hb c T σ H1 G1 S1 D I1 h2
def mRet (me : ME) : MS := fun S => (me S).sb fun x S1 => .rt x.1 S1
theorem sr_ret {te : TE} {me : ME} (h : ER W E te me) : SR W E (tRet te) (mRet me) := fun c T σ H G S D I hq =>
  h c T σ H G S _ I (hq.sb fun x S1 _ h1 v H1 G1 g1 I1 r1 t1 => h1 σ v H1 G1 g1 I1 r1)
def mRetF (me : MF) : MS := fun S => (me S).sb fun x S1 => .rf x S1
theorem sr_retF {te : TE} {me : MF} (h : EF W E te me) : SR W E (tRet te) (mRetF me) := fun c T σ H G S D I hq =>
  h c T σ H G S _ I (hq.sb fun x S1 _ h1 a vs H1 G1 g1 I1 r1 => h1 σ a vs H1 G1 g1 I1 r1)
def mRetN : MS := fun S => .rt .non S
theorem sr_retN : SR W E tRetN mRetN := fun c T σ H G S D I hq => hq σ .non H G GLe.rfl I (by simp)
/-- the own list leaves its name -/
def mMove (i : Nat) : MF := fun S => match S[i]? with
  | some (.ow ds false) => .ok ds (S.set i .no)
  | _ => .stuck
theorem not_own_no : (∀ ds p, LV.no ≠ .ow ds p) ∧ ∀ ks ds p, LV.no ≠ .od ks ds p := ⟨fun _ _ z => (by cases z), fun _ _ _ z => (by cases z)⟩
theorem not_own_im {d : Dy.D} {o : Bool} : (∀ ds p, LV.im d o ≠ .ow ds p) ∧ ∀ ks ds p, LV.im d o ≠ .od ks ds p := ⟨fun _ _ z => (by cases z), fun _ _ _ z => (by cases z)⟩
theorem ef_move {i : Nat} : EF W E (tVar i) (mMove i) := fun c T σ H G S Q I hq => by
  unfold mMove at hq
  split at hq
  · rename_i ds e
    obtain ⟨a, vs, e1, e2, e3, r, k1, k2⟩ := I.ow i ds false e
    have oi : Owns σ S i a := ⟨e1, .inl ⟨_, _, e⟩⟩
    have hl := lt_of_get e
    refine ⟨_, e1, hq a vs H G GLe.rfl ⟨I.le, I.g0, I.new, I.fr, I.all, fun j d o q => ?_, fun j es p q => ?_, fun j ks es p q => ?_, fun x y b o1 o2 => I.sep x y b (owns_set not_own_no o1).2 (owns_set not_own_no o2).2, fun q hq => ?_, ?_, by simpa using I.len, I.tb, I.gt, I.cd, I.tg⟩ r⟩
    · have hj : j ≠ i := fun z => by subst z; rw [List.getElem?_set_self hl] at q; cases q
      rw [get_set_ne (Ne.symm hj)] at q
      exact I.im j d o q
    · have hj : j ≠ i := fun z => by subst z; rw [List.getElem?_set_self hl] at q; cases q
      rw [get_set_ne (Ne.symm hj)] at q
      exact I.ow j es p q
    · have hj : j ≠ i := fun z => by subst z; rw [List.getElem?_set_self hl] at q; cases q
      rw [get_set_ne (Ne.symm hj)] at q
      exact I.od j ks es p q
    · rcases List.mem_cons.mp hq with rfl | hq
      · refine ⟨e2, e3, k1 rfl, fun j o => ?_, no_tbl_lst⟩
        obtain ⟨hj, o'⟩ := owns_set not_own_no o
        exact hj (I.sep j i a o' oi)
      · obtain ⟨q1, q2, q3, q4, q5⟩ := I.tm q hq
        exact ⟨q1, q2, q3, fun j o => q4 j (owns_set not_own_no o).2, q5⟩
    · rw [List.map_cons, List.nodup_cons]
      refine ⟨fun hm => ?_, I.tn⟩
      obtain ⟨q, hq, eq⟩ := List.mem_map.mp hm
      exact (I.tm q hq).2.2.2.1 i (by rw [eq]; exact oi)
  · exact hq.elim

/-! ### stores -/
theorem set_len_le {α : Type} {l : List α} {i : Nat} {x : α} (h : ¬ i < l.length) : l.set i x = l := List.set_eq_of_length_le (Nat.le_of_not_lt h)
theorem StOk.setNo (I : StOk W c T σ H G S) {i : Nat} {v : V} (h : i < S.length) : StOk W c T (σ.set i (some v)) H G (S.set i .no) := by
  have hσ : i < σ.length := by rw [← I.len]; exact h
  have own' : ∀ {j b}, Owns (σ.set i (some v)) (S.set i .no) j b → j ≠ i ∧ Owns σ S j b := fun {j b} o => by
    obtain ⟨o1, o2⟩ := o
    have hj : j ≠ i := fun z => by
      subst z
      rw [List.getElem?_set_self h] at o2
      rcases o2 with ⟨_, _, q⟩ | ⟨_, _, _, q⟩ <;> cases q
    rw [get_set_ne (Ne.symm hj)] at o1 o2
    exact ⟨hj, o1, o2⟩
  refine ⟨I.le, I.g0, I.new, I.fr, I.all, fun j d o q => ?_, fun j es p q => ?_, fun j ks es p q => ?_, fun x y b o1 o2 => I.sep x y b (own' o1).2 (own' o2).2, fun q hq => ?_, I.tn, by simpa using I.len, I.tb, I.gt, I.cd, I.tg⟩
  · have hj : j ≠ i := fun z => by subst z; rw [List.getElem?_set_self h] at q; cases q
    rw [get_set_ne (Ne.symm hj)] at q
    rw [get_set_ne (Ne.symm hj)]
    exact I.im j d o q
  · have hj : j ≠ i := fun z => by subst z; rw [List.getElem?_set_self h] at q; cases q
    rw [get_set_ne (Ne.symm hj)] at q
    rw [get_set_ne (Ne.symm hj)]
    exact I.ow j es p q
  · have hj : j ≠ i := fun z => by subst z; rw [List.getElem?_set_self h] at q; cases q
    rw [get_set_ne (Ne.symm hj)] at q
    rw [get_set_ne (Ne.symm hj)]
    exact I.od j ks es p q
  · obtain ⟨q1, q2, q3, q4, q5⟩ := I.tm q hq
    exact ⟨q1, q2, q3, fun j o => q4 j (own' o).2, q5⟩
theorem set_set' {α : Type} {l : List α} {i : Nat} {x y : α} : (l.set i x).set i y = l.set i y := List.set_set ..
theorem StOk.setIm (I : StOk W c T σ H G S) {i : Nat} {v : V} {d : Dy.D} (r : Rep W G d v) : StOk W c T (σ.set i (some v)) H G (S.set i (.im d false)) := by
  by_cases h : i < S.length
  · have J := I.setNo (v := v) h
    have hσ : i < σ.length := by rw [← I.len]; exact h
    have own' : ∀ {j b}, Owns (σ.set i (some v)) (S.set i (.im d false)) j b → Owns (σ.set i (some v)) (S.set i .no) j b := fun {j b} o => by
      obtain ⟨o1, o2⟩ := o
      have hj : j ≠ i := fun z => by
        subst z
        rw [List.getElem?_set_self h] at o2
        rcases o2 with ⟨_, _, q⟩ | ⟨_, _, _, q⟩ <;> cases q
      rw [get_set_ne (Ne.symm hj)] at o2
      refine ⟨o1, ?_⟩
      rw [get_set_ne (Ne.symm hj)]
      exact o2
    refine ⟨J.le, J.g0, J.new, J.fr, J.all, fun j d' o q => ?_, fun j es p q => ?_, fun j ks es p q => ?_, fun x y b o1 o2 => J.sep x y b (own' o1) (own' o2), fun q hq => ?_, J.tn, by simpa using J.len, J.tb, J.gt, J.cd, J.tg⟩
    · by_cases hj : j = i
      · subst hj
        rw [List.getElem?_set_self h] at q
        cases q
        exact ⟨v, List.getElem?_set_self hσ, r, fun z => by cases z⟩
      · rw [get_set_ne (Ne.symm hj)] at q
        exact J.im j d' o (by rw [get_set_ne (Ne.symm hj)]; exact q)
    · have hj : j ≠ i := fun z => by subst z; rw [List.getElem?_set_self h] at q; cases q
      rw [get_set_ne (Ne.symm hj)] at q
      exact J.ow j es p (by rw [get_set_ne (Ne.symm hj)]; exact q)
    · have hj : j ≠ i := fun z => by subst z; rw [List.getElem?_set_self h] at q; cases q
      rw [get_set_ne (Ne.symm hj)] at q
      exact J.od j ks es p (by rw [get_set_ne (Ne.symm hj)]; exact q)
    · obtain ⟨q1, q2, q3, q4, q5⟩ := J.tm q hq
      exact ⟨q1, q2, q3, fun j o => q4 j (own' o), q5⟩
  · rw [set_len_le h, set_len_le (by rw [← I.len]; exact h)]
    exact I
theorem StOk.setOw {a : Addr} {vs : List V} (I : StOk W c ((a, .lst vs) :: T) σ H G S) {i : Nat} {ds : List Dy.D} (r : RepL W G ds vs) (h : i < S.length) : StOk W c T (σ.set i (some (.ref a))) H G (S.set i (.ow ds false)) := by
  have J := I.setNo (v := .ref a) h
  have hσ : i < σ.length := by rw [← I.len]; exact h
  obtain ⟨t1, t2, t3, t4, t5⟩ := J.tm (a, .lst vs) List.mem_cons_self
  have tnd : ∀ q ∈ T, q.1 ≠ a := fun q hq z => by
    have y := J.tn
    rw [List.map_cons, List.nodup_cons] at y
    exact y.1 (List.mem_map.mpr ⟨q, hq, z⟩)
  have own' : ∀ {j b}, Owns (σ.set i (some (.ref a))) (S.set i (.ow ds false)) j b → (j = i ∧ b = a) ∨ (j ≠ i ∧ Owns (σ.set i (some (.ref a))) (S.set i .no) j b) := fun {j b} o => by
    obtain ⟨o1, o2⟩ := o
    by_cases hj : j = i
    · subst hj
      rw [List.getElem?_set_self hσ] at o1
      cases o1
      exact .inl ⟨rfl, rfl⟩
    · rw [get_set_ne (Ne.symm hj)] at o2
      refine .inr ⟨hj, o1, ?_⟩
      rw [get_set_ne (Ne.symm hj)]
      exact o2
  refine ⟨J.le, J.g0, J.new, J.fr, J.all, fun j d' o q => ?_, fun j es p q => ?_, fun j ks es p q => ?_, fun x y b o1 o2 => ?_, fun q hq => ?_, (List.nodup_cons.mp (by have z := J.tn; rw [List.map_cons] at z; exact z)).2, by simpa using J.len, J.tb, J.gt, J.cd, J.tg⟩
  · have hj : j ≠ i := fun z => by subst z; rw [List.getElem?_set_self h] at q; cases q
    rw [get_set_ne (Ne.symm hj)] at q
    exact J.im j d' o (by rw [get_set_ne (Ne.symm hj)]; exact q)
  · by_cases hj : j = i
    · subst hj
      rw [List.getElem?_set_self h] at q
      cases q
      exact ⟨a, vs, List.getElem?_set_self hσ, t1, t2, r, fun _ => t3, fun z => by cases z⟩
    · rw [get_set_ne (Ne.symm hj)] at q
      exact J.ow j es p (by rw [get_set_ne (Ne.symm hj)]; exact q)
  · have hj : j ≠ i := fun z => by subst z; rw [List.getElem?_set_self h] at q; cases q
    rw [get_set_ne (Ne.symm hj)] at q
    exact J.od j ks es p (by rw [get_set_ne (Ne.symm hj)]; exact q)
  · rcases own' o1 with ⟨rfl, rfl⟩ | ⟨n1, p1⟩
    · rcases own' o2 with ⟨rfl, _⟩ | ⟨n2, p2⟩
      · rfl
      · exact absurd p2 (t4 _)
    · rcases own' o2 with ⟨rfl, rfl⟩ | ⟨n2, p2⟩
      · exact absurd p1 (t4 _)
      · exact J.sep x y b p1 p2
  · obtain ⟨q1, q2, q3, q4, q5⟩ := J.tm q (List.mem_cons_of_mem _ hq)
    refine ⟨q1, q2, q3, fun j o => ?_, q5⟩
    rcases own' o with ⟨_, z⟩ | ⟨_, p⟩
    · exact tnd q hq z
    · exact q4 j p

/-! ### targets -/
abbrev kG (W : Wx) (c : Cn) (T : Tm) (K : L2.St → Hp → Prop) : Hp → Unit → List LV → Prop := fun G _ S' => ∀ σ' H' G', GLe G G' → StOk W c T σ' H' G' S' → K σ' H'
theorem mG {K : L2.St → Hp → Prop} : Mono (kG W c T K) := fun _ _ _ _ g h σ' H' G' g' => h σ' H' G' (g.trans g')
def GR (W : Wx) (E : L2.St → XK) (g : TG) (m : Dy.D → List LV → Res Unit) : Prop := ∀ c T σ H G S d v (K : L2.St → Hp → Prop), StOk W c T σ H G S → Rep W G d v →
  PR W c T (E σ) σ (kG W c T K) G (m d S) → g v σ H K
def mgName (i : Nat) : Dy.D → List LV → Res Unit := fun d S => .ok () (S.set i (.im d false))
theorem gr_name {i : Nat} : GR W E (gName i) (mgName i) := fun c T σ H G S d v K I r h => h _ H G GLe.rfl (I.setIm r)
def mSet (me : ME) (mg : Dy.D → List LV → Res Unit) : MS := fun S => (me S).sb fun x S1 => (mg x.1 S1).sb fun _ S2 => .nx S2
theorem sr_asg {te : TE} {g : TG} {me : ME} {mg : Dy.D → List LV → Res Unit} (h : ER W E te me) (hg : GR W E g mg) : SR W E (tAsg te g) (mSet me mg) := fun c T σ H G S D I hq => by
  refine h c T σ H G S _ I (hq.sb fun x S1 _ h1 v H1 G1 g1 I1 r1 t1 => ?_)
  exact hg c T σ H1 G1 S1 x.1 v _ I1 r1 ((h1.mono g1).sb fun _ S2 _ h2 σ' H' G' g' I' => h2 σ' H' G' g' I')
def mSetO (i : Nat) (me : MF) : MS := fun S => (me S).sb fun ds S1 => if i < S1.length then .nx (S1.set i (.ow ds false)) else .stuck
theorem sr_asgO {i : Nat} {te : TE} {me : MF} (h : EF W E te me) : SR W E (tAsg te (gName i)) (mSetO i me) := fun c T σ H G S D I hq => by
  refine h c T σ H G S _ I (hq.sb fun x S1 _ h1 a vs H1 G1 g1 I1 r1 => ?_)
  split at h1
  · rename_i hl
    exact h1 _ H1 G1 g1 (I1.setOw r1 hl)
  · exact (h1 : False).elim
/-- several targets from a tuple -/
def GRs (W : Wx) (E : L2.St → XK) (g : TGs) (m : List Dy.D → List LV → Res Unit) : Prop := ∀ c T σ H G S ds vs (K : L2.St → Hp → Prop), StOk W c T σ H G S → RepL W G ds vs →
  PR W c T (E σ) σ (kG W c T K) G (m ds S) → g vs σ H K
def mgNil : List Dy.D → List LV → Res Unit := fun ds S => match ds with
  | [] => .ok () S
  | _ => .stuck
def mgCons (m : Dy.D → List LV → Res Unit) (r : List Dy.D → List LV → Res Unit) : List Dy.D → List LV → Res Unit := fun ds S => match ds with
  | [] => .stuck
  | d :: ds => (m d S).bind fun _ S1 => r ds S1
theorem grs_nil : GRs W E gNil mgNil := fun c T σ H G S ds vs K I r h => by
  cases ds with
  | nil => rw [RepL] at r; exact ⟨r, h σ H G GLe.rfl I⟩
  | cons d ds => exact (h : False).elim
theorem PR.sig {α : Type} {E E' : XK} {k : Hp → α → List LV → Prop} {m : Res α} (h : PR W c T E σ k G m) (hn : ∀ e S, m ≠ .er e S) {σ' : L2.St} : PR W c T E' σ' k G m := by
  cases m with
  | stuck => exact h
  | ok x S => exact h
  | er e S => exact absurd rfl (hn e S)
/-- a target that raises nothing -/
def NoEr (m : Dy.D → List LV → Res Unit) : Prop := ∀ d S e S', m d S ≠ .er e S'
def NoErs (m : List Dy.D → List LV → Res Unit) : Prop := ∀ d S e S', m d S ≠ .er e S'
theorem noer_name {i : Nat} : NoEr (mgName i) := fun d S e S' z => by cases z
theorem noers_nil : NoErs mgNil := fun d S e S' z => by
  unfold mgNil at z
  split at z <;> cases z
theorem noers_cons {m : Dy.D → List LV → Res Unit} {r : List Dy.D → List LV → Res Unit} (h : NoEr m) (t : NoErs r) : NoErs (mgCons m r) := fun ds S e S' z => by
  cases ds with
  | nil => cases z
  | cons d ds =>
    replace z : ((m d S).bind fun _ S1 => r ds S1) = .er e S' := z
    cases q : m d S with
    | stuck => rw [q] at z; cases z
    | ok x S1 => rw [q] at z; exact t ds S1 e S' z
    | er e2 S2 => exact h d S e2 S2 q
theorem grs_cons {g : TG} {gs : TGs} {m : Dy.D → List LV → Res Unit} {r : List Dy.D → List LV → Res Unit} (h : GR W E g m) (n : NoErs r) (t : GRs W E gs r) : GRs W E (gCons g gs) (mgCons m r) := fun c T σ H G S ds vs K I q hk => by
  cases ds with
  | nil => exact (hk : False).elim
  | cons d ds =>
    rw [RepL] at q
    obtain ⟨v, vs', rfl, r1, r2⟩ := q
    refine ⟨v, vs', rfl, h c T σ H G S d v _ I r1 (PR.bind (k := kG W c T K) hk fun _ S1 _ h1 σ' H' G' g' I' => ?_)⟩
    refine t c T σ' H' G' S1 ds vs' K I' (r2.mono g') (PR.sig (PR.mono mG g' h1) fun e S z => n ds S1 e S z)
def mgTup (n : Nat) (m : List Dy.D → List LV → Res Unit) : Dy.D → List LV → Res Unit := fun d S => match d with
  | .tup ds => if ds.length = n then m ds S else .stuck
  | _ => .stuck
theorem noer_tup {n : Nat} {m : List Dy.D → List LV → Res Unit} (h : NoErs m) : NoEr (mgTup n m) := fun d S e S' z => by
  unfold mgTup at z
  split at z
  · split at z
    · exact h _ _ _ _ z
    · cases z
  · cases z
theorem gr_tup {n : Nat} {gs : TGs} {m : List Dy.D → List LV → Res Unit} (h : GRs W E gs m) : GR W E (gTup W.K n gs) (mgTup n m) := fun c T σ H G S d v K I r hk => by
  unfold mgTup at hk
  split at hk
  · split at hk
    · rename_i ds hl
      obtain ⟨a, vs, rfl, q, r1⟩ := r.sqT I
      exact ⟨a, vs, rfl, q, by rw [r1.length]; exact hl, h c T σ H G S ds vs K I r1 hk⟩
    · exact (hk : False).elim
  · exact (hk : False).elim
/-- xs[i] = d of an own list -/
def mgSub (j : Nat) (mi : ME) : Dy.D → List LV → Res Unit := fun d S => match S[j]? with
  | some (.ow _ _) => (mi S).bind fun y S1 => match S1[j]?, y.1 with
    | some (.ow ds p), .int k => match ixN ds.length k with
      | some n => .ok () (S1.set j (.ow (ds.set n d) p))
      | none => .stuck
    | _, _ => .stuck
  | _ => .stuck
theorem gr_sub {j : Nat} {ti : TE} {mi : ME} (hi : ER W E ti mi) : GR W E (gSub (tVar j) ti rSetL) (mgSub j mi) := fun c T σ H G S d v K I r hk => by
  unfold mgSub at hk
  split at hk
  · rename_i ds0 p0 e0
    obtain ⟨a, vs0, ea, _⟩ := I.ow _ _ _ e0
    refine ⟨_, ea, hi c T σ H G S _ I (PR.bind (k := kG W c T K) hk fun y S1 _ h1 u H1 G1 g1 I1 r1 t1 => ?_)⟩
    split at h1
    · rename_i ds p k z1 z2
      split at h1
      · rename_i n hn
        obtain ⟨b, ws, f1, f2, f3, q, _⟩ := I1.ow _ _ _ z1
        rw [ea] at f1; cases f1
        rw [z2, rep_int] at r1; subst r1
        refine ⟨a, ws, k, n, rfl, rfl, f2, by rw [q.length]; exact hn, ?_⟩
        exact h1 σ _ G1 g1 (I1.setOwn z1 ea f2 (RepL.set (r.mono g1) n q))
      · exact (h1 : False).elim
    · exact (h1 : False).elim
  · exact (hk : False).elim
/-- name op= e -/
def mAug (i : Nat) (f : Dy.D → Dy.D → Option Dy.D) (me : ME) : MS := fun S => match S[i]? with
  | some (.im d _) => (me S).sb fun y S1 => match f d y.1 with
    | some z => .nx (S1.set i (.im z false))
    | none => .stuck
  | _ => .stuck
theorem sr_aug {i : Nat} {r : R2} {f : Dy.D → Dy.D → Option Dy.D} {te : TE} {me : ME} (hr : OpD W r f) (h : ER W E te me) : SR W E (tAug i te r) (mAug i f me) := fun c T σ H G S D I hq => by
  unfold mAug at hq
  split at hq
  · rename_i d o e
    obtain ⟨v, e1, rv, _⟩ := I.im i d o e
    refine ⟨v, e1, h c T σ H G S _ I (hq.sb fun y S1 _ h1 u H1 G1 g1 I1 r1 t1 => ?_)⟩
    split at h1
    · rename_i z hz
      exact hr c T σ H1 G1 S1 v u d y.1 z _ I1 (rv.mono g1) r1 hz fun w H' G' g' I' r' => h1 _ H' G' (g1.trans g') (I'.setIm r')
    · exact (h1 : False).elim
  · exact (hq : False).elim
def mDrop (me : ME) : MS := fun S => (me S).sb fun _ S1 => .nx S1
theorem sr_drop {te : TE} {me : ME} (h : ER W E te me) : SR W E (tDrop te) (mDrop me) := fun c T σ H G S D I hq =>
  h c T σ H G S _ I (hq.sb fun x S1 _ h1 v H1 G1 g1 I1 r1 t1 => h1 σ H1 G1 g1 I1)
end Dy

set_option Elab.async false
set_option linter.all false
set_option maxRecDepth 100000
set_option maxHeartbeats 4000000
namespace Dy
open PySem PySem.Spec L2
variable {W : Wx} {c : Cn} {T : Tm} {σ : L2.St} {H G : Hp} {S : List LV} {E : L2.St → XK} {De : Ends}

/-! ### methods of own lists -/
theorem own_list (I : StOk W c T σ H G S) {i : Nat} {ds : List D} {p : Bool} (e : S[i]? = some (.ow ds p)) : ∃ a vs, σ[i]? = some (some (.ref a)) ∧ H a = some (.lst vs) ∧ RepL W G ds vs ∧ tyV W.K "list" (.ref a) H := by
  obtain ⟨a, vs, e1, e2, e3, r, _⟩ := I.ow _ _ _ e
  exact ⟨a, vs, e1, e2, r, .inl ⟨rfl, vs, SqL.of e2⟩⟩
def mApp (i : Nat) (me : ME) : MS := fun S => match S[i]? with
  | some (.ow _ _) => (me S).sb fun x S1 => match S1[i]? with
    | some (.ow ds p) => if ds.length < LIM then .nx (S1.set i (.ow (ds ++ [x.1]) p)) else .stuck
    | _ => .stuck
  | _ => .stuck
theorem sr_app {i : Nat} {te : TE} {me : ME} (h : ER W E te me) : SR W E (tDrop (tBM W.K "list" rAppend (tVar i) (tCons te tNil))) (mApp i me) := fun c T σ H G S D I hq => by
  unfold mApp at hq
  split at hq
  · rename_i ds0 p0 e0
    obtain ⟨a, vs0, ea, eh, r0, ty⟩ := own_list I e0
    refine ⟨_, ea, ty, h c T σ H G S _ I (hq.sb fun x S1 _ h1 v H1 G1 g1 I1 r1 t1 => ?_)⟩
    split at h1
    · rename_i ds p e1
      split at h1
      · rename_i hl
        obtain ⟨b, vs, ea', eh', r, _⟩ := own_list I1 e1
        rw [ea] at ea'; cases ea'
        refine ⟨a, vs, v, rfl, rfl, eh', by rw [r.length]; exact lim_lt (Nat.le_of_lt hl), ?_⟩
        exact h1 σ _ G1 g1 (I1.setOwn e1 ea eh' (RepL.app r (RepL.cons r1 RepL.nil)))
      · exact (h1 : False).elim
    · exact (h1 : False).elim
  · exact (hq : False).elim
/-- xs.pop(k) of an own list, as a value -/
def mPopAt (i : Nat) (me : ME) : ME := fun S => match S[i]? with
  | some (.ow _ _) => (me S).bind fun x S1 => match S1[i]?, x.1 with
    | some (.ow ds p), .int k => if -1000000 < k ∧ k < 1000000 then (match seqIndex? k ds.length with
      | some n => (match ds[n]? with
        | some d => .ok (d, none) (S1.set i (.ow (ds.eraseIdx n) p))
        | none => .stuck)
      | none => .stuck) else .stuck
    | _, _ => .stuck
  | _ => .stuck
theorem er_popAt {i : Nat} {te : TE} {me : ME} (h : ER W E te me) : ER W E (tBM W.K "list" rPopAt (tVar i) (tCons te tNil)) (mPopAt i me) := fun c T σ H G S Q I hq => by
  unfold mPopAt at hq
  split at hq
  · rename_i ds0 p0 e0
    obtain ⟨a, vs0, ea, eh, r0, ty⟩ := own_list I e0
    refine ⟨_, ea, ty, h c T σ H G S _ I (hq.bind fun x S1 _ h1 v H1 G1 g1 I1 r1 t1 => ?_)⟩
    split at h1
    · rename_i ds p k e1 e2
      split at h1
      · rename_i hk
        split at h1
        · rename_i n hn
          split at h1
          · rename_i d hd
            obtain ⟨b, vs, ea', eh', r, _⟩ := own_list I1 e1
            rw [ea] at ea'; cases ea'
            rw [e2, rep_int] at r1; subst r1
            obtain ⟨u, hu, ru⟩ := r.get hd
            refine ⟨a, vs, k, n, u, rfl, rfl, eh', by omega, by omega, by rw [r.length]; exact hn, hu, ?_⟩
            exact h1 u _ G1 g1 (I1.setOwn e1 ea eh' (RepL.erase n r)) ru tok_none
          · exact (h1 : False).elim
        · exact (h1 : False).elim
      · exact (h1 : False).elim
    · exact (h1 : False).elim
  · exact (hq : False).elim
/-- xs.pop() -/
def mPop (i : Nat) : ME := fun S => match S[i]? with
  | some (.ow ds p) => (match ds[ds.length - 1]? with
    | some d => .ok (d, none) (S.set i (.ow ds.dropLast p))
    | none => .stuck)
  | _ => .stuck
theorem er_pop {i : Nat} : ER W E (tBM0 W.K "list" rPop (tVar i)) (mPop i) := fun c T σ H G S Q I hq => by
  unfold mPop at hq
  split at hq
  · rename_i ds p e
    split at hq
    · rename_i d hd
      obtain ⟨a, vs, ea, eh, r, ty⟩ := own_list I e
      obtain ⟨u, hu, ru⟩ := r.get hd
      refine ⟨_, ea, ty, a, vs, u, rfl, rfl, eh, by rw [r.length]; exact hu, ?_⟩
      refine hq u _ G GLe.rfl (I.setOwn e ea eh ?_) ru tok_none
      rw [List.dropLast_eq_take, List.dropLast_eq_take, r.length]
      exact RepL.take _ r
    · exact (hq : False).elim
  · exact (hq : False).elim
/-- xs.extend(a fresh list) -/
def mExt (i : Nat) (me : MF) : MS := fun S => match S[i]? with
  | some (.ow _ _) => (me S).sb fun es S1 => match S1[i]? with
    | some (.ow ds p) => if ds.length + es.length ≤ LIM then .nx (S1.set i (.ow (ds ++ es) p)) else .stuck
    | _ => .stuck
  | _ => .stuck
theorem sr_ext {i : Nat} {te : TE} {me : MF} (h : EF W E te me) : SR W E (tDrop (tBM W.K "list" rExtend (tVar i) (tCons te tNil))) (mExt i me) := fun c T σ H G S D I hq => by
  unfold mExt at hq
  split at hq
  · rename_i ds0 p0 e0
    obtain ⟨a, vs0, ea, eh, r0, ty⟩ := own_list I e0
    refine ⟨_, ea, ty, h c T σ H G S _ I (hq.sb fun es S1 _ h1 b ws H1 G1 g1 I1 r1 => ?_)⟩
    split at h1
    · rename_i ds p e1
      split at h1
      · rename_i hl
        obtain ⟨a', vs, ea', eh', r, _⟩ := own_list I1 e1
        rw [ea] at ea'; cases ea'
        refine ⟨a, b, vs, ws, rfl, rfl, eh', (I1.tm _ List.mem_cons_self).1, by rw [r.length, r1.length]; exact lim_line hl, ?_⟩
        exact h1 σ _ G1 g1 (I1.drop.setOwn e1 ea eh' (RepL.app r r1))
      · exact (h1 : False).elim
    · exact (h1 : False).elim
  · exact (hq : False).elim

/-! ### a, b = x, y -/
inductive XV where
  | im (d : D) | ow (ds : List D)
def XV.lv : XV → LV
  | .im d => .im d false
  | .ow ds => .ow ds false
def kX (W : Wx) (c : Cn) (T : Tm) (σ : L2.St) (Q : VK) : Hp → XV → List LV → Prop := fun G x S => match x with
  | .im d => ∀ v H' G', GLe G G' → StOk W c T σ H' G' S → Rep W G' d v → Q v H'
  | .ow ds => ∀ a vs H' G', GLe G G' → StOk W c ((a, .lst vs) :: T) σ H' G' S → RepL W G' ds vs → Q (.ref a) H'
theorem mX {Q : VK} : Mono (kX W c T σ Q) := fun G G1 x S g h => by
  cases x with
  | im d => exact fun v H' G' g' => h v H' G' (g.trans g')
  | ow d => exact fun a v H' G' g' => h a v H' G' (g.trans g')
def XR (W : Wx) (E : L2.St → XK) (te : TE) (m : List LV → Res XV) : Prop := ∀ c T σ H G S (Q : VK), StOk W c T σ H G S → PR W c T (E σ) σ (kX W c T σ Q) G (m S) → te σ H Q
def mXi (me : ME) : List LV → Res XV := fun S => (me S).bind fun x S1 => .ok (.im x.1) S1
def mXo (me : MF) : List LV → Res XV := fun S => (me S).bind fun x S1 => .ok (.ow x) S1
theorem xr_i {te : TE} {me : ME} (h : ER W E te me) : XR W E te (mXi me) := fun c T σ H G S Q I hq =>
  h c T σ H G S Q I (hq.bind fun x S1 _ h1 v H1 G1 g1 I1 r1 t1 => h1 v H1 G1 g1 I1 r1)
theorem xr_o {te : TE} {me : MF} (h : EF W E te me) : XR W E te (mXo me) := fun c T σ H G S Q I hq =>
  h c T σ H G S Q I (hq.bind fun x S1 _ h1 a vs H1 G1 g1 I1 r1 => h1 a vs H1 G1 g1 I1 r1)
theorem set_comm' {α : Type} {l : List α} {i j : Nat} {x y : α} (h : i ≠ j) : (l.set i x).set j y = (l.set j y).set i x := List.set_comm _ _ h
def mPar (i j : Nat) (m1 m2 : List LV → Res XV) : MS := fun S => (m1 S).sb fun x S1 => (m2 S1).sb fun y S2 => if i < S2.length ∧ j < S2.length then .nx ((S2.set j y.lv).set i x.lv) else .stuck
theorem sr_par {i j : Nat} {t1 t2 : TE} {m1 m2 : List LV → Res XV} (hij : i ≠ j) (h1 : XR W E t1 m1) (h2 : XR W E t2 m2) : SR W E (tPar i j (tCons t1 (tCons t2 tNil))) (mPar i j m1 m2) := fun c T σ H G S D I hq => by
  refine h1 c T σ H G S _ I (hq.sb fun x S1 _ q1 => ?_)
  cases x with
  | im d =>
    refine fun v H1 G1 g1 I1 r1 => h2 c T σ H1 G1 S1 _ I1 ((q1.mono g1).sb fun y S2 _ q2 => ?_)
    cases y with
    | im e =>
      refine fun u H2 G2 g2 I2 r2 => ⟨v, u, rfl, ?_⟩
      split at q2
      · have J := (I2.setIm (i := j) r2).setIm (i := i) (r1.mono g2)
        rw [set_comm' (Ne.symm hij)] at J
        exact q2 _ H2 G2 g2 J
      · exact (q2 : False).elim
    | ow es =>
      refine fun b ws H2 G2 g2 I2 r2 => ⟨v, .ref b, rfl, ?_⟩
      split at q2
      · rename_i hl
        have J := (I2.setOw (i := j) r2 hl.2).setIm (i := i) (r1.mono g2)
        rw [set_comm' (Ne.symm hij)] at J
        exact q2 _ H2 G2 g2 J
      · exact (q2 : False).elim
  | ow ds =>
    refine fun a vs H1 G1 g1 I1 r1 => h2 c _ σ H1 G1 S1 _ I1 (PR.tail ((q1.mono g1).sb fun y S2 _ q2 => ?_))
    cases y with
    | im e =>
      refine fun u H2 G2 g2 I2 r2 => ⟨.ref a, u, rfl, ?_⟩
      split at q2
      · rename_i hl
        have J := (I2.setIm (i := j) r2).setOw (i := i) (r1.mono g2) (by rw [List.length_set]; exact hl.1)
        rw [set_comm' (Ne.symm hij)] at J
        exact q2 _ H2 G2 g2 J
      · exact (q2 : False).elim
    | ow es =>
      refine fun b ws H2 G2 g2 I2 r2 => ⟨.ref a, .ref b, rfl, ?_⟩
      split at q2
      · rename_i hl
        have J := (I2.setOw (i := j) r2 hl.2).setOw (i := i) (r1.mono g2) (by rw [List.length_set]; exact hl.1)
        rw [set_comm' (Ne.symm hij)] at J
        exact q2 _ H2 G2 g2 J
      · exact (q2 : False).elim
/-- three at once, all immutable -/
def mPar3 (i j l : Nat) (m1 m2 m3 : ME) : MS := fun S => (m1 S).sb fun x S1 => (m2 S1).sb fun y S2 => (m3 S2).sb fun z S3 => .nx (((S3.set i (.im x.1 false)).set j (.im y.1 false)).set l (.im z.1 false))
theorem sr_par3 {i j l : Nat} {t1 t2 t3 : TE} {m1 m2 m3 : ME} (h1 : ER W E t1 m1) (h2 : ER W E t2 m2) (h3 : ER W E t3 m3) : SR W E (tPar3 i j l (tCons t1 (tCons t2 (tCons t3 tNil)))) (mPar3 i j l m1 m2 m3) := fun c T σ H G S D I hq => by
  refine h1 c T σ H G S _ I (hq.sb fun x S1 _ q1 v H1 G1 g1 I1 r1 t1 => ?_)
  refine h2 c T σ H1 G1 S1 _ I1 ((q1.mono g1).sb fun y S2 _ q2 u H2 G2 g2 I2 r2 t2 => ?_)
  refine h3 c T σ H2 G2 S2 _ I2 ((q2.mono g2).sb fun z S3 _ q3 w H3 G3 g3 I3 r3 t3 => ?_)
  exact ⟨v, u, w, rfl, q3 _ H3 G3 g3 (((I3.setIm ((r1.mono g2).mono g3)).setIm (r2.mono g3)).setIm r3)⟩

/-! ### while -/
def mWhile (mt : MT) (mb : MS) : Nat → MS
  | 0 => fun _ => .stuck
  | n + 1 => fun S => (mt S).sb fun x S1 => if x = true then (match mb S1 with
    | .nx S2 => mWhile mt mb n S2
    | .ct S2 => mWhile mt mb n S2
    | .bk S2 => .nx S2
    | r => r) else .nx S1
theorem sr_while {n : Nat} {tc : TT} {tb : TS} {mt : MT} {mb : MS} (hc : TR W E tc mt) (hb : SR W E tb mb) : SR W E (tWhile tc tb) (mWhile mt mb n) := fun c T σ H G S D I hq => by
  refine ⟨fun m σ' H' => ∃ G' S', GLe G G' ∧ StOk W c T σ' H' G' S' ∧ SPo W c T E D G' (mWhile mt mb m S'), ⟨n, G, S, GLe.rfl, I, hq⟩, ?_⟩
  rintro m σ1 H1 ⟨G1, S1, g1, I1, q1⟩
  cases m with
  | zero => exact (q1 : False).elim
  | succ m =>
    unfold mWhile at q1
    refine hc c T σ1 H1 G1 S1 _ I1 (q1.sb fun x S2 _ q2 H2 G2 g2 I2 => ?_)
    have q3 := q2.mono g2
    cases x with
    | true =>
      rw [if_pos rfl] at q3
      refine (if_pos rfl : (if (true : Bool) = true then _ else _) = _).mpr ⟨fun σ' H' => ∃ G' S', GLe G G' ∧ StOk W c T σ' H' G' S' ∧ SPo W c T E D G' (mWhile mt mb m S'), fun σ' H' w => ⟨m, Nat.lt_succ_self m, w⟩, hb c T σ1 H2 G2 S2 _ I2 ?_⟩
      cases e : mb S2 with
      | nx S3 => rw [e] at q3; exact fun σ' H' G' g I' => ⟨G', S3, (g1.trans g2).trans g, I', q3.mono g⟩
      | ct S3 => rw [e] at q3; exact fun σ' H' G' g I' => ⟨G', S3, (g1.trans g2).trans g, I', q3.mono g⟩
      | bk S3 => rw [e] at q3; exact q3
      | stuck => rw [e] at q3; exact q3
      | rt _ _ => rw [e] at q3; exact q3
      | rf _ _ => rw [e] at q3; exact q3
      | er _ _ => rw [e] at q3; exact q3
    | false =>
      rw [if_neg Bool.false_ne_true] at q3
      exact (if_neg Bool.false_ne_true : (if (false : Bool) = true then _ else _) = _).mpr (q3 σ1 H2 G2 GLe.rfl I2)

/-! ### what is walked -/
def Yl (W : Wx) (c : Cn) (J : It) (G : Hp) (ds : List D) : Prop := ∀ (i : Nat) T' σ' H' G' S', GLe G G' → StOk W c T' σ' H' G' S' →
  (∀ d, ds[i]? = some d → J.go i H' ∧ ∀ x H'', J.yld i H' x H'' → ∃ G'', GLe G' G'' ∧ StOk W c T' σ' H'' G'' S' ∧ Rep W G'' d x) ∧ (ds.length ≤ i → J.stop i H')
theorem Yl.mono {J : It} {ds : List D} {G' : Hp} (g : GLe G G') (h : Yl W c J G ds) : Yl W c J G' ds := fun i T' σ' H' G2 S' g' I => h i T' σ' H' G2 S' (g.trans g') I
def kW (W : Wx) (c : Cn) (T : Tm) (σ : L2.St) (R : It → Hp → Prop) : Hp → List D → List LV → Prop := fun G ds S => ∀ J H' G', GLe G G' → StOk W c T σ H' G' S → Yl W c J G' ds → R J H'
theorem mW {R : It → Hp → Prop} : Mono (kW W c T σ R) := fun _ _ _ _ g h J H' G' g' => h J H' G' (g.trans g')
def IR (W : Wx) (E : L2.St → XK) (wi : TI) (m : MF) : Prop := ∀ c T σ H G S (R : It → Hp → Prop), StOk W c T σ H G S → PR W c T (E σ) σ (kW W c T σ R) G (m S) → wi σ H R
theorem yl_list {a : Addr} {ds : List D} (r : Rep W G (.lst ds) (.ref a)) : Yl W c (Itl W.K a) G ds := fun i T' σ' H' G' S' g I => by
  obtain ⟨b, vs, e, h, q⟩ := (r.mono g).sqL I
  cases e
  refine ⟨fun d hd => ?_, fun hl => ⟨vs, h, by rw [q.length]; exact hl⟩⟩
  obtain ⟨v, hv, rv⟩ := q.get hd
  refine ⟨⟨vs, v, h, hv⟩, fun x H'' y => ?_⟩
  obtain ⟨rfl, y⟩ := y
  have := y vs h
  rw [hv] at this; cases this
  exact ⟨G', GLe.rfl, I, rv⟩
theorem yl_tup {a : Addr} {ds : List D} (r : Rep W G (.tup ds) (.ref a)) : Yl W c (Itt W.K a) G ds := fun i T' σ' H' G' S' g I => by
  obtain ⟨b, vs, e, h, q⟩ := (r.mono g).sqT I
  cases e
  refine ⟨fun d hd => ?_, fun hl => ⟨vs, h, by rw [q.length]; exact hl⟩⟩
  obtain ⟨v, hv, rv⟩ := q.get hd
  refine ⟨⟨vs, v, h, hv⟩, fun x H'' y => ?_⟩
  obtain ⟨rfl, y⟩ := y
  have := y vs h
  rw [hv] at this; cases this
  exact ⟨G', GLe.rfl, I, rv⟩
/-- the signs of a text -/
def signs (z : Str) : List D := z.cps.toList.map fun ch => .str ⟨#[ch]⟩
theorem yl_str {z : Str} : Yl W c (Its z) G (signs z) := fun i T' σ' H' G' S' g I => by
  refine ⟨fun d hd => ?_, fun hl => ?_⟩
  · unfold signs at hd
    rw [List.getElem?_map] at hd
    cases e : z.cps.toList[i]? with
    | none => rw [e] at hd; cases hd
    | some ch =>
      rw [e] at hd; cases hd
      have e' : z.cps[i]? = some ch := by simpa using e
      have hi : i < z.cps.size := (Array.getElem?_eq_some_iff.mp e').1
      refine ⟨hi, fun x H'' y => ?_⟩
      obtain ⟨rfl, c', h1, h2⟩ := y
      rw [e'] at h1; cases h1
      exact ⟨G', GLe.rfl, I, by rw [rep_str]; exact h2⟩
  · have : z.cps.size ≤ i := by simpa [signs] using hl
    exact this
/-- a list, a tuple, a text -/
def iSeq (K : PySem.W.Frag) (te : TE) : TI := fun σ H R => iList K te σ H R ∨ iTup K te σ H R ∨ iStr te σ H R
def TEmono (te : TE) : Prop := ∀ σ H (Q Q' : VK), (∀ v H', Q v H' → Q' v H') → te σ H Q → te σ H Q'
/-- what is walked is chosen behind the value -/
def iAny (K : PySem.W.Frag) (te : TE) : TI := fun σ H R => te σ H fun x H1 => (∃ a, x = .ref a ∧ (∃ xs, SqL K H1 a xs) ∧ R (Itl K a) H1) ∨ (∃ a, x = .ref a ∧ (∃ xs, SqT K H1 a xs) ∧ R (Itt K a) H1) ∨ ∃ z, x = .str z ∧ R (Its z) H1
def itemsD : D → Option (List D)
  | .lst ds => some ds
  | .tup ds => some ds
  | .str z => some (signs z)
  | _ => none
def mItems (me : ME) : MF := fun S => (me S).bind fun x S1 => Res.of (itemsD x.1) S1
theorem ir_any {te : TE} {me : ME} (h : ER W E te me) : IR W E (iAny W.K te) (mItems me) := fun c T σ H G S R I hq => by
  refine h c T σ H G S _ I (hq.bind fun x S1 _ h1 v H1 G1 g1 I1 r1 t1 => ?_)
  obtain ⟨d, t⟩ := x
  cases d with
  | lst ds =>
    obtain ⟨a, vs, rfl, q, r2⟩ := r1.sqL I1
    exact .inl ⟨a, rfl, ⟨vs, q⟩, h1 _ H1 G1 g1 I1 (yl_list r1)⟩
  | tup ds =>
    obtain ⟨a, vs, rfl, q, r2⟩ := r1.sqT I1
    exact .inr (.inl ⟨a, rfl, ⟨vs, q⟩, h1 _ H1 G1 g1 I1 (yl_tup r1)⟩)
  | str z =>
    rw [rep_str] at r1
    exact .inr (.inr ⟨z, r1, h1 _ H1 G1 g1 I1 yl_str⟩)
  | _ => exact (h1 : False).elim
/-- lo, lo + 1, .. -/
def rangeD (lo : Int) (n : Nat) : List D := (List.range n).map fun i => .int (lo + (i : Nat))
theorem yl_range {lo : Int} {n : Nat} : Yl W c (Itr lo n) G (rangeD lo n) := fun i T' σ' H' G' S' g I => by
  refine ⟨fun d hd => ?_, fun hl => (show n ≤ i by simpa [rangeD] using hl)⟩
  unfold rangeD at hd
  rw [List.getElem?_map] at hd
  cases e : (List.range n)[i]? with
  | none => rw [e] at hd; cases hd
  | some k =>
    rw [e] at hd; cases hd
    obtain ⟨h1, h2⟩ := List.getElem?_eq_some_iff.mp e
    rw [List.length_range] at h1
    rw [List.getElem_range] at h2
    subst h2
    refine ⟨h1, fun x H'' y => ?_⟩
    obtain ⟨rfl, rfl⟩ := y
    exact ⟨G', GLe.rfl, I, by rw [rep_int]⟩
def RLIM : Int := 2 ^ 40
def mRng1 (m : MF) : MF := fun S => (m S).bind fun ds S1 => match ds with
  | [.int j] => if -RLIM ≤ j ∧ j ≤ RLIM then .ok (rangeD 0 j.toNat) S1 else .stuck
  | _ => .stuck
def mRng2 (m : MF) : MF := fun S => (m S).bind fun ds S1 => match ds with
  | [.int i, .int j] => if -RLIM ≤ i ∧ i ≤ RLIM ∧ -RLIM ≤ j ∧ j ≤ RLIM then .ok (rangeD i (j - i).toNat) S1 else .stuck
  | _ => .stuck
theorem ir_rng1 {ta : TA} {m : MF} (h : AI W E ta m) : IR W E (iRng1 ta) (mRng1 m) := fun c T σ H G S R I hq => by
  refine h c T σ H G S _ I (hq.bind fun ds S1 e0 h1 vs H1 G1 g1 I1 r1 => ?_)
  split at h1
  · rename_i j
    split at h1
    · rename_i hj
      obtain ⟨v, rfl, r2⟩ := repL1 r1
      rw [rep_int] at r2; subst r2
      unfold RLIM at hj
      exact ⟨j, rfl, by omega, by omega, h1 _ H1 G1 g1 I1 yl_range⟩
    · exact (h1 : False).elim
  · exact (h1 : False).elim
theorem ir_rng2 {ta : TA} {m : MF} (h : AI W E ta m) : IR W E (iRng2 ta) (mRng2 m) := fun c T σ H G S R I hq => by
  refine h c T σ H G S _ I (hq.bind fun ds S1 e0 h1 vs H1 G1 g1 I1 r1 => ?_)
  split at h1
  · rename_i i j
    split at h1
    · rename_i hj
      obtain ⟨v, u, rfl, r2, r3⟩ := repL2 r1
      rw [rep_int] at r2 r3; subst r2 r3
      unfold RLIM at hj
      exact ⟨i, j, rfl, ⟨by omega, by omega, by omega, by omega⟩, h1 _ H1 G1 g1 I1 yl_range⟩
    · exact (h1 : False).elim
  · exact (h1 : False).elim
/-- reversed(a list) -/
theorem yl_rev {a : Addr} {ds : List D} (r : Rep W G (.lst ds) (.ref a)) : Yl W c (Itv W.K a ds.length) G ds.reverse := fun i T' σ' H' G' S' g I => by
  obtain ⟨b, vs, e, h, q⟩ := (r.mono g).sqL I
  cases e
  refine ⟨fun d hd => ?_, fun hl => (show ds.length ≤ i by simpa using hl)⟩
  have hi : i < ds.length := by
    have := lt_of_get hd
    simpa using this
  rw [List.getElem?_reverse hi] at hd
  obtain ⟨v, hv, rv⟩ := q.get hd
  refine ⟨⟨hi, vs, v, h, hv⟩, fun x H'' y => ?_⟩
  obtain ⟨rfl, y⟩ := y
  have := y vs h
  rw [hv] at this; cases this
  exact ⟨G', GLe.rfl, I, rv⟩
def mRevd (m : MF) : MF := fun S => (m S).bind fun ds S1 => match ds with
  | [.lst es] => .ok es.reverse S1
  | _ => .stuck
theorem ir_rev {ta : TA} {m : MF} (h : AI W E ta m) : IR W E (iRev W.K ta) (mRevd m) := fun c T σ H G S R I hq => by
  refine h c T σ H G S _ I (hq.bind fun ds S1 _ h1 vs H1 G1 g1 I1 r1 => ?_)
  split at h1
  · rename_i es
    obtain ⟨v, rfl, r2⟩ := repL1 r1
    obtain ⟨a, ws, rfl, q, r3⟩ := r2.sqL I1
    have y := h1 _ H1 G1 g1 I1 (yl_rev r2)
    rw [← r3.length] at y
    exact ⟨a, ws, rfl, q, y⟩
  · exact (h1 : False).elim
def enumFrom (n : Nat) : List D → List D
  | [] => []
  | d :: ds => .tup [.int n, d] :: enumFrom (n + 1) ds
theorem enumFrom_get : ∀ (ds : List D) (n i : Nat), (enumFrom n ds)[i]? = (ds[i]?).map fun d => .tup [.int ((n + i : Nat) : Int), d]
  | [], n, i => by simp [enumFrom]
  | d :: ds, n, 0 => by simp [enumFrom]
  | d :: ds, n, i + 1 => by
    show (enumFrom (n + 1) ds)[i]? = (ds[i]?).map _
    rw [enumFrom_get ds (n + 1) i]
    have : n + 1 + i = n + (i + 1) := by omega
    rw [this]
theorem enumFrom_len : ∀ (ds : List D) (n : Nat), (enumFrom n ds).length = ds.length
  | [], n => rfl
  | d :: ds, n => by
    show (enumFrom (n + 1) ds).length + 1 = ds.length + 1
    rw [enumFrom_len ds (n + 1)]
theorem rep_pair (I : StOk W c T σ H G S) {p : Addr} {u v : V} {d e : D} (hp : H p = none) (r1 : Rep W G d u) (r2 : Rep W G e v) : ∃ G', GLe G G' ∧ StOk W c T σ (upd H p (.tup [u, v])) G' S ∧ Rep W G' (.tup [d, e]) (.ref p) := by
  have gu := gle_upd (o := HO.tup [u, v]) (I.le.none hp)
  exact ⟨_, gu, I.allocI hp no_tbl_tup, rep_tup upd_same (RepL.cons (r1.mono gu) (RepL.cons (r2.mono gu) RepL.nil))⟩
theorem yl_enum {a : Addr} {ds : List D} (r : Rep W G (.lst ds) (.ref a)) : Yl W c (Ite W.K a) G (enumFrom 0 ds) := fun i T' σ' H' G' S' g I => by
  obtain ⟨b, vs, e, h, q⟩ := (r.mono g).sqL I
  cases e
  refine ⟨fun d hd => ?_, fun hl => ⟨vs, h, by rw [q.length]; rw [enumFrom_len] at hl; exact hl⟩⟩
  rw [enumFrom_get] at hd
  cases e : ds[i]? with
  | none => rw [e] at hd; cases hd
  | some d0 =>
    rw [e] at hd; cases hd
    obtain ⟨v, hv, rv⟩ := q.get e
    refine ⟨⟨vs, v, h, hv⟩, fun x H'' y => ?_⟩
    obtain ⟨p, x0, rfl, hp, rfl, y⟩ := y
    have := y vs h
    rw [hv] at this; cases this
    rw [Nat.zero_add]
    exact rep_pair I hp (by rw [rep_int]) rv
def mEnum (m : MF) : MF := fun S => (m S).bind fun ds S1 => match ds with
  | [.lst es] => .ok (enumFrom 0 es) S1
  | _ => .stuck
theorem ir_enum {ta : TA} {m : MF} (h : AI W E ta m) : IR W E (iEnum W.K ta) (mEnum m) := fun c T σ H G S R I hq => by
  refine h c T σ H G S _ I (hq.bind fun ds S1 _ h1 vs H1 G1 g1 I1 r1 => ?_)
  split at h1
  · rename_i es
    obtain ⟨v, rfl, r2⟩ := repL1 r1
    obtain ⟨a, ws, rfl, q, r3⟩ := r2.sqL I1
    exact ⟨a, ws, rfl, q, h1 _ H1 G1 g1 I1 (yl_enum r2)⟩
  · exact (h1 : False).elim
def zipD : List D → List D → List D
  | d :: ds, e :: es => .tup [d, e] :: zipD ds es
  | _, _ => []
theorem zipD_get : ∀ (ds es : List D) (i : Nat), (zipD ds es)[i]? = match ds[i]?, es[i]? with
    | some d, some e => some (.tup [d, e])
    | _, _ => none
  | [], es, i => by simp [zipD]
  | d :: ds, [], i => by
    simp only [zipD, List.getElem?_nil]
    cases (d :: ds)[i]? <;> rfl
  | d :: ds, e :: es, 0 => by simp [zipD]
  | d :: ds, e :: es, i + 1 => by simpa [zipD] using zipD_get ds es i
theorem yl_zip {a b : Addr} {ds es : List D} (r : Rep W G (.lst ds) (.ref a)) (r' : Rep W G (.lst es) (.ref b)) : Yl W c (Itz W.K a b) G (zipD ds es) := fun i T' σ' H' G' S' g I => by
  obtain ⟨a', vs, e, h, q⟩ := (r.mono g).sqL I
  cases e
  obtain ⟨b', ws, e, h', q'⟩ := (r'.mono g).sqL I
  cases e
  refine ⟨fun d hd => ?_, fun hl => ⟨vs, ws, h, h', ?_⟩⟩
  · rw [zipD_get] at hd
    cases e : ds[i]? with
    | none => rw [e] at hd; cases hd
    | some d0 =>
      cases e' : es[i]? with
      | none => rw [e, e'] at hd; cases hd
      | some d1 =>
        rw [e, e'] at hd; cases hd
        obtain ⟨v, hv, rv⟩ := q.get e
        obtain ⟨u, hu, ru⟩ := q'.get e'
        refine ⟨⟨vs, ws, v, u, h, h', hv, hu⟩, fun x H'' y => ?_⟩
        obtain ⟨p, x0, y0, rfl, hp, rfl, y1, y2⟩ := y
        have := y1 vs h
        rw [hv] at this; cases this
        have := y2 ws h'
        rw [hu] at this; cases this
        exact rep_pair I hp rv ru
  · have : (zipD ds es)[i]? = none := List.getElem?_eq_none hl
    rw [zipD_get] at this
    rw [q.length, q'.length]
    cases e : ds[i]? with
    | none => exact .inl (List.getElem?_eq_none_iff.mp e)
    | some d0 =>
      cases e' : es[i]? with
      | none => exact .inr (List.getElem?_eq_none_iff.mp e')
      | some d1 => rw [e, e'] at this; cases this
theorem yl_zipT {a b : Addr} {ds es : List D} (r : Rep W G (.tup ds) (.ref a)) (r' : Rep W G (.tup es) (.ref b)) : Yl W c (RZ.ItzT W.K a b) G (zipD ds es) := fun i T' σ' H' G' S' g I => by
  obtain ⟨a', vs, e, h, q⟩ := (r.mono g).sqT I
  cases e
  obtain ⟨b', ws, e, h', q'⟩ := (r'.mono g).sqT I
  cases e
  refine ⟨fun d hd => ?_, fun hl => ⟨vs, ws, h, h', ?_⟩⟩
  · rw [zipD_get] at hd
    cases e : ds[i]? with
    | none => rw [e] at hd; cases hd
    | some d0 =>
      cases e' : es[i]? with
      | none => rw [e, e'] at hd; cases hd
      | some d1 =>
        rw [e, e'] at hd; cases hd
        obtain ⟨v, hv, rv⟩ := q.get e
        obtain ⟨u, hu, ru⟩ := q'.get e'
        refine ⟨⟨vs, ws, v, u, h, h', hv, hu⟩, fun x H'' y => ?_⟩
        obtain ⟨p, x0, y0, rfl, hp, rfl, y1, y2⟩ := y
        have := y1 vs h
        rw [hv] at this; cases this
        have := y2 ws h'
        rw [hu] at this; cases this
        exact rep_pair I hp rv ru
  · have : (zipD ds es)[i]? = none := List.getElem?_eq_none hl
    rw [zipD_get] at this
    rw [q.length, q'.length]
    cases e : ds[i]? with
    | none => exact .inl (List.getElem?_eq_none_iff.mp e)
    | some d0 =>
      cases e' : es[i]? with
      | none => exact .inr (List.getElem?_eq_none_iff.mp e')
      | some d1 => rw [e, e'] at this; cases this
def mZip (m : MF) : MF := fun S => (m S).bind fun ds S1 => match ds with
  | [.lst es, .lst fs] => .ok (zipD es fs) S1
  | [.tup es, .tup fs] => .ok (zipD es fs) S1
  | _ => .stuck
theorem ir_zip {ta : TA} {m : MF} (h : AI W E ta m) : IR W E (RZ.iZipA W.K ta) (mZip m) := fun c T σ H G S R I hq => by
  refine h c T σ H G S _ I (hq.bind fun ds S1 _ h1 vs H1 G1 g1 I1 r1 => ?_)
  split at h1
  · obtain ⟨v, u, rfl, r2, r3⟩ := repL2 r1
    obtain ⟨a, ws, rfl, q, r4⟩ := id (r2.sqL I1)
    obtain ⟨b, us, rfl, q', r5⟩ := id (r3.sqL I1)
    exact ⟨a, b, ws, us, rfl, .inl ⟨q, q', h1 _ H1 G1 g1 I1 (yl_zip r2 r3)⟩⟩
  · obtain ⟨v, u, rfl, r2, r3⟩ := repL2 r1
    obtain ⟨a, ws, rfl, q, r4⟩ := id (r2.sqT I1)
    obtain ⟨b, us, rfl, q', r5⟩ := id (r3.sqT I1)
    exact ⟨a, b, ws, us, rfl, .inr ⟨q, q', h1 _ H1 G1 g1 I1 (yl_zipT r2 r3)⟩⟩
  · exact (h1 : False).elim

/-! ### for -/
def mForL (mg : D → List LV → Res Unit) (mb : MS) : List D → MS
  | [] => fun S => .nx S
  | d :: r => fun S => (mg d S).sb fun _ S1 => match mb S1 with
    | .nx S2 => mForL mg mb r S2
    | .ct S2 => mForL mg mb r S2
    | .bk S2 => .nx S2
    | r => r
def mFor (mi : MF) (mg : D → List LV → Res Unit) (mb : MS) : MS := fun S => (mi S).sb fun ds S1 => mForL mg mb ds S1
theorem sr_for {wi : TI} {g : TG} {tb : TS} {mi : MF} {mg : D → List LV → Res Unit} {mb : MS} (hi : IR W E wi mi) (hg : GR W E g mg) (hb : SR W E tb mb) : SR W E (tFor wi g tb) (mFor mi mg mb) := fun c T σ H G S De I hq => by
  refine hi c T σ H G S _ I (hq.sb fun ds S1 _ h1 J H1 G1 g1 I1 y1 => ?_)
  refine ⟨fun i m σ' H' => ∃ G' S', m = ds.length - i ∧ GLe G1 G' ∧ StOk W c T σ' H' G' S' ∧ SPo W c T E De G' (mForL mg mb (ds.drop i) S'), ⟨ds.length, G1, S1, rfl, GLe.rfl, I1, h1.mono g1⟩, ?_⟩
  rintro i m σ2 H2 ⟨G2, S2, hm, g2, I2, q2⟩
  obtain ⟨yg, ys⟩ := y1 i T σ2 H2 G2 S2 g2 I2
  by_cases hi : i < ds.length
  · have hd : ds[i]? = some ds[i] := List.getElem?_eq_getElem hi
    obtain ⟨go, yy⟩ := yg _ hd
    rw [List.drop_eq_getElem_cons hi] at q2
    refine .inr ⟨go, fun σ' H' => ∃ G' S', GLe G1 G' ∧ StOk W c T σ' H' G' S' ∧ SPo W c T E De G' (mForL mg mb (ds.drop (i + 1)) S'), fun σ' H' ⟨G', S', a1, a2, a3⟩ => ⟨ds.length - (i + 1), by omega, G', S', rfl, a1, a2, a3⟩, fun x H' yx => ?_⟩
    obtain ⟨G3, g3, I3, r3⟩ := yy x H' yx
    replace q2 : SPo W c T E De G2 ((mg ds[i] S2).sb fun _ S1 => match mb S1 with
      | .nx S2 => mForL mg mb (ds.drop (i + 1)) S2
      | .ct S2 => mForL mg mb (ds.drop (i + 1)) S2
      | .bk S2 => .nx S2
      | r => r) := q2
    refine hg c T σ2 H' G3 S2 ds[i] x _ I3 r3 ((q2.mono g3).sb fun _ S4 _ q4 σ4 H4 G4 g4 I4 => ?_)
    have q5 := q4.mono g4
    refine hb c T σ4 H4 G4 S4 _ I4 ?_
    have gg := (g2.trans g3).trans g4
    cases e : mb S4 with
    | nx S5 => rw [e] at q5; exact fun σ' H' G' g I' => ⟨G', S5, gg.trans g, I', q5.mono g⟩
    | ct S5 => rw [e] at q5; exact fun σ' H' G' g I' => ⟨G', S5, gg.trans g, I', q5.mono g⟩
    | bk S5 => rw [e] at q5; exact q5
    | stuck => rw [e] at q5; exact q5
    | rt _ _ => rw [e] at q5; exact q5
    | rf _ _ => rw [e] at q5; exact q5
    | er _ _ => rw [e] at q5; exact q5
  · have hi' : ds.length ≤ i := by omega
    rw [List.drop_eq_nil_of_le hi'] at q2
    exact .inl ⟨ys hi', q2 σ2 H2 G2 GLe.rfl I2⟩
end Dy

set_option Elab.async false
set_option linter.all false
set_option maxRecDepth 100000
set_option maxHeartbeats 4000000
namespace Dy
open PySem PySem.Spec L2
variable {W : Wx} {c : Cn} {T : Tm} {σ : L2.St} {H G : Hp} {S : List LV} {E : L2.St → XK} {De : Ends}

/-! ### slots forgotten for a while -/
def wipeS (S : List LV) : List Nat → List LV
  | [] => S
  | v :: vs => (wipeS S vs).set v .no
def quietLV : LV → LV
  | .im d o => .im d o
  | _ => .no
def unwipe (S0 S : List LV) : List Nat → List LV
  | [] => S
  | v :: vs => (unwipe S0 S vs).set v (quietLV (S0.getD v .no))
theorem wipeS_length (S : List LV) : ∀ vs : List Nat, (wipeS S vs).length = S.length
  | [] => rfl
  | v :: vs => by unfold wipeS; rw [List.length_set, wipeS_length S vs]
theorem unwipe_length (S0 S : List LV) : ∀ vs : List Nat, (unwipe S0 S vs).length = S.length
  | [] => rfl
  | v :: vs => by unfold unwipe; rw [List.length_set, unwipe_length S0 S vs]
theorem wipeS_get {i : Nat} {x : LV} (hx : x ≠ .no) : ∀ {vs : List Nat}, (wipeS S vs)[i]? = some x → S[i]? = some x ∧ i ∉ vs
  | [], h => ⟨h, by simp⟩
  | v :: vs, h => by
    unfold wipeS at h
    by_cases hi : v = i
    · subst hi
      rw [List.getElem?_set] at h
      simp only [if_true] at h
      split at h
      · cases h; exact absurd rfl hx
      · cases h
    · rw [List.getElem?_set_ne hi] at h
      obtain ⟨h1, h2⟩ := wipeS_get hx h
      exact ⟨h1, by simp only [List.mem_cons, not_or]; exact ⟨fun e => hi e.symm, h2⟩⟩
theorem unwipe_get {S0 : List LV} {i : Nat} {x : LV} : ∀ {vs : List Nat}, (unwipe S0 S vs)[i]? = some x → (i ∉ vs ∧ S[i]? = some x) ∨ (i ∈ vs ∧ x = quietLV (S0.getD i .no))
  | [], h => .inl ⟨by simp, h⟩
  | v :: vs, h => by
    unfold unwipe at h
    by_cases hi : v = i
    · subst hi
      rw [List.getElem?_set] at h
      simp only [if_true] at h
      split at h
      · cases h; exact .inr ⟨List.mem_cons_self, rfl⟩
      · cases h
    · rw [List.getElem?_set_ne hi] at h
      rcases unwipe_get h with ⟨h1, h2⟩ | ⟨h1, h2⟩
      · exact .inl ⟨by simp only [List.mem_cons, not_or]; exact ⟨fun e => hi e.symm, h1⟩, h2⟩
      · exact .inr ⟨List.mem_cons_of_mem _ h1, h2⟩
theorem wipe_get {i : Nat} {x : V} (h : σ[i]? = some (some x)) : ∀ {vs : List Nat}, i ∉ vs → (wipe σ vs)[i]? = some (some x)
  | [], _ => h
  | v :: vs, hn => by
    simp only [List.mem_cons, not_or] at hn
    unfold wipe
    rw [List.getElem?_set_ne (Ne.symm hn.1)]
    exact wipe_get h hn.2
theorem owns_wipe {vs : List Nat} {i : Nat} {a : Addr} (o : Owns (wipe σ vs) (wipeS S vs) i a) : Owns σ S i a := by
  obtain ⟨e, o⟩ := o
  refine ⟨(wipe_some e).1, ?_⟩
  rcases o with ⟨ds, p, q⟩ | ⟨ks, ds, p, q⟩
  · exact .inl ⟨ds, p, (wipeS_get (fun z => by cases z) q).1⟩
  · exact .inr ⟨ks, ds, p, (wipeS_get (fun z => by cases z) q).1⟩
theorem StOk.wipe (I : StOk W c T σ H G S) (vs : List Nat) : StOk W c T (L2.wipe σ vs) H G (wipeS S vs) where
  le := I.le
  g0 := I.g0
  new := I.new
  fr := I.fr
  all := I.all
  im := fun i d o e => by
    obtain ⟨h1, h2⟩ := wipeS_get (fun z => by cases z) e
    obtain ⟨v, e1, r, k⟩ := I.im i d o h1
    exact ⟨v, wipe_get e1 h2, r, k⟩
  ow := fun i ds p e => by
    obtain ⟨h1, h2⟩ := wipeS_get (fun z => by cases z) e
    obtain ⟨a, vs', e1, r⟩ := I.ow i ds p h1
    exact ⟨a, vs', wipe_get e1 h2, r⟩
  od := fun i ks ds p e => by
    obtain ⟨h1, h2⟩ := wipeS_get (fun z => by cases z) e
    obtain ⟨a, vs', e1, r⟩ := I.od i ks ds p h1
    exact ⟨a, vs', wipe_get e1 h2, r⟩
  sep := fun i j a p q => I.sep i j a (owns_wipe p) (owns_wipe q)
  tm := fun p hp => by
    obtain ⟨h1, h2, h3, h4, h5⟩ := I.tm p hp
    exact ⟨h1, h2, h3, fun i o => h4 i (owns_wipe o), h5⟩
  tn := I.tn
  len := by rw [wipeS_length, wipe_length]; exact I.len
  tb := I.tb
  gt := I.gt
  cd := I.cd
  tg := I.tg
theorem quiet_im {x : LV} {d : D} {o : Bool} (h : quietLV x = .im d o) : x = .im d o := by
  cases x <;> simp only [quietLV] at h <;> first | exact h | cases h
theorem quiet_no {x y : LV} (h : quietLV x = y) : y = .no ∨ ∃ d o, y = .im d o := by
  cases x <;> simp only [quietLV] at h <;> subst h <;> first | exact .inl rfl | exact .inr ⟨_, _, rfl⟩
theorem owns_unwipe {S0 : List LV} {vs : List Nat} {i : Nat} {a : Addr} (o : Owns σ (unwipe S0 S vs) i a) : Owns (L2.wipe σ vs) S i a := by
  obtain ⟨e, o⟩ := o
  have key : ∀ x : LV, (unwipe S0 S vs)[i]? = some x → x ≠ .no → (∀ d o, x ≠ .im d o) → i ∉ vs ∧ S[i]? = some x := fun x q n1 n2 => by
    rcases unwipe_get q with ⟨h1, h2⟩ | ⟨h1, h2⟩
    · exact ⟨h1, h2⟩
    · rcases quiet_no h2.symm with z | ⟨d, o, z⟩
      · exact absurd z n1
      · exact absurd z (n2 d o)
  rcases o with ⟨ds, p, q⟩ | ⟨ks, ds, p, q⟩
  · obtain ⟨h1, h2⟩ := key _ q (fun z => by cases z) (fun _ _ z => by cases z)
    exact ⟨wipe_get e h1, .inl ⟨ds, p, h2⟩⟩
  · obtain ⟨h1, h2⟩ := key _ q (fun z => by cases z) (fun _ _ z => by cases z)
    exact ⟨wipe_get e h1, .inr ⟨ks, ds, p, h2⟩⟩
/-- the block is left -/
theorem StOk.unwipe {T0 : Tm} {H0 G0 : Hp} {S0 : List LV} {vs : List Nat} (I0 : StOk W c T0 σ H0 G0 S0) (g : GLe G0 G) (I : StOk W c T (L2.wipe σ vs) H G S) : StOk W c T σ H G (unwipe S0 S vs) where
  le := I.le
  g0 := I.g0
  new := I.new
  fr := I.fr
  all := I.all
  im := fun i d o e => by
    rcases unwipe_get e with ⟨h1, h2⟩ | ⟨h1, h2⟩
    · obtain ⟨v, e1, r, k⟩ := I.im i d o h2
      exact ⟨v, (wipe_some e1).1, r, k⟩
    · have z := quiet_im h2.symm
      have z2 : S0[i]? = some (.im d o) := by
        rw [List.getD_eq_getElem?_getD] at z
        cases q : S0[i]? with
        | none => rw [q] at z; cases z
        | some y => rw [q] at z; exact congrArg some z
      obtain ⟨v, e1, r, k⟩ := I0.im i d o z2
      exact ⟨v, e1, r.mono g, k⟩
  ow := fun i ds p e => by
    rcases unwipe_get e with ⟨h1, h2⟩ | ⟨h1, h2⟩
    · obtain ⟨a, vs', e1, r⟩ := I.ow i ds p h2
      exact ⟨a, vs', (wipe_some e1).1, r⟩
    · rcases quiet_no h2.symm with z | ⟨_, _, z⟩ <;> cases z
  od := fun i ks ds p e => by
    rcases unwipe_get e with ⟨h1, h2⟩ | ⟨h1, h2⟩
    · obtain ⟨a, vs', e1, r⟩ := I.od i ks ds p h2
      exact ⟨a, vs', (wipe_some e1).1, r⟩
    · rcases quiet_no h2.symm with z | ⟨_, _, z⟩ <;> cases z
  sep := fun i j a p q => I.sep i j a (owns_unwipe p) (owns_unwipe q)
  tm := fun p hp => by
    obtain ⟨h1, h2, h3, h4, h5⟩ := I.tm p hp
    exact ⟨h1, h2, h3, fun i o => h4 i (owns_unwipe o), h5⟩
  tn := I.tn
  len := by rw [unwipe_length, I.len, wipe_length]
  tb := I.tb
  gt := I.gt
  cd := I.cd
  tg := I.tg
/-- a temporary is written -/
theorem StOk.setTm {a : Addr} {o o' : HO} (I : StOk W c ((a, o) :: T) σ H G S) (hc : ∀ q c, o ≠ LamX.CodeO c q) (ho : ∀ ps, o' ≠ .tbl ps) : StOk W c ((a, o') :: T) σ (upd H a o') G S := by
  obtain ⟨h1, h2, h3, h4, h5⟩ := I.tm (a, o) List.mem_cons_self
  have hT : ∀ q ∈ T, q.1 ≠ a := fun q hq z => by
    have := I.tn
    rw [List.map_cons, List.nodup_cons] at this
    exact this.1 (List.mem_map.mpr ⟨q, hq, z⟩)
  have ng : ∀ b u, G b = some u → b ≠ a := fun b u e z => by rw [z, h2] at e; cases e
  have ne : ∀ b u, H b = some u → b ≠ a → upd H a o' b = some u := fun b u e n => by rw [upd_ne n]; exact e
  refine ⟨fun b u e => ?_, I.g0, I.new, fun b u e n m => ?_, fun b u e => ?_, I.im, fun i ds p e => ?_, fun i ks ds p e => ?_, I.sep, fun q hq => ?_, I.tn, I.len, tabs_upd I.tb fun u q => (by rw [h1] at q; cases q; exact ⟨h5, hc⟩), I.gt, cd_upd I.cd fun u q => (by rw [h1] at q; cases q; exact hc), I.tg.upd ho⟩
  · rcases I.le b u e with q | ⟨o2, kvs, e1, q⟩
    · exact .inl (ne _ _ q (ng _ _ e))
    · exact .inr ⟨o2, kvs, e1, ne _ _ q (ng _ _ e)⟩
  · have n0 : b ≠ a := fun z => by rw [z, h3] at e; cases e
    rcases I.fr b u e n m with q | ⟨l, o2, q⟩
    · exact .inl (ne _ _ q n0)
    · exact .inr ⟨l, o2, ne _ _ q n0⟩
  · have n0 : b ≠ a := fun z => by rw [z, h3] at e; cases e
    obtain ⟨u', q⟩ := I.all b u e
    exact ⟨u', ne _ _ q n0⟩
  · obtain ⟨b, vs, e1, e2, r⟩ := I.ow i ds p e
    have n0 : b ≠ a := fun z => h4 i ⟨by rw [← z]; exact e1, .inl ⟨_, _, e⟩⟩
    exact ⟨b, vs, e1, ne _ _ e2 n0, r⟩
  · obtain ⟨b, vs, e1, e2, r⟩ := I.od i ks ds p e
    have n0 : b ≠ a := fun z => h4 i ⟨by rw [← z]; exact e1, .inr ⟨_, _, _, e⟩⟩
    exact ⟨b, vs, e1, ne _ _ e2 n0, r⟩
  · rcases List.mem_cons.mp hq with rfl | hq
    · exact ⟨upd_same, h2, h3, h4, ho⟩
    · obtain ⟨q1, q2, q3, q4, q5⟩ := I.tm q (List.mem_cons_of_mem _ hq)
      exact ⟨ne _ _ q1 (hT q hq), q2, q3, q4, q5⟩

/-! ### targets of a block -/
abbrev kB (W : Wx) (c : Cn) (T : Tm) (σ : L2.St) (vs : List Nat) (K : L2.St → Hp → Prop) : Hp → Unit → List LV → Prop := fun G _ S' => ∀ σ' H' G', GLe G G' → L2.wipe σ' vs = L2.wipe σ vs → StOk W c T σ' H' G' S' → K σ' H'
def GB (W : Wx) (vs : List Nat) (g : TG) (m : Dy.D → List LV → Res Unit) : Prop := ∀ c T σ H G S d v (K : L2.St → Hp → Prop), StOk W c T σ H G S → Rep W G d v →
  (∀ S1, m d S = .ok () S1 → kB W c T σ vs K G () S1) → (∃ S1, m d S = .ok () S1) → g v σ H K
theorem wipe_set {i : Nat} {x : Option V} : ∀ {vs : List Nat}, i ∈ vs → L2.wipe (σ.set i x) vs = L2.wipe σ vs
  | [], h => by cases h
  | v :: vs, h => by
    unfold L2.wipe
    by_cases hv : i ∈ vs
    · rw [wipe_set hv]
    · have e : i = v := by
        rcases List.mem_cons.mp h with e | e
        · exact e
        · exact absurd e hv
      subst e
      have c2 : ∀ ws : List Nat, i ∉ ws → L2.wipe (σ.set i x) ws = (L2.wipe σ ws).set i x := fun ws => by
        induction ws with
        | nil => intro _; rfl
        | cons w ws ih =>
          intro hw
          simp only [List.mem_cons, not_or] at hw
          unfold L2.wipe
          rw [ih hw.2, List.set_comm _ _ hw.1]
      rw [c2 vs hv, List.set_set]
theorem gb_name {i : Nat} {vs : List Nat} (hi : i ∈ vs) : GB W vs (gName i) (mgName i) := fun c T σ H G S d v K I r h _ => h _ rfl _ H G GLe.rfl (wipe_set hi) (I.setIm r)
def GBs (W : Wx) (vs : List Nat) (g : TGs) (m : List Dy.D → List LV → Res Unit) : Prop := ∀ c T σ H G S ds us (K : L2.St → Hp → Prop), StOk W c T σ H G S → RepL W G ds us →
  (∀ S1, m ds S = .ok () S1 → kB W c T σ vs K G () S1) → (∃ S1, m ds S = .ok () S1) → g us σ H K
theorem gbs_nil {vs : List Nat} : GBs W vs gNil mgNil := fun c T σ H G S ds us K I r h ⟨S1, e⟩ => by
  cases ds with
  | nil => rw [RepL] at r; exact ⟨r, h _ rfl σ H G GLe.rfl rfl I⟩
  | cons d ds => cases e
theorem gbs_cons {vs : List Nat} {g : TG} {gs : TGs} {m : Dy.D → List LV → Res Unit} {r : List Dy.D → List LV → Res Unit} (h : GB W vs g m) (t : GBs W vs gs r) : GBs W vs (gCons g gs) (mgCons m r) := fun c T σ H G S ds us K I q hk ⟨S1, e⟩ => by
  cases ds with
  | nil => cases e
  | cons d ds =>
    rw [RepL] at q
    obtain ⟨v, vs', rfl, r1, r2⟩ := q
    replace e : ((m d S).bind fun _ S1 => r ds S1) = .ok () S1 := e
    cases e0 : m d S with
    | stuck => rw [e0] at e; cases e
    | er x y => rw [e0] at e; cases e
    | ok x S2 =>
      rw [e0] at e
      refine ⟨v, vs', rfl, h c T σ H G S d v _ I r1 (fun S3 e3 σ' H' G' g' hw I' => ?_) ⟨S2, e0⟩⟩
      rw [e0] at e3; cases e3
      refine t c T σ' H' G' S2 ds vs' K I' (r2.mono g') (fun S4 e4 σ4 H4 G4 g4 hw4 I4 => ?_) ⟨S1, e⟩
      refine hk S4 (show ((m d S).bind fun _ S1 => r ds S1) = .ok () S4 by rw [e0]; exact e4) σ4 H4 G4 (g'.trans g4) (hw4.trans hw) I4
theorem gb_tup {vs : List Nat} {n : Nat} {gs : TGs} {m : List Dy.D → List LV → Res Unit} (h : GBs W vs gs m) : GB W vs (gTup W.K n gs) (mgTup n m) := fun c T σ H G S d v K I r hk hx => by
  cases d with
  | tup ds =>
    by_cases hl : ds.length = n
    · have e : mgTup n m (.tup ds) S = m ds S := by
        show (if ds.length = n then m ds S else .stuck) = _
        rw [if_pos hl]
      rw [e] at hx
      obtain ⟨a, us, rfl, q, r1⟩ := r.sqT I
      exact ⟨a, us, rfl, q, by rw [r1.length]; exact hl, h c T σ H G S ds us K I r1 (fun S2 e2 => hk S2 (e.trans e2)) hx⟩
    · obtain ⟨S1, e⟩ := hx
      replace e : (if ds.length = n then m ds S else .stuck) = Res.ok () S1 := e
      rw [if_neg hl] at e; cases e
  | _ => obtain ⟨S1, e⟩ := hx; cases e

/-! ### list comprehensions -/
def Res.bindN {α β : Type} (m : Res α) (f : α → List LV → Res β) : Res β := match m with
  | .ok x S => f x S
  | _ => .stuck
@[simp] theorem Res.bindN_stuck {α β : Type} (f : α → List LV → Res β) : Res.bindN .stuck f = .stuck := rfl
@[simp] theorem Res.bindN_ok {α β : Type} (x : α) (S : List LV) (f : α → List LV → Res β) : Res.bindN (.ok x S) f = f x S := rfl
@[simp] theorem Res.bindN_er {α β : Type} (e : Er) (S : List LV) (f : α → List LV → Res β) : Res.bindN (.er e S) f = .stuck := rfl
def E0 : L2.St → XK := fun _ _ _ _ => False
theorem PR.bindN {α β : Type} {T' : Tm} {σ' : L2.St} {E E' : XK} {k : Hp → β → List LV → Prop} {k1 : Hp → α → List LV → Prop} {m : Res α} {f : α → List LV → Res β} (h : PR W c T E σ k G (m.bindN f)) (hk : ∀ x S1, m = .ok x S1 → PR W c T E σ k G (f x S1) → k1 G x S1) : PR W c T' E' σ' k1 G m := by
  cases m with
  | stuck => exact h
  | ok x S => exact hk x S rfl h
  | er e S => exact (h : False).elim
def mCompL (mg : D → List LV → Res Unit) (mt : MT) (me : ME) (vs : List Nat) (S0 : List LV) : List D → List D → MF
  | [], acc => fun S => .ok acc (unwipe S0 S vs)
  | d :: r, acc => fun S => (mg d S).bindN fun _ S1 => (mt S1).bindN fun b S2 => if b = true then ((me S2).bindN fun y S3 => if acc.length < LIM then mCompL mg mt me vs S0 r (acc ++ [y.1]) (wipeS S3 vs) else .stuck) else mCompL mg mt me vs S0 r acc (wipeS S2 vs)
def mComp (mi : MF) (mg : D → List LV → Res Unit) (mt : MT) (me : ME) (vs : List Nat) : MF := fun S => (mi S).bind fun ds S1 => mCompL mg mt me vs S1 ds [] (wipeS S1 vs)
theorem ef_comp {wi : TI} {g : TG} {tt : TT} {te : TE} {mi : MF} {mg : D → List LV → Res Unit} {mt : MT} {me : ME} {vs : List Nat} (hi : IR W E wi mi) (hg : GB W vs g mg) (ht : TR W E0 tt mt) (he : ER W E0 te me) : EF W E (tLc wi g tt te vs) (mComp mi mg mt me vs) := fun c T σ H G S Q I hq => by
  refine hi c T σ H G S _ I (hq.bind fun ds S1 _ h1 J H1 G1 g1 I1 y1 D hD => ?_)
  have h2 := h1.mono mF g1
  refine ⟨fun i m H' => ∃ G' S' acc as, m = ds.length - i ∧ GLe G1 G' ∧ StOk W c ((D, .lst as) :: T) (L2.wipe σ vs) H' G' S' ∧ RepL W G' acc as ∧ PR W c T (E σ) σ (kF W c T σ Q) G' (mCompL mg mt me vs S1 (ds.drop i) acc S'),
    ⟨ds.length, G1, wipeS S1 vs, [], [], rfl, GLe.rfl, (I1.alloc hD (fun ps z => by cases z)).wipe vs, RepL.nil, h2⟩, ?_⟩
  rintro i m H2 ⟨G2, S2, acc, as, hm, g2, I2, ra, q2⟩
  obtain ⟨yg, ys⟩ := y1 i _ _ H2 G2 S2 g2 I2
  by_cases hi : i < ds.length
  · have hd : ds[i]? = some ds[i] := List.getElem?_eq_getElem hi
    obtain ⟨go, yy⟩ := yg _ hd
    rw [List.drop_eq_getElem_cons hi] at q2
    refine .inr ⟨go, fun H' => ∃ G' S' acc as, GLe G1 G' ∧ StOk W c ((D, .lst as) :: T) (L2.wipe σ vs) H' G' S' ∧ RepL W G' acc as ∧ PR W c T (E σ) σ (kF W c T σ Q) G' (mCompL mg mt me vs S1 (ds.drop (i + 1)) acc S'),
      fun H' ⟨G', S', acc, as, a1, a2, a3, a4⟩ => ⟨ds.length - (i + 1), by omega, G', S', acc, as, rfl, a1, a2, a3, a4⟩, fun x H' yx => ?_⟩
    obtain ⟨G3, g3, I3, r3⟩ := yy x H' yx
    have ww : ∀ τ : L2.St, L2.wipe τ vs = L2.wipe (L2.wipe σ vs) vs → L2.wipe τ vs = L2.wipe σ vs := fun τ e => by
      rw [e]
      have z : ∀ us : List Nat, (∀ u ∈ us, u ∈ vs) → L2.wipe (L2.wipe σ vs) us = L2.wipe σ vs := fun us => by
        induction us with
        | nil => intro _; rfl
        | cons u us ih =>
          intro hu
          show (L2.wipe (L2.wipe σ vs) us).set u none = _
          rw [ih fun w hw => hu w (List.mem_cons_of_mem _ hw)]
          apply List.ext_getElem?
          intro j
          by_cases hj : u = j
          · subst hj
            rw [List.getElem?_set]
            simp only [if_true]
            split
            · rename_i hl
              cases q : (L2.wipe σ vs)[u]? with
              | none => rw [List.getElem?_eq_none_iff] at q; omega
              | some y =>
                cases y with
                | none => rfl
                | some y => exact absurd (hu u List.mem_cons_self) (wipe_some q).2
            · rename_i hl
              rw [List.getElem?_eq_none (by omega)]
          · rw [List.getElem?_set_ne hj]
      exact z vs fun u hu => hu
    replace q2 : PR W c T (E σ) σ (kF W c T σ Q) G2 ((mg ds[i] S2).bindN fun _ S1' => (mt S1').bindN fun b S2' => if b = true then ((me S2').bindN fun y S3 => if acc.length < LIM then mCompL mg mt me vs S1 (ds.drop (i + 1)) (acc ++ [y.1]) (wipeS S3 vs) else .stuck) else mCompL mg mt me vs S1 (ds.drop (i + 1)) acc (wipeS S2' vs)) := q2
    cases em : mg ds[i] S2 with
    | stuck => rw [em] at q2; exact (q2 : False).elim
    | er e2 S4 => rw [em] at q2; exact (q2 : False).elim
    | ok x0 S4 =>
      rw [em] at q2
      replace q2 : PR W c T (E σ) σ (kF W c T σ Q) G2 ((mt S4).bindN fun b S2' => if b = true then ((me S2').bindN fun y S3 => if acc.length < LIM then mCompL mg mt me vs S1 (ds.drop (i + 1)) (acc ++ [y.1]) (wipeS S3 vs) else .stuck) else mCompL mg mt me vs S1 (ds.drop (i + 1)) acc (wipeS S2' vs)) := q2
      refine hg c _ _ H' G3 S2 ds[i] x _ I3 r3 (fun S4' e4 σ4 H4 G4 g4 hw I4 => ?_) ⟨S4, em⟩
      rw [em] at e4; cases e4
      refine ⟨ww _ hw, ht c _ σ4 H4 G4 S4 _ I4 (((PR.mono mF (g3.trans g4) q2).bindN) fun b S5 _ q5 H5 G5 g5 I5 => ?_)⟩
      have q6 := PR.mono mF g5 q5
      have gg := (g3.trans g4).trans g5
      cases b with
      | true =>
        refine (if_pos rfl : (if (true : Bool) = true then _ else _) = _).mpr ?_
        rw [if_pos rfl] at q6
        refine he c _ σ4 H5 G5 S5 _ I5 (q6.bindN fun y S6 _ q7 v H6 G6 g6 I6 r6 t6 => ?_)
        split at q7
        · rename_i hl
          refine ⟨as, (I6.tm _ List.mem_cons_self).1, by rw [ra.length]; exact lim_lt (Nat.le_of_lt hl), ?_⟩
          have J := (I6.setTm (o' := .lst (as ++ [v])) lst_not.2 (fun ps z => by cases z)).wipe vs
          rw [ww _ hw] at J
          exact ⟨G6, wipeS S6 vs, acc ++ [y.1], as ++ [v], (g2.trans gg).trans g6, J, RepL.app (ra.mono (gg.trans g6)) (RepL.cons r6 RepL.nil), PR.mono mF g6 q7⟩
        · exact (q7 : False).elim
      | false =>
        refine (if_neg Bool.false_ne_true : (if (false : Bool) = true then _ else _) = _).mpr ?_
        rw [if_neg Bool.false_ne_true] at q6
        have J := I5.wipe vs
        rw [ww _ hw] at J
        exact ⟨G5, wipeS S5 vs, acc, as, g2.trans gg, J, ra.mono gg, q6⟩
  · have hi' : ds.length ≤ i := by omega
    rw [List.drop_eq_nil_of_le hi'] at q2
    refine .inl ⟨ys hi', ?_⟩
    exact q2 D as H2 G2 GLe.rfl (I1.unwipe g2 I2) ra
end Dy

set_option Elab.async false
set_option linter.all false
set_option maxRecDepth 100000
set_option maxHeartbeats 4000000
namespace Dy
open PySem PySem.Spec L2
variable {W : Wx} {c : Cn} {T : Tm} {σ : L2.St} {H G : Hp} {S : List LV} {E : L2.St → XK} {De : Ends}

/-! ### what a def promises -/
def start0 (nN : Nat) (vs : List V) : L2.St := vs.map some ++ List.replicate (nN - vs.length) none
def spD (W : Wx) (n nN : Nat) (mb : MS) : Sp := fun vs H Q E => vs.length = n ∧ ∃ G A0 S0, StOk W ⟨H, G, A0, vs, []⟩ [] (start0 nN vs) H G S0 ∧ SPo W ⟨H, G, A0, vs, []⟩ [] (fun _ => E) { nx := fun _ H' => Q .non H', rt := Q } G (mb S0)
theorem spD_len {n nN : Nat} {mb : MS} : ∀ vs H Q E, spD W n nN mb vs H Q E → vs.length = n := fun vs H Q E h => h.1

/-! ### how slots go to parameters and back -/
def parOf (S : List LV) : AV → Option LV
  | .im d _ => some (.im d true)
  | .own j => match S[j]? with
    | some (.ow ds _) => some (.ow ds true)
    | _ => none
def parsOf (S : List LV) : List AV → Option (List LV)
  | [] => some []
  | a :: r => match parOf S a, parsOf S r with
    | some x, some y => some (x :: y)
    | _, _ => none
def ownAt : AV → Option Nat
  | .im _ _ => none
  | .own j => some j
theorem mem_own {avs : List AV} {m k : Nat} (h : avs[m]? = some (.own k)) : k ∈ avs.filterMap ownAt := List.mem_filterMap.mpr ⟨.own k, List.mem_of_getElem? h, rfl⟩
theorem parOf_im {d : D} {t : Option Nat} : parOf S (.im d t) = some (.im d true) := rfl
theorem parOf_own {j : Nat} {x : LV} (h : parOf S (.own j) = some x) : ∃ ds p, S[j]? = some (.ow ds p) ∧ x = .ow ds true := by
  unfold parOf at h
  dsimp only at h
  split at h
  · rename_i ds p e
    cases h
    exact ⟨ds, p, e, rfl⟩
  · cases h
def back (S2 : List LV) : List AV → Nat → List LV → Option (List LV)
  | [], _, S => some S
  | .im _ _ :: r, i, S => back S2 r (i + 1) S
  | .own j :: r, i, S => match S2[i]?, S[j]? with
    | some (.ow ds true), some (.ow _ p) => back S2 r (i + 1) (S.set j (.ow ds p))
    | _, _ => none
def tokBack (S2 : List LV) (avs : List AV) : Option Nat → Option Nat
  | none => none
  | some i => match S2[i]?, avs[i]? with
    | some (.im _ true), some (.im _ t) => t
    | _, _ => none
def erBack (S2 : List LV) (avs : List AV) (e : Er) : Er := ⟨e.cls, e.fs.map fun f => (f.1, f.2.1, tokBack S2 avs f.2.2)⟩
theorem parsOf_get : ∀ {avs : List AV} {ps : List LV}, parsOf S avs = some ps → ps.length = avs.length ∧ ∀ (i : Nat) x, ps[i]? = some x → ∃ a, avs[i]? = some a ∧ parOf S a = some x
  | [], ps, h => by
    cases h
    exact ⟨rfl, fun i x e => by simp at e⟩
  | a :: r, ps, h => by
    unfold parsOf at h
    split at h
    · rename_i x y h1 h2
      cases h
      obtain ⟨l, g⟩ := parsOf_get h2
      refine ⟨by simp [l], fun i z e => ?_⟩
      cases i with
      | zero => simp at e; subst e; exact ⟨a, rfl, h1⟩
      | succ i => exact g i z (by simpa using e)
    · cases h
theorem back_len {S2 : List LV} : ∀ {avs : List AV} {i : Nat} {S S' : List LV}, back S2 avs i S = some S' → S'.length = S.length
  | [], i, S, S', h => by cases h; rfl
  | .im _ _ :: r, i, S, S', h => back_len (avs := r) (i := i + 1) h
  | .own j :: r, i, S, S', h => by
    unfold back at h
    split at h
    · rw [back_len h, List.length_set]
    · cases h
theorem back_get {S2 : List LV} : ∀ {avs : List AV} {i : Nat} {S S' : List LV}, back S2 avs i S = some S' → (avs.filterMap ownAt).Nodup → ∀ k : Nat, (k ∉ avs.filterMap ownAt ∧ S'[k]? = S[k]?) ∨
    ∃ (m : Nat) (ds ds0 : List D) (p : Bool), avs[m]? = some (.own k) ∧ S2[i + m]? = some (.ow ds true) ∧ S[k]? = some (.ow ds0 p) ∧ S'[k]? = some (.ow ds p)
  | [], i, S, S', h, _, k => by cases h; exact .inl ⟨by simp, rfl⟩
  | .im d t :: r, i, S, S', h, nd, k => by
    have e : (AV.im d t :: r).filterMap ownAt = r.filterMap ownAt := rfl
    rw [e] at nd ⊢
    rcases back_get (avs := r) (i := i + 1) h nd k with z | ⟨m, ds, ds0, p, h1, h2, h3, h4⟩
    · exact .inl z
    · exact .inr ⟨m + 1, ds, ds0, p, by simpa using h1, by rw [← h2]; congr 1; omega, h3, h4⟩
  | .own j :: r, i, S, S', h, nd, k => by
    have e : (AV.own j :: r).filterMap ownAt = j :: r.filterMap ownAt := rfl
    rw [e] at nd ⊢
    obtain ⟨nj, nd2⟩ := List.nodup_cons.mp nd
    unfold back at h
    split at h
    · rename_i ds dsx p e1 e2
      have hj : j < S.length := lt_of_get e2
      by_cases hk : k = j
      · subst hk
        rcases back_get h nd2 k with ⟨_, z⟩ | ⟨m, _, _, _, h1, _⟩
        · rw [List.getElem?_set_self hj] at z
          exact .inr ⟨0, ds, _, p, rfl, by simpa using e1, e2, z⟩
        · exact absurd (mem_own h1) nj
      · rcases back_get h nd2 k with ⟨n1, z⟩ | ⟨m, ds', ds0, p', h1, h2, h3, h4⟩
        · rw [get_set_ne (Ne.symm hk)] at z
          exact .inl ⟨by simp only [List.mem_cons, not_or]; exact ⟨hk, n1⟩, z⟩
        · rw [get_set_ne (Ne.symm hk)] at h3
          exact .inr ⟨m + 1, ds', ds0, p', by simpa using h1, by rw [← h2]; congr 1; omega, h3, h4⟩
    · cases h
theorem ArgsOk.len : ∀ {avs : List AV} {vs : List V}, ArgsOk W G σ avs vs → vs.length = avs.length
  | [], _, h => by rw [ArgsOk] at h; rw [h]; rfl
  | .im d t :: r, _, h => by
    obtain ⟨v, q, rfl, _, _, z⟩ := h
    simp [ArgsOk.len z]
  | .own j :: r, _, h => by
    obtain ⟨v, q, rfl, _, z⟩ := h
    simp [ArgsOk.len z]
theorem ArgsOk.im : ∀ {avs : List AV} {vs : List V} {i : Nat} {d : D} {t : Option Nat}, ArgsOk W G σ avs vs → avs[i]? = some (.im d t) → ∃ v, vs[i]? = some v ∧ Rep W G d v ∧ Tok σ t v
  | [], _, _, _, _, _, e => by simp at e
  | .im d t :: r, _, 0, _, _, h, e => by
    obtain ⟨v, q, rfl, h1, h2, z⟩ := h
    simp at e; obtain ⟨rfl, rfl⟩ := e
    exact ⟨v, rfl, h1, h2⟩
  | .own j :: r, _, 0, _, _, h, e => by simp at e
  | .im d t :: r, _, i + 1, _, _, h, e => by
    obtain ⟨v, q, rfl, h1, h2, z⟩ := h
    simpa using ArgsOk.im z (by simpa using e)
  | .own j :: r, _, i + 1, _, _, h, e => by
    obtain ⟨v, q, rfl, h1, z⟩ := h
    simpa using ArgsOk.im z (by simpa using e)
theorem ArgsOk.own : ∀ {avs : List AV} {vs : List V} {i j : Nat}, ArgsOk W G σ avs vs → avs[i]? = some (.own j) → ∃ v, vs[i]? = some v ∧ σ[j]? = some (some v)
  | [], _, _, _, _, e => by simp at e
  | .im d t :: r, _, 0, _, h, e => by simp at e
  | .own j :: r, _, 0, _, h, e => by
    obtain ⟨v, q, rfl, h1, z⟩ := h
    simp at e; subst e
    exact ⟨v, rfl, h1⟩
  | .im d t :: r, _, i + 1, _, h, e => by
    obtain ⟨v, q, rfl, h1, h2, z⟩ := h
    simpa using ArgsOk.own z (by simpa using e)
  | .own j :: r, _, i + 1, _, h, e => by
    obtain ⟨v, q, rfl, h1, z⟩ := h
    simpa using ArgsOk.own z (by simpa using e)
def ownAd : List AV → List V → List Addr
  | .own _ :: r, .ref a :: q => a :: ownAd r q
  | _ :: r, _ :: q => ownAd r q
  | _, _ => []
theorem ownAd_mem : ∀ {avs : List AV} {vs : List V} {a : Addr}, a ∈ ownAd avs vs → ∃ (i j : Nat), avs[i]? = some (.own j) ∧ vs[i]? = some (.ref a)
  | [], _, _, h => by simp [ownAd] at h
  | _ :: _, [], _, h => by simp [ownAd] at h
  | .im d t :: r, v :: q, a, h => by
    obtain ⟨i, j, h1, h2⟩ := ownAd_mem (avs := r) (vs := q) (a := a) (by simpa [ownAd] using h)
    exact ⟨i + 1, j, by simpa using h1, by simpa using h2⟩
  | .own j :: r, v :: q, a, h => by
    have tail : a ∈ ownAd r q → ∃ (i j' : Nat), (AV.own j :: r)[i]? = some (.own j') ∧ (v :: q)[i]? = some (.ref a) := fun h => by
      obtain ⟨i, j', h1, h2⟩ := ownAd_mem h
      exact ⟨i + 1, j', by simpa using h1, by simpa using h2⟩
    cases v with
    | ref b =>
      rcases List.mem_cons.mp (show a ∈ b :: ownAd r q from h) with rfl | h
      · exact ⟨0, j, rfl, rfl⟩
      · exact tail h
    | _ => exact tail (by simpa [ownAd] using h)
theorem mem_ownAd : ∀ {avs : List AV} {vs : List V} {a : Addr} {i j : Nat}, avs[i]? = some (.own j) → vs[i]? = some (.ref a) → a ∈ ownAd avs vs
  | [], _, _, _, _, h, _ => by simp at h
  | _ :: _, [], _, _, _, _, h => by simp at h
  | x :: r, v :: q, a, 0, j, h1, h2 => by
    simp at h1 h2; subst h1 h2
    exact List.mem_cons_self
  | x :: r, v :: q, a, i + 1, j, h1, h2 => by
    have t := mem_ownAd (avs := r) (vs := q) (a := a) (i := i) (j := j) (by simpa using h1) (by simpa using h2)
    cases x with
    | im d t' => simpa [ownAd] using t
    | own k =>
      cases v with
      | ref b => exact List.mem_cons_of_mem _ t
      | _ => simpa [ownAd] using t
theorem nodup_fm : ∀ {l : List AV} {i i' j : Nat}, (l.filterMap ownAt).Nodup → l[i]? = some (.own j) → l[i']? = some (.own j) → i = i'
  | [], _, _, _, _, h, _ => by simp at h
  | x :: r, 0, 0, _, _, _, _ => rfl
  | x :: r, 0, i' + 1, j, nd, h1, h2 => by
    simp at h1; subst h1
    have e : (AV.own j :: r).filterMap ownAt = j :: r.filterMap ownAt := rfl
    rw [e] at nd
    exact absurd (mem_own (show r[i']? = some (.own j) by simpa using h2)) (List.nodup_cons.mp nd).1
  | x :: r, i + 1, 0, j, nd, h1, h2 => by
    simp at h2; subst h2
    have e : (AV.own j :: r).filterMap ownAt = j :: r.filterMap ownAt := rfl
    rw [e] at nd
    exact absurd (mem_own (show r[i]? = some (.own j) by simpa using h1)) (List.nodup_cons.mp nd).1
  | x :: r, i + 1, i' + 1, j, nd, h1, h2 => by
    have nd' : (r.filterMap ownAt).Nodup := by
      cases x with
      | im d t => exact nd
      | own k => exact (List.nodup_cons.mp (show (k :: r.filterMap ownAt).Nodup from nd)).2
    exact congrArg (· + 1) (nodup_fm (i := i) (i' := i') (j := j) nd' (by simpa using h1) (by simpa using h2))
/-- where an own argument lies -/
theorem own_arg (I : StOk W c T σ H G S) {avs : List AV} {vs : List V} {ps : List LV} (ha : ArgsOk W G σ avs vs) (hp : parsOf S avs = some ps) {i j : Nat} (e : avs[i]? = some (.own j)) :
    ∃ a ds p ws, vs[i]? = some (.ref a) ∧ σ[j]? = some (some (.ref a)) ∧ S[j]? = some (.ow ds p) ∧ H a = some (.lst ws) ∧ G a = none ∧ RepL W G ds ws ∧ (p = false → c.H0 a = none) ∧ (p = true → a ∈ c.A0 ∧ c.vs0[j]? = some (V.ref a)) := by
  obtain ⟨hl, hg⟩ := parsOf_get hp
  have hi : i < ps.length := by rw [hl]; exact lt_of_get e
  obtain ⟨a', e', pe⟩ := hg i _ (List.getElem?_eq_getElem hi)
  rw [e] at e'; cases e'
  obtain ⟨ds, p, es, _⟩ := parOf_own pe
  obtain ⟨a, ws, h1, h2, h3, h4, h5, h6⟩ := I.ow _ _ _ es
  obtain ⟨v, hv, hs⟩ := ha.own e
  rw [h1] at hs; cases hs
  exact ⟨a, ds, p, ws, hv, h1, es, h2, h3, h4, h5, h6⟩
theorem own_ad (I : StOk W c T σ H G S) {avs : List AV} {vs : List V} {ps : List LV} (ha : ArgsOk W G σ avs vs) (hp : parsOf S avs = some ps) {a : Addr} (h : a ∈ ownAd avs vs) :
    ∃ (i j : Nat) (ds : List D) (p : Bool) (ws : List V), avs[i]? = some (.own j) ∧ vs[i]? = some (.ref a) ∧ σ[j]? = some (some (.ref a)) ∧ S[j]? = some (.ow ds p) ∧ H a = some (.lst ws) ∧ G a = none ∧ (p = false → c.H0 a = none) ∧ (p = true → a ∈ c.A0) := by
  obtain ⟨i, j, e1, e2⟩ := ownAd_mem h
  obtain ⟨b, ds, p, ws, h1, h2, h3, h4, h5, _, h6, h7⟩ := own_arg I ha hp e1
  rw [e2] at h1; cases h1
  exact ⟨i, j, ds, p, ws, e1, e2, h2, h3, h4, h5, h6, fun z => (h7 z).1⟩
theorem get_pad {α : Type} {l : List α} {n i : Nat} {x y : α} (h : (l ++ List.replicate n y)[i]? = some x) (hx : x ≠ y) : l[i]? = some x := by
  by_cases hi : i < l.length
  · rwa [List.getElem?_append_left hi] at h
  · rw [List.getElem?_append_right (by omega), List.getElem?_replicate] at h
    split at h
    · cases h; exact absurd rfl hx
    · cases h
theorem get_start {nN i : Nat} {vs : List V} {v : V} (h : vs[i]? = some v) : (start0 nN vs)[i]? = some (some v) := by
  unfold start0
  rw [List.getElem?_append_left (by simpa using lt_of_get h), List.getElem?_map, h] <;> rfl
/-- the entry -/
theorem call_enter (I : StOk W c T σ H G S) {avs : List AV} {vs : List V} {ps : List LV} {nN : Nat} (ha : ArgsOk W G σ avs vs) (hp : parsOf S avs = some ps) (nd : (avs.filterMap ownAt).Nodup) :
    StOk W ⟨H, G, ownAd avs vs, vs, []⟩ [] (start0 nN vs) H G (ps ++ List.replicate (nN - ps.length) .no) := by
  obtain ⟨hl, hg⟩ := parsOf_get hp
  have hv := ha.len
  have at_ : ∀ (i : Nat) x, (ps ++ List.replicate (nN - ps.length) LV.no)[i]? = some x → x ≠ .no → ∃ a, avs[i]? = some a ∧ parOf S a = some x := fun i x e n => hg i x (get_pad e n)
  have ownS : ∀ {i : Nat} {b : Addr}, Owns (start0 nN vs) (ps ++ List.replicate (nN - ps.length) .no) i b → ∃ j ds p, avs[i]? = some (.own j) ∧ vs[i]? = some (.ref b) ∧ σ[j]? = some (some (.ref b)) ∧ S[j]? = some (LV.ow ds p) := fun {i b} o => by
    obtain ⟨o1, o2⟩ := o
    rcases o2 with ⟨ds, p, q⟩ | ⟨ks, ds, p, q⟩
    · obtain ⟨a, e, pe⟩ := at_ i _ q (fun z => by cases z)
      cases a with
      | im d t => cases pe
      | own j =>
        obtain ⟨a', ds', p', ws, h1, h2, h3, _⟩ := own_arg I ha hp e
        rw [get_start h1] at o1; cases o1
        exact ⟨j, ds', p', e, h1, h2, h3⟩
    · obtain ⟨a, e, pe⟩ := at_ i _ q (fun z => by cases z)
      cases a with
      | im d t => cases pe
      | own j =>
        obtain ⟨_, _, _, z⟩ := parOf_own pe
        cases z
  refine ⟨I.le, GLe.rfl, fun a u e => .inl e, fun a u e _ _ => .inl e, fun a u e => ⟨u, e⟩, fun i d o e => ?_, fun i ds p e => ?_, fun i ks ds p e => ?_, fun i j a o1 o2 => ?_, fun p hp => (by cases hp), List.nodup_nil, ?_, I.tb, I.gt, fun a q e => e, I.tg⟩
  · obtain ⟨a, e', pe⟩ := at_ i _ e (fun z => by cases z)
    cases a with
    | im d' t =>
      cases pe
      obtain ⟨v, h1, h2, h3⟩ := ha.im e'
      exact ⟨v, get_start h1, h2, fun _ => h1⟩
    | own j =>
      obtain ⟨_, _, _, z⟩ := parOf_own pe
      cases z
  · obtain ⟨a, e', pe⟩ := at_ i _ e (fun z => by cases z)
    cases a with
    | im d' t => cases pe
    | own j =>
      obtain ⟨a, ds', p', ws, h1, h2, h3, h4, h5, h6, _⟩ := own_arg I ha hp e'
      obtain ⟨_, _, z1, z⟩ := parOf_own pe
      rw [h3] at z1; cases z1; cases z
      exact ⟨a, ws, get_start h1, h4, h5, h6, fun z => (by cases z), fun _ => ⟨mem_ownAd e' h1, h1⟩⟩
  · obtain ⟨a, e', pe⟩ := at_ i _ e (fun z => by cases z)
    cases a with
    | im d' t => cases pe
    | own j =>
      obtain ⟨_, _, _, z⟩ := parOf_own pe
      cases z
  · obtain ⟨j1, ds1, p1, a1, b1, c1, d1⟩ := ownS o1
    obtain ⟨j2, ds2, p2, a2, b2, c2, d2⟩ := ownS o2
    have e := I.sep j1 j2 a ⟨c1, .inl ⟨_, _, d1⟩⟩ ⟨c2, .inl ⟨_, _, d2⟩⟩
    subst e
    exact nodup_fm nd a1 a2
  · unfold start0
    simp [hl, hv]
/-- the way back -/
theorem call_exit (I : StOk W c T σ H G S) {avs : List AV} {vs : List V} {ps : List LV} (ha : ArgsOk W G σ avs vs) (hp : parsOf S avs = some ps) (nd : (avs.filterMap ownAt).Nodup) {T2 : Tm} {σ2 : L2.St} {H2 G2 : Hp} {S2 S' : List LV}
    (J : StOk W ⟨H, G, ownAd avs vs, vs, []⟩ T2 σ2 H2 G2 S2) (hb : back S2 avs 0 S = some S') : StOk W c (T2 ++ T) σ H2 G2 S' := by
  have hg : GLe G G2 := J.g0
  have bg := back_get hb nd
  -- what is not an own argument is kept
  have keep : ∀ a u, H a = some u → (∀ ps, u ≠ .tbl ps) → a ∉ ownAd avs vs → H2 a = some u := fun a u e n m => by
    rcases J.fr a u e n m with q | ⟨l, _⟩
    · exact q
    · cases l
  have gn : ∀ a, G a = none → (∃ u, H a = some u) → G2 a = none := fun a e ⟨u, hu⟩ => by
    cases q : G2 a with
    | none => rfl
    | some w =>
      rcases J.new a w q with z | z
      · rw [show G a = some w from z] at e; cases e
      · rw [show H a = none from z] at hu; cases hu
  have ownB : ∀ {k : Nat} {a : Addr}, Owns σ S' k a → Owns σ S k a := fun {k a} o => by
    obtain ⟨o1, o2⟩ := o
    refine ⟨o1, ?_⟩
    rcases bg k with ⟨_, z⟩ | ⟨m, ds, ds0, p, _, _, h3, _⟩
    · rw [z] at o2; exact o2
    · exact .inl ⟨ds0, p, h3⟩
  have nown : ∀ {k : Nat} {a : Addr}, Owns σ S k a → k ∉ avs.filterMap ownAt → a ∉ ownAd avs vs := fun {k a} o n hm => by
    obtain ⟨i, j, ds, p, ws, e1, e2, e3, e4, _⟩ := own_ad I ha hp hm
    have e := I.sep k j a o ⟨e3, .inl ⟨_, _, e4⟩⟩
    subst e
    exact n (mem_own e1)
  refine ⟨J.le, I.g0.trans hg, fun a u e => ?_, fun a u e n m => ?_, fun a u e => ?_, fun i d o e => ?_, fun i ds p e => ?_, fun i ks ds p e => ?_, fun i j a o1 o2 => I.sep i j a (ownB o1) (ownB o2), fun p hp' => ?_, ?_, ?_, J.tb, J.gt, fun a q e => J.cd a q (I.cd a q e), J.tg⟩
  · rcases J.new a u e with z | z
    · exact I.new a u z
    · exact .inr (I.fresh z)
  · rcases I.fr a u e n m with q | ⟨l, o, q⟩
    · refine .inl (keep a u q n fun hm => ?_)
      obtain ⟨i, j, ds, p, ws, _, _, _, _, e5, _, k1, k2⟩ := own_ad I ha hp hm
      cases p with
      | false => rw [k1 rfl] at e; cases e
      | true => exact m (k2 rfl)
    · refine .inr ⟨l, o, keep a _ q (fun ps z => by cases z) fun hm => ?_⟩
      obtain ⟨i, j, ds, p, ws, _, _, _, _, e5, _⟩ := own_ad I ha hp hm
      rw [q] at e5; cases e5
  · obtain ⟨u', q⟩ := I.all a u e
    exact J.all a u' q
  · rcases bg i with ⟨_, z⟩ | ⟨m, ds, ds0, p, _, _, _, h4⟩
    · rw [z] at e
      obtain ⟨v, e1, r, k⟩ := I.im i d o e
      exact ⟨v, e1, r.mono hg, k⟩
    · rw [h4] at e; cases e
  · rcases bg i with ⟨n, z⟩ | ⟨m, ds', ds0, p', h1, h2, h3, h4⟩
    · rw [z] at e
      obtain ⟨a, ws, e1, e2, e3, r, k1, k2⟩ := I.ow i ds p e
      have no := nown (k := i) (a := a) ⟨e1, .inl ⟨_, _, e⟩⟩ n
      exact ⟨a, ws, e1, keep a _ e2 (fun ps z => by cases z) no, gn a e3 ⟨_, e2⟩, r.mono hg, k1, k2⟩
    · rw [h4] at e; cases e
      rw [Nat.zero_add] at h2
      obtain ⟨b, ws, f1, f2, f3, f4, _, f6⟩ := J.ow m _ _ h2
      obtain ⟨a, dsx, px, wsx, g1, g2, g3, g4, g5, g6, g7, g8⟩ := own_arg I ha hp h1
      have hb2 := (f6 rfl).2
      rw [show vs[m]? = some (V.ref b) from hb2] at g1
      cases g1
      rw [h3] at g3; cases g3
      exact ⟨_, ws, g2, f2, f3, f4, g7, g8⟩
  · rcases bg i with ⟨n, z⟩ | ⟨m, ds', ds0, p', h1, h2, h3, h4⟩
    · rw [z] at e
      obtain ⟨a, ws, e1, e2, e3, kk, r, k1, k2⟩ := I.od i ks ds p e
      have no := nown (k := i) (a := a) ⟨e1, .inr ⟨_, _, _, e⟩⟩ n
      exact ⟨a, ws, e1, keep a _ e2 (fun ps z => by cases z) no, gn a e3 ⟨_, e2⟩, kk, r.mono hg, k1, k2⟩
    · rw [h4] at e; cases e
  · rcases List.mem_append.mp hp' with hq | hq
    · obtain ⟨q1, q2, q3, q4, q5⟩ := J.tm p hq
      refine ⟨q1, q2, I.fresh q3, fun i o => ?_, q5⟩
      obtain ⟨⟨u, hu⟩, _⟩ := I.own_at (ownB o)
      rw [show H p.1 = none from q3] at hu; cases hu
    · obtain ⟨q1, q2, q3, q4, q5⟩ := I.tm p hq
      have no : p.1 ∉ ownAd avs vs := fun hm => by
        obtain ⟨i, j, ds, p', ws, _, _, e3, e4, _⟩ := own_ad I ha hp hm
        exact q4 j ⟨e3, .inl ⟨_, _, e4⟩⟩
      exact ⟨keep _ _ q1 q5 no, gn _ q2 ⟨_, q1⟩, q3, fun i o => q4 i (ownB o), q5⟩
  · rw [List.map_append, List.nodup_append]
    refine ⟨J.tn, I.tn, fun a ha' b hb' z => ?_⟩
    subst z
    obtain ⟨p, hp1, e1⟩ := List.mem_map.mp ha'
    obtain ⟨q, hq1, e2⟩ := List.mem_map.mp hb'
    have z1 := (J.tm p hp1).2.2.1
    have z2 := (I.tm q hq1).1
    rw [e2] at z2
    rw [e1] at z1
    rw [show H a = none from z1] at z2; cases z2
  · rw [back_len hb]; exact I.len
/-- the fields' tokens -/
theorem fld_back (I : StOk W c T σ H G S) {avs : List AV} {vs : List V} (ha : ArgsOk W G σ avs vs) {T2 : Tm} {σ2 : L2.St} {H2 G2 : Hp} {S2 : List LV}
    (J : StOk W ⟨H, G, ownAd avs vs, vs, []⟩ T2 σ2 H2 G2 S2) : ∀ {es : List (Str × D × Option Nat)} {fs : List (Str × V)}, FldOk W G2 σ2 es fs → FldOk W G2 σ (es.map fun f => (f.1, f.2.1, tokBack S2 avs f.2.2)) fs
  | [], _, h => h
  | (n, d, t) :: r, _, h => by
    obtain ⟨v, q, e, h1, h2, z⟩ := h
    refine ⟨v, q, e, h1, ?_, fld_back I ha J z⟩
    show Tok σ (tokBack S2 avs t) v
    cases t with
    | none => exact tok_none
    | some i =>
      unfold tokBack
      dsimp only
      split
      · rename_i d' d2 t' e1 e2
        obtain ⟨u, f1, _, f3⟩ := J.im i _ _ e1
        obtain ⟨v', g1, _, g3⟩ := ha.im e2
        have x := h2 i rfl
        rw [f1] at x; cases x
        have y : vs[i]? = some v := f3 rfl
        rw [y] at g1; cases g1
        exact g3
      · exact tok_none
def mCallC (mb : MS) (nN : Nat) (avs : List AV) (S : List LV) : Res (D ⊕ List D) := if (avs.filterMap ownAt).Nodup then (match parsOf S avs with
  | some ps => (match mb (ps ++ List.replicate (nN - ps.length) .no) with
    | .rt d S2 => (match back S2 avs 0 S with
      | some S' => .ok (.inl d) S'
      | none => .stuck)
    | .nx S2 => (match back S2 avs 0 S with
      | some S' => .ok (.inl .non) S'
      | none => .stuck)
    | .rf ds S2 => (match back S2 avs 0 S with
      | some S' => .ok (.inr ds) S'
      | none => .stuck)
    | .er e S2 => (match back S2 avs 0 S with
      | some S' => .er (erBack S2 avs e) S'
      | none => .stuck)
    | _ => .stuck)
  | none => .stuck) else .stuck
def kC (W : Wx) (c : Cn) (T : Tm) (σ : L2.St) (Q : VK) : Hp → D ⊕ List D → List LV → Prop := fun G x S => match x with
  | .inl d => ∀ v H' G', GLe G G' → StOk W c T σ H' G' S → Rep W G' d v → Q v H'
  | .inr ds => ∀ a vs H' G', GLe G G' → StOk W c ((a, .lst vs) :: T) σ H' G' S → RepL W G' ds vs → Q (.ref a) H'
theorem call_core (I : StOk W c T σ H G S) {avs : List AV} {vs : List V} {mb : MS} {nN : Nat} {Q : VK} {Ex : XK} (ha : ArgsOk W G σ avs vs) (hq : PR W c T Ex σ (kC W c T σ Q) G (mCallC mb nN avs S)) : spD W avs.length nN mb vs H Q Ex := by
  unfold mCallC at hq
  split at hq
  · rename_i nd
    split at hq
    · rename_i ps hp
      refine ⟨ha.len, G, ownAd avs vs, ps ++ List.replicate (nN - ps.length) .no, call_enter I ha hp nd, ?_⟩
      split at hq
      · rename_i d S2 em
        split at hq
        · rename_i S' eb
          rw [em]
          exact fun σ' v H' G' g J r => hq v H' G' g (call_exit I ha hp nd J eb) r
        · exact (hq : False).elim
      · rename_i S2 em
        split at hq
        · rename_i S' eb
          rw [em]
          exact fun σ' H' G' g J => hq .non H' G' g (call_exit I ha hp nd J eb) (by simp)
        · exact (hq : False).elim
      · rename_i ds S2 em
        split at hq
        · rename_i S' eb
          rw [em]
          exact fun σ' a ws H' G' g J r => hq a ws H' G' g (call_exit I ha hp nd J eb) r
        · exact (hq : False).elim
      · rename_i e S2 em
        split at hq
        · rename_i S' eb
          rw [em]
          refine fun σ' cls dd H' G' g J x => hq cls dd H' G' g (call_exit I ha hp nd J eb) ?_
          obtain ⟨C, d, fs, x1, x2, x3, x4, x5, x6⟩ := x
          exact ⟨C, d, fs, x1, x2, x3, x4, I.fresh x5, fld_back I ha J x6⟩
        · exact (hq : False).elim
      · exact (hq : False).elim
    · exact (hq : False).elim
  · exact (hq : False).elim
def mFn (mb : MS) (nN : Nat) (ma : MA) : ME := fun S => (ma S).bind fun avs S1 => (mCallC mb nN avs S1).bind fun r S2 => match r with
  | .inl d => .ok (d, none) S2
  | .inr ds => .ok (.lst ds, none) S2
def mFnF (mb : MS) (nN : Nat) (ma : MA) : MF := fun S => (ma S).bind fun avs S1 => (mCallC mb nN avs S1).bind fun r S2 => match r with
  | .inl d => .stuck
  | .inr ds => .ok ds S2
theorem mC' {Q : VK} : Mono (kC W c T σ Q) := fun G G1 x S g h => by
  cases x with
  | inl d => exact fun v H' G' g' => h v H' G' (g.trans g')
  | inr ds => exact fun a vs H' G' g' => h a vs H' G' (g.trans g')
/-- n parameters: what the arguments' list has -/
def NArgs (n : Nat) (ma : MA) : Prop := ∀ S avs S1, ma S = .ok avs S1 → avs.length = n
theorem er_callD {n nN : Nat} {mb : MS} {ta : TA} {ma : MA} (hn : NArgs n ma) (h : AR W E ta ma) : ER W E (tCallS (spD W n nN mb) E ta) (mFn mb nN ma) := fun c T σ H G S Q I hq => by
  refine h c T σ H G S _ I (hq.bind fun avs S1 e1 h1 vs H1 G1 g1 I1 r1 => ?_)
  have e := hn _ _ _ e1
  subst e
  refine call_core I1 r1 (PR.bind (k := kE W c T σ Q) (h1.mono mE g1) fun x S2 _ h2 => ?_)
  cases x with
  | inl d => exact fun v H' G' g I' r => h2 v H' G' g I' r tok_none
  | inr ds =>
    refine fun a vs' H' G' g I' r => ?_
    have gu := I'.gle
    exact h2 (.ref a) H' _ (g.trans gu) I'.known (rep_lst upd_same (r.mono gu)) tok_none
theorem ef_callD {n nN : Nat} {mb : MS} {ta : TA} {ma : MA} (hn : NArgs n ma) (h : AR W E ta ma) : EF W E (tCallS (spD W n nN mb) E ta) (mFnF mb nN ma) := fun c T σ H G S Q I hq => by
  refine h c T σ H G S _ I (hq.bind fun avs S1 e1 h1 vs H1 G1 g1 I1 r1 => ?_)
  have e := hn _ _ _ e1
  subst e
  refine call_core I1 r1 (PR.bind (k := kF W c T σ Q) (h1.mono mF g1) fun x S2 _ h2 => ?_)
  cases x with
  | inl d => exact (h2 : False).elim
  | inr ds => exact fun a vs' H' G' g I' r => h2 a vs' H' G' g I' r
end Dy

set_option Elab.async false
set_option linter.all false
set_option maxRecDepth 100000
set_option maxHeartbeats 4000000
namespace Dy
open PySem PySem.Spec L2

/-- what a text's proofs share -/
structure Sx where
  W : Wx
  P : Program
  w : World
  base : Heap
/-- the context: a def's body or a block, its names N, its scope sc, the level k, what is wanted of exceptions -/
structure Ct (s : Sx) (X : Cx) (N : List Str) (sc : Scope) (fn : Str → Bool) (k : Nat) (E : L2.St → XK) : Prop where
  prog : X.prog = s.P
  w : X.w = s.w
  K : X.K = s.W.K
  mg : X.mg = s.W.mg
  base : X.base = s.base
  nm : X.N = N
  nd : N.Nodup
  sc : X.env.scope = sc
  fn : X.fn = fn
  room : Room k X.A
  calm : X.calm = true
  tk : Takes X (fun cls d σ H => E σ cls d H)
  pown : PassesOwn (model X.prog X.w) X.A X.env X.xe
theorem Ct.pass {s : Sx} {X : Cx} {N : List Str} {sc : Scope} {fn : Str → Bool} {k : Nat} {E : L2.St → XK} (h : Ct s X N sc fn k E) (σ : L2.St) : PassesAt (L2.CX X.prog X.w) X σ (E σ) := passAt h.tk σ
def visB (sc : Scope) (x : Str) : Bool := decide (sc.names.lookup x = some .local) || decide (sc.names.lookup x = some .cell) || decide (sc.names.lookup x = some .free)
def locB (sc : Scope) (fn : Str → Bool) (x : Str) : Bool := decide (sc.names.lookup x = some .local) || (decide (sc.names.lookup x = some .cell) && fn x)
def glB (sc : Scope) (x : Str) : Bool := decide (sc.names.lookup x = some .globalImplicit)
section
variable {s : Sx} {X : Cx} {N : List Str} {sc : Scope} {fn : Str → Bool} {k : Nat} {E : L2.St → XK} {pos p p2 p3 : Pos} {a b c e : Expr} {es : List Expr} {st : Stmt} {sts : List Stmt} {ma mb mc me : ME} {mi : MF} {x : Str} {i : Nat}
theorem Ct.vis (h : Ct s X N sc fn k E) (hv : visB sc x = true) : Vis X.env.scope x := by
  rw [h.sc]
  unfold visB at hv
  simp only [Bool.or_eq_true, decide_eq_true_eq] at hv
  rcases hv with (z | z) | z
  · exact .inl z
  · exact .inr (.inl z)
  · exact .inr (.inr z)
theorem Ct.loc (h : Ct s X N sc fn k E) (hv : locB sc fn x = true) : L2.Loc X.env.scope x ∧ (X.fn x = true ∨ X.env.scope.names.lookup x = some .local) := by
  unfold locB at hv
  simp only [Bool.or_eq_true, Bool.and_eq_true, decide_eq_true_eq] at hv
  unfold L2.Loc
  rw [h.sc, h.fn]
  rcases hv with z | ⟨z, f⟩
  · exact ⟨.inl z, .inr z⟩
  · exact ⟨.inr z, .inl f⟩
theorem Ct.gl (h : Ct s X N sc fn k E) (hv : glB sc x = true) : Gl X x := by
  unfold Gl Env.kindOf
  rw [h.sc]
  exact of_decide_eq_true hv
theorem Ct.at_ (h : Ct s X N sc fn k E) (hi : N[i]? = some x) : X.N[i]? = some x := by rw [h.nm]; exact hi
theorem Ct.ndX (h : Ct s X N sc fn k E) : X.N.Nodup := by rw [h.nm]; exact h.nd
theorem Ct.none (h : Ct s X N sc fn k E) (hm : s.W.mg x = none) : X.mg x = none := by rw [h.mg]; exact hm
theorem Ct.un (h : Ct s X N sc fn k E) : X.A.units + 64 < cLine := h.room.units

/-! ### what is derived -/
def DE (s : Sx) (E : L2.St → XK) (X : Cx) (e : Expr) (m : ME) : Prop := ∃ t, PE X e t ∧ ER s.W E t m
def DF (s : Sx) (E : L2.St → XK) (X : Cx) (e : Expr) (m : MF) : Prop := ∃ t, PE X e t ∧ EF s.W E t m
def DT (s : Sx) (E : L2.St → XK) (X : Cx) (e : Expr) (m : MT) : Prop := ∃ t, PT X e t ∧ TR s.W E t m
def DW (s : Sx) (E : L2.St → XK) (X : Cx) (e : Expr) (m : MT) : Prop := ∃ t, PW X e t ∧ TR s.W E t m
def DI (s : Sx) (E : L2.St → XK) (X : Cx) (es : List Expr) (m : MF) : Prop := ∃ t, PA X es t ∧ AI s.W E t m
def DA (s : Sx) (E : L2.St → XK) (X : Cx) (es : List Expr) (m : MA) : Prop := ∃ t, PA X es t ∧ AR s.W E t m
def DN (s : Sx) (E : L2.St → XK) (X : Cx) (tg e : Expr) (m : MF) : Prop := ∃ t, PI X tg e t ∧ IR s.W E t m
def DO (s : Sx) (E : L2.St → XK) (X : Cx) (e : Option Expr) (m : MO) : Prop := ∃ t, PO X e t ∧ OR s.W E t m
def DX (s : Sx) (E : L2.St → XK) (X : Cx) (e : Expr) (m : List LV → Res XV) : Prop := ∃ t, PE X e t ∧ XR s.W E t m
def DS (s : Sx) (E : L2.St → XK) (X : Cx) (st : Stmt) (m : MS) : Prop := ∃ t, PS X st t ∧ SR s.W E t m
def DB (s : Sx) (E : L2.St → XK) (X : Cx) (sts : List Stmt) (m : MS) : Prop := ∃ t, PSs X sts t ∧ SR s.W E t m
def DG (s : Sx) (E : L2.St → XK) (X : Cx) (e : Expr) (m : D → List LV → Res Unit) : Prop := ∃ t, PG X e t ∧ GR s.W E t m ∧ NoEr m
def DGs (s : Sx) (E : L2.St → XK) (X : Cx) (es : List Expr) (m : List D → List LV → Res Unit) : Prop := ∃ t, PGs X es t ∧ GRs s.W E t m ∧ NoErs m

/-! ### names, constants -/
def mStuck {α : Type} : List LV → Res α := fun _ => .stuck
theorem de_stuck : DE s E X e mStuck := ⟨fun _ _ _ => False, ⟨fun _ _ _ _ _ _ h => h.elim⟩, fun c T σ H G S Q I hq => hq⟩
theorem df_stuck : DF s E X e mStuck := ⟨fun _ _ _ => False, ⟨fun _ _ _ _ _ _ h => h.elim⟩, fun c T σ H G S Q I hq => hq⟩
theorem de_var (h : Ct s X N sc fn k E) (i : Nat) (hi : N[i]? = some x := by rfl) (hv : visB sc x = true := by decide +kernel) (hd : (x == ("__debug__" : Str)) = false := by decide +kernel) (hcd : (x == ("__classdict__" : Str)) = false := by decide +kernel) : DE s E X (.Name x pos) (mVar i) :=
  ⟨_, pe_var (h.at_ hi) (h.vis hv) hd hcd, er_var⟩
theorem df_move (h : Ct s X N sc fn k E) (i : Nat) (hi : N[i]? = some x := by rfl) (hv : visB sc x = true := by decide +kernel) (hd : (x == ("__debug__" : Str)) = false := by decide +kernel) (hcd : (x == ("__classdict__" : Str)) = false := by decide +kernel) : DF s E X (.Name x pos) (mMove i) :=
  ⟨_, pe_var (h.at_ hi) (h.vis hv) hd hcd, ef_move⟩
theorem de_int {i : Int} {j} : DE s E X (.Constant (.int i) j pos) (mC (.int i)) := ⟨_, pe_int, er_c fun G => by simp⟩
theorem de_str {z : Str} {j} : DE s E X (.Constant (.str z) j pos) (mC (.str z)) := ⟨_, pe_str, er_c fun G => by simp⟩
theorem de_bl {b : Bool} {j} : DE s E X (.Constant (.bool b) j pos) (mC (.bl b)) := ⟨_, pe_bl, er_c fun G => by simp⟩
theorem de_non {j} : DE s E X (.Constant .none j pos) (mC .non) := ⟨_, pe_non, er_c fun G => by simp⟩
theorem de_gint (h : Ct s X N sc fn k E) {i : Int} (hm : ∃ t, s.W.mg x = some (.int i t)) (hg : glB sc x = true := by decide +kernel) (hd : (x == ("__debug__" : Str)) = false := by decide +kernel) : DE s E X (.Name x pos) (mC (.int i)) := by
  obtain ⟨t, hm⟩ := hm
  exact ⟨_, pe_glob (v := .int i) (h.gl hg) (by rw [h.mg]; exact hm) ⟨t, rfl⟩ hd, er_c fun G => by simp⟩
theorem de_gstr (h : Ct s X N sc fn k E) {z : Str} (hm : ∃ t, s.W.mg x = some (.str z t)) (hg : glB sc x = true := by decide +kernel) (hd : (x == ("__debug__" : Str)) = false := by decide +kernel) : DE s E X (.Name x pos) (mC (.str z)) := by
  obtain ⟨t, hm⟩ := hm
  exact ⟨_, pe_glob (v := .str z) (h.gl hg) (by rw [h.mg]; exact hm) ⟨t, rfl⟩ hd, er_c fun G => by simp⟩
theorem de_frz {m : MF} (h : DF s E X e m) : DE s E X e (mFrz m) := let ⟨t, p, q⟩ := h; ⟨t, p, er_frz q⟩

/-! ### operators -/
theorem de_add (h : Ct s X N sc fn k E) (ha : DE s E X a ma) (hb : DE s E X b mb) : DE s E X (.BinOp a .Add b pos) (mBin addD ma mb) := by
  obtain ⟨ta, pa, ea⟩ := ha
  obtain ⟨tb, pb, eb⟩ := hb
  refine ⟨_, pe_op (OpR.or op_add (OpR.or op_add_str (OpR.or op_catS op_catT))) pa pb, ?_⟩
  rw [h.K]
  exact er_op (OpD.or od_addI (OpD.or od_addS (OpD.or od_addL od_addT))) ea eb
theorem de_sub (ha : DE s E X a ma) (hb : DE s E X b mb) : DE s E X (.BinOp a .Sub b pos) (mBin subD ma mb) :=
  let ⟨_, pa, ea⟩ := ha; let ⟨_, pb, eb⟩ := hb; ⟨_, pe_op op_sub pa pb, er_op od_int0 ea eb⟩
theorem de_mul (ha : DE s E X a ma) (hb : DE s E X b mb) : DE s E X (.BinOp a .Mult b pos) (mBin mulI ma mb) :=
  let ⟨_, pa, ea⟩ := ha; let ⟨_, pb, eb⟩ := hb; ⟨_, pe_op op_mulX pa pb, er_op od_mulI ea eb⟩
theorem de_div (ha : DE s E X a ma) (hb : DE s E X b mb) : DE s E X (.BinOp a .FloorDiv b pos) (mBin divD ma mb) :=
  let ⟨_, pa, ea⟩ := ha; let ⟨_, pb, eb⟩ := hb; ⟨_, pe_op op_fdivW pa pb, er_op od_div ea eb⟩
theorem de_mod (ha : DE s E X a ma) (hb : DE s E X b mb) : DE s E X (.BinOp a .Mod b pos) (mBin modD ma mb) :=
  let ⟨_, pa, ea⟩ := ha; let ⟨_, pb, eb⟩ := hb; ⟨_, pe_op op_mod pa pb, er_op od_mod ea eb⟩
theorem de_pow (ha : DE s E X a ma) (hb : DE s E X b mb) : DE s E X (.BinOp a .Pow b pos) (mBin powD ma mb) :=
  let ⟨_, pa, ea⟩ := ha; let ⟨_, pb, eb⟩ := hb; ⟨_, pe_op op_pow pa pb, er_op od_pow ea eb⟩
theorem de_neg (ha : DE s E X a ma) : DE s E X (.UnaryOp .USub a pos) (mNeg ma) := let ⟨_, pa, ea⟩ := ha; ⟨_, pe_un un_neg pa, er_neg ea⟩
theorem df_rep {m : MF} (ha : DF s E X a m) (hb : DE s E X b mb) : DF s E X (.BinOp a .Mult b pos) (mRepF m mb) :=
  let ⟨_, pa, ea⟩ := ha; let ⟨_, pb, eb⟩ := hb; ⟨_, pe_op op_rep pa pb, ef_rep ea eb⟩

/-! ### comparisons -/
/-- an operator's rule for both sides -/
def CmpK (s : Sx) (X : Cx) (op : CmpOp) (f : D → D → Option D) : Prop := ∃ r, OpR X (compareOp op) r ∧ OpD s.W r f
theorem ck_eq (h : Ct s X N sc fn k E) : CmpK s X .Eq (mEq false) := ⟨_, op_eqX h.un, by rw [h.K]; exact od_eq⟩
theorem ck_ne (h : Ct s X N sc fn k E) : CmpK s X .NotEq (mEq true) := ⟨_, op_neX h.un, by rw [h.K]; exact od_eq⟩
theorem ck_lt : CmpK s X .Lt (cmpI fun i j => decide (i < j)) := ⟨_, op_lt, od_cmp⟩
theorem ck_le : CmpK s X .LtE (cmpI fun i j => decide (i ≤ j)) := ⟨_, op_le, od_cmp⟩
theorem ck_gt : CmpK s X .Gt (cmpI fun i j => decide (j < i)) := ⟨_, op_gt, od_cmp⟩
theorem ck_ge : CmpK s X .GtE (cmpI fun i j => decide (j ≤ i)) := ⟨_, op_ge, od_cmp⟩
theorem ck_is : CmpK s X .Is (isN false) := ⟨_, op_isN, od_isN (neg := false)⟩
theorem ck_isnot : CmpK s X .IsNot (isN true) := ⟨_, op_notN, od_isN (neg := true)⟩
theorem ck_in (h : Ct s X N sc fn k E) : CmpK s X .In (inD false) := ⟨_, op_in_seq, by rw [h.K]; exact od_in⟩
theorem ck_notin (h : Ct s X N sc fn k E) : CmpK s X .NotIn (inD true) := ⟨_, op_notIn_seq, by rw [h.K]; exact od_in⟩
theorem ck_inS : CmpK s X .In (inStr false) := ⟨_, op_in_sign, od_inStr (neg := false)⟩
theorem ck_notinS : CmpK s X .NotIn (inStr true) := ⟨_, op_notIn_sign, od_inStr (neg := true)⟩
theorem de_cmp {op : CmpOp} {f : D → D → Option D} (hc : CmpK s X op f) (ha : DE s E X a ma) (hb : DE s E X b mb) (hm : behindInMarks op b = false := by first | exact nomark _ (by decide) (by decide) | rfl) : DE s E X (.Compare a [op] [b] pos) (mBin f ma mb) :=
  let ⟨_, o, d⟩ := hc; let ⟨_, pa, ea⟩ := ha; let ⟨_, pb, eb⟩ := hb; ⟨_, pe_cmpR o pa pb hm, er_op d ea eb⟩
theorem dt_cmp {op : CmpOp} {f : D → D → Option D} (hc : CmpK s X op f) (ha : DE s E X a ma) (hb : DE s E X b mb) (hm : behindInMarks op b = false := by first | exact nomark _ (by decide) (by decide) | rfl) : DT s E X (.Compare a [op] [b] pos) (mTst (mBin f ma mb)) :=
  let ⟨_, o, d⟩ := hc; let ⟨_, pa, ea⟩ := ha; let ⟨_, pb, eb⟩ := hb; ⟨_, pt_cmpR o pa pb hm, tr_tst (er_op d ea eb)⟩
theorem de_chain {op op' : CmpOp} {f f' : D → D → Option D} (hc : CmpK s X op f) (hc' : CmpK s X op' f') (ha : DE s E X a ma) (hb : DE s E X b mb) (hcc : DE s E X c mc) (hm : lastMarks [op, op'] [b, c] = false := by with_unfolding_all rfl) : DE s E X (.Compare a [op, op'] [b, c] pos) (mChain f f' ma mb mc) :=
  let ⟨_, o, d⟩ := hc; let ⟨_, o', d'⟩ := hc'; let ⟨_, pa, ea⟩ := ha; let ⟨_, pb, eb⟩ := hb; let ⟨_, pc, ec⟩ := hcc; ⟨_, pe_chain o o' pa pb pc (hm := hm), er_chain d d' ea eb ec⟩
theorem dt_chain {op op' : CmpOp} {f f' : D → D → Option D} (hc : CmpK s X op f) (hc' : CmpK s X op' f') (ha : DE s E X a ma) (hb : DE s E X b mb) (hcc : DE s E X c mc) (hm : lastMarks [op, op'] [b, c] = false := by with_unfolding_all rfl) : DT s E X (.Compare a [op, op'] [b, c] pos) (mTst (mChain f f' ma mb mc)) :=
  let ⟨_, o, d⟩ := hc; let ⟨_, o', d'⟩ := hc'; let ⟨_, pa, ea⟩ := ha; let ⟨_, pb, eb⟩ := hb; let ⟨_, pc, ec⟩ := hcc; ⟨_, pt_chain o o' pa pb pc (hm := hm), tr_tst (er_chain d d' ea eb ec)⟩

/-! ### tests -/
theorem dt_val (h : DE s E X e me) (he : ∀ whole, isTrue e X.env whole = (do let v ← whole; standAt e.pos; holding [v] (truthy v)) := by intro _; rfl) : DT s E X e (mTst me) := let ⟨_, p, q⟩ := h; ⟨_, pt_val p he, tr_B q⟩
theorem dt_tru (hx : Ct s X N sc fn k E) (h : DE s E X e me) (he : ∀ whole, isTrue e X.env whole = (do let v ← whole; standAt e.pos; holding [v] (truthy v)) := by intro _; rfl) : DT s E X e (mTru me) := by
  obtain ⟨t, p, q⟩ := h
  refine ⟨_, pt_truth p he, ?_⟩
  rw [hx.K]
  exact tr_tru q
theorem dt_truO (h : Ct s X N sc fn k E) (i : Nat) (hi : N[i]? = some x := by rfl) (hv : visB sc x = true := by decide +kernel) (hd : (x == ("__debug__" : Str)) = false := by decide +kernel) (hcd : (x == ("__classdict__" : Str)) = false := by decide +kernel) : DT s E X (.Name x pos) (mTruO i) := by
  refine ⟨_, pt_truth (pe_var (h.at_ hi) (h.vis hv) hd hcd) (by intro _; rfl), ?_⟩
  rw [h.K]
  exact tr_truO
variable {mt mu : MT}
theorem dt_not (h : DT s E X a mt) : DT s E X (.UnaryOp .Not a pos) (mNotT mt) := let ⟨_, p, q⟩ := h; ⟨_, pt_not p, tr_not q⟩
theorem dt_w (h : DW s E X e mt) : DT s E X e mt := let ⟨_, p, q⟩ := h; ⟨_, p.pt, q⟩
theorem dw_and1 (h : DT s E X a mt) : DW s E X (.BoolOp .And [a] pos) mt := let ⟨_, p, q⟩ := h; ⟨_, pw_and1 p, q⟩
theorem dw_or1 (h : DT s E X a mt) : DW s E X (.BoolOp .Or [a] pos) mt := let ⟨_, p, q⟩ := h; ⟨_, pw_or1 p, q⟩
theorem dw_and {rest : List Expr} (h : DT s E X a mt) (h2 : DW s E X (.BoolOp .And (b :: rest) pos) mu) : DW s E X (.BoolOp .And (a :: b :: rest) pos) (mAndT mt mu) := let ⟨_, p, q⟩ := h; let ⟨_, p2, q2⟩ := h2; ⟨_, pw_and p p2, tr_and q q2⟩
theorem dw_or {rest : List Expr} (h : DT s E X a mt) (h2 : DW s E X (.BoolOp .Or (b :: rest) pos) mu) : DW s E X (.BoolOp .Or (a :: b :: rest) pos) (mOrT mt mu) := let ⟨_, p, q⟩ := h; let ⟨_, p2, q2⟩ := h2; ⟨_, pw_or p p2, tr_or q q2⟩
/-! ### values of tests -/
theorem de_one {op} (h : DE s E X a ma) : DE s E X (.BoolOp op [a] pos) ma := let ⟨_, p, q⟩ := h; ⟨_, pe_one p, q⟩
theorem de_and {rest : List Expr} (h : DE s E X a ma) (h2 : DE s E X (.BoolOp .And (b :: rest) pos) mb) : DE s E X (.BoolOp .And (a :: b :: rest) pos) (mAndV ma mb) := let ⟨_, p, q⟩ := h; let ⟨_, p2, q2⟩ := h2; ⟨_, pe_and p p2, er_andV q q2⟩
theorem de_or {rest : List Expr} (h : DE s E X a ma) (h2 : DE s E X (.BoolOp .Or (b :: rest) pos) mb) : DE s E X (.BoolOp .Or (a :: b :: rest) pos) (mOrV ma mb) := let ⟨_, p, q⟩ := h; let ⟨_, p2, q2⟩ := h2; ⟨_, pe_or p p2, er_orV q q2⟩
theorem de_notV (h : DE s E X a ma) : DE s E X (.UnaryOp .Not a pos) (mNotV ma) := let ⟨_, p, q⟩ := h; ⟨_, pe_not p, er_notV q⟩
theorem de_if (hc : DT s E X c mt) (ha : DE s E X a ma) (hb : DE s E X b mb) : DE s E X (.IfExp c a b pos) (mIf mt ma mb) := let ⟨_, pc, qc⟩ := hc; let ⟨_, p, q⟩ := ha; let ⟨_, p2, q2⟩ := hb; ⟨_, pe_ifExp pc p p2, er_if qc q q2⟩
theorem df_if {m1 m2 : MF} (hc : DT s E X c mt) (ha : DF s E X a m1) (hb : DF s E X b m2) : DF s E X (.IfExp c a b pos) (mIf mt m1 m2) := let ⟨_, pc, qc⟩ := hc; let ⟨_, p, q⟩ := ha; let ⟨_, p2, q2⟩ := hb; ⟨_, pe_ifExp pc p p2, ef_if qc q q2⟩

/-! ### arguments, displays -/
theorem di_nil : DI s E X [] mNil := ⟨_, pa_nil, ai_nil⟩
theorem di_cons {mr : MF} (h : DE s E X e me) (t : DI s E X es mr) (hs : starEach (e :: es) X.env = (false, eval e X.env) :: starEach es X.env := by rfl) : DI s E X (e :: es) (mCons me mr) := let ⟨_, p, q⟩ := h; let ⟨_, p2, q2⟩ := t; ⟨_, pa_cons p p2 hs, ai_cons q q2⟩
theorem de_tup {x1} (h : DI s E X es mi) : DE s E X (.Tuple es x1 pos) (mTup mi) := let ⟨_, p, q⟩ := h; ⟨_, pe_tup p, er_tup q⟩
theorem df_lst (h : DI s E X es mi) : DF s E X (.List es pos) (mLst mi) := let ⟨_, p, q⟩ := h; ⟨_, pe_lst p, ef_lst q⟩
def mANil : MA := fun S => .ok [] S
def mAIm (me : ME) (mr : MA) : MA := fun S => (me S).bind fun x S1 => (mr S1).bind fun r S2 => .ok (.im x.1 x.2 :: r) S2
def mAOwn (i : Nat) (mr : MA) : MA := fun S => match S[i]? with
  | some (.ow _ _) => (mr S).bind fun r S2 => .ok (.own i :: r) S2
  | _ => .stuck
theorem ar_nil {W : Wx} : AR W E tNil mANil := fun c T σ H G S Q I hq => hq [] H G GLe.rfl I rfl
theorem ar_im {W : Wx} {te : TE} {ta : TA} {mr : MA} (h : ER W E te me) (t : AR W E ta mr) : AR W E (tCons te ta) (mAIm me mr) := fun c T σ H G S Q I hq => by
  refine h c T σ H G S _ I (hq.bind fun x S1 _ h1 v H1 G1 g1 I1 r1 t1 => ?_)
  refine t c T σ H1 G1 S1 _ I1 ((h1.mono mA g1).bind fun r S2 _ h2 vs H2 G2 g2 I2 a2 => ?_)
  exact h2 (v :: vs) H2 G2 g2 I2 ⟨v, vs, rfl, r1.mono g2, t1, a2⟩
theorem ar_own {W : Wx} {ta : TA} {mr : MA} (t : AR W E ta mr) : AR W E (tCons (tVar i) ta) (mAOwn i mr) := fun c T σ H G S Q I hq => by
  unfold mAOwn at hq
  split at hq
  · rename_i ds p es
    obtain ⟨a, vs, e1, _⟩ := I.ow _ _ _ es
    refine ⟨_, e1, t c T σ H G S _ I (hq.bind fun r S2 _ h2 vs H2 G2 g2 I2 a2 => ?_)⟩
    exact h2 (.ref a :: vs) H2 G2 g2 I2 ⟨_, vs, rfl, e1, a2⟩
  · exact (hq : False).elim
theorem da_nil : DA s E X [] mANil := ⟨_, pa_nil, ar_nil⟩
theorem da_im {mr : MA} (h : DE s E X e me) (t : DA s E X es mr) (hs : starEach (e :: es) X.env = (false, eval e X.env) :: starEach es X.env := by rfl) : DA s E X (e :: es) (mAIm me mr) := let ⟨_, p, q⟩ := h; let ⟨_, p2, q2⟩ := t; ⟨_, pa_cons p p2 hs, ar_im q q2⟩
theorem da_own {mr : MA} (h : Ct s X N sc fn k E) (i : Nat) (t : DA s E X es mr) (hi : N[i]? = some x := by rfl) (hv : visB sc x = true := by decide +kernel) (hd : (x == ("__debug__" : Str)) = false := by decide +kernel) (hcd : (x == ("__classdict__" : Str)) = false := by decide +kernel)
    (hs : starEach (.Name x pos :: es) X.env = (false, eval (.Name x pos) X.env) :: starEach es X.env := by rfl) : DA s E X (.Name x pos :: es) (mAOwn i mr) := let ⟨_, p2, q2⟩ := t; ⟨_, pa_cons (pe_var (h.at_ hi) (h.vis hv) hd hcd) p2 hs, ar_own q2⟩
theorem na_nil : NArgs 0 mANil := fun S avs S1 e => by cases e; rfl
theorem na_im {n : Nat} {mr : MA} (h : NArgs n mr) : NArgs (n + 1) (mAIm me mr) := fun S avs S1 e => by
  unfold mAIm at e
  cases q : me S with
  | stuck => rw [q] at e; cases e
  | er _ _ => rw [q] at e; cases e
  | ok x S2 =>
    rw [q, Res.bind_ok] at e
    cases q2 : mr S2 with
    | stuck => rw [q2] at e; cases e
    | er _ _ => rw [q2] at e; cases e
    | ok r S3 =>
      rw [q2, Res.bind_ok] at e
      cases e
      exact congrArg (· + 1) (h _ _ _ q2)
theorem na_own {n : Nat} {mr : MA} (h : NArgs n mr) : NArgs (n + 1) (mAOwn i mr) := fun S avs S1 e => by
  unfold mAOwn at e
  split at e
  · cases q2 : mr S with
    | stuck => rw [q2] at e; cases e
    | er _ _ => rw [q2] at e; cases e
    | ok r S3 =>
      rw [q2, Res.bind_ok] at e
      cases e
      exact congrArg (· + 1) (h _ _ _ q2)
  · cases e

/-! ### built-in functions -/
theorem de_callB {id : String} {r : List V → Hp → VK → Prop} {f : List D → Option D} (h : Ct s X N sc fn k E) (hr : CallR X (.builtin id) r) (hf : CallD s.W r f) (hm : s.W.mg x = none) (hv : bootBuiltins x = some (.builtin id)) (ha : DI s E X (e :: es) mi) (hg : glB sc x = true := by decide +kernel) (hn : x ≠ "__name__" := by decide) (hd : (x == ("__debug__" : Str)) = false := by decide +kernel)
    (he : starEach (e :: es) X.env = (false, eval e X.env) :: starEach es X.env := by rfl) (hpl : (backTo pos (starEach es X.env)).any (·.1) = false := by rfl) : DE s E X (.Call (.Name x p) (e :: es) [] pos) (mCall f mi) := let ⟨_, pa, q⟩ := ha; ⟨_, pe_callB hr (h.gl hg) (h.none hm) hv pa hn hd he hpl, er_call hf q⟩
theorem de_callT {T : String} {r : List V → Hp → VK → Prop} {f : List D → Option D} (h : Ct s X N sc fn k E) (hr : CallR X (.type T) r) (hf : CallD s.W r f) (hm : s.W.mg x = none) (hv : bootBuiltins x = some (.type T)) (ha : DI s E X (e :: es) mi) (hg : glB sc x = true := by decide +kernel) (hn : x ≠ "__name__" := by decide) (hd : (x == ("__debug__" : Str)) = false := by decide +kernel)
    (he : starEach (e :: es) X.env = (false, eval e X.env) :: starEach es X.env := by rfl) (hpl : (backTo pos (starEach es X.env)).any (·.1) = false := by rfl) : DE s E X (.Call (.Name x p) (e :: es) [] pos) (mCall f mi) := let ⟨_, pa, q⟩ := ha; ⟨_, pe_callTy hr (h.gl hg) (h.none hm) hv pa hn hd he hpl, er_call hf q⟩
theorem df_callT {T : String} {r : List V → Hp → VK → Prop} {f : List D → Option (List D)} (h : Ct s X N sc fn k E) (hr : CallR X (.type T) r) (hf : CallF s.W r f) (hm : s.W.mg x = none) (hv : bootBuiltins x = some (.type T)) (ha : DI s E X (e :: es) mi) (hg : glB sc x = true := by decide +kernel) (hn : x ≠ "__name__" := by decide) (hd : (x == ("__debug__" : Str)) = false := by decide +kernel)
    (he : starEach (e :: es) X.env = (false, eval e X.env) :: starEach es X.env := by rfl) (hpl : (backTo pos (starEach es X.env)).any (·.1) = false := by rfl) : DF s E X (.Call (.Name x p) (e :: es) [] pos) (mCallF f mi) := let ⟨_, pa, q⟩ := ha; ⟨_, pe_callTy hr (h.gl hg) (h.none hm) hv pa hn hd he hpl, ef_call hf q⟩
end
end Dy

set_option Elab.async false
set_option linter.all false
set_option maxRecDepth 100000
set_option maxHeartbeats 4000000
namespace Dy
open PySem PySem.Spec L2
theorem StOk.swap {W : Wx} {c : Cn} {T : Tm} {σ : L2.St} {H G : Hp} {S : List LV} {p q : Addr × HO} (I : StOk W c (p :: q :: T) σ H G S) : StOk W c (q :: p :: T) σ H G S := { I with
  tm := fun r hr => I.tm r (by
    rcases List.mem_cons.mp hr with rfl | hr
    · exact List.mem_cons_of_mem _ List.mem_cons_self
    · rcases List.mem_cons.mp hr with rfl | hr
      · exact List.mem_cons_self
      · exact List.mem_cons_of_mem _ (List.mem_cons_of_mem _ hr))
  tn := by
    have z := I.tn
    rw [List.map_cons, List.map_cons] at z ⊢
    exact (List.Perm.swap _ _ _).nodup z }
section
variable {s : Sx} {X : Cx} {N : List Str} {sc : Scope} {fn : Str → Bool} {k : Nat} {E : L2.St → XK} {pos p p1 p2 p3 apos tpos : Pos} {a b c e o tg iter elt : Expr} {es ifs : List Expr} {st : Stmt} {sts rest : List Stmt} {ma mb mc me : ME} {mi : MF} {mt mu : MT} {x y z : Str} {i j : Nat}

/-! ### isinstance -/
def DTy (s : Sx) (X : Cx) (es : List Expr) (Ts : List String) : Prop := PA X es (tTys Ts)
theorem dty_nil : DTy s X [] [] := pa_nil
theorem dty_cons {t : String} {Ts : List String} (h : Ct s X N sc fn k E) (hm : s.W.mg x = none) (hv : bootBuiltins x = some (.type t)) (r : DTy s X es Ts) (hg : glB sc x = true := by decide +kernel) (hn : x ≠ "__name__" := by decide) (hd : (x == ("__debug__" : Str)) = false := by decide +kernel)
    (hs : starEach (.Name x pos :: es) X.env = (false, eval (.Name x pos) X.env) :: starEach es X.env := by rfl) : DTy s X (.Name x pos :: es) (t :: Ts) := pa_cons (pe_bltn (v := .ty t) (h.gl hg) (h.none hm) hv rfl hn hd) r hs
theorem de_isi {t : String} (h : Ct s X N sc fn k E) (hm : s.W.mg "isinstance" = none) (he : DE s E X e me) (hmt : s.W.mg x = none) (hv : bootBuiltins x = some (.type t)) (ht : t ∈ TYS.tail := by decide) (hg0 : glB sc "isinstance" = true := by decide +kernel) (hg : glB sc x = true := by decide +kernel) (hn : x ≠ "__name__" := by decide) (hd : (x == ("__debug__" : Str)) = false := by decide +kernel)
    (hs : starEach [e, .Name x p2] X.env = (false, eval e X.env) :: starEach [.Name x p2] X.env := by rfl) (hs2 : starEach [.Name x p2] X.env = (false, eval (.Name x p2) X.env) :: starEach [] X.env := by rfl) (hpl : (backTo pos (starEach [.Name x p2] X.env)).any (·.1) = false := by rfl) :
    DE s E X (.Call (.Name "isinstance" p) [e, .Name x p2] [] pos) (mIsi [t] me) := by
  obtain ⟨te, pe, q⟩ := he
  refine ⟨_, pe_callB call_isi (h.gl hg0) (h.none hm) PyProof.Rows.boot_isinstance (pa_cons pe (pa_cons (pe_bltn (v := .ty t) (h.gl hg) (h.none hmt) hv rfl hn hd) pa_nil hs2) hs) (by decide) (by decide) hs hpl, ?_⟩
  rw [h.K]
  exact er_isi ht q
theorem de_isiT {Ts : List String} {kk} (h : Ct s X N sc fn k E) (hm : s.W.mg "isinstance" = none) (he : DE s E X e me) (hT : DTy s X es Ts) (ht : ∀ t ∈ Ts, t ∈ TYS.tail := by decide) (hz : Ts.length ≤ 100 := by decide) (hg0 : glB sc "isinstance" = true := by decide +kernel)
    (hs : starEach [e, .Tuple es kk p2] X.env = (false, eval e X.env) :: starEach [.Tuple es kk p2] X.env := by rfl) (hs2 : starEach [.Tuple es kk p2] X.env = (false, eval (.Tuple es kk p2) X.env) :: starEach [] X.env := by rfl) (hpl : (backTo pos (starEach [.Tuple es kk p2] X.env)).any (·.1) = false := by rfl) :
    DE s E X (.Call (.Name "isinstance" p) [e, .Tuple es kk p2] [] pos) (mIsi Ts me) := by
  obtain ⟨te, pe, q⟩ := he
  refine ⟨_, pe_callB call_isiT (h.gl hg0) (h.none hm) PyProof.Rows.boot_isinstance (pa_cons pe (pa_cons (pe_tup hT) pa_nil hs2) hs) (by decide) (by decide) hs hpl, ?_⟩
  rw [h.K]
  exact er_isiT ht hz q

/-! ### subscripts, slices -/
theorem de_ix (h : Ct s X N sc fn k E) (ha : DE s E X a ma) (hb : DE s E X b mb) (hs : PlainIx b := by intro _ _; rfl) : DE s E X (.Subscript a b pos) (mBin ixD ma mb) := by
  obtain ⟨ta, pa, qa⟩ := ha
  obtain ⟨tb, pb, qb⟩ := hb
  refine ⟨_, pe_ix ix_seq pa pb hs, ?_⟩
  rw [h.K]
  exact er_op od_ix qa qb
theorem de_ixO (h : Ct s X N sc fn k E) (i : Nat) (hb : DE s E X b mb) (hs : PlainIx b := by intro _ _; rfl) (hi : N[i]? = some x := by rfl) (hv : visB sc x = true := by decide +kernel) (hd : (x == ("__debug__" : Str)) = false := by decide +kernel) (hcd : (x == ("__classdict__" : Str)) = false := by decide +kernel) : DE s E X (.Subscript (.Name x p) b pos) (mIxO i mb) := by
  obtain ⟨tb, pb, qb⟩ := hb
  refine ⟨_, pe_ix ix_seq (pe_var (h.at_ hi) (h.vis hv) hd hcd) pb hs, ?_⟩
  rw [h.K]
  exact er_ixO qb
theorem do_none : DO s E X none mNo := ⟨_, po_none, or_no⟩
theorem do_some (h : DE s E X e me) : DO s E X (some e) (mSome me) := let ⟨_, p, q⟩ := h; ⟨_, po_some p, or_some q⟩
variable {ml mh : MO} {lo hi : Option Expr}
theorem df_sl (h : Ct s X N sc fn k E) (he : DE s E X e me) (hl : DO s E X lo ml) (hh : DO s E X hi mh) : DF s E X (.Subscript e (.Slice lo hi none p2) pos) (mSl me ml mh) := by
  obtain ⟨ta, pa, qa⟩ := he
  obtain ⟨tl, pl, ql⟩ := hl
  obtain ⟨th, ph, qh⟩ := hh
  refine ⟨_, pe_slice sl_list pa pl ph, ?_⟩
  rw [h.K]
  exact ef_sl qa ql qh
theorem df_slS (h : Ct s X N sc fn k E) (n : Int) {kk} (he : DE s E X e me) (hl : DO s E X lo ml) (hh : DO s E X hi mh) (h0 : 0 < n := by decide)
    (hsub : ∀ a b, subscripted (.Slice lo hi (some (.Constant (.int n) kk p3)) p2) false a b = operate [a, b] (getItem a b) := by intros; with_unfolding_all rfl) : DF s E X (.Subscript e (.Slice lo hi (some (.Constant (.int n) kk p3)) p2) pos) (mSlS n me ml mh) := by
  obtain ⟨ta, pa, qa⟩ := he
  obtain ⟨tl, pl, ql⟩ := hl
  obtain ⟨th, ph, qh⟩ := hh
  refine ⟨_, pe_sliceS (st := n) pa pl ph (po_some pe_int) (fun σ H Q q => ⟨_, rfl, q⟩) h0 hsub, ?_⟩
  rw [h.K]
  exact ef_slS qa ql qh
theorem df_rev {kk} (h : Ct s X N sc fn k E) (he : DE s E X e me) : DF s E X (.Subscript e (.Slice none none (some (.UnaryOp .USub (.Constant (.int 1) kk p1) p2)) p3) pos) (mRev me) := by
  obtain ⟨ta, pa, qa⟩ := he
  refine ⟨_, pe_revL pa, ?_⟩
  rw [h.K]
  exact ef_rev qa
theorem de_lenO (h : Ct s X N sc fn k E) (i : Nat) (hm : s.W.mg "len" = none) (hi : N[i]? = some x := by rfl) (hv : visB sc x = true := by decide +kernel) (hg : glB sc "len" = true := by decide +kernel) (hd : (x == ("__debug__" : Str)) = false := by decide +kernel) (hcd : (x == ("__classdict__" : Str)) = false := by decide +kernel) : DE s E X (.Call (.Name "len" p) [.Name x p2] [] pos) (mLenO i) := by
  refine ⟨_, pe_callB call_len (h.gl hg) (h.none hm) PySem.boot_len (pa_cons (pe_var (h.at_ hi) (h.vis hv) hd hcd) pa_nil), ?_⟩
  rw [h.K]
  exact er_lenO

/-! ### methods of own lists -/
theorem ds_app (h : Ct s X N sc fn k E) (i : Nat) (he : DE s E X e me) (hi : N[i]? = some x := by rfl) (hv : visB sc x = true := by decide +kernel) (hd : (x == ("__debug__" : Str)) = false := by decide +kernel) (hcd : (x == ("__classdict__" : Str)) = false := by decide +kernel)
    (hbase : attributeBase (.Name x p) "append" X.env (eval (.Name x p) X.env) = eval (.Name x p) X.env := by rfl)
    (hfew : ((backTo p2 (starEach [e] X.env)).all (fun x => !x.1) && (backToKw p2 (keywordEach [] X.env)).all (fun x => x.1.isSome) && decide ([e].length + ([] : List Keyword).length + (if ([] : List Keyword).isEmpty then 0 else 1) < 30)) = true := by rfl)
    (hline : (apos.endLine == p2.line) = true := by rfl) (hs : starEach [e] X.env = (false, eval e X.env) :: starEach [] X.env := by rfl) (hsw : swapsWith (.Call (.Attribute (.Name x p) "append" apos) [e] [] p2) none pos.line X.env = pure false := by rfl) :
    DS s E X (.Expr (.Call (.Attribute (.Name x p) "append" apos) [e] [] p2) pos) (mApp i me) := by
  obtain ⟨te, pe, q⟩ := he
  refine ⟨_, ps_expr (pe_bm PySem.F.plainAttrs_list PySem.F.slot_list_append PySem.F.type_list_append mt_append (pe_var (h.at_ hi) (h.vis hv) hd hcd) (pa_cons pe pa_nil hs) hbase hfew hline hs rfl) hsw, ?_⟩
  rw [h.K]
  exact sr_app q
theorem de_popAt (h : Ct s X N sc fn k E) (i : Nat) (he : DE s E X e me) (hi : N[i]? = some x := by rfl) (hv : visB sc x = true := by decide +kernel) (hd : (x == ("__debug__" : Str)) = false := by decide +kernel) (hcd : (x == ("__classdict__" : Str)) = false := by decide +kernel)
    (hbase : attributeBase (.Name x p) "pop" X.env (eval (.Name x p) X.env) = eval (.Name x p) X.env := by rfl)
    (hfew : ((backTo p2 (starEach [e] X.env)).all (fun x => !x.1) && (backToKw p2 (keywordEach [] X.env)).all (fun x => x.1.isSome) && decide ([e].length + ([] : List Keyword).length + (if ([] : List Keyword).isEmpty then 0 else 1) < 30)) = true := by rfl)
    (hline : (apos.endLine == p2.line) = true := by rfl) (hs : starEach [e] X.env = (false, eval e X.env) :: starEach [] X.env := by rfl) :
    DE s E X (.Call (.Attribute (.Name x p) "pop" apos) [e] [] p2) (mPopAt i me) := by
  obtain ⟨te, pe, q⟩ := he
  refine ⟨_, pe_bm PySem.F.plainAttrs_list PySem.F.slot_list_pop PySem.F.type_list_pop mt_popAt (pe_var (h.at_ hi) (h.vis hv) hd hcd) (pa_cons pe pa_nil hs) hbase hfew hline hs rfl, ?_⟩
  rw [h.K]
  exact er_popAt q
theorem de_pop (h : Ct s X N sc fn k E) (i : Nat) (hi : N[i]? = some x := by rfl) (hv : visB sc x = true := by decide +kernel) (hd : (x == ("__debug__" : Str)) = false := by decide +kernel) (hcd : (x == ("__classdict__" : Str)) = false := by decide +kernel)
    (hbase : attributeBase (.Name x p) "pop" X.env (eval (.Name x p) X.env) = eval (.Name x p) X.env := by rfl) (hline : (apos.endLine == p2.line) = true := by rfl) : DE s E X (.Call (.Attribute (.Name x p) "pop" apos) [] [] p2) (mPop i) := by
  refine ⟨_, pe_bm0 PySem.F.plainAttrs_list PySem.F.slot_list_pop PySem.F.type_list_pop mt_pop (pe_var (h.at_ hi) (h.vis hv) hd hcd) hbase hline, ?_⟩
  rw [h.K]
  exact er_pop

/-! ### what is walked -/
theorem pi_seq3 {te : TE} (he : PE X e te) : PI X tg e (iAny X.K te) := ⟨fun pins s0 σ H R I h => thn (he.run pins s0 σ H _ I h) fun v s1 hv => by
  obtain ⟨w, H1, J, rw_, ⟨l, ew, ⟨xs, hx⟩, q⟩ | ⟨l, ew, ⟨xs, hx⟩, q⟩ | ⟨z, ew, q⟩⟩ := hv
  · subst ew
    cases rw_
    obtain ⟨us, _, hl, _⟩ := J.list hx
    exact wpAny_pyIter_list hl.isList (pi_one (tk := s1.toks) J _ (turn_list l _) ⟨_, Heap.get?_push_size _ rfl, rfl, rfl⟩ q)
  · subst ew
    cases rw_
    obtain ⟨us, _, hl, _⟩ := J.tuple hx
    exact wpAny_pyIter_tuple (show s1.heap.IsTuple l us.toArray from hl) (pi_one (tk := s1.toks) J _ (turn_tuple l _) ⟨_, Heap.get?_push_size _ rfl, rfl, rfl⟩ q)
  · subst ew
    obtain ⟨t, rfl⟩ := rw_
    cases hz : z.cps.all (· < 128) with
    | false => exact wpAny_pyIter_wide hz (pi_one (tk := s1.toks) J _ (turn_str _ z t "str_iterator" (.inr rfl)) ⟨_, Heap.get?_push_size _ rfl, rfl, rfl⟩ q)
    | true => exact wpAny_pyIter_ascii hz (pi_one (tk := s1.toks) J _ (turn_str _ z t "str_ascii_iterator" (.inl rfl)) ⟨_, Heap.get?_push_size _ rfl, rfl, rfl⟩ q)⟩
theorem dn_any (h : Ct s X N sc fn k E) (he : DE s E X e me) : DN s E X tg e (mItems me) := by
  obtain ⟨te, pe, q⟩ := he
  refine ⟨_, pi_seq3 pe, ?_⟩
  rw [h.K]
  exact ir_any q
theorem dn_rng1 (h : Ct s X N sc fn k E) (hm : s.W.mg "range" = none) (ha : DI s E X [a] mi) (hg : glB sc "range" = true := by decide +kernel) (hs : starEach [a] X.env = [(false, eval a X.env)] := by rfl) : DN s E X tg (.Call (.Name "range" p) [a] [] pos) (mRng1 mi) := let ⟨_, pa, q⟩ := ha; ⟨_, pi_range1 (h.gl hg) (h.none hm) pa hs, ir_rng1 q⟩
theorem dn_rng2 (h : Ct s X N sc fn k E) (hm : s.W.mg "range" = none) (ha : DI s E X [a, b] mi) (hg : glB sc "range" = true := by decide +kernel) (hs : starEach [a, b] X.env = [(false, eval a X.env), (false, eval b X.env)] := by rfl) (hs2 : starEach [b] X.env = [(false, eval b X.env)] := by rfl) : DN s E X tg (.Call (.Name "range" p) [a, b] [] pos) (mRng2 mi) := let ⟨_, pa, q⟩ := ha; ⟨_, pi_range2 (h.gl hg) (h.none hm) pa hs hs2, ir_rng2 q⟩
theorem dn_rev (h : Ct s X N sc fn k E) (hm : s.W.mg "reversed" = none) (ha : DI s E X [a] mi) (hg : glB sc "reversed" = true := by decide +kernel) (hs : starEach [a] X.env = [(false, eval a X.env)] := by rfl) : DN s E X tg (.Call (.Name "reversed" p) [a] [] pos) (mRevd mi) := by
  obtain ⟨ta, pa, q⟩ := ha
  refine ⟨_, pi_reversed (h.gl hg) (h.none hm) pa hs, ?_⟩
  rw [h.K]
  exact ir_rev q
theorem dn_enum {elts : List Expr} {kk : Nat} (h : Ct s X N sc fn k E) (hm : s.W.mg "enumerate" = none) (ha : DI s E X [a] mi) (hg : glB sc "enumerate" = true := by decide +kernel) (hs : starEach [a] X.env = [(false, eval a X.env)] := by rfl) : DN s E X (.Tuple elts kk tpos) (.Call (.Name "enumerate" p) [a] [] pos) (mEnum mi) := by
  obtain ⟨ta, pa, q⟩ := ha
  refine ⟨_, pi_enum (h.gl hg) (h.none hm) pa hs, ?_⟩
  rw [h.K]
  exact ir_enum q
theorem dn_zip {elts : List Expr} {kk : Nat} (h : Ct s X N sc fn k E) (hm : s.W.mg "zip" = none) (ha : DI s E X [a, b] mi) (hg : glB sc "zip" = true := by decide +kernel) (hs : starEach [a, b] X.env = (false, eval a X.env) :: starEach [b] X.env := by rfl) (hpl : (backTo pos (starEach [b] X.env)).any (·.1) = false := by rfl) : DN s E X (.Tuple elts kk tpos) (.Call (.Name "zip" p) [a, b] [] pos) (mZip mi) := by
  obtain ⟨ta, pa, q⟩ := ha
  refine ⟨_, RZ.pi_zipA (h.gl hg) (h.none hm) pa hs hpl, ?_⟩
  rw [h.K]
  exact ir_zip q

/-! ### targets -/
theorem dg_name (h : Ct s X N sc fn k E) (i : Nat) (hi : N[i]? = some x := by rfl) (hl : locB sc fn x = true := by decide +kernel) : DG s E X (.Name x pos) (mgName i) := ⟨_, pg_name h.ndX (h.at_ hi) (h.loc hl).1 (h.loc hl).2, gr_name, noer_name⟩
theorem dgs_nil : DGs s E X [] mgNil := ⟨_, pgs_nil, grs_nil, noers_nil⟩
theorem dgs_cons {m : D → List LV → Res Unit} {r : List D → List LV → Res Unit} (h : DG s E X e m) (t : DGs s E X es r) (hs : (assignEach (e :: es) X.env).map (·.2) = assign e X.env :: (assignEach es X.env).map (·.2) := by rfl) : DGs s E X (e :: es) (mgCons m r) := let ⟨_, p, q, n⟩ := h; let ⟨_, p2, q2, n2⟩ := t; ⟨_, pgs_cons p p2 hs, grs_cons q n2 q2, noers_cons n n2⟩
theorem dg_tup {kk : Nat} {r : List D → List LV → Res Unit} (h : Ct s X N sc fn k E) (n : Nat) (t : DGs s E X es r) (hn : (assignEach es X.env).length = n := by rfl) (hst : (assignEach es X.env).findIdx? (·.1) = none := by rfl) : DG s E X (.Tuple es kk pos) (mgTup n r) := by
  obtain ⟨tg, p, q, m⟩ := t
  refine ⟨_, pg_tup h.calm p hn hst, ?_, noer_tup m⟩
  rw [h.K]
  exact gr_tup q

/-! ### statements -/
theorem ds_set (h : Ct s X N sc fn k E) (i : Nat) (he : DE s E X e me) (hi : N[i]? = some x := by rfl) (hl : locB sc fn x = true := by decide +kernel) (hs : swapsWith e (some (.Name x p)) pos.line X.env = pure false := by rfl) : DS s E X (.Assign [.Name x p] e pos) (mSet me (mgName i)) :=
  let ⟨_, pe, q⟩ := he; ⟨_, ps_set h.ndX (h.at_ hi) (h.loc hl).1 pe hs (h.loc hl).2, sr_asg q gr_name⟩
theorem ds_setO (h : Ct s X N sc fn k E) (i : Nat) (he : DF s E X e mi) (hi : N[i]? = some x := by rfl) (hl : locB sc fn x = true := by decide +kernel) (hs : swapsWith e (some (.Name x p)) pos.line X.env = pure false := by rfl) : DS s E X (.Assign [.Name x p] e pos) (mSetO i mi) :=
  let ⟨_, pe, q⟩ := he; ⟨_, ps_set h.ndX (h.at_ hi) (h.loc hl).1 pe hs (h.loc hl).2, sr_asgO q⟩
theorem ds_asg {m : D → List LV → Res Unit} (h : Ct s X N sc fn k E) (he : DE s E X e me) (hg : DG s E X tg m) (hs : swapsWithSole [tg] e pos.line X.env = pure false := by rfl) (hw : ∀ env : Env, env.scope = sc → swappedStores [tg] e env = pure none := by intro env h; cases env; dsimp only at h; subst h; rfl)
    (h1 : (assignEach [tg] X.env).map (·.2) = [assign tg X.env] := by rfl) : DS s E X (.Assign [tg] e pos) (mSet me m) := let ⟨_, pe, q⟩ := he; let ⟨_, p2, q2, _⟩ := hg; ⟨_, ps_asg pe p2 hs (hw _ h.sc) h1, sr_asg q q2⟩
/-- a, b = x, y by a tuple, stored from the left -/
def mParT (i j : Nat) (m1 m2 : List LV → Res XV) : MS := fun S => (m1 S).sb fun x S1 => (m2 S1).sb fun y S2 => if i < S2.length ∧ j < S2.length then .nx ((S2.set i x.lv).set j y.lv) else .stuck
theorem sr_parT {W : Wx} {i j : Nat} {t1 t2 : TE} {m1 m2 : List LV → Res XV} (h1 : XR W E t1 m1) (h2 : XR W E t2 m2) : SR W E (tAsg (tTup (tCons t1 (tCons t2 tNil))) (gTup W.K 2 (gCons (gName i) (gCons (gName j) gNil)))) (mParT i j m1 m2) := fun c T σ H G S D I hq => by
  have fin : ∀ {v u : V} {H2 : Hp} {T2 : Tm} {S2 : List LV} {G2 : Hp}, StOk W c T2 σ H2 G2 S2 → (∀ H3 T3, StOk W c (T3 :: T2) σ H3 G2 S2 → D.nx ((σ.set i (some v)).set j (some u)) H3) →
      ([v, u] : List V).length ≤ sizeLine ∧ ∀ p, H2 p = none → gTup W.K 2 (gCons (gName i) (gCons (gName j) gNil)) (.ref p) σ (upd H2 p (.tup [v, u])) D.nx := fun {v u H2 T2 S2 G2} J k =>
    ⟨by show 2 ≤ sizeLine; decide, fun p hp => ⟨p, [v, u], rfl, SqT.of upd_same, rfl, v, [u], rfl, u, [], rfl, rfl, k _ _ (J.alloc hp no_tbl_tup)⟩⟩
  refine h1 c T σ H G S _ I (hq.sb fun x S1 _ q1 => ?_)
  cases x with
  | im d =>
    refine fun v H1 G1 g1 I1 r1 => h2 c T σ H1 G1 S1 _ I1 ((q1.mono g1).sb fun y S2 _ q2 => ?_)
    cases y with
    | im e =>
      refine fun u H2 G2 g2 I2 r2 => fin I2 fun H3 T3 I3 => ?_
      split at q2
      · exact q2 _ H3 G2 g2 ((I3.drop.setIm (i := i) (r1.mono g2)).setIm (i := j) r2)
      · exact (q2 : False).elim
    | ow es =>
      refine fun b ws H2 G2 g2 I2 r2 => fin I2 fun H3 T3 I3 => ?_
      split at q2
      · rename_i hl
        exact q2 _ H3 G2 g2 (((I3.drop).setIm (i := i) (r1.mono g2)).setOw (i := j) r2 (by rw [List.length_set]; exact hl.2))
      · exact (q2 : False).elim
  | ow ds =>
    refine fun a vs H1 G1 g1 I1 r1 => h2 c _ σ H1 G1 S1 _ I1 (PR.tail ((q1.mono g1).sb fun y S2 _ q2 => ?_))
    cases y with
    | im e =>
      refine fun u H2 G2 g2 I2 r2 => fin I2 fun H3 T3 I3 => ?_
      split at q2
      · rename_i hl
        exact q2 _ H3 G2 g2 ((I3.drop.setOw (i := i) (r1.mono g2) hl.1).setIm (i := j) r2)
      · exact (q2 : False).elim
    | ow es =>
      refine fun b ws H2 G2 g2 I2 r2 => fin I2 fun H3 T3 I3 => ?_
      split at q2
      · rename_i hl
        have J := I3.drop.swap.setOw (i := i) (r1.mono g2) hl.1
        exact q2 _ H3 G2 g2 (J.setOw (i := j) r2 (by rw [List.length_set]; exact hl.2))
      · exact (q2 : False).elim
theorem dx_i (h : DE s E X e me) : DX s E X e (mXi me) := let ⟨_, p, q⟩ := h; ⟨_, p, xr_i q⟩
theorem dx_o (h : DF s E X e mi) : DX s E X e (mXo mi) := let ⟨_, p, q⟩ := h; ⟨_, p, xr_o q⟩
variable {x1 x2 : List LV → Res XV}
theorem ds_par {kt k2 : Nat} (h : Ct s X N sc fn k E) (i j : Nat) (ha : DX s E X a x1) (hb : DX s E X b x2) (hx : sc.names.lookup x = some .local := by decide +kernel) (hy : sc.names.lookup y = some .local := by decide +kernel) (hw : ∀ env : Env, env.scope = sc → swappedStores [.Tuple [.Name x p, .Name y p2] kt p3] (.Tuple [a, b] k2 tpos) env = pure (some [x, y]) := by intro env h; cases env; dsimp only at h; subst h; rfl)
    (hi : N[i]? = some x := by rfl) (hj : N[j]? = some y := by rfl) (hij : i ≠ j := by decide)
    (hs : swapsWithSole [.Tuple [.Name x p, .Name y p2] kt p3] (.Tuple [a, b] k2 tpos) pos.line X.env = pure false := by rfl) (ha1 : starEach [a, b] X.env = (false, eval a X.env) :: starEach [b] X.env := by rfl) (ha2 : starEach [b] X.env = (false, eval b X.env) :: starEach [] X.env := by rfl) :
    DS s E X (.Assign [.Tuple [.Name x p, .Name y p2] kt p3] (.Tuple [a, b] k2 tpos) pos) (mPar i j x1 x2) :=
  let ⟨_, pa, q⟩ := ha; let ⟨_, pb, q2⟩ := hb; ⟨_, ps_par h.calm h.ndX (h.at_ hi) (h.at_ hj) hij (by rw [h.sc]; exact hx) (by rw [h.sc]; exact hy) (pa_cons pa (pa_cons pb pa_nil ha2) ha1) (hw _ h.sc) hs, sr_par hij q q2⟩
theorem ds_par3 {kt k2 : Nat} {p4 : Pos} (h : Ct s X N sc fn k E) (i j l : Nat) (ha : DE s E X a ma) (hb : DE s E X b mb) (hc : DE s E X c mc) (hx : sc.names.lookup x = some .local := by decide +kernel) (hy : sc.names.lookup y = some .local := by decide +kernel) (hz : sc.names.lookup z = some .local := by decide +kernel)
    (hw : ∀ env : Env, env.scope = sc → swappedStores [.Tuple [.Name x p, .Name y p2, .Name z p4] kt p3] (.Tuple [a, b, c] k2 tpos) env = pure (some [x, y, z]) := by intro env h; cases env; dsimp only at h; subst h; rfl)
    (hi : N[i]? = some x := by rfl) (hj : N[j]? = some y := by rfl) (hl : N[l]? = some z := by rfl) (hij : i ≠ j := by decide) (hil : i ≠ l := by decide) (hjl : j ≠ l := by decide)
    (hs : swapsWithSole [.Tuple [.Name x p, .Name y p2, .Name z p4] kt p3] (.Tuple [a, b, c] k2 tpos) pos.line X.env = pure false := by rfl) (ha1 : starEach [a, b, c] X.env = (false, eval a X.env) :: starEach [b, c] X.env := by rfl) (ha2 : starEach [b, c] X.env = (false, eval b X.env) :: starEach [c] X.env := by rfl) (ha3 : starEach [c] X.env = (false, eval c X.env) :: starEach [] X.env := by rfl) :
    DS s E X (.Assign [.Tuple [.Name x p, .Name y p2, .Name z p4] kt p3] (.Tuple [a, b, c] k2 tpos) pos) (mPar3 i j l ma mb mc) :=
  let ⟨_, pa, q⟩ := ha; let ⟨_, pb, q2⟩ := hb; let ⟨_, pc, q3⟩ := hc; ⟨_, ps_par3 h.calm h.ndX (h.at_ hi) (h.at_ hj) (h.at_ hl) hij hil hjl (by rw [h.sc]; exact hx) (by rw [h.sc]; exact hy) (by rw [h.sc]; exact hz) (pa_cons pa (pa_cons pb (pa_cons pc pa_nil ha3) ha2) ha1) (hw _ h.sc) hs, sr_par3 q q2 q3⟩
theorem ds_parT {kt k2 : Nat} (h : Ct s X N sc fn k E) (i j : Nat) (ha : DX s E X a x1) (hb : DX s E X b x2) (hlx : locB sc fn x = true := by decide +kernel) (hly : locB sc fn y = true := by decide +kernel) (hi : N[i]? = some x := by rfl) (hj : N[j]? = some y := by rfl)
    (hw : ∀ env : Env, env.scope = sc → swappedStores [.Tuple [.Name x p, .Name y p2] kt p3] (.Tuple [a, b] k2 tpos) env = pure none := by intro env h; cases env; dsimp only at h; subst h; rfl)
    (hs : swapsWithSole [.Tuple [.Name x p, .Name y p2] kt p3] (.Tuple [a, b] k2 tpos) pos.line X.env = pure false := by rfl) (ha1 : starEach [a, b] X.env = (false, eval a X.env) :: starEach [b] X.env := by rfl) (ha2 : starEach [b] X.env = (false, eval b X.env) :: starEach [] X.env := by rfl) :
    DS s E X (.Assign [.Tuple [.Name x p, .Name y p2] kt p3] (.Tuple [a, b] k2 tpos) pos) (mParT i j x1 x2) := by
  obtain ⟨ta, pa, q⟩ := ha
  obtain ⟨tb, pb, q2⟩ := hb
  refine ⟨_, ps_asg (pe_tup (pa_cons pa (pa_cons pb pa_nil ha2) ha1)) (pg_tup h.calm (pgs_cons (pg_name h.ndX (h.at_ hi) (h.loc hlx).1 (h.loc hlx).2) (pgs_cons (pg_name h.ndX (h.at_ hj) (h.loc hly).1 (h.loc hly).2) pgs_nil)) rfl rfl) hs (hw _ h.sc) rfl, ?_⟩
  rw [h.K]
  exact sr_parT q q2
/-- how an operator acts in place -/
def AugK (s : Sx) (X : Cx) (op : Operator) (f : D → D → Option D) : Prop := ∃ r, OpR X (inplaceOp op) r ∧ OpD s.W r f
theorem ak_add (h : Ct s X N sc fn k E) : AugK s X .Add (fun a b => (addI a b).or (addS a b)) := ⟨_, OpR.or iop_add iop_add_str, OpD.or od_addI od_addS⟩
theorem ak_sub : AugK s X .Sub subD := ⟨_, iop_sub, od_int0⟩
def mul64 (i j : Int) : Bool := (decide (-(2 ^ 64) < i) && decide (i < 2 ^ 64)) || (decide (-(2 ^ 64) < j) && decide (j < 2 ^ 64))
theorem ak_mul : AugK s X .Mult (intOp mul64 fun i j => i * j) := ⟨_, iop_mul, od_int fun i j h => by
  unfold mul64 at h
  simp only [Bool.or_eq_true, Bool.and_eq_true, decide_eq_true_eq] at h
  exact h⟩
theorem ak_div : AugK s X .FloorDiv divD := ⟨_, iop_fdivW, od_div⟩
theorem ak_mod : AugK s X .Mod modD := ⟨_, iop_mod, od_mod⟩
theorem ds_aug {op : Operator} {f : D → D → Option D} (h : Ct s X N sc fn k E) (i : Nat) (ho : AugK s X op f) (he : DE s E X e me) (hi : N[i]? = some x := by rfl) (hl : locB sc fn x = true := by decide +kernel) : DS s E X (.AugAssign (.Name x p) op e pos) (mAug i f me) :=
  let ⟨_, r, d⟩ := ho; let ⟨_, pe, q⟩ := he; ⟨_, ps_aug h.ndX (h.at_ hi) (h.loc hl).1 pe (fun pins s0 σ H x y v u Q I rx ry hh => augR r I rx ry hh) (h.loc hl).2, sr_aug d q⟩
theorem ds_drop (he : DE s E X e me) (hs : swapsWith e none pos.line X.env = pure false := by rfl) : DS s E X (.Expr e pos) (mDrop me) := let ⟨_, pe, q⟩ := he; ⟨_, ps_expr pe hs, sr_drop q⟩
theorem ds_doc {z : Str} {j} : DS s E X (.Expr (.Constant (.str z) j p) pos) mNext := ⟨_, ps_doc, sr_next⟩
theorem ds_pass : DS s E X (.Pass pos) mNext := ⟨_, ps_pass, sr_next⟩
theorem ds_break : DS s E X (.Break pos) mBreak := ⟨_, ps_break, sr_break⟩
theorem ds_cont : DS s E X (.Continue pos) mCont := ⟨_, ps_continue, sr_cont⟩
theorem ds_ret (he : DE s E X e me) : DS s E X (.Return (some e) pos) (mRet me) := let ⟨_, pe, q⟩ := he; ⟨_, ps_ret pe, sr_ret q⟩
theorem ds_retF (he : DF s E X e mi) : DS s E X (.Return (some e) pos) (mRetF mi) := let ⟨_, pe, q⟩ := he; ⟨_, ps_ret pe, sr_retF q⟩
theorem ds_retN : DS s E X (.Return none pos) mRetN := ⟨_, ps_retN, sr_retN⟩
variable {ms mv : MS}
theorem ds_never : DS s E X st mNever := ⟨_, ps_never, sr_never⟩
theorem db_never : DB s E X sts mNever := ⟨_, pss_never, sr_never⟩
theorem ds_if {u v : List Stmt} (hc : DT s E X c mt) (ha : DB s E X u ms) (hb : DB s E X v mv) : DS s E X (.If c u v pos) (mIfS mt ms mv) := let ⟨_, pc, qc⟩ := hc; let ⟨_, pa, qa⟩ := ha; let ⟨_, pb, qb⟩ := hb; ⟨_, ps_if pc pa pb, sr_if qc qa qb⟩
theorem ds_while (h : Ct s X N sc fn k E) (n : Nat) (hc : DT s E X c mt) (hb : DB s E X sts ms) : DS s E X (.While c sts [] pos) (mWhile mt ms n) := let ⟨_, pc, qc⟩ := hc; let ⟨_, pb, qb⟩ := hb; ⟨_, ps_while h.pown pc pb, sr_while qc qb⟩
theorem ds_for {m : D → List LV → Res Unit} (h : Ct s X N sc fn k E) (hi : DN s E X tg iter mi) (hg : DG s E X tg m) (hb : DB s E X sts ms) (hs : ∀ x, foldedSetIterable iter X.env x = pure x := by intro _; rfl) : DS s E X (.For tg iter sts [] pos) (mFor mi m ms) := let ⟨_, pi, qi⟩ := hi; let ⟨_, pg, qg, _⟩ := hg; let ⟨_, pb, qb⟩ := hb; ⟨_, ps_for h.pown h.calm pi pg pb hs, sr_for qi qg qb⟩
theorem db_nil : DB s E X [] mNext := ⟨_, pss_nil, sr_next⟩
theorem db_cons (h : DS s E X st ms) (t : DB s E X sts mv) : DB s E X (st :: sts) (mSeq ms mv) := let ⟨_, p, q⟩ := h; let ⟨_, p2, q2⟩ := t; ⟨_, pss_cons p p2, sr_seq q q2⟩
theorem db_one (h : DS s E X st ms) : DB s E X [st] ms := let ⟨_, p, q⟩ := h; ⟨_, pss_one p, q⟩

/-! ### list comprehensions -/
/-- one reading for all contexts -/
theorem uni_E {C : Cx → Prop} {E' : L2.St → XK} {m : ME} (h : ∀ Y, C Y → DE s E' Y e m) : ∃ t, (∀ Y, C Y → PE Y e t) ∧ ER s.W E' t m :=
  ⟨fun σ H Q => ∀ Y (hc : C Y), (h Y hc).choose σ H Q, fun Y hc => ⟨fun pins s0 σ H Q I q => (h Y hc).choose_spec.1.run pins s0 σ H Q I (q Y hc)⟩, fun c T σ H G S Q I q Y hc => (h Y hc).choose_spec.2 c T σ H G S Q I q⟩
def DTs (s : Sx) (E : L2.St → XK) (X : Cx) (es : List Expr) (m : MT) : Prop := ∃ t, PTs X es t ∧ TR s.W E t m
def mYes : MT := fun S => .ok true S
theorem dts_nil : DTs s E X [] mYes := ⟨_, pts_nil, fun c T σ H G S Q I q => q H G GLe.rfl I⟩
theorem dts_one (h : DT s E X c mt) : DTs s E X [c] mt := let ⟨_, p, q⟩ := h; ⟨_, pts_one p, q⟩
theorem uni_T {C : Cx → Prop} {E' : L2.St → XK} {m : MT} (h : ∀ Y, C Y → DTs s E' Y es m) : ∃ t, (∀ Y, C Y → PTs Y es t) ∧ TR s.W E' t m :=
  ⟨fun σ H Q => ∀ Y (hc : C Y), (h Y hc).choose σ H Q, fun Y hc => ⟨fun pins s0 σ H Q I q => (h Y hc).choose_spec.1.run pins s0 σ H Q I (q Y hc)⟩, fun c T σ H G S Q I q Y hc => (h Y hc).choose_spec.2 c T σ H G S Q I q⟩
def DGB (s : Sx) (vs : List Nat) (X : Cx) (e : Expr) (m : D → List LV → Res Unit) : Prop := ∃ t, PG X e t ∧ GB s.W vs t m
def DGBs (s : Sx) (vs : List Nat) (X : Cx) (es : List Expr) (m : List D → List LV → Res Unit) : Prop := ∃ t, PGs X es t ∧ GBs s.W vs t m
variable {vs : List Nat}
theorem dgb_name (h : Ct s X N sc fn k E) (i : Nat) (hi : N[i]? = some x := by rfl) (hl : locB sc fn x = true := by decide +kernel) (hv : i ∈ vs := by decide) : DGB s vs X (.Name x pos) (mgName i) := ⟨_, pg_name h.ndX (h.at_ hi) (h.loc hl).1 (h.loc hl).2, gb_name hv⟩
theorem dgbs_nil : DGBs s vs X [] mgNil := ⟨_, pgs_nil, gbs_nil⟩
theorem dgbs_cons {m : D → List LV → Res Unit} {r : List D → List LV → Res Unit} (h : DGB s vs X e m) (t : DGBs s vs X es r) (hs : (assignEach (e :: es) X.env).map (·.2) = assign e X.env :: (assignEach es X.env).map (·.2) := by rfl) : DGBs s vs X (e :: es) (mgCons m r) := let ⟨_, p, q⟩ := h; let ⟨_, p2, q2⟩ := t; ⟨_, pgs_cons p p2 hs, gbs_cons q q2⟩
theorem dgb_tup {kk : Nat} {r : List D → List LV → Res Unit} (h : Ct s X N sc fn k E) (n : Nat) (t : DGBs s vs X es r) (hn : (assignEach es X.env).length = n := by rfl) (hst : (assignEach es X.env).findIdx? (·.1) = none := by rfl) : DGB s vs X (.Tuple es kk pos) (mgTup n r) := by
  obtain ⟨tg, p, q⟩ := t
  refine ⟨_, pg_tup h.calm p hn hst, ?_⟩
  rw [h.K]
  exact gb_tup q
theorem uni_G {C : Cx → Prop} {m : D → List LV → Res Unit} (h : ∀ Y, C Y → DGB s vs Y e m) : ∃ t, (∀ Y, C Y → PG Y e t) ∧ GB s.W vs t m :=
  ⟨fun v σ H Q => ∀ Y (hc : C Y), (h Y hc).choose v σ H Q, fun Y hc => ⟨fun pins s0 σ H v u Q I r q => (h Y hc).choose_spec.1.run pins s0 σ H v u Q I r (q Y hc)⟩, fun c T σ H G S d v K I r q z Y hc => (h Y hc).choose_spec.2 c T σ H G S d v K I r q z⟩
/-- lambdas may be made here: the code object, its table -/
def LamOk (s : Sx) (X : Cx) : Prop := ∃ c P, LamX.TabB X.base X.mg c P ∧ X.env.code = .ref c ∧ (P, X.env.qual ++ "<lambda>") ∈ s.W.T ∧ ∀ p ∈ s.W.T, p.1 = P → p.2 = X.env.qual ++ "<lambda>"
def blkFn (scope : Scope) : Str → Bool := fun x => scope.names.lookup x == some .cell
/-- a block's context -/
abbrev Bk (s : Sx) (N : List Str) (sc scope : Scope) (k : Nat) (Y : Cx) : Prop := Ct s Y N (relS scope sc) (blkFn scope) k E0
theorem blk_ct {s0 : Shared} {H : Hp} {scope : Scope} {C : Addr} {cl : List (Str × Addr)} {fp : List Addr} (h : Ct s X N sc fn k E) : Bk s N sc scope k (X.blk s0 H scope (compEnvC scope cl C X.env) fp) :=
  ⟨h.prog, h.w, h.K, h.mg, h.base, h.nm, h.nd, congrArg (relS scope) h.sc, rfl, h.room, h.calm, takes_none5, PassesOwn.never⟩
theorem df_comp {scope : Scope} {m : D → List LV → Res Unit} (h : Ct s X N sc fn k E) (own : List (Str × Nat)) (hi : DN s E X tg iter mi) (hg : ∀ Y, Bk s N sc scope k Y ∧ (LamOk s X → LamOk s Y) → DGB s (own.map (·.2)) Y tg m) (ht : ∀ Y, Bk s N sc scope k Y ∧ (LamOk s X → LamOk s Y) → DTs s E0 Y ifs mt) (he : ∀ Y, Bk s N sc scope k Y ∧ (LamOk s X → LamOk s Y) → DE s E0 Y elt me)
    (ok : blkC N sc scope own = true := by decide +kernel) (hs : ∀ x, foldedSetIterable iter X.env x = pure x := by intro _; rfl) : DF s E X (.ListComp elt [⟨tg, iter, ifs, 0⟩] scope pos) (mComp mi m mt me (own.map (·.2))) := by
  obtain ⟨wi, pi, qi⟩ := hi
  obtain ⟨tg', pg, qg⟩ := uni_G hg
  obtain ⟨tt, pt, qt⟩ := uni_T ht
  obtain ⟨te, pe, qe⟩ := uni_E he
  have ok' : BlkOk X.N X.env.scope scope own := by rw [h.nm, h.sc]; exact blkOk_by ok
  exact ⟨_, pe_lc (own := own) h.calm h.ndX pi ok' (fun s0 H C cl fp => pg _ ⟨blk_ct h, fun l => l⟩) (fun s0 H C cl fp => pt _ ⟨blk_ct h, fun l => l⟩) (fun s0 H C cl fp => pe _ ⟨blk_ct h, fun l => l⟩) hs, ef_comp qi qg qt qe⟩
theorem ds_setLc {scope : Scope} {m : D → List LV → Res Unit} (h : Ct s X N sc fn k E) (i : Nat) (own : List (Str × Nat)) (hi' : DN s E X tg iter mi) (hg : ∀ Y, Bk s N sc scope k Y ∧ (LamOk s X → LamOk s Y) → DGB s (own.map (·.2)) Y tg m) (ht : ∀ Y, Bk s N sc scope k Y ∧ (LamOk s X → LamOk s Y) → DTs s E0 Y ifs mt) (he : ∀ Y, Bk s N sc scope k Y ∧ (LamOk s X → LamOk s Y) → DE s E0 Y elt me)
    (hsw : ∀ env : Env, env.scope = sc → swapsWith (.ListComp elt [⟨tg, iter, ifs, 0⟩] scope pos) (some (.Name x p)) p2.line env = pure true := by intro env h; cases env; dsimp only at h; subst h; rfl) (hi : N[i]? = some x := by rfl) (hl : sc.names.lookup x = some .local := by decide +kernel) (ok : blkC N sc scope own = true := by decide +kernel) (hs : ∀ x, foldedSetIterable iter X.env x = pure x := by intro _; rfl) :
    DS s E X (.Assign [.Name x p] (.ListComp elt [⟨tg, iter, ifs, 0⟩] scope pos) p2) (mSetO i (mComp mi m mt me (own.map (·.2)))) := by
  obtain ⟨wi, pi, qi⟩ := hi'
  obtain ⟨tg', pg, qg⟩ := uni_G hg
  obtain ⟨tt, pt, qt⟩ := uni_T ht
  obtain ⟨te, pe, qe⟩ := uni_E he
  have ok' : BlkOk X.N X.env.scope scope own := by rw [h.nm, h.sc]; exact blkOk_by ok
  exact ⟨_, ps_setLc (own := own) h.calm h.ndX (h.at_ hi) (by rw [h.sc]; exact hl) (hsw _ h.sc) pi ok' (fun s0 H C cl fp => pg _ ⟨blk_ct h, fun l => l⟩) (fun s0 H C cl fp => pt _ ⟨blk_ct h, fun l => l⟩) (fun s0 H C cl fp => pe _ ⟨blk_ct h, fun l => l⟩) hs, sr_asgO (ef_comp qi qg qt qe)⟩

theorem dg_sub (h : Ct s X N sc fn k E) (i : Nat) (hb : DE s E X b mb) (hi : N[i]? = some x := by rfl) (hv : visB sc x = true := by decide +kernel) (hd : (x == ("__debug__" : Str)) = false := by decide +kernel) (hcd : (x == ("__classdict__" : Str)) = false := by decide +kernel)
    (ha : ∀ v, assign (.Subscript (.Name x p) b pos) X.env v = (do
      let ov ← holding [v] (eval (.Name x p) X.env)
      let iv ← holding [v, ov] (eval b X.env)
      standAt pos
      holding [v, ov, iv] (setItem ov iv v)
      release [v, ov, iv] []) := by intro _; rfl) : ∃ t, PG X (.Subscript (.Name x p) b pos) t ∧ GR s.W E t (mgSub i mb) :=
  let ⟨_, pb, qb⟩ := hb; ⟨_, pg_sub (pe_var (h.at_ hi) (h.vis hv) hd hcd) pb set_list ha, gr_sub qb⟩
theorem ds_asgS {m : D → List LV → Res Unit} (h : Ct s X N sc fn k E) (he : DE s E X e me) (hg : ∃ t, PG X tg t ∧ GR s.W E t m) (hs : swapsWithSole [tg] e pos.line X.env = pure false := by rfl) (hw : swappedStores [tg] e X.env = pure none := by rfl)
    (h1 : (assignEach [tg] X.env).map (·.2) = [assign tg X.env] := by rfl) : DS s E X (.Assign [tg] e pos) (mSet me m) := let ⟨_, pe, q⟩ := he; let ⟨_, p2, q2⟩ := hg; ⟨_, ps_asg pe p2 hs hw h1, sr_asg q q2⟩
/-! ### own functions -/
/-- a def of the text by its name -/
structure Fun (s : Sx) (k : Nat) (x : Str) (f : Addr) (fd : FuncData) (ps : List Str) (nN : Nat) (m : MS) : Prop where
  at_ : s.W.mg x = some (.ref f)
  kp : PySem.W.keepIn s.W.K (.ref f) = true
  bd : Binds s.W.K fd ps []
  ok : FnOk s.P s.w s.W.K s.W.mg s.base (L2.CX s.P s.w) k f fd ps (spD s.W ps.length nN m)
variable {f : Addr} {fd : FuncData} {ps : List Str} {nN : Nat} {m : MS} {mr : MA}
theorem Ct.fnOk (h : Ct s X N sc fn k E) (F : Fun s k x f fd ps nN m) : FnOk X.prog X.w X.K X.mg X.base (L2.CX X.prog X.w) k f fd ps (spD s.W ps.length nN m) := by
  rw [h.prog, h.w, h.K, h.mg, h.base]
  exact F.ok
theorem pe_fn {t : TA} (h : Ct s X N sc fn k E) (F : Fun s k x f fd ps nN m) (ha : PA X (e :: es) t) (hg : glB sc x = true) (hd : (x == ("__debug__" : Str)) = false) (he : starEach (e :: es) X.env = (false, eval e X.env) :: starEach es X.env) (hpl : (backTo pos (starEach es X.env)).any (·.1) = false) :
    PE X (.Call (.Name x p) (e :: es) [] pos) (tCallS (spD s.W ps.length nN m) E t) := pe_callS (h.fnOk F) h.room (h.gl hg) (by rw [h.mg]; exact F.at_) (by rw [h.K]; exact F.kp) (by rw [h.K]; exact F.bd) h.pass ha hd he hpl
theorem de_fn (h : Ct s X N sc fn k E) (F : Fun s k x f fd ps nN m) (ha : DA s E X (e :: es) mr) (hn : NArgs ps.length mr) (hg : glB sc x = true := by decide +kernel) (hd : (x == ("__debug__" : Str)) = false := by decide +kernel) (he : starEach (e :: es) X.env = (false, eval e X.env) :: starEach es X.env := by rfl) (hpl : (backTo pos (starEach es X.env)).any (·.1) = false := by rfl) :
    DE s E X (.Call (.Name x p) (e :: es) [] pos) (mFn m nN mr) := let ⟨_, pa, q⟩ := ha; ⟨_, pe_fn h F pa hg hd he hpl, er_callD hn q⟩
theorem df_fn (h : Ct s X N sc fn k E) (F : Fun s k x f fd ps nN m) (ha : DA s E X (e :: es) mr) (hn : NArgs ps.length mr) (hg : glB sc x = true := by decide +kernel) (hd : (x == ("__debug__" : Str)) = false := by decide +kernel) (he : starEach (e :: es) X.env = (false, eval e X.env) :: starEach es X.env := by rfl) (hpl : (backTo pos (starEach es X.env)).any (·.1) = false := by rfl) :
    DF s E X (.Call (.Name x p) (e :: es) [] pos) (mFnF m nN mr) := let ⟨_, pa, q⟩ := ha; ⟨_, pe_fn h F pa hg hd he hpl, ef_callD hn q⟩
/-- THE RULE of a def -/
theorem fun_of {qual : Str} {params : Arguments} {body : List Stmt} {scope : Scope} {dvs : List V} {kws : List (Str × V)} (F : FunD s.W.K x qual params body scope dvs kws f fd) (hm : s.W.mg x = some (.ref f)) (S : FnScope N ps scope) (hb : Binds s.W.K fd ps [])
    (hbody : ∀ Y E, Ct s Y N scope (fun _ => true) k E → DB s E Y body m) : Fun s (k + 1) x f fd ps N.length m :=
  ⟨hm, F.kp, hb, F.ok S spD_len fun cdv A outer s0 H vs Q E hr hsp => by
    obtain ⟨hl, G, A0, S0, I, q⟩ := hsp
    obtain ⟨t, p1, p2⟩ := hbody _ (fun _ => E) (⟨rfl, rfl, rfl, rfl, rfl, rfl, S.nd, rfl, rfl, hr, rfl, takes_of rfl rfl rfl rfl, passes_of rfl⟩ : Ct s (cxOf (L2.CX s.P s.w) s.P s.w s.W.K s.W.mg s.base N qual scope f cdv A outer s0 H E) N scope (fun _ => true) k fun _ => E)
    exact ⟨t, p1, p2 _ [] _ H G S0 _ I q⟩⟩
/-- .. of a def that makes lambdas -/
theorem fun_ofL {qual : Str} {params : Arguments} {body : List Stmt} {scope : Scope} {dvs : List V} {kws : List (Str × V)} (F : FunD s.W.K x qual params body scope dvs kws f fd) (hm : s.W.mg x = some (.ref f)) (S : FnScope N ps scope) (hb : Binds s.W.K fd ps [])
    (hT : ∀ c, fd.code = .ref c → ∃ P, LamX.TabB s.base s.W.mg c P ∧ (P, qual ++ ".<locals>." ++ "<lambda>") ∈ s.W.T ∧ ∀ p ∈ s.W.T, p.1 = P → p.2 = qual ++ ".<locals>." ++ "<lambda>")
    (hbody : ∀ Y E, Ct s Y N scope (fun _ => true) k E → LamOk s Y → DB s E Y body m) : Fun s (k + 1) x f fd ps N.length m :=
  ⟨hm, F.kp, hb, by
    obtain ⟨oc, od, dV, kV, doc, pm, an, cdv, ct, osl, rfl, lk, hcd, _, _⟩ := F.ex
    obtain ⟨c, rfl⟩ := He.codeIn_ref hcd
    refine fn_of lk hcd S spD_len fun A outer s0 H vs Q E hr hsp => ?_
    obtain ⟨hl, G, A0, S0, I, q⟩ := hsp
    have hCt : Ct s (cxOf (L2.CX s.P s.w) s.P s.w s.W.K s.W.mg s.base N qual scope f (.ref c) A outer s0 H E) N scope (fun _ => true) k fun _ => E := ⟨rfl, rfl, rfl, rfl, rfl, rfl, S.nd, rfl, rfl, hr, rfl, takes_of rfl rfl rfl rfl, passes_of rfl⟩
    obtain ⟨P, h1, h2, h3⟩ := hT c rfl
    obtain ⟨t, p1, p2⟩ := hbody _ (fun _ => E) hCt ⟨c, P, h1, rfl, h2, h3⟩
    exact ⟨t, p1, p2 _ [] _ H G S0 _ I q⟩⟩
/-- .. with no fuel nothing is promised -/
theorem fun_zero {k : Nat} {qual : Str} {params : Arguments} {body : List Stmt} {scope : Scope} {dvs : List V} {kws : List (Str × V)} (F : FunD s.W.K x qual params body scope dvs kws f fd) (hm : s.W.mg x = some (.ref f)) (hb : Binds s.W.K fd ps []) : Fun s k x f fd ps nN mNever :=
  ⟨hm, F.kp, hb, ⟨spD_len, fun A outer s0 H args us vs Q E hr e0 b r hsp => by
    obtain ⟨_, _, _, _, _, q⟩ := hsp
    exact False.elim q⟩⟩
end
end Dy

set_option Elab.async false
set_option linter.all false
set_option maxRecDepth 100000
set_option maxHeartbeats 4000000
namespace Dy
open PySem PySem.Spec L2

/-- what is known of the text's globals -/
structure Gs (s : Sx) (top : Nat → Stmt) (tab : List (Nat × Str)) (bl : List Str) (gi : List (Str × Int)) (a : Str → Addr) (fd : Str → FuncData) : Prop where
  fn : ∀ i x, (i, x) ∈ tab → FunD s.W.K x x (defArgs (top i)) (defBody (top i)) (defScope (top i)) [] [] (a x) (fd x)
  at_ : ∀ i x, (i, x) ∈ tab → s.W.mg x = some (.ref (a x))
  nog : ∀ x ∈ bl, s.W.mg x = none
  int : ∀ x i, (x, i) ∈ gi → ∃ t, s.W.mg x = some (.int i t)
section
variable {s : Sx} {top : Nat → Stmt} {tab : List (Nat × Str)} {bl : List Str} {gi : List (Str × Int)} {a : Str → Addr} {fd : Str → FuncData}
theorem Gs.no (g : Gs s top tab bl gi a fd) (x : Str) (h : x ∈ bl := by decide +kernel) : s.W.mg x = none := g.nog x h
theorem Gs.i (g : Gs s top tab bl gi a fd) (x : Str) (i : Int) (h : (x, i) ∈ gi := by decide +kernel) : ∃ t, s.W.mg x = some (.int i t) := g.int x i h
theorem Gs.zero (g : Gs s top tab bl gi a fd) (i : Nat) (x : Str) {ps : List Str} {nN : Nat} (h : (i, x) ∈ tab) (hb : ∀ (kV doc pm : Value) (an : Option Addr) (cdv ct : Value) (us : List Value), us.length = ps.length → bindArgs (PySem.W.fnOf x x (defArgs (top i)) (defBody (top i)) (defScope (top i)) .none kV doc pm an cdv ct) ⟨us, []⟩ = pure (ps.zip us)) (k : Nat) :
    Fun s k x (a x) (fd x) ps nN mNever := fun_zero (g.fn i x h) (g.at_ i x h) ((g.fn i x h).bindsN hb)
theorem Gs.succ (g : Gs s top tab bl gi a fd) (i : Nat) (x : Str) {N ps : List Str} {k : Nat} {m : MS} (h : (i, x) ∈ tab) (hb : ∀ (kV doc pm : Value) (an : Option Addr) (cdv ct : Value) (us : List Value), us.length = ps.length → bindArgs (PySem.W.fnOf x x (defArgs (top i)) (defBody (top i)) (defScope (top i)) .none kV doc pm an cdv ct) ⟨us, []⟩ = pure (ps.zip us))
    (S : FnScope N ps (defScope (top i))) (hbody : ∀ Y E, Ct s Y N (defScope (top i)) (fun _ => true) k E → DB s E Y (defBody (top i)) m) : Fun s (k + 1) x (a x) (fd x) ps N.length m := fun_of (g.fn i x h) (g.at_ i x h) S ((g.fn i x h).bindsN hb) hbody
end

/-! ### calls by names -/
def permI {α : Type} (js : List Nat) (l : List α) : List α := js.filterMap fun j => l[j]?
def tCat (t u : TA) : TA := fun σ H Q => t σ H fun vs H1 => u σ H1 fun zs H2 => Q (vs ++ zs) H2
def tPerm (n : Nat) (js : List Nat) (t : TA) : TA := fun σ H Q => t σ H fun vs H1 => vs.length = n ∧ Q (permI js vs) H1
theorem perm_vals {js : List Nat} {vs : List V} {us : List Value} (r : Vals vs us) : Vals (permI js vs) (permI js us) := by
  unfold permI
  induction js with
  | nil => exact .nil
  | cons j js ih =>
    rw [List.filterMap_cons, List.filterMap_cons]
    cases e : vs[j]? with
    | none =>
      have e2 : us[j]? = none := by
        rw [List.getElem?_eq_none_iff] at e ⊢
        rw [← r.length]; exact e
      rw [e2]; exact ih
    | some v =>
      obtain ⟨u, hu, rv⟩ := r.get e
      rw [hu]
      exact .cons rv ih
def mPerm (js : List Nat) (m : MA) : MA := fun S => (m S).bind fun avs S1 => .ok (permI js avs) S1
theorem args_get {W : Wx} {G : Hp} {σ : L2.St} : ∀ {avs : List AV} {vs : List V} {j : Nat}, ArgsOk W G σ avs vs → (avs[j]? = none ∧ vs[j]? = none) ∨ ∃ a v, avs[j]? = some a ∧ vs[j]? = some v ∧ ArgsOk W G σ [a] [v]
  | [], _, j, h => by rw [ArgsOk] at h; subst h; exact .inl ⟨by simp, by simp⟩
  | .im d t :: r, _, 0, h => by
    obtain ⟨v, q, rfl, h1, h2, z⟩ := h
    exact .inr ⟨_, v, rfl, rfl, v, [], rfl, h1, h2, rfl⟩
  | .own i :: r, _, 0, h => by
    obtain ⟨v, q, rfl, h1, z⟩ := h
    exact .inr ⟨_, v, rfl, rfl, v, [], rfl, h1, rfl⟩
  | .im d t :: r, _, j + 1, h => by
    obtain ⟨v, q, rfl, h1, h2, z⟩ := h
    simpa using args_get z
  | .own i :: r, _, j + 1, h => by
    obtain ⟨v, q, rfl, h1, z⟩ := h
    simpa using args_get z
theorem args_cons {W : Wx} {G : Hp} {σ : L2.St} {a : AV} {v : V} {avs : List AV} {vs : List V} (h : ArgsOk W G σ [a] [v]) (t : ArgsOk W G σ avs vs) : ArgsOk W G σ (a :: avs) (v :: vs) := by
  cases a with
  | im d x =>
    obtain ⟨u, q, e, h1, h2, z⟩ := h
    injection e with e1 e2
    subst e1
    exact ⟨_, _, rfl, h1, h2, t⟩
  | own j =>
    obtain ⟨u, q, e, h1, z⟩ := h
    injection e with e1 e2
    subst e1
    exact ⟨_, _, rfl, h1, t⟩
theorem args_perm {W : Wx} {G : Hp} {σ : L2.St} {js : List Nat} {avs : List AV} {vs : List V} (h : ArgsOk W G σ avs vs) : ArgsOk W G σ (permI js avs) (permI js vs) := by
  unfold permI
  induction js with
  | nil => exact rfl
  | cons j js ih =>
    rw [List.filterMap_cons, List.filterMap_cons]
    rcases args_get (j := j) h with ⟨e1, e2⟩ | ⟨a, v, e1, e2, z⟩
    · rw [e1, e2]; exact ih
    · rw [e1, e2]; exact args_cons z ih
theorem ar_perm {W : Wx} {E : L2.St → XK} {n : Nat} {js : List Nat} {t : TA} {m : MA} (hn : NArgs n m) (h : AR W E t m) : AR W E (tPerm n js t) (mPerm js m) := fun c T σ H G S Q I hq =>
  h c T σ H G S _ I (hq.bind fun avs S1 e1 h1 vs H1 G1 g1 I1 a1 => ⟨by rw [a1.len]; exact hn _ _ _ e1, h1 _ H1 G1 g1 I1 (args_perm a1)⟩)
/-- the parameters' values by names, js: where each stands -/
def KwB (s : Sx) (fd : FuncData) (ps : List Str) (ks : List Str) (js : List Nat) : Prop := ∀ (st : Shared) (ws : List Value), s.W.K.In st.heap → ws.length = ks.length → BindsTo st fd ⟨[], ks.zip ws⟩ (ps.zip (permI js ws))
section
variable {s : Sx} {X : Cx} {N : List Str} {sc : Scope} {fn : Str → Bool} {k : Nat} {E : L2.St → XK} {pos p : Pos} {e : Expr} {kws : List Keyword} {x : Str} {f : Addr} {fd : FuncData} {ps ks : List Str} {js : List Nat} {nN : Nat} {m : MS} {mr : MA} {me : ME}
def DK (s : Sx) (E : L2.St → XK) (X : Cx) (kws : List Keyword) (m : MA) : Prop := ∃ t, PK X kws t ∧ AR s.W E t m
theorem dk_nil : DK s E X [] mANil := ⟨_, pk_nil, ar_nil⟩
theorem dk_im {nm : Option Str} {kpos : Pos} (h : DE s E X e me) (t : DK s E X kws mr) : DK s E X (⟨nm, e, kpos⟩ :: kws) (mAIm me mr) := let ⟨_, p, q⟩ := h; let ⟨_, p2, q2⟩ := t; ⟨_, pk_cons p p2, ar_im q q2⟩
theorem len_perm {js : List Nat} {α : Type} {l : List α} (h : ∀ j ∈ js, j < l.length) : (permI js l).length = js.length := by
  unfold permI
  induction js with
  | nil => rfl
  | cons j js ih =>
    rw [List.filterMap_cons, List.getElem?_eq_getElem (h j List.mem_cons_self)]
    exact congrArg (· + 1) (ih fun i hi => h i (List.mem_cons_of_mem _ hi))
theorem na_perm {n : Nat} (h : NArgs n mr) (hj : ∀ j ∈ js, j < n) : NArgs js.length (mPerm js mr) := fun S avs S1 e => by
  unfold mPerm at e
  cases q : mr S with
  | stuck => rw [q] at e; cases e
  | er _ _ => rw [q] at e; cases e
  | ok r S2 =>
    rw [q, Res.bind_ok] at e
    cases e
    exact len_perm (by rw [h _ _ _ q]; exact hj)
theorem pe_fnK {t : TA} (h : Ct s X N sc fn k E) (F : Fun s k x f fd ps nN m) (hb : KwB s fd ps ks js) (hkw : PK X kws t) (hg : glB sc x = true) (hd : (x == ("__debug__" : Str)) = false) (hall : (backToKw pos (keywordEach kws X.env)).all (·.1.isSome) = true) (hks : (backToKw pos (keywordEach kws X.env)).filterMap (·.1) = ks)
    (hpl : ((backTo pos (starEach [] X.env)).any (·.1) || (backToKw pos (keywordEach kws X.env)).any (·.1.isNone)) = false) :
    PE X (.Call (.Name x p) [] kws pos) (tCallS (spD s.W ps.length nN m) E (tPerm ks.length js t)) := ⟨fun pins s0 σ H Q I hq => by
  have Fo := h.fnOk F
  refine wpAny_Call_Name_kw (ld_glob I (h.gl hg) (by rw [h.mg]; exact F.at_) ?_ hd)
  refine PySem.W.callWith_KW0 (h₀ := X.base) I.ok.mod.kin (by rw [h.K]; exact F.kp) hall (thn (hkw.run pos pins s0 σ H _ I hq) fun ws s2 hz => ?_) hpl
  obtain ⟨zs, H2, I2, rz, hl, q2⟩ := hz
  refine ⟨I2.kIn, ?_⟩
  rw [hks, List.nil_append]
  have hB := hb s2 ws (by rw [← h.K]; exact I2.kIn) (by rw [← rz.length]; exact hl)
  refine wpAny_call (codeAny_mono (Fo.run X.A X.stack s2 H2 ⟨[], ks.zip ws⟩ _ _ Q (E σ) h.room I2.env0 hB (perm_vals rz) q2) fun r s' hr => ?_)
  cases r with
  | error e => exact h.pass σ pins H2 s2 e s' I2 hr
  | ok fl =>
    cases fl with
    | ret u => exact I2.after hr
    | _ => exact hr.elim⟩
theorem de_fnK (h : Ct s X N sc fn k E) (F : Fun s k x f fd ps nN m) (ks : List Str) (js : List Nat) (hb : KwB s fd ps ks js) (ha : DK s E X kws mr) (hn : NArgs ks.length mr) (hj : ∀ j ∈ js, j < ks.length := by decide) (hjl : js.length = ps.length := by rfl) (hg : glB sc x = true := by decide +kernel) (hd : (x == ("__debug__" : Str)) = false := by decide +kernel)
    (hall : (backToKw pos (keywordEach kws X.env)).all (·.1.isSome) = true := by rfl) (hks : (backToKw pos (keywordEach kws X.env)).filterMap (·.1) = ks := by rfl) (hpl : ((backTo pos (starEach [] X.env)).any (·.1) || (backToKw pos (keywordEach kws X.env)).any (·.1.isNone)) = false := by rfl) :
    DE s E X (.Call (.Name x p) [] kws pos) (mFn m nN (mPerm js mr)) := by
  obtain ⟨t, pk, q⟩ := ha
  exact ⟨_, pe_fnK h F hb pk hg hd hall hks hpl, er_callD (by rw [← hjl]; exact na_perm hn hj) (ar_perm hn q)⟩
end
/-- the binding by names, of a def without defaults -/
theorem kwb_of {s : Sx} {x qual : Str} {params : Arguments} {body : List Stmt} {scope : Scope} {kws : List (Str × V)} {f : Addr} {fd : FuncData} {ps ks : List Str} {js : List Nat} (F : FunD s.W.K x qual params body scope [] kws f fd)
    (h : ∀ (kV doc pm : Value) (an : Option Addr) (cdv ct : Value) (ws : List Value), ws.length = ks.length → bindArgs (PySem.W.fnOf x qual params body scope .none kV doc pm an cdv ct) ⟨[], ks.zip ws⟩ = pure (ps.zip (permI js ws))) : KwB s fd ps ks js := fun st ws hk hl => by
  obtain ⟨oc, od, dV, kV, doc, pm, an, cdv, ct, osl, rfl, lk, hcd, hD, hK⟩ := F.ex
  rcases hD with ⟨_, rfl⟩ | ⟨e, _⟩
  · exact BindsTo.of_eq (h kV doc pm an cdv ct ws hl)
  · exact absurd rfl e
end Dy

set_option Elab.async false
set_option linter.all false
set_option maxRecDepth 100000
set_option maxHeartbeats 4000000
/-! own exceptions: class X(Base): def __init__(self, f): super().__init__('..'); self.f = f -/
namespace Dy
open PySem PySem.Spec PySem.W PySem.Calls
open L2 (plainOf mcall_line)
/-! ### the text of __init__ -/
def eiA (par : Str) (p1 p2 : Pos) : Arguments := { posonlyargs := [], args := [{ arg := "self", annotation := none, pos := p1 }, { arg := par, annotation := none, pos := p2 }], vararg := none, kwonlyargs := [], kw_defaults := [], kwarg := none, defaults := [] }
def eiB (par f msg : Str) (kk : Nat) (a1 a2 a3 a4 a5 a6 b1 b2 b3 b4 : Pos) : List Stmt := [.Expr (.Call (.Attribute (.Call (.Name "super" a1) [] [] a2) "__init__" a3) [.Constant (.str msg) kk a4] [] a5) a6, .Assign [.Attribute (.Name "self" b1) f b2] (.Name par b3) b4]
def eiS (par : Str) : Scope := { kind := .function, names := [(PySem.Str.ofString "self", .local), (par, .local), (PySem.Str.ofString "__class__", .free), (PySem.Str.ofString "super", .globalImplicit)], isGenerator := false, isCoroutine := false, more := [] }
/-- what the written part says of the class x, at C, and of its __init__, at fI -/
structure ExT (K : Frag) (mg : Str → Option Value) (P : Program) (C fI : Addr) (x qual par f : Str) : Prop where
  gC : mg x = some (.ref C)
  cls : ∃ nm q N bs bm sn sub ab col dd k0 k1 k2 k3 k5, K.lookup C = some (excClassObj nm q C N bs bm true sn sub ab col dd k0 k1 k2 k3 k5 "ValueError.__new__") ∧ HandSPX.refsVE bm = true
  sa : findIn K (.ref C) "__setattr__" = some (some (.builtin "object.__setattr__"))
  noF : findIn K (.ref C) f = some none
  iC : findIn K (.ref C) "__init__" = some (some (.ref fI))
  tC : typeIn K (.ref fI) = some (.type "function")
  kC : keepIn K (.ref C) = true
  exC : subIn K (.ref C) (.type "BaseException") = some true
  veC : subIn K (.ref C) (.type "ValueError") = some true
  tyC : typeIn K (.ref C) = some (.type "type")
  sup : ks_superIn K C C "__init__" = some (some (.builtin "ValueError.__init__"))
  open_ : nsIn K cStatics "thirdparty.any" = some none
  noS : mg "super" = none
  top : (P.main.scope.names.lookup ("super" : Str)).isSome = false
  parN : (par == ("self" : Str)) = false ∧ (par == ("__class__" : Str)) = false ∧ (par == ("super" : Str)) = false ∧ (par == ("__debug__" : Str)) = false
  bd : ∀ (qual : Str) (p1 p2 : Pos) (body : List Stmt) (doc pm ct cdv : Value) (an : Option Addr) (cc : Addr) (u v : Value), bindArgs (fnX "__init__" qual (eiA par p1 p2) body (eiS par) [("__class__", cc)] .none .none doc pm an cdv ct) ⟨[u, v], []⟩ = pure [(PySem.Str.ofString "self", u), (par, v)]
  fn : ∃ (oc : Value) (od : Option Addr) (doc pm : Value) (an : Option Addr) (ct : Value) (osl : Array (Option Value)) (kk : Nat) (msg : Str) (p1 p2 a1 a2 a3 a4 a5 a6 b1 b2 b3 b4 : Pos) (cc cda : Addr) (ccl cl : Value) (cdd cld : Option Addr) (ccs csl : Array (Option Value)) (vs : Array Value) (file : Str) (tf : PySem.Tok),
    K.lookup fI = some ⟨oc, od, .func (fnX "__init__" qual (eiA par p1 p2) (eiB par f msg kk a1 a2 a3 a4 a5 a6 b1 b2 b3 b4) (eiS par) [("__class__", cc)] .none .none doc pm an (.ref cda) ct), osl⟩ ∧ codeIn K (.ref cda) qual = true ∧ (a3.endLine == a5.line) = true ∧
    K.lookup cda = some ⟨ccl, cdd, .fields vs, ccs⟩ ∧ vs[2]? = some (.str file tf) ∧ ((P.main.file : Str) == file) = true ∧ K.lookup cc = some ⟨cl, cld, .cell (some (.ref C)), csl⟩
/-- what __init__ leaves -/
structure ExE (h h' : Heap) (x C dx : Addr) (f : Str) (v : Value) : Prop where
  keep : ∀ b o, b ≠ x → h.get? b = some o → h'.get? b = some o
  obj : ∃ t1 : Addr, h'.get? x = some { cls := .ref C, dict := some dx, data := .fields #[.ref t1, .none, .none, .none, .bool false, .none] }
  dbig : h.objs.size ≤ dx
  dne : dx ≠ x
  ns : h'.Ns1 dx (fun y => if y = f then some v else none)
section
variable {prog : Program} {w : World} {A : Around} {E : Value → Shared → Prop} {R : Result → Shared → Prop} {s : Shared} {K : Frag} {mg : Str → Option Value} {C fI : Addr} {x qual par f : Str}
theorem mwCall {h : Heap} {g : Array GenState} {d : Drawn} {t : Nat} {os : OsState} {nm q : Str} {N : Addr} {bs bm : List Value} {hdct : Bool} {sn : List Str} {sub : List Value} {ab : Bool} {col : Option Bool} {dd : Option Addr} {k0 k1 k2 k3 k5 : Option Value} {u e t0 : Addr} {rest : List Value} {Q : Value → Shared → Prop}
    (hC : h.get? C = some (excClassObj nm q C N bs bm hdct sn sub ab col dd k0 k1 k2 k3 k5 "ValueError.__new__")) (he : h.get? e = some (HandSPX.excO C t0)) (hu : h.get? u = some (kxs_mw "ValueError.__init__" e)) (hz : rest.length ≤ sizeLine)
    (fin : ∀ h' t1, (∀ b o, b ≠ e → h.get? b = some o → h'.get? b = some o) → h'.get? e = some (HandSPX.excO C t1) → Q .none ⟨h', g, d, t, os⟩) : wpAny (model prog w) A (call (.ref u) rest) Q E ⟨h, g, d, t, os⟩ := by
  refine wpAny_call (codeAny_of_tree ?_)
  show wpAny _ A.in1 (callAny (.ref u) ⟨rest, []⟩) _ _ _
  simp only [callAny]
  refine wpAny_bind (wpAny_load hu ?_)
  have mwt : (Value.type "method-wrapper" == Value.type "method" || Value.type "method-wrapper" == Value.type "builtin_function_or_method" || Value.type "method-wrapper" == Value.type "method-wrapper") = true := by decide
  simp only [kxs_mw, mwt, if_true]
  refine KFB.if_so (by decide) ?_
  have FB := F.excBase_ValueError
  refine wpAny_bind (check_bound_init FB.toExcCallFacts hC he rfl ?_)
  refine wpAny_bind (wpAny_pure (wpAny_pure ?_))
  exact ⟨plainId_quiet FB.init.plain _, codeAny_builtin FB.initEntry (exc_init_tree (cls := .ref C) (t0 := t0) (dv := none) (c2 := .none) (c3 := .none) (b4 := .bool false) he hz fun h' k e' t' => fin h' _ k e')⟩
theorem exInit (T : ExT K mg prog C fI x qual par f) {e t0 : Addr} {v : Value} (X : K.In s.heap) (hG : s.heap.Ns mainGlobals mg) (hB : ∃ mb, s.heap.Ns builtinsNs mb ∧ ∀ y : Str, y ≠ "__name__" → mb y = bootBuiltins y) (hlim : s.heap.NoLimit) (hx : s.heap.get? e = some (HandSPX.excO C t0)) (hnx : K.lookup e = none) (hroom : A.depth < recursionLimit)
    (hq : ∀ h' tk dx, ExE s.heap h' e C dx f v → R (.ok (.ret .none)) { s with heap := h', toks := tk }) : codeAny (model prog w) A (.call (.ref fI) ⟨[.ref e, v], []⟩) R s := by
  obtain ⟨oc, od, doc, pm, an, ct, osl, kk, msg, p1, p2, a1, a2, a3, a4, a5, a6, b1, b2, b3, b4, cc, cda, ccl, cl, cdd, cld, ccs, csl, vs, file, tf, ho, hcd, hline, hcda, hvs, hfile, hcell⟩ := T.fn
  obtain ⟨nm, q, N, bs, bm, sn, sub, ab, col, dd, k0, k1, k2, k3, k5, hC, hbm⟩ := T.cls
  obtain ⟨mb, hB1, hB2⟩ := hB
  obtain ⟨n1, n2, n3, n4⟩ := T.parN
  have hcl : clsIn K C = some { name := nm, bases := bs, mro := .ref C :: bm, ns := N, qualname := q, hasDict := true, slotNames := sn, subclasses := sub, abstract := ab, collection := col, hasDel := false } := by unfold clsIn; rw [hC] <;> rfl
  have e1 : (eiS par).names.lookup par = some .local := by
    show List.lookup par [(PySem.Str.ofString "self", NameKind.local), (par, .local), (PySem.Str.ofString "__class__", .free), (PySem.Str.ofString "super", .globalImplicit)] = _
    simp only [List.lookup, n1, beq_self_eq_true]
  have e2 : (eiS par).names.lookup ("__class__" : Str) = some .free := by
    have z : (("__class__" : Str) == par) = false := by rw [beq_eq_false_iff_ne] at n2 ⊢; exact fun y => n2 y.symm
    show List.lookup ("__class__" : Str) [(PySem.Str.ofString "self", NameKind.local), (par, .local), (PySem.Str.ofString "__class__", .free), (PySem.Str.ofString "super", .globalImplicit)] = _
    simp only [List.lookup, z, show (("__class__" : Str) == PySem.Str.ofString "self") = false by decide +kernel, show (("__class__" : Str) == PySem.Str.ofString "__class__") = true by decide +kernel]
  have e3 : (eiS par).names.lookup ("super" : Str) = some .globalImplicit := by
    have z : (("super" : Str) == par) = false := by rw [beq_eq_false_iff_ne] at n3 ⊢; exact fun y => n3 y.symm
    show List.lookup ("super" : Str) [(PySem.Str.ofString "self", NameKind.local), (par, .local), (PySem.Str.ofString "__class__", .free), (PySem.Str.ofString "super", .globalImplicit)] = _
    simp only [List.lookup, z, show (("super" : Str) == PySem.Str.ofString "self") = false by decide +kernel, show (("super" : Str) == PySem.Str.ofString "__class__") = false by decide +kernel, show (("super" : Str) == PySem.Str.ofString "super") = true by decide +kernel]
  have e4 : (eiS par).names.lookup ("self" : Str) = some .local := by rfl
  refine ks_codeAny_call_defAt (binds := [("self", .ref e), (par, v)]) hroom (X _ _ ho) rfl hlim (codeRec_of X hcd) rfl (BindsTo.of_eq (T.bd ..)) (by
    intro y hy
    have hy : y ∈ [(PySem.Str.ofString "self", NameKind.local), (par, .local), (PySem.Str.ofString "__class__", .free), (PySem.Str.ofString "super", .globalImplicit)] := hy
    simp only [List.mem_cons, List.mem_nil_iff, or_false] at hy
    rcases hy with rfl | rfl | rfl | rfl <;> simp) (by
    intro y hy
    simp only [List.mem_cons, List.mem_nil_iff, or_false] at hy
    rcases hy with rfl | rfl
    · exact e4
    · exact e1) (fun h₁ hns kp => ?_)
  have X1 : K.In h₁ := X.keeps kp
  have hx1 := kp _ _ hx
  have hD := X1 _ _ hC
  have hms : mroIn K C (.ref C) = some true := by
    unfold mroIn
    rw [hcl, Option.bind_some, if_neg (show ¬ (List.isEmpty (Value.ref C :: bm) = true) from Bool.false_ne_true), List.contains_cons, beq_self_eq_true, Bool.true_or]
  have hsz : s.heap.objs.size < h₁.objs.size := hns.lt
  have hcall : ∀ env : Env, eval (.Call (.Attribute (.Call (.Name "super" a1) [] [] a2) "__init__" a3) [.Constant (.str msg) kk a4] [] a5) env = (do
      let ov ← attributeBase (.Call (.Name "super" a1) [] [] a2) "__init__" env (eval (.Call (.Name "super" a1) [] [] a2) env)
      standAt a3.atName
      let (f, first) ← holding [ov] (getMethod ov "__init__" (plainOf (.Call (.Name "super" a1) [] [] a2) env))
      callWith a5 f first (backTo a5 (starEach [.Constant (.str msg) kk a4] env)) []) := fun env => by
    refine Eq.trans (b := (do
      let ov ← attributeBase (.Call (.Name "super" a1) [] [] a2) "__init__" env (eval (.Call (.Name "super" a1) [] [] a2) env)
      standAt a3.atName
      methodCall (.Call (.Name "super" a1) [] [] a2) "__init__" a3 a5 env ov 1 (backTo a5 (starEach [.Constant (.str msg) kk a4] env)) [])) rfl ?_
    exact congrArg _ (funext fun ov => congrArg _ (funext fun _ => mcall_line rfl hline))
  refine ks_wpAt_execs_cons (ks_wpAt_Expr_any (ks_wpAt_MethodCall (ks_wpAt_super_base e3 e2 rfl rfl (X1 _ _ ho) rfl rfl rfl (X1 _ _ hcda) rfl hvs hfile T.top ?_) (hcall _)) rfl rfl)
  refine ks_loadName_global rfl e3 (loadGlobal_builtin (hG.keeps kp) T.noS (hB1.keeps kp) ((hB2 _ (by decide)).trans (by decide +kernel)) ⟨rfl, ?_⟩)
  refine wpAny_loadName_free rfl e2 rfl ⟨_, X1 _ _ hcell, rfl⟩ ?_
  have n1' : (PySem.Str.ofString "self" == par) = false := by rw [beq_eq_false_iff_ne] at n1 ⊢; exact fun y => n1 y.symm
  have mS : List.lookup (PySem.Str.ofString "self") [(PySem.Str.ofString "self", Value.ref e), (par, v)].reverse = some (.ref e) := by
    show List.lookup (PySem.Str.ofString "self") [(par, v), (PySem.Str.ofString "self", Value.ref e)] = _
    simp only [List.lookup, n1', beq_self_eq_true]
  have mP : List.lookup par [(PySem.Str.ofString "self", Value.ref e), (par, v)].reverse = some v := by
    show List.lookup par [(par, v), (PySem.Str.ofString "self", Value.ref e)] = _
    simp only [List.lookup, beq_self_eq_true]
  refine wpAny_loadName_local rfl e4 hns mS ?_
  refine ks_wpAny_isType_cls hD rfl ⟨rfl, ?_⟩
  refine ks_wpAny_call_super hD rfl hx1 rfl (fun c z => by cases z) (looks_mroIn X1 hms) (fun h₂ so k2 => ?_)
  have X2 : K.In h₂ := X1.keeps k2
  have hx2 := k2 _ _ hx1
  have I2 : InstAt h₂ e (HandSPX.excO C t0) C none := ⟨hx2, rfl, rfl, trivial⟩
  have hsup := T.sup
  unfold ks_superIn at hsup
  rw [hcl] at hsup
  have heC : e ≠ C := fun z => by
    have y := X2 _ _ hC
    rw [← z, hx2] at y
    cases y
  refine kxs_getMethod kxs_ValueError so (looks_opaque X2 T.open_) (l₀ := .ref C :: bm) (fun A Q E s k q => wpAny_bind ((looks_clsIn X2 hcl) A _ E s k (wpAny_pure q))) rfl X2 hsup (I2.type.andThen (looks_subIn X2 T.veC)) heC (by decide) ?_
  show wpAny _ _ (callWith a5 (.ref h₂.objs.size) [] (backTo a5 (starEach [.Constant (.str msg) kk a4] _)) []) _ _ _
  have up : ∀ b o, h₂.get? b = some o → (h₂.push (kxs_mw "ValueError.__init__" e)).get? b = some o := fun b o z => Heap.get?_push_of_some _ z
  have hu : (h₂.push (kxs_mw "ValueError.__init__" e)).get? h₂.objs.size = some (kxs_mw "ValueError.__init__" e) := Heap.get?_push_size _ rfl
  refine kxs_callWith (i := "ValueError.__init__") (x := e) rfl (evalArgs_plain (spliced_cons (Constant_str (k := kk) (pos := a4) (spliced_nil ⟨hu, ?_⟩))))
  refine mwCall (up _ _ (X2 _ _ hC)) (up _ _ hx2) hu (by show 1 ≤ sizeLine; decide) (fun h₃ t1 k3 he3 => ?_)
  have k13 : ∀ b o, b ≠ e → h₁.get? b = some o → h₃.get? b = some o := fun b o n z => k3 b o n (up _ _ (k2 _ _ z))
  have hLe : s.heap.objs.size ≠ e := Nat.ne_of_gt (Heap.lt_size hx)
  have hns3 : h₃.Ns s.heap.objs.size (fun y => List.lookup y [(PySem.Str.ofString "self", Value.ref e), (par, v)].reverse) := by
    obtain ⟨oL, es, ep, hL, r⟩ := hns
    exact ⟨oL, es, ep, k13 _ _ hLe hL, r⟩
  have X3 : K.In h₃ := fun b o z => k13 _ _ (fun y => by rw [y, hnx] at z; cases z) (X1 _ _ z)
  show wpAt _ _ _ (execs _ _) _ _ _
  refine wpAt_of_wpAny (wpAny_execs_cons (plainObj_wpAny_Assign_Attribute ?_))
  refine wpAny_Name (wpAny_loadName_local rfl e1 hns3 mP ?_) n4
  refine wpAny_Name (wpAny_loadName_local rfl e4 hns3 mS ?_) (by decide)
  refine set_plain X3 (ox := HandSPX.excO C t1) (od := none) ⟨he3, rfl, rfl, trivial⟩ T.sa ?_
  refine HandSPX.exc_osa X3 he3 hcl (show HandSPX.refsVE (.ref C :: bm) = true from hbm) rfl T.noF (fun h₄ tk4 dx k4 dn dne hx4 hn4 => ?_)
  show wpAny _ _ (execs _ _) _ _ _
  refine wpAny_execs_nil (hq h₄ tk4 dx ⟨fun b o hb z => k4 b o hb (k13 b o hb (kp b o z)), ⟨t1, hx4⟩, ?_, dne, hn4⟩)
  refine Nat.le_trans ?_ dn
  have z : s.heap.objs.size < h₃.objs.size := hns3.lt
  exact Nat.le_of_lt z
/-- what C(v) leaves -/
structure ExM (h h' : Heap) (e C d : Addr) (f : Str) (v : Value) : Prop where
  keep : ∀ b o, h.get? b = some o → h'.get? b = some o
  new : h.objs.size ≤ e
  obj : ∃ t1 : Addr, h'.get? e = some { cls := .ref C, dict := some d, data := .fields #[.ref t1, .none, .none, .none, .bool false, .none] }
  dbig : h.objs.size ≤ d
  dne : d ≠ e
  ns : h'.Ns1 d (fun y => if y = f then some v else none)
theorem exMade (T : ExT K mg prog C fI x qual par f) {v : Value} (X : K.In s.heap) (hG : s.heap.Ns mainGlobals mg) (hB : ∃ mb, s.heap.Ns builtinsNs mb ∧ ∀ y : Str, y ≠ "__name__" → mb y = bootBuiltins y) (hlim : s.heap.NoLimit) (hroom : A.depth + 1 < recursionLimit)
    (hq : ∀ h' tk e d, ExM s.heap h' e C d f v → R (.ok (.ret (.ref e))) { s with heap := h', toks := tk }) : codeAny (model prog w) A (.call (.ref C) ⟨[v], []⟩) R s := by
  obtain ⟨nm, q, N, bs, bm, sn, sub, ab, col, dd, k0, k1, k2, k3, k5, hC, hbm⟩ := T.cls
  obtain ⟨hp, g, dr, tk, os⟩ := s
  have kk : ∀ b o, hp.get? b = some o → ((hp.push (kdv_tup [v])).push (HandSPX.excO C hp.objs.size)).get? b = some o := fun b o z => Heap.get?_push_of_some _ (Heap.get?_push_of_some _ z)
  have at_ : ((hp.push (kdv_tup [v])).push (HandSPX.excO C hp.objs.size)).get? (hp.objs.size + 1) = some (HandSPX.excO C hp.objs.size) := by heap_get
  have hnx : K.lookup (hp.objs.size + 1) = none := by
    cases z : K.lookup (hp.objs.size + 1) with
    | none => rfl
    | some o => exact absurd (Nat.lt_of_succ_lt (Heap.lt_size (show hp.get? (hp.objs.size + 1) = some o from X _ _ z))) (Nat.lt_irrefl _)
  obtain ⟨mb, hB1, hB2⟩ := hB
  refine HandSPX.call_own F.excBase_ValueError (fun Y => HandSPX.refsVE_contains Y bm hbm) (X _ _ hC) (looks_findIn X T.iC) (fun self => bind_fn X self T.tC) (by show 1 ≤ sizeLine; decide) ?_
  refine exInit (s := ⟨(hp.push (kdv_tup [v])).push (HandSPX.excO C hp.objs.size), g, dr, tk, os⟩) T (X.keeps kk) (hG.keeps kk) ⟨mb, hB1.keeps kk, hB2⟩ (hlim.keeps kk) at_ hnx ?_ fun h' tk' dx hE => ?_
  · show A.depth + 1 < recursionLimit
    exact hroom
  · obtain ⟨k', hx, dn, dne, hn⟩ := hE
    have dn' : hp.objs.size + 1 + 1 ≤ dx := by
      have z := dn
      first
        | exact z
        | (rw [Heap.size_push, Heap.size_push] at z; exact z)
    exact ⟨rfl, hq h' tk' (hp.objs.size + 1) dx ⟨fun b o z => k' b o (Nat.ne_of_lt (Nat.lt_succ_of_lt (Heap.lt_size z))) (kk b o z), Nat.le_succ _, hx, Nat.le_trans (Nat.le_trans (Nat.le_succ _) (Nat.le_succ _)) dn', dne, hn⟩⟩
end
end Dy

set_option Elab.async false
set_option linter.all false
set_option maxRecDepth 100000
set_option maxHeartbeats 4000000
namespace Dy
open PySem PySem.Spec L2
/-! ### raise C(e), C an own exception of one field -/
def tMkE (f : Str) (C : Addr) (ta : TA) : L2.St → Hp → XK → Prop := fun σ H Q => ta σ H fun vs H1 => ∃ v, vs = [v] ∧ ∀ d, H1 d = none → Q (.ref C) (some d) (upd H1 d (.xd [(f, v)]))
theorem relO_one {f : Str} {v : V} {u : Value} (r : RelV v u) (y : Str) : RelO (List.lookup y [(f, v)]) (if y = f then some u else none) := by
  by_cases h : y = f
  · subst h
    rw [if_pos rfl, show List.lookup y [(y, v)] = some v by simp [List.lookup]]
    exact r
  · have z : (y == f) = false := by simpa using h
    rw [if_neg h, show List.lookup y [(f, v)] = none by simp [List.lookup, z]]
    trivial
section
variable {s : Sx} {X : Cx} {N : List Str} {sc : Scope} {fn : Str → Bool} {k : Nat} {E : L2.St → XK} {pos pos2 p : Pos} {e : Expr} {me : ME} {x qual par f : Str} {C fI : Addr}
theorem pmkE {ta : TA} (T : ExT X.K X.mg X.prog C fI x qual par f) (hr : Room k X.A) (ha : PA X [e] ta) (hg : Gl X x) (hdb : (x == ("__debug__" : Str)) = false) (he : starEach [e] X.env = (false, eval e X.env) :: starEach [] X.env) : PMk X (.Call (.Name x p) [e] [] pos) (tMkE f C ta) := fun pins s0 σ H Q I h => by
  refine wpAny_Call_Name_kw (ld_glob I hg T.gC ?_ hdb)
  refine PySem.W.callWith_K (h₀ := X.base) I.ok.mod.kin T.kC (thn (ha.run pos pins s0 σ H _ I h) fun us s1 hh => ?_) he rfl
  obtain ⟨vs, H1, J1, r1, v, rfl, q1⟩ := hh
  refine ⟨J1.kIn, ?_⟩
  obtain ⟨u, rfl, rv⟩ := vals1 r1
  have hlim := J1.nolimit
  have hG : s1.heap.Ns mainGlobals X.mg := J1.mod.glob.keeps J1.bk
  have hB : ∃ mb, s1.heap.Ns builtinsNs mb ∧ ∀ y : Str, y ≠ "__name__" → mb y = bootBuiltins y := by
    obtain ⟨mb, h1, h2⟩ := J1.mod.blt
    exact ⟨mb, h1.keeps J1.bk, h2⟩
  obtain ⟨hp, g, dr, tk, os⟩ := s1
  show wpAny _ _ (call (.ref C) [u]) _ _ _
  refine wpAny_call (exMade T J1.kIn hG hB hlim (by have z := hr.dp; omega) fun h' tk' x0 d M => ?_)
  obtain ⟨t1, hoe⟩ := M.obj
  obtain ⟨B, b1, b2⟩ := restrict h' fun b => decide (b ≠ x0)
  have keepB : ∀ b, b ≠ x0 → B.get? b = h'.get? b := fun b hb => b1 b (decide_eq_true hb)
  have goneB : B.get? x0 = none := b2 x0 (by simp)
  have oldB : ∀ b o, hp.get? b = some o → B.get? b = some o := fun b o z => (keepB b (Nat.ne_of_lt (Nat.lt_of_lt_of_le (Heap.lt_size z) M.new))).trans (M.keep b o z)
  have dOk : ObjOk X.prog X.w (upd H1 d (.xd [(f, v)])) B d (.xd [(f, v)]) := ⟨_, M.ns.at (fun o z => (keepB d M.dne).trans z), relO_one rv⟩
  have J2 : Inv X pins σ (upd H1 d (.xd [(f, v)])) ⟨B, g, dr, tk', os⟩ := J1.laid (t' := tk') oldB M.dbig dOk
  refine ⟨x0, _, _, ⟨B, g, dr, tk', os⟩, _, .ref C, some d, rfl, J2, fun b o z => ?_, goneB, hoe, ⟨rfl, rfl⟩, rfl, rfl, ?_, rfl, J1.bare, raises_own T.exC T.tyC, q1 d (J1.hok.fresh M.dbig)⟩
  · by_cases hb : b = x0
    · have z' : B.get? b = some o := z
      rw [hb, goneB] at z'
      cases z'
    · exact (keepB b hb).symm.trans z
  · rw [upd_ne (Ne.symm M.dne)]
    exact J1.hok.fresh M.new
def mRaise (x f : Str) (me : ME) : MS := fun S => (me S).sb fun y S1 => .er ⟨x, [(f, y.1, y.2)]⟩ S1
theorem sr_raise {W : Wx} {te : TE} (hC : W.mg x = some (.ref C)) (h : ER W E te me) : SR W E (fun _ σ H => tMkE f C (tCons te tNil) σ H fun cls d H' => E σ cls d H') (mRaise x f me) := fun c T σ H G S D I hq =>
  h c T σ H G S _ I (hq.sb fun y S1 _ h1 v H1 G1 g1 I1 r1 t1 => by
    refine ⟨v, rfl, fun d hd => ?_⟩
    have J := I1.alloc hd (o := .xd [(f, v)]) (fun ps z => by cases z)
    refine h1 σ (.ref C) (some d) _ G1 g1 J.drop ⟨C, d, _, hC, rfl, rfl, upd_same, I1.fresh hd, v, [], rfl, r1, t1, rfl⟩)
theorem ds_raise (h : Ct s X N sc fn k E) (T : ExT s.W.K s.W.mg s.P C fI x qual par f) (he : DE s E X e me) (hg : glB sc x = true := by decide +kernel) (hdb : (x == ("__debug__" : Str)) = false := by decide +kernel) (hs : starEach [e] X.env = (false, eval e X.env) :: starEach [] X.env := by rfl) :
    DS s E X (.Raise (some (.Call (.Name x p) [e] [] pos)) none pos2) (mRaise x f me) := by
  obtain ⟨te, pe, q⟩ := he
  refine ⟨_, ps_raise h.calm h.tk (pmkE (by rw [h.K, h.mg, h.prog]; exact T) h.room (pa_cons pe pa_nil hs) (h.gl hg) hdb hs), sr_raise T.gC q⟩
end
end Dy
namespace Dy
open PySem PySem.Spec L2
/-- .. with the own exceptions: the class, its __init__'s name, parameter, field -/
structure Gq (s : Sx) (top : Nat → Stmt) (tab : List (Nat × Str)) (bl : List Str) (gi : List (Str × Int)) (ex : List (Str × Str × Str × Str)) (a : Str → Addr) (fd : Str → FuncData) : Prop extends Gs s top tab bl gi a fd where
  exc : ∀ x qual par f, (x, qual, par, f) ∈ ex → ∃ C fI, ExT s.W.K s.W.mg s.P C fI x qual par f
section
variable {s : Sx} {X : Cx} {N : List Str} {sc : Scope} {fn : Str → Bool} {k : Nat} {E : L2.St → XK} {pos pos2 p : Pos} {e : Expr} {me : ME} {x qual par f : Str} {fA : Addr} {fd : FuncData} {ps : List Str} {nN : Nat} {m : MS}
theorem ds_raiseG (h : Ct s X N sc fn k E) (T : ∃ C fI, ExT s.W.K s.W.mg s.P C fI x qual par f) (he : DE s E X e me) (hg : glB sc x = true := by decide +kernel) (hdb : (x == ("__debug__" : Str)) = false := by decide +kernel) (hs : starEach [e] X.env = (false, eval e X.env) :: starEach [] X.env := by rfl) :
    DS s E X (.Raise (some (.Call (.Name x p) [e] [] pos)) none pos2) (mRaise x f me) := let ⟨_, _, T⟩ := T; ds_raise h T he hg hdb hs
/-- a call without arguments -/
theorem de_fn0 (h : Ct s X N sc fn k E) (F : Fun s k x fA fd [] nN m) (hg : glB sc x = true := by decide +kernel) (hd : (x == ("__debug__" : Str)) = false := by decide +kernel) : DE s E X (.Call (.Name x p) [] [] pos) (mFn m nN mANil) :=
  ⟨tCallS (spD s.W 0 nN m) E tNil, ⟨fun pins s0 σ H Q I hq => wpAny_Call_Name_kw (ld_glob I (h.gl hg) (by rw [h.mg]; exact F.at_) (PySem.W.callWith_K0 I.kIn (by rw [h.K]; exact F.kp) (run_fnS (us := []) (h.fnOk F) h.room (by rw [h.K]; exact F.bd) (h.pass σ) I .nil hq)) hd)⟩, er_callD (n := 0) na_nil ar_nil⟩
def mDct0 : ME := fun S => .ok (.dct [] [], none) S
theorem de_dct0 : DE s E X (.Dict [] [] pos) mDct0 := ⟨_, pe_dnewK, fun c T σ H G S Q I hq => fun p hp => by
  have J := I.allocI hp (o := .dK []) (fun ps z => by cases z)
  have gu := gle_upd (o := HO.dK []) (I.le.none hp)
  refine hq (.ref p) _ _ gu J ?_ tok_none
  rw [Rep]
  exact ⟨p, [], rfl, upd_same, rfl, RepL.nil⟩⟩
end
end Dy

set_option Elab.async false
set_option linter.all false
set_option maxRecDepth 100000
set_option maxHeartbeats 4000000
/-! try: .. with several clauses, each except X as n -/
namespace Dy
open PySem PySem.Spec L2
/-- a clause: the class, the name's slot, the suite's reading -/
abbrev Cla := Value × Nat × (Addr → Value → Option Addr → TS)
def offSlot (D : Ends) (i : Nat) : Ends := { nx := fun τ G => D.nx (τ.set i none) G, rt := D.rt, bk := fun τ G => D.bk (τ.set i none) G, ct := fun τ G => D.ct (τ.set i none) G }
def wManyA (K : PySem.W.Frag) (Wo : WX) (D : Ends) : List Cla → WX
  | [] => Wo
  | (c, i, ts) :: r => fun cls d σ H => ∃ b, PySem.W.exmOne K cls c = some b ∧ (b = true → ∀ a, H a = none → ts a cls d (offSlot D i) (σ.set i (some (.ref a))) H) ∧ (b = false → wManyA K Wo D r cls d σ H)
inductive ClA (X : Cx) : List ExceptHandler → List Cla → Prop
  | nil : ClA X [] []
  | cons {x n : Str} {c : Value} {i : Nat} {ts : Addr → Value → Option Addr → TS} {b0 : Stmt} {bs : List Stmt} {q1 q2 : Pos} {hds : List ExceptHandler} {l : List Cla} (hc : Names X x c) (hi : X.N[i]? = some n) (hl : X.env.kindOf n = some .local)
      (hsu : ∀ (a : Addr) (oe : Obj) (cls : Value) (d : Option Addr) (pn : List (Addr × Obj)), Zc cls d oe → (∃ vs, oe.data = .fields vs) → PSs (X.suite a ((a, oe) :: pn)) (b0 :: bs) (ts a cls d)) (r : ClA X hds l) :
      ClA X (.ExceptHandler (some (.Name x q1)) (some n) (b0 :: bs) q2 :: hds) ((c, i, ts) :: l)
theorem ps_tryA {X : Cx} {body : List Stmt} {h0 : ExceptHandler} {hds : List ExceptHandler} {l : List Cla} {pos : Pos} {tb : WX → TS} {Wo : WX} (hs : X.stack = X.env :: X.outer) (hf : X.env.frame = some X.env.locals) (hN : X.N.Nodup) (tk : Takes X Wo)
    (hb : ∀ (V : WX) (pn : List (Addr × Obj)) (xe : Value → Shared → Prop), Takes (X.tr pn xe) V → PassesOwn (model X.prog X.w) X.A X.env xe → PSs (X.tr pn xe) body (tb V)) (hh : ClA X (h0 :: hds) l) :
    PS X (.Try body (h0 :: hds) [] [] pos) (fun D σ H => tb (wManyA X.K Wo D l) D σ H) := ⟨fun pins s σ H D I hw => by
  have ok := I.ok
  have frm : X.A.frames = some (X.env :: X.outer) := by rw [ok.frames, hs]
  refine wpAny_Try_except ?_
  refine wpAny_mono ((hb (wManyA X.K Wo D l) (X.pn ++ pins) (fun u z1 => wpAny (model X.prog X.w) X.A (noteFrame u X.env) (fun _ z2 => wpAny (model X.prog X.w) X.A (setFlight u none) (fun _ z3 => wpAny (model X.prog X.w) X.A (handleBy u X.env (h0 :: hds)) (SP X pins D) X.xe z3) X.xe z2) X.xe z1)
    (fun u z fly => ?_) PassesOwn.looking).run [] s σ H D (I.toTry _) hw) (fun fl z hz => ?_) (fun _ _ y => y)
  · obtain ⟨a, B, sI, pins', τ, G, cls, d, rfl, JT, nb, up, sky, na, os, ag, w⟩ := fly
    have J : Inv X pins τ G sI := JT.ofTry ok
    have sky2 : Sky B (X.env :: X.outer) a (Zc cls d) X.env.locals z.heap := by rw [← hs]; exact sky
    show wpAny (model X.prog X.w) X.A (noteFrame (.ref a) X.env) _ _ _
    refine Sky.land Zc.steady frm hf sky2 fun hA flA upA => ?_
    have JA : Inv X pins τ G { z with heap := hA } := J.landed nb flA.1 (up.trans upA) os ag
    obtain ⟨oA, vA, eA, zA, dA⟩ := flA.there
    have nfr : a ∉ frs (X.env :: X.outer) := fun hm => by
      obtain ⟨_, o', e', hn⟩ := flA.2.2.1.mem hm
      rw [eA] at e'
      cases e'
      exact hn _ dA
    have nL : a ≠ X.env.locals := fun y => nfr (List.mem_filterMap.mpr ⟨X.env, List.mem_cons_self, by rw [hf, y]⟩)
    have nF : a ∉ X.fs := fun hm => by
      obtain ⟨en, hen, y⟩ := List.mem_filterMap.mp hm
      exact nfr (List.mem_filterMap.mpr ⟨en, List.mem_cons_of_mem _ hen, y⟩)
    have SA := JA.suite eA dA na nL nF
    have go : ∀ {hd2 : List ExceptHandler} {l2 : List Cla}, ClA X hd2 l2 → wManyA X.K Wo D l2 cls d τ G → wpAny (model X.prog X.w) X.A (handleBy (.ref a) X.env hd2) (SP X pins D) X.xe { z with heap := hA } := by
      intro hd2 l2 hk
      induction hk with
      | nil =>
        intro w2
        refine wpAny_handleBy_nil ?_
        obtain ⟨k1, k2, k3, oe, vs, Tr, oT, ts', he, hz', hd, h1, hr⟩ := id flA
        unfold PySem.passOn
        refine wpAny_bind (wpAny_field he hd h1 ?_)
        rw [if_neg (show ¬ ((Value.ref Tr == Value.none) = true) from by simp)]
        have goesOn : wpAny (model X.prog X.w) X.A (setFlight (.ref a) X.env.frame) (fun _ y4 => wpAny (model X.prog X.w) X.A (throw (.ref a) : Sem Flow) (SP X pins D) X.xe y4) X.xe { z with heap := hA } := by
          rw [hf]
          exact HandSPX.setFlight_upZ flA fun hB hhB upB => wpAny_throw (tk _ _ ⟨a, B, sI, pins, τ, G, cls, d, rfl, J, nb, (up.trans upA).trans upB, .inr (.inr (by rw [hs]; exact hhB)), na, os, ag, w2⟩)
        first
          | exact wpAny_bind (wpAny_pure (wpAny_bind goesOn))
          | exact wpAny_bind goesOn
      | @cons x n c i ts b0 bs q1 q2 hd3 l3 hc hi hl hsu r ih =>
        intro w2
        obtain ⟨b, hb1, hyes, hno⟩ := w2
        refine wpAny_handleBy_cons (codeAny_handlers_test ?_) (by intro y; cases y)
        have LT : PySem.W.Looks (model X.prog X.w) hA (typeOf (.ref a)) cls := fun A' Q' E' s' kp y => wpAny_typeOf_ref (kp _ _ eA) (by rw [zA.1]; exact y)
        have LM := PySem.W.exm_one (M := model X.prog X.w) (JA.kIn) LT hb1
        have named : ∀ {Q' E' : Value → Shared → Prop}, Q' c { z with heap := hA } → wpAny (model X.prog X.w) (X.A.mark (some (.ref a))) (eval (.Name x q1) X.env) Q' E' { z with heap := hA } := fun {Q' E'} y => by
          obtain ⟨hg, hdb, hm | ⟨hm, hv, hnn⟩⟩ := hc
          · exact ld_glob (X := X.suite a ((a, oA) :: (X.pn ++ pins))) SA hg hm y hdb
          · exact ld_blt (X := X.suite a ((a, oA) :: (X.pn ++ pins))) SA hg hm hv y hnn hdb
        refine named (LM.here ?_)
        cases b with
        | false => exact ih (hno rfl)
        | true =>
          refine codeAny_handlers_suite_as ?_
          refine HandSPX.lands_againZ flA fun hB flB upB => ?_
          have JB : Inv X pins τ G { z with heap := hB } := J.landed nb flB.1 ((up.trans upA).trans upB) os ag
          obtain ⟨oB, vB, eB, zB, dB⟩ := flB.there
          have SB := JB.suite eB dB na nL nF
          refine store_ok (X := X.suite a ((a, oB) :: (X.pn ++ pins))) (v := .ref a) SB hN hi (.inl hl) rfl (fun s5 S5 => ?_) (.inr hl)
          refine wpAny_mono ((hsu a oB cls d (X.pn ++ pins) zB ⟨_, dB⟩).run [] s5 _ G _ S5 (hyes rfl a na)) (fun f6 s6 h6 => ?_) (fun _ _ y => False.elim y)
          have leave : ∀ {τ6 : L2.St} {H6 : Hp} {Q' : Shared → Prop}, Inv (X.suite a ((a, oB) :: (X.pn ++ pins))) [] τ6 H6 s6 → (∀ s7, Inv X pins (τ6.set i none) H6 s7 → Q' s7) →
              wpAny (model X.prog X.w) X.A (do bindName X.env n .none; unbindBehindTheSuite X.env n q2) (fun _ s7 => Q' s7) X.xe s6 := fun {τ6 H6 Q'} S6 y => gone_ok (S6.unsuite ok) hN hi hl y
          cases f6 with
          | ret u =>
            obtain ⟨v6, τ6, H6, S6, r6, y6⟩ := h6
            exact leave S6 fun s7 J7 => ⟨_, _, _, J7, r6, y6⟩
          | next =>
            obtain ⟨τ6, H6, S6, y6⟩ := h6
            exact leave S6 fun s7 J7 => ⟨_, _, J7, y6⟩
          | brk =>
            obtain ⟨τ6, H6, S6, y6⟩ := h6
            exact leave S6 fun s7 J7 => ⟨_, _, J7, y6⟩
          | cont =>
            obtain ⟨τ6, H6, S6, y6⟩ := h6
            exact leave S6 fun s7 J7 => ⟨_, _, J7, y6⟩
    exact go hh w
  · cases fl with
    | next =>
      obtain ⟨τ, G, J, y⟩ := hz
      exact wpAny_execs_nil ⟨τ, G, J.ofTry ok, y⟩
    | ret u =>
      obtain ⟨v, τ, G, J, r, y⟩ := hz
      exact ⟨v, τ, G, J.ofTry ok, r, y⟩
    | brk =>
      obtain ⟨τ, G, J, y⟩ := hz
      exact ⟨τ, G, J.ofTry ok, y⟩
    | cont =>
      obtain ⟨τ, G, J, y⟩ := hz
      exact ⟨τ, G, J.ofTry ok, y⟩⟩
end Dy

set_option Elab.async false
set_option linter.all false
set_option maxRecDepth 100000
set_option maxHeartbeats 4000000
/-! a lambda: made, known, called -/
namespace Dy
open PySem PySem.Spec L2 LamX
open PyProof.Rows (envOfC)
/-- the object at f is the lambda of these words over the cells cl -/
def LamO (f : Addr) (q : Str) (ps : Arguments) (body : Expr) (scope : Scope) (cl : List (Str × Addr)) (c' : Addr) : HO := .ext fun h => ∃ pm ctv : Value, h.get? f = some (PySem.W.kla_obj "<lambda>" q ps body scope cl pm c' ctv)
theorem lamO_ne {f : Addr} {q : Str} {ps : Arguments} {body : Expr} {scope : Scope} {cl : List (Str × Addr)} {c' : Addr} (t : Array Value) : LamO f q ps body scope cl c' ≠ .tbl t := fun z => by
  unfold LamO at z
  cases z
theorem lamO_at {P : Program} {w : World} {H : Hp} {h : Heap} {f : Addr} {q : Str} {ps : Arguments} {body : Expr} {scope : Scope} {cl : List (Str × Addr)} {c' : Addr} (hok : HOk P w H h) (e : H f = some (LamO f q ps body scope cl c')) : ∃ pm ctv : Value, h.get? f = some (PySem.W.kla_obj "<lambda>" q ps body scope cl pm c' ctv) := by
  obtain ⟨z, _, _⟩ := hok f _ e
  exact z
/-- what the tables hold behind the making of a lambda -/
structure TNew (T : List (Addr × Str)) (H H1 : Hp) (c' : Addr) (q : Str) : Prop where
  fresh : H c' = none ∨ ∃ p ∈ T, ∃ (ps : Array Value) (pos : Pos), p.2 = q ∧ H p.1 = some (HO.tbl ps) ∧ codeAmong pos ps.toList = some (.ref c')
  old : ∀ p ∈ T, ∀ ps : Array Value, H1 p.1 = some (HO.tbl ps) → ∀ (pos : Pos) (b : Addr), codeAmong pos ps.toList = some (.ref b) → (b = c' ∧ p.2 = q) ∨ ∃ ps : Array Value, H p.1 = some (HO.tbl ps) ∧ codeAmong pos ps.toList = some (.ref b)
/-- the world with the code object -/
noncomputable def gCode (H G : Hp) (c' : Addr) (q : Str) : Hp := open Classical in if H c' = none then upd G c' (CodeO c' q) else G
theorem gCode_le {H G : Hp} {c' : Addr} {q : Str} (h : Le G H) : GLe G (gCode H G c' q) := by
  unfold gCode
  split
  · rename_i z
    exact gle_upd (h.none z)
  · exact GLe.rfl
theorem TNew.tg {T : List (Addr × Str)} {H H1 G : Hp} {c' : Addr} {q : Str} (h : TNew T H H1 c' q) (hl : Le G H) (t : TabG T H G) : TabG T H1 (gCode H G c' q) ∧ gCode H G c' q c' = some (CodeO c' q) := by
  have at_ : gCode H G c' q c' = some (CodeO c' q) := by
    rcases h.fresh with z | ⟨p, hp, ps, pos, e1, e2, e3⟩
    · unfold gCode
      rw [if_pos z]
      exact upd_same
    · have z := t p hp ps e2 pos _ e3
      rw [e1] at z
      exact gCode_le hl _ _ z
  refine ⟨fun p hp ps e pos b z => ?_, at_⟩
  rcases h.old p hp ps e pos b z with ⟨rfl, e2⟩ | ⟨ps2, e2, e3⟩
  · rw [e2]; exact at_
  · exact gCode_le hl _ _ (t p hp ps2 e2 pos b e3)
theorem StOk.code {W : Wx} {c : Cn} {Tm : Tm} {σ : L2.St} {H H1 G : Hp} {S : List LV} {c' : Addr} {q : Str} (I : StOk W c Tm σ H G S) (N : TNew W.T H H1 c' q) (eN : ExtN H H1) (nn : ∀ b, H1 b = none → H b = none) (T1 : Tabs W.T H1) (c1 : H1 c' = some (CodeO c' q)) :
    StOk W c Tm σ H1 (gCode H G c' q) S := I.grow (fun a u e m => eN a u e m) (fun a u e => by
    cases z : H1 a with
    | none => rw [nn a z] at e; cases e
    | some u' => exact ⟨u', rfl⟩) (gCode_le I.le) (fun a u e => by
    have old : G a = some u → H1 a = some u ∨ ∃ (o : NoObj) (kvs : List (Key × V)), u = .dK kvs ∧ H1 a = some (.frz o.1 u) := fun e => by
      rcases I.le a u e with z | ⟨o, kvs, e1, z⟩
      · exact .inl (eN _ _ z fun ps y => I.gt a ps (by rw [e, y]))
      · exact .inr ⟨o, kvs, e1, eN _ _ z fun ps y => by cases y⟩
    unfold gCode at e
    split at e
    · by_cases ha : a = c'
      · subst ha
        rw [upd_same] at e
        cases e
        exact .inl c1
      · rw [upd_ne ha] at e
        exact old e
    · exact old e) (fun a u e => by
    unfold gCode at e
    split at e
    · rename_i z
      by_cases ha : a = c'
      · subst ha; exact .inr z
      · rw [upd_ne ha] at e; exact .inl e
    · exact .inl e) T1 (by
    unfold gCode
    split
    · exact gt_upd I.gt fun ps => codeO_ne ps
    · exact I.gt) (N.tg I.le I.tg).1
section
variable {X : Cx} {pins : List (Addr × Obj)} {σ : L2.St} {H : Hp} {s : Shared}
theorem invLam {q : Str} {ps : Arguments} {body : Expr} {scope : Scope} {cl : List (Str × Addr)} {c' : Addr} {pm ctv : Value} {t' : Nat} (I : Inv X pins σ H s) :
    Inv X pins σ (upd H s.heap.objs.size (LamO s.heap.objs.size q ps body scope cl c')) { s with heap := s.heap.push (PySem.W.kla_obj "<lambda>" q ps body scope cl pm c' ctv), toks := t' } := by
  refine I.laid (a := s.heap.objs.size) (fun b u z => Heap.get?_push_of_some _ z) (Nat.le_refl _) ?_
  have at_ : (s.heap.push (PySem.W.kla_obj "<lambda>" q ps body scope cl pm c' ctv)).get? s.heap.objs.size = some (PySem.W.kla_obj "<lambda>" q ps body scope cl pm c' ctv) := Heap.get?_push_size _ rfl
  refine ⟨⟨pm, ctv, at_⟩, ⟨_, at_⟩, fun h1 h2 z st => ?_⟩
  obtain ⟨pm2, ct2, y⟩ := z
  exact ⟨pm2, ct2, st _ y⟩
theorem lamMade {T : List (Addr × Str)} {c P : Addr} {ps : Arguments} {body : Expr} {scope : Scope} {pos : Pos} {E Q : Value → Shared → Prop} (I : Inv X pins σ H s) (TB : TabB X.base X.mg c P) (hcode : X.env.code = .ref c) (hm : (P, X.env.qual ++ "<lambda>") ∈ T)
    (hu : ∀ p ∈ T, p.1 = P → p.2 = X.env.qual ++ "<lambda>") (hT : Tabs T H) (hdef : defaultsOf ps X.env = ([], [])) (hfree : ∀ y ∈ scope.names, y.2 = .free → ∃ c, X.env.cells.lookup y.1 = some c)
    (fin : ∀ (f c' : Addr) (H1 : Hp) (s' : Shared), Inv X pins σ H1 s' → ExtN H H1 → (∀ b, H1 b = none → H b = none) → Tabs T H1 → TNew T H H1 c' (X.env.qual ++ "<lambda>") → f ≠ c' → H f = none → H1 f = some (LamO f (X.env.qual ++ "<lambda>") ps body scope (cloFrom X.env.cells scope.names []) c') → H1 c' = some (CodeO c' (X.env.qual ++ "<lambda>")) → Q (.ref f) s') :
    wpAny (model X.prog X.w) X.A (eval (.Lambda ps body scope pos) X.env) Q E s := by
  obtain ⟨tb, hP, ht, ha⟩ := hT _ hm
  refine PySem.W.kla_eval hdef ?_
  have bP : s.heap.BuiltinsAt X.mg P := TB.bm.keeps I.bk
  have gP : s.heap.get? P = some { cls := .none, data := .fields tb } := I.hok P _ hP
  cases hc : codeAmong pos tb.toList with
  | some cv =>
    obtain ⟨c', rfl, hco⟩ := ha pos cv hc
    refine PySem.W.kla_makeFunctionHit (mg := X.mg) (c := c) (P := P) (ps := tb) (closure_ok hfree) I.ok.glob (I.mod.glob.keeps I.bk) hcode (TB.code.keeps I.bk) gP ht hc bP fun ctv h' tk hx hsz => ?_
    have I1 : Inv X pins σ H { s with heap := h', toks := tk } := I.kept hx
    have nF : H h'.objs.size = none := I1.hok.fresh (Nat.le_refl _)
    have I2 := invLam (q := X.env.qual ++ "<lambda>") (ps := ps) (body := body) (scope := scope) (cl := cloFrom X.env.cells scope.names []) (c' := c') (pm := (X.mg "__name__").getD .none) (ctv := ctv) (t' := tk) I1
    have up : ∀ b o, H b = some o → upd H h'.objs.size (LamO h'.objs.size (X.env.qual ++ "<lambda>") ps body scope (cloFrom X.env.cells scope.names []) c') b = some o := fun b o z => by rw [upd_ne (ne_of_none z nF)]; exact z
    exact fin h'.objs.size c' _ _ I2 (fun b o z _ => up b o z) (fun b z => NdefX.upd_none z) (hT.ext up) ⟨.inr ⟨_, hm, tb, pos, rfl, hP, hc⟩, fun p hp ps' e pos' b z => .inr ⟨ps', (by
      rw [upd_ne fun y => (by rw [y, upd_same] at e; exact lamO_ne _ (Option.some.inj e))] at e
      exact e), z⟩⟩ (fun y => by rw [← y, nF] at hco; cases hco) nF upd_same (up _ _ hco)
  | none =>
    refine PySem.W.kla_makeFunction (mg := X.mg) (c := c) (P := P) (ps := tb) (closure_ok hfree) I.ok.glob (I.mod.glob.keeps I.bk) hcode (TB.code.keeps I.bk) gP ht hc TB.gP bP fun c' ctv h' tk hx hge hlt hrec htb => ?_
    obtain ⟨c2, oc, vs, t, e2, hoc, hd, hv⟩ := hrec
    cases e2
    have nC : H c' = none := I.hok.fresh hge
    have I1 := inv_table (t' := tk) (more := #[rawInt pos.line, rawInt pos.col, .ref c']) (h' := h') I hP (fun b o hb z => hx b o hb z) htb hge ⟨oc, vs, t, hoc, hd, hv⟩
    have nF := I1.hok.fresh (Nat.le_refl _)
    have I2 := invLam (q := X.env.qual ++ "<lambda>") (ps := ps) (body := body) (scope := scope) (cl := cloFrom X.env.cells scope.names []) (c' := c') (pm := (X.mg "__name__").getD .none) (ctv := ctv) (t' := tk) I1
    have keepN : ExtN H (upd (upd H P (.tbl (tb ++ #[rawInt pos.line, rawInt pos.col, .ref c']))) c' (CodeO c' (X.env.qual ++ "<lambda>"))) := fun b o z n => by
      rw [upd_ne (ne_of_none z nC), upd_ne (fun y => n tb (Option.some.inj (z.symm.trans (by rw [y]; exact hP))))]
      exact z
    have eL : (tb ++ #[rawInt pos.line, rawInt pos.col, .ref c']).toList = tb.toList ++ [rawInt pos.line, rawInt pos.col, .ref c'] := by simp
    have T1 : Tabs T (upd (upd H P (.tbl (tb ++ #[rawInt pos.line, rawInt pos.col, .ref c']))) c' (CodeO c' (X.env.qual ++ "<lambda>"))) := fun p hp => by
      by_cases hb : p.1 = P
      · rw [hu p hp hb, hb]
        refine ⟨_, by rw [upd_ne (ne_of_none hP nC), upd_same], by rw [eL]; exact PySem.TriplesOk_snoc _ _ _ _ ht, fun p' cv hcv => ?_⟩
        rw [eL] at hcv
        rcases among_app _ ht hcv with z | z
        · obtain ⟨c0, e1, e2⟩ := ha p' cv z
          exact ⟨c0, e1, keepN _ _ e2 codeO_ne⟩
        · exact ⟨c', z, upd_same⟩
      · obtain ⟨ps', a1, a2, a3⟩ := hT p hp
        refine ⟨ps', by rw [upd_ne (ne_of_none a1 nC), upd_ne hb]; exact a1, a2, fun p' cv hcv => ?_⟩
        obtain ⟨c0, e1, e2⟩ := a3 p' cv hcv
        exact ⟨c0, e1, keepN _ _ e2 codeO_ne⟩
    refine fin h'.objs.size c' _ _ I2 (fun b o z n => ?_) (fun b z => NdefX.upd_none (NdefX.upd_none (NdefX.upd_none z))) (T1.ext fun b o z => ?_) ⟨.inl nC, fun p hp ps' e pos' b z => ?_⟩ (Nat.ne_of_gt hlt) (I.hok.fresh (Nat.le_trans hge (Nat.le_of_lt hlt))) upd_same ?_
    · have z1 := keepN b o z n
      exact (upd_ne (ne_of_none z1 nF)).trans z1
    · exact (upd_ne (ne_of_none z nF)).trans z
    · rw [upd_ne fun y => (by rw [y, upd_same] at e; exact lamO_ne _ (Option.some.inj e)), upd_ne fun y => (by
        rw [y, upd_same] at e; exact codeO_ne _ (Option.some.inj e))] at e
      by_cases hb : p.1 = P
      · rw [hb, upd_same] at e
        have e2 : tb ++ #[rawInt pos.line, rawInt pos.col, Value.ref c'] = ps' := by injection e with e; injection e
        rw [← e2, eL] at z
        rcases among_app _ ht z with z | z
        · exact .inr ⟨tb, by rw [hb]; exact hP, z⟩
        · exact .inl ⟨Value.ref.inj z, hu p hp hb⟩
      · rw [upd_ne hb] at e
        exact .inr ⟨ps', e, z⟩
    · exact (upd_ne (Nat.ne_of_lt hlt)).trans upd_same
/-- a(), in the context Z of a def that got the lambda and was entered from X at s -/
theorem peAct {Eg : XK} {Ng : List Str} {qg : Str} {sg : Scope} {g : Addr} {cdg : Value} {ps : Arguments} {body : Expr} {scope : Scope} {k i : Nat} {a : Str} {pn : List (Addr × Obj)} {xe : Value → Shared → Prop} {V : WX} {tb : XK → TE} {p1 p2 : Pos} (I : Inv X pins σ H s) (L : LamS X.env.scope scope)
    (hbind : ∀ (q : Str) (cl : List (Str × Addr)) (pm cv ctv : Value), bindArgs (PySem.W.kla_fn "<lambda>" q ps body scope cl pm cv ctv) ⟨[], []⟩ = pure [])
    (tk : Takes ((cxOf (L2.CX X.prog X.w) X.prog X.w X.K X.mg X.base Ng qg sg g cdg X.A X.stack s H Eg).tr pn xe) V) (hr : Room (k + 1) (X.A.deeper (envOfC qg sg s.heap.objs.size g cdg)))
    (hbody : ∀ (A : Around) (outer : List Env) (s : Shared) (H : Hp) (E : XK) (f c' : Addr), Room k (A.deeper (lamEnv X scope s.heap.objs.size f c')) → PE (lamCx X A outer s H E scope f c') body (tb E))
    (hN : Ng[i]? = some a) (hv : Vis sg a) (hd : (a == ("__debug__" : Str)) = false) (hcd : (a == ("__classdict__" : Str)) = false) :
    PE ((cxOf (L2.CX X.prog X.w) X.prog X.w X.K X.mg X.base Ng qg sg g cdg X.A X.stack s H Eg).tr pn xe) (.Call (.Name a p1) [] [] p2)
      (fun τ G Q => ∃ f c', τ[i]? = some (some (.ref f)) ∧ G f = some (LamO f (X.env.qual ++ "<lambda>") ps body scope (cloFrom X.env.cells scope.names []) c') ∧ G c' = some (CodeO c' (X.env.qual ++ "<lambda>")) ∧ tb (WE V τ) σ G Q) := ⟨fun pz sz τ G Q J hw => by
  obtain ⟨f, c', hs, hf, hc, ht⟩ := hw
  refine wpAny_Call_Name_kw (thn ((pe_var (pos := p1) (i := i) hN hv hd hcd).run pz sz τ G (fun v G1 => v = .ref f ∧ G1 = G) J ⟨.ref f, hs, rfl, rfl⟩) fun u s1 hu => ?_)
  obtain ⟨v, G1, J1, r1, rfl, rfl⟩ := hu
  obtain rfl : u = Value.ref f := r1
  obtain ⟨pm, ctv, of1⟩ := lamO_at J1.hok hf
  refine PySem.W.callWith_F0 ⟨_, _, _, _, of1⟩ ?_
  have un : Un (frs X.stack) [] H G1 s.heap s1.heap := J1.base
  obtain ⟨⟨oc, vs, t, hoc, hdc, hvc⟩, _, _⟩ := J1.hok c' _ hc
  have runs : codeAny (model X.prog X.w) (X.A.deeper (envOfC qg sg s.heap.objs.size g cdg)) (.call (.ref f) ⟨[], []⟩) (CR (L2.CX X.prog X.w) (envOfC qg sg s.heap.objs.size g cdg :: X.stack) X.prog X.w G1 s1 Q (WE V τ)) s1 := by
    refine PySem.W.kla_callFunE hr.depth of1 rfl L.co L.gen rfl ⟨c', oc, vs, t, rfl, hoc, hdc, hvc⟩ ?_
    rw [hbind]
    refine wpAny_pure (wpAny_newFunctionEnv (fun y hy => (L.own y hy).2) (fun y hy => absurd hy (by simp)) (fun h₁ hns hsb => ⟨J1.nolimit.fresh _ hsb, ?_⟩) L.kind)
    show codeAny _ _ (.expr body (lamEnv X scope s1.heap.objs.size f c')) _ _
    have kept : ∀ b o, s1.heap.get? b = some o → h₁.get? b = some o := fun b o z => hsb.extBut b o (Nat.ne_of_lt (Heap.lt_size z)) (Heap.get?_push_of_some _ z)
    have JL : Inv (lamCx X (X.A.deeper (envOfC qg sg s.heap.objs.size g cdg)) (envOfC qg sg s.heap.objs.size g cdg :: X.stack) s1 G1 (WE V τ) scope f c') [] σ G1 { s1 with heap := h₁, toks := s1.toks + ([] : List (Str × Value)).length } :=
      lam_start2 I L J1.env0 hr.hd un hns kept
    refine PySem.W.kla_codeExpr (wpAny_mono ((hbody _ _ s1 G1 (WE V τ) f c' (hr.deeper _)).run [] _ _ G1 Q JL ht) (fun v s' hq => ?_) fun e s' hq => hq)
    obtain ⟨w', G', J', rv, q⟩ := hq
    exact ⟨w', G', J'.os, J'.bare, J'.base, J'.hok, rv, q⟩
  have hx : PassesAt (L2.CX X.prog X.w) ((cxOf (L2.CX X.prog X.w) X.prog X.w X.K X.mg X.base Ng qg sg g cdg X.A X.stack s H Eg).tr pn xe) τ (WE V τ) := passAt tk τ
  refine wpAny_call (codeAny_mono runs fun r s' hq => ?_)
  cases r with
  | error e => exact hx pz G1 s1 e s' J1 hq
  | ok fl =>
    cases fl with
    | ret u => exact J1.after hq
    | _ => exact hq.elim⟩
end
end Dy

set_option Elab.async false
set_option linter.all false
set_option maxRecDepth 100000
set_option maxHeartbeats 4000000
/-! met(lambda: body, ..): the def calls the lambda in a try, the clauses tell of the exception -/
namespace Dy
open PySem PySem.Spec L2 LamX
open PyProof.Rows (envOfC)
/-- the reading of met(lambda: body, es): told: the word of the good end; l: the clauses -/
def tMet (K : PySem.W.Frag) (T : List (Addr × Str)) (mk : Addr → Addr → HO) (q told : Str) (Ng : List Str) (l : List Cla) (tb : XK → TE) (ta : TA) (n : Nat) (E : L2.St → XK) : TE := fun σ H Q => Tabs T H ∧
  ∀ (f c' : Addr) (H1 : Hp), ExtN H H1 → (∀ b, H1 b = none → H b = none) → Tabs T H1 → TNew T H H1 c' q → H f = none → H1 f = some (mk f c') → H1 c' = some (CodeO c' q) → ta σ H1 fun vs H2 => vs.length = n ∧ H2 f = some (mk f c') ∧ H2 c' = some (CodeO c' q) ∧
    tb (WE (wManyA K (fun cls d _ G => E σ cls d G) { nx := fun _ G => Q .non G, rt := Q } l) (L2.start Ng (.ref f :: vs))) σ H2 fun v G => ([.str told, v] : List V).length ≤ sizeLine ∧ ∀ p, G p = none → Q (.ref p) (upd G p (.lst [.str told, v]))
section
variable {X : Cx}
theorem peMet {x a told : Str} {g c P : Addr} {k j1 : Nat} {pg : Arguments} {sg : Scope} {fd : FuncData} {Ng pr : List Str} {h0 : ExceptHandler} {hds : List ExceptHandler} {l : List Cla} {T : List (Addr × Str)} {ps : Arguments} {body : Expr} {scope : Scope} {lpos p p1 p2 p3 p4 p5 q1 pos : Pos} {es : List Expr} {ta : TA} {tb : XK → TE} {E : L2.St → XK}
    (F : FunD X.K x x pg [.Try [.Return (some (.List [.Constant (.str told) j1 q1, .Call (.Name a p1) [] [] p2] p3)) p4] (h0 :: hds) [] [] p5] sg [] [] g fd) (hg : Gl X x) (hm : X.mg x = some (.ref g)) (hb : Binds X.K fd (a :: pr) []) (Sg : FnScope Ng (a :: pr) sg)
    (hcl : ∀ (cdv : Value) (s : Shared) (H : Hp) (Eg : XK), ClA (cxOf (L2.CX X.prog X.w) X.prog X.w X.K X.mg X.base Ng x sg g cdv X.A X.stack s H Eg) (h0 :: hds) l)
    (TB : TabB X.base X.mg c P) (hcode : X.env.code = .ref c) (hmT : (P, X.env.qual ++ "<lambda>") ∈ T) (hu : ∀ p ∈ T, p.1 = P → p.2 = X.env.qual ++ "<lambda>") (hr : Room (k + 2) X.A) (L : LamS X.env.scope scope) (hdef : defaultsOf ps X.env = ([], []))
    (hbind : ∀ (q : Str) (cl : List (Str × Addr)) (pm cv ctv : Value), bindArgs (PySem.W.kla_fn "<lambda>" q ps body scope cl pm cv ctv) ⟨[], []⟩ = pure [])
    (hbody : ∀ (A : Around) (outer : List Env) (s : Shared) (H : Hp) (E : XK) (f c' : Addr), Room k (A.deeper (lamEnv X scope s.heap.objs.size f c')) → PE (lamCx X A outer s H E scope f c') body (tb E)) (ha : PA X es ta) (hx : ∀ σ, PassesAt (L2.CX X.prog X.w) X σ (E σ))
    (hNg : Ng[0]? = some a) (hva : Vis sg a) (hdb : (x == ("__debug__" : Str)) = false) (hd : (a == ("__debug__" : Str)) = false) (hcd : (a == ("__classdict__" : Str)) = false)
    (he : starEach (.Lambda ps body scope lpos :: es) X.env = (false, eval (.Lambda ps body scope lpos) X.env) :: starEach es X.env) (hpl : (backTo pos (starEach es X.env)).any (·.1) = false) :
    PE X (.Call (.Name x p) (.Lambda ps body scope lpos :: es) [] pos) (tMet X.K T (fun f c' => LamO f (X.env.qual ++ "<lambda>") ps body scope (cloFrom X.env.cells scope.names []) c') (X.env.qual ++ "<lambda>") told Ng l tb ta pr.length E) := ⟨fun pins s σ H Q I hw => by
  obtain ⟨hT, hw⟩ := hw
  obtain ⟨oc, od, dV, kV, doc, pm, an, cdv, ct, osl, rfl, lk, hcg, hD, hK⟩ := F.ex
  refine wpAny_Call_Name_kw (ld_glob I hg hm ?_ hdb)
  refine PySem.W.callWith_K (h₀ := X.base) I.ok.mod.kin F.kp ?_ he hpl
  rw [he]
  show wpAny _ _ (spliced ((false, eval (.Lambda ps body scope lpos) X.env) :: backTo pos (starEach es X.env))) _ _ s
  refine Calls.spliced_cons (lamMade I TB hcode hmT hu hT hdef (L.has I.ok) fun f c' H1 s1 I1 eN nn T1 tn _ f0 f1 c1 => ?_)
  refine thn (ha.run pos pins s1 σ H1 _ I1 (hw f c' H1 eN nn T1 tn f0 f1 c1)) fun us s2 hz => ?_
  obtain ⟨vs, H2, I2, r2, hl, hf2, hc2, ht⟩ := hz
  refine ⟨I2.kIn, ?_⟩
  have hlu : us.length = pr.length := by rw [← r2.length]; exact hl
  have hB := hb s2 (.ref f :: us) I2.kIn (by rw [List.append_nil]; show us.length + 1 = pr.length + 1; rw [hlu])
  rw [List.append_nil] at hB
  refine wpAny_call (codeAny_mono (run_ofS (CX := L2.CX X.prog X.w) (N := Ng) (ps := a :: pr) (us := .ref f :: us) (vs := .ref f :: vs) (E := E σ) (Q := Q) (args := ⟨.ref f :: us, []⟩) lk hcg Sg (k := k + 1) hr I2.env0 hB (.cons rfl r2) (by show vs.length + 1 = pr.length + 1; rw [hl]) fun hr2 => ?_) fun r s' hq => ?_)
  · refine ⟨_, pss_one (ps_tryA (Wo := fun cls d _ G => E σ cls d G) (tb := fun V => tRet (tLst (tCons (tC (.str told)) (tCons (fun τ G Q => ∃ f c', τ[0]? = some (some (.ref f)) ∧ G f = some (LamO f (X.env.qual ++ "<lambda>") ps body scope (cloFrom X.env.cells scope.names []) c') ∧ G c' = some (CodeO c' (X.env.qual ++ "<lambda>")) ∧ tb (WE V τ) σ G Q) tNil))))
      rfl rfl Sg.nd (takes_of rfl rfl rfl rfl) (fun V pn xe tk _ => pss_one (ps_ret (pe_lst (pa_cons pe_str (pa_cons (peAct I2 L hbind tk hr2 hbody hNg hva hd hcd) pa_nil))))) (hcl cdv s2 H2 (E σ))), ?_⟩
    refine ⟨f, c', ?_, hf2, hc2, ht⟩
    have h0 : (L2.start Ng (V.ref f :: vs))[0]? = some (some (V.ref f)) := rfl
    exact h0
  · cases r with
    | error e => exact hx σ pins H2 s2 e s' I2 hq
    | ok fl =>
      cases fl with
      | ret u => exact I2.after hq
      | _ => exact hq.elim⟩
end
end Dy

set_option Elab.async false
set_option linter.all false
set_option maxRecDepth 100000
set_option maxHeartbeats 4000000
/-! met(lambda: body, ..) on data -/
namespace Dy
open PySem PySem.Spec L2 LamX
variable {W : Wx} {c : Cn} {T : Tm} {σ : L2.St} {H G : Hp} {S : List LV} {E : L2.St → XK}
/-! ### arguments that leave the heap as it is: names, written values -/
def ES (W : Wx) (te : TE) (me : ME) : Prop := ∀ c T σ H G S (Q : VK), StOk W c T σ H G S → (match me S with
  | .ok x S1 => ∀ v G', GLe G G' → StOk W c T σ H G' S1 → Rep W G' x.1 v → Q v H
  | _ => False) → te σ H Q
def AIs (W : Wx) (ta : TA) (m : MF) : Prop := ∀ c T σ H G S (Q : List V → Hp → Prop), StOk W c T σ H G S → (match m S with
  | .ok ds S1 => ∀ vs G', GLe G G' → StOk W c T σ H G' S1 → RepL W G' ds vs → Q vs H
  | _ => False) → ta σ H Q
theorem es_c {v : V} {d : D} (h : ∀ G, Rep W G d v) : ES W (tC v) (mC d) := fun c T σ H G S Q I hq => hq v G GLe.rfl I (h G)
theorem es_var {i : Nat} : ES W (tVar i) (mVar i) := fun c T σ H G S Q I hq => by
  unfold mVar at hq
  split at hq
  · rename_i x S1 eq
    split at eq
    · rename_i d o e
      cases eq
      obtain ⟨v, e1, r, _⟩ := I.im i d o e
      exact ⟨v, e1, hq v G GLe.rfl I r⟩
    · rename_i ds e
      cases eq
      obtain ⟨a, vs, e1, e2, e3, r, k1, k2⟩ := I.ow i ds false e
      have gu := gle_upd (o := HO.lst vs) e3
      have rr : Rep W (upd G a (.lst vs)) (.lst ds) (.ref a) := rep_lst upd_same (r.mono gu)
      obtain ⟨g, J⟩ := frz_own I (lt_of_get e) ⟨e1, .inl ⟨_, _, e⟩⟩ e2 (fun ps z => by cases z) (k1 rfl) rr
      exact ⟨_, e1, hq _ _ g J rr⟩
    · rename_i ks ds e
      cases eq
      obtain ⟨a, kvs, e1, e2, e3, kk, r, k1, k2⟩ := I.od i ks ds false e
      have gu := gle_upd (o := HO.dK kvs) e3
      have rr : Rep W (upd G a (.dK kvs)) (.dct ks ds) (.ref a) := by
        rw [Rep]; exact ⟨a, kvs, rfl, upd_same, kk, r.mono gu⟩
      obtain ⟨g, J⟩ := frz_own I (lt_of_get e) ⟨e1, .inr ⟨_, _, _, e⟩⟩ e2 (fun ps z => by cases z) (k1 rfl) rr
      exact ⟨_, e1, hq _ _ g J rr⟩
    · cases eq
  · exact hq.elim
theorem ais_nil : AIs W tNil mNil := fun c T σ H G S Q I hq => hq [] G GLe.rfl I RepL.nil
theorem ais_cons {te : TE} {ta : TA} {me : ME} {mr : MF} (h : ES W te me) (t : AIs W ta mr) : AIs W (tCons te ta) (mCons me mr) := fun c T σ H G S Q I hq => by
  refine h c T σ H G S _ I ?_
  unfold mCons at hq
  cases e1 : me S with
  | stuck => rw [e1] at hq; exact hq
  | er _ _ => rw [e1] at hq; exact hq
  | ok x S1 =>
    rw [e1, Res.bind_ok] at hq
    refine fun v G1 g1 I1 r1 => t c T σ H G1 S1 _ I1 ?_
    cases e2 : mr S1 with
    | stuck => rw [e2] at hq; exact hq
    | er _ _ => rw [e2] at hq; exact hq
    | ok ds S2 =>
      rw [e2, Res.bind_ok] at hq
      exact fun vs G2 g2 I2 r2 => hq (v :: vs) G2 (g1.trans g2) I2 (RepL.cons (r1.mono g2) r2)

/-! ### the clauses -/
/-- what a suite tells: a word, a field of the exception -/
abbrev Itm := Str ⊕ Str
def tIts (a : Addr) (cls : Value) (d : Option Addr) (C : Addr) (i : Nat) : List Itm → TA
  | [] => tNil
  | .inl w :: r => tCons (tC (.str w)) (tIts a cls d C i r)
  | .inr f :: r => tCons (tXf a cls d C f (tVar i)) (tIts a cls d C i r)
def claOf (C : Addr) (i : Nat) (its : List Itm) : Cla := (.ref C, i, fun a cls d => tRet (tLst (tIts a cls d C i its)))
def itM (e : Er) : Itm → Option D
  | .inl w => some (.str w)
  | .inr f => (e.fs.find? fun x => x.1 == f).map fun x => x.2.1
def itsM (e : Er) : List Itm → Option (List D)
  | [] => some []
  | x :: r => match itM e x, itsM e r with
    | some d, some ds => some (d :: ds)
    | _, _ => none
theorem fld_find {es : List (Str × D × Option Nat)} : ∀ {fs : List (Str × V)} {f : Str} {x : Str × D × Option Nat}, FldOk W G σ es fs → es.find? (fun x => x.1 == f) = some x → ∃ v, fs.lookup f = some v ∧ Rep W G x.2.1 v := by
  induction es with
  | nil => intro fs f x _ e; cases e
  | cons y r ih =>
    intro fs f x h e
    obtain ⟨n, d, t⟩ := y
    obtain ⟨v, q, rfl, h1, h2, z⟩ := h
    rw [List.find?_cons] at e
    cases hb : n == f with
    | true =>
      rw [hb] at e
      cases e
      have en : n = f := beq_iff_eq.mp hb
      subst en
      exact ⟨v, by simp [List.lookup], h1⟩
    | false =>
      rw [hb] at e
      obtain ⟨u, hu, ru⟩ := ih z e
      refine ⟨u, ?_, ru⟩
      have z2 : (f == n) = false := by
        rw [beq_eq_false_iff_ne] at hb ⊢
        exact fun y => hb y.symm
      simp [List.lookup, z2, hu]
/-- the suite's list -/
theorem its_ok {e : Er} {a C dd : Addr} {fs : List (Str × V)} {τ : L2.St} {i : Nat} (hi : τ[i]? = some (some (V.ref a))) (hd : H dd = some (.xd fs)) (hf : FldOk W G σ e.fs fs) : ∀ {its : List Itm} {ds : List D} {Q : List V → Hp → Prop}, itsM e its = some ds → (∀ vs, RepL W G ds vs → Q vs H) → tIts a (.ref C) (some dd) C i its τ H Q
  | [], ds, Q, h, k => by
    cases h
    exact k [] RepL.nil
  | .inl w :: r, ds, Q, h, k => by
    unfold itsM at h
    split at h
    · rename_i d es h1 h2
      cases h; cases h1
      exact its_ok (its := r) hi hd hf h2 fun vs rv => k _ (RepL.cons (by rw [rep_str]) rv)
    · cases h
  | .inr f :: r, ds, Q, h, k => by
    unfold itsM at h
    split at h
    · rename_i d es h1 h2
      cases h
      cases q : e.fs.find? (fun x => x.1 == f) with
      | none => simp only [itM, q, Option.map_none] at h1; cases h1
      | some x =>
        simp only [itM, q, Option.map_some] at h1
        cases h1
        obtain ⟨v, hv, rv⟩ := fld_find hf q
        exact ⟨_, hi, rfl, rfl, dd, fs, v, rfl, hd, hv, its_ok (its := r) hi hd hf h2 fun vs rvs => k _ (RepL.cons rv rvs)⟩
    · cases h
/-- a clause: the class's name, its address, the name's slot, what it tells -/
structure ClT where
  nm : Str
  C : Addr
  i : Nat
  its : List Itm
def clM (e : Er) : List (Str × List Itm) → Option (List D)
  | [] => none
  | (nm, its) :: r => if e.cls = nm then itsM e its else clM e r
theorem cl_ok {D : Ends} {Wo : WX} {e : Er} {C0 dd : Addr} {fs : List (Str × V)} {τ : L2.St} (h0 : W.mg e.cls = some (.ref C0)) (hd : H dd = some (.xd fs)) (hf : FldOk W G σ e.fs fs) :
    ∀ {cl : List ClT} {ds : List Dy.D}, (∀ q ∈ cl, W.mg q.nm = some (.ref q.C) ∧ q.i < τ.length ∧ PySem.W.exmOne W.K (.ref C0) (.ref q.C) = some (decide (e.cls = q.nm))) → clM e (cl.map fun q => (q.nm, q.its)) = some ds → ds.length ≤ LIM →
      (∀ vs p, RepL W G ds vs → H p = none → D.rt (.ref p) (upd H p (.lst vs))) → wManyA W.K Wo D (cl.map fun q => claOf q.C q.i q.its) (.ref C0) (some dd) τ H
  | [], ds, _, h, _, _ => by cases h
  | q :: cl, ds, hq, h, hl, k => by
    obtain ⟨m1, m2, m3⟩ := hq q List.mem_cons_self
    replace h : (if e.cls = q.nm then itsM e q.its else clM e (cl.map fun q => (q.nm, q.its))) = some ds := h
    refine ⟨decide (e.cls = q.nm), m3, fun hb a ha => ?_, fun hb => ?_⟩
    · have en := of_decide_eq_true hb
      rw [if_pos en] at h
      rw [← en, h0] at m1
      have eC : C0 = q.C := by injection m1 with z; injection z
      show tLst (tIts a (.ref C0) (some dd) q.C q.i q.its) (τ.set q.i (some (.ref a))) H D.rt
      rw [← eC]
      refine its_ok (W := W) (G := G) (σ := σ) (List.getElem?_set_self m2) hd hf h fun vs rv => ⟨by rw [rv.length]; exact lim_line hl, fun p hp => k vs p rv hp⟩
    · have en := of_decide_eq_false hb
      rw [if_neg en] at h
      exact cl_ok h0 hd hf (fun q' hq' => hq q' (List.mem_cons_of_mem _ hq')) h hl k

/-! ### the call -/
def mMet (told : Str) (n : Nat) (exn : List Str) (cl : List (Str × List Itm)) (mB : ME) (ma : MF) : MF := fun S => match ma S with
  | .ok vs S1 => if vs.length = n then (match mB S1 with
    | .ok x S2 => .ok [.str told, x.1] S2
    | .er e S2 => if e.cls ∈ exn then (match clM e cl with
      | some ds => if ds.length ≤ LIM then .ok ds S2 else .stuck
      | none => .stuck) else .stuck
    | .stuck => .stuck) else .stuck
  | _ => .stuck
theorem ef_met {told q : Str} {n : Nat} {exn Ng : List Str} {cl : List ClT} {mk : Addr → Addr → HO} {tb : XK → TE} {ta : TA} {mB : ME} {ma : MF} (hB : ∀ Ex : XK, ER W (fun _ => Ex) (tb Ex) mB) (ha : AIs W ta ma) (hNg : n + 1 ≤ Ng.length)
    (hcl : ∀ p ∈ cl, W.mg p.nm = some (.ref p.C) ∧ p.i < Ng.length ∧ p.nm ∈ exn) (hex : ∀ x ∈ exn, ∀ y ∈ exn, ∀ A B : Addr, W.mg x = some (.ref A) → W.mg y = some (.ref B) → PySem.W.exmOne W.K (.ref A) (.ref B) = some (decide (x = y))) :
    EF W E (tMet W.K W.T mk q told Ng (cl.map fun p => claOf p.C p.i p.its) tb ta n E) (mMet told n exn (cl.map fun p => (p.nm, p.its)) mB ma) := fun c T σ H G S Q I hq => by
  refine ⟨I.tb, fun f c' H1 eN nn T1 tn f0 f1 c1 => ?_⟩
  have g0 : GLe G (gCode H G c' q) := gCode_le I.le
  have J : StOk W c T σ H1 (gCode H G c' q) S := I.code tn eN nn T1 c1
  refine ha c T σ H1 _ S _ J ?_
  unfold mMet at hq
  cases ea : ma S with
  | stuck => rw [ea] at hq; exact hq
  | er _ _ => rw [ea] at hq; exact hq
  | ok ds0 S1 =>
    rw [ea] at hq
    dsimp only at hq
    split at hq
    · rename_i hn
      refine fun vs G1 g1 J1 rv => ⟨by rw [rv.length]; exact hn, f1, c1, ?_⟩
      have hvl : vs.length = n := by rw [rv.length]; exact hn
      refine hB _ c T σ H1 G1 S1 _ J1 ?_
      cases eb : mB S1 with
      | stuck => rw [eb] at hq; exact hq
      | ok x S2 =>
        rw [eb] at hq
        refine fun v H2 G2 g2 J2 r2 t2 => ⟨by show 2 ≤ sizeLine; decide, fun p hp => ?_⟩
        exact hq p [.str told, v] _ G2 (g0.trans (g1.trans g2)) (J2.alloc hp no_tbl_lst) (RepL.cons (by simp) (RepL.cons r2 RepL.nil))
      | er e S2 =>
        rw [eb] at hq
        dsimp only at hq
        split at hq
        · rename_i hm
          split at hq
          · rename_i ds hc
            split at hq
            · rename_i hl
              refine fun cls dd H2 G2 g2 J2 x2 => ?_
              obtain ⟨C, d, fs, x1, rfl, rfl, x3, x4, x5⟩ := x2
              refine cl_ok (W := W) (G := G2) (σ := σ) x1 x3 x5 (fun p hp => ?_) hc hl fun us p ru hp => hq p us _ G2 (g0.trans (g1.trans g2)) (J2.alloc hp no_tbl_lst) ru
              obtain ⟨m1, m2, m3⟩ := hcl p hp
              refine ⟨m1, ?_, hex _ hm _ m3 _ _ x1 m1⟩
              unfold L2.start
              rw [List.length_append, List.length_map, List.length_replicate, List.length_cons, hvl]
              omega
            · exact (hq : False).elim
          · exact (hq : False).elim
        · exact (hq : False).elim
    · exact (hq : False).elim
end Dy

set_option Elab.async false
set_option linter.all false
set_option maxRecDepth 100000
set_option maxHeartbeats 4000000
/-! met(lambda: body, ..) as a rule -/
namespace Dy
open PySem PySem.Spec L2 LamX
open PyProof.Rows (envOfC)
/-- the classes that are told apart, each with its field -/
structure ExnG (s : Sx) (exn : List (Str × Str)) : Prop where
  at_ : ∀ x f, (x, f) ∈ exn → ∃ C, s.W.mg x = some (.ref C) ∧ XfC s.W.K C ∧ PySem.W.findIn s.W.K (.ref C) f = some none
  em : ∀ x f y f2, (x, f) ∈ exn → (y, f2) ∈ exn → ∀ A B : Addr, s.W.mg x = some (.ref A) → s.W.mg y = some (.ref B) → PySem.W.exmOne s.W.K (.ref A) (.ref B) = some (decide (x = y))
def cof (s : Sx) (x : Str) : Addr := match s.W.mg x with
  | some (.ref C) => C
  | _ => 0
theorem cof_eq {s : Sx} {x : Str} {C : Addr} (h : s.W.mg x = some (.ref C)) : cof s x = C := by
  unfold cof
  rw [h]
structure Zf (s : Sx) (Z : Cx) (Ng : List Str) (sg : Scope) : Prop where
  N : Z.N = Ng
  sc : Z.env.scope = sg
  K : Z.K = s.W.K
  mg : Z.mg = s.W.mg
/-- what a suite's list is written as -/
inductive ItE (n : Str) : List Expr → List Itm → Prop
  | nil : ItE n [] []
  | w {w : Str} {j : Nat} {p : Pos} {es : List Expr} {r : List Itm} (h : ItE n es r) : ItE n (.Constant (.str w) j p :: es) (.inl w :: r)
  | f {f : Str} {p p2 : Pos} {es : List Expr} {r : List Itm} (h : ItE n es r) : ItE n (.Attribute (.Name n p) f p2 :: es) (.inr f :: r)
section
variable {s : Sx} {Ng : List Str} {sg : Scope} {Z : Cx}
theorem pa_its {n : Str} {C a : Addr} {oe : Obj} {cls : Value} {d : Option Addr} {pn : List (Addr × Obj)} {i : Nat} (hZ : Zf s Z Ng sg) (T : XfC s.W.K C) (hi : Ng[i]? = some n) (hl : sg.names.lookup n = some .local) (hd : (n == ("__debug__" : Str)) = false) (hcd : (n == ("__classdict__" : Str)) = false) (hz : Zc cls d oe) (hf : ∃ vs, oe.data = .fields vs) :
    ∀ {es : List Expr} {its : List Itm}, ItE n es its → (∀ f, Sum.inr f ∈ its → PySem.W.findIn s.W.K (.ref C) f = some none) → PA (Z.suite a ((a, oe) :: pn)) es (tIts a cls d C i its)
  | _, _, .nil, _ => pa_nil
  | _, _, .w h, k => pa_cons pe_str (pa_its hZ T hi hl hd hcd hz hf h fun f m => k f (List.mem_cons_of_mem _ m))
  | _, _, .f h, k => pa_cons (pe_xf (by rw [hZ.K]; exact T) (by rw [hZ.K]; exact k _ List.mem_cons_self) hz hf (pe_var (i := i) (X := Z.suite a ((a, oe) :: pn)) (by show Z.N[i]? = _; rw [hZ.N]; exact hi) (.inl (by show Z.env.scope.names.lookup n = _; rw [hZ.sc]; exact hl)) hd hcd)) (pa_its hZ T hi hl hd hcd hz hf h fun f m => k f (List.mem_cons_of_mem _ m))
theorem cla_nil : ClA Z [] [] := .nil
theorem cla_cons {exn : List (Str × Str)} {nm n : Str} {es : List Expr} {its : List Itm} {hds : List ExceptHandler} {l : List Cla} {q1 q2 p p2 : Pos} (hZ : Zf s Z Ng sg) (e : ExnG s exn) (i : Nat) (hit : ItE n es its) (r : ClA Z hds l) (hx : ∃ f, (nm, f) ∈ exn) (hfs : ∀ f, Sum.inr f ∈ its → (nm, f) ∈ exn) (hi : Ng[i]? = some n) (hl : sg.names.lookup n = some .local) (hg : glB sg nm = true) (hdb : (nm == ("__debug__" : Str)) = false)
    (hd : (n == ("__debug__" : Str)) = false) (hcd : (n == ("__classdict__" : Str)) = false) : ClA Z (.ExceptHandler (some (.Name nm q1)) (some n) [.Return (some (.List es p)) p2] q2 :: hds) (claOf (cof s nm) i its :: l) := by
  obtain ⟨f0, m0⟩ := hx
  obtain ⟨C, h1, h2, _⟩ := e.at_ nm f0 m0
  have ec := cof_eq h1
  rw [ec]
  refine .cons ⟨?_, hdb, .inl (by rw [hZ.mg]; exact h1)⟩ (by rw [hZ.N]; exact hi) (by unfold Env.kindOf; rw [hZ.sc]; exact hl) (fun a oe cls d pn hz hf => pss_one (ps_ret (pe_lst (pa_its hZ h2 hi hl hd hcd hz hf hit fun f m => ?_)))) r
  · unfold Gl Env.kindOf
    rw [hZ.sc]
    exact of_decide_eq_true hg
  · obtain ⟨C2, k1, _, k3⟩ := e.at_ nm f (hfs f m)
    rw [h1] at k1
    cases k1
    exact k3
variable {X : Cx} {N : List Str} {sc : Scope} {fn : Str → Bool} {k : Nat} {E : L2.St → XK}
/-- arguments that leave the heap as it is -/
def DAs (s : Sx) (X : Cx) (es : List Expr) (m : MF) : Prop := ∃ t, PA X es t ∧ AIs s.W t m
def DEs (s : Sx) (X : Cx) (e : Expr) (m : ME) : Prop := ∃ t, PE X e t ∧ ES s.W t m
theorem das_nil : DAs s X [] mNil := ⟨_, pa_nil, ais_nil⟩
theorem das_cons {e : Expr} {es : List Expr} {me : ME} {mr : MF} (h : DEs s X e me) (t : DAs s X es mr) (hs : starEach (e :: es) X.env = (false, eval e X.env) :: starEach es X.env := by rfl) : DAs s X (e :: es) (mCons me mr) := let ⟨_, p, q⟩ := h; let ⟨_, p2, q2⟩ := t; ⟨_, pa_cons p p2 hs, ais_cons q q2⟩
theorem des_var {x : Str} {pos : Pos} (h : Ct s X N sc fn k E) (i : Nat) (hi : N[i]? = some x := by rfl) (hv : visB sc x = true := by decide +kernel) (hd : (x == ("__debug__" : Str)) = false := by decide +kernel) (hcd : (x == ("__classdict__" : Str)) = false := by decide +kernel) : DEs s X (.Name x pos) (mVar i) := ⟨_, pe_var (h.at_ hi) (h.vis hv) hd hcd, es_var⟩
theorem des_int {i : Int} {j} {pos : Pos} : DEs s X (.Constant (.int i) j pos) (mC (.int i)) := ⟨_, pe_int, es_c fun G => by simp⟩
theorem des_str {z : Str} {j} {pos : Pos} : DEs s X (.Constant (.str z) j pos) (mC (.str z)) := ⟨_, pe_str, es_c fun G => by simp⟩
theorem des_bl {z : Bool} {j} {pos : Pos} : DEs s X (.Constant (.bool z) j pos) (mC (.bl z)) := ⟨_, pe_bl, es_c fun G => by simp⟩
theorem des_non {j} {pos : Pos} : DEs s X (.Constant .none j pos) (mC .non) := ⟨_, pe_non, es_c fun G => by simp⟩
/-- the lambda's body has this context -/
theorem lam_ct {A : Around} {outer : List Env} {s0 : Shared} {H : Hp} {Ex : XK} {scope : Scope} {f c' : Addr} {k2 : Nat} (h : Ct s X N sc fn k E) (hr : Room k2 (A.deeper (lamEnv X scope s0.heap.objs.size f c'))) : Ct s (lamCx X A outer s0 H Ex scope f c') N scope (fun _ => false) k2 (fun _ => Ex) :=
  ⟨h.prog, h.w, h.K, h.mg, h.base, h.nm, h.nd, rfl, rfl, hr, rfl, takes_of rfl rfl rfl rfl, passes_of rfl⟩
theorem df_met {x a told : Str} {g : Addr} {j1 : Nat} {pg : Arguments} {fd : FuncData} {pr : List Str} {h0 : ExceptHandler} {hds : List ExceptHandler} {exn : List (Str × Str)} {cl : List (Str × Nat × List Itm)} {ps : Arguments} {body : Expr} {scope : Scope} {lpos p p1 p2 p3 p4 p5 q1 pos : Pos} {es : List Expr} {mB : ME} {ma : MF}
    (h : Ct s X N sc fn (k + 2) E) (hlam : LamOk s X) (F : FunD s.W.K x x pg [.Try [.Return (some (.List [.Constant (.str told) j1 q1, .Call (.Name a p1) [] [] p2] p3)) p4] (h0 :: hds) [] [] p5] sg [] [] g fd) (hm : s.W.mg x = some (.ref g)) (hb : Binds s.W.K fd (a :: pr) []) (Sg : FnScope Ng (a :: pr) sg) (e : ExnG s exn)
    (hcl : ∀ Z : Cx, Zf s Z Ng sg → ClA Z (h0 :: hds) (cl.map fun q => claOf (cof s q.1) q.2.1 q.2.2)) (hc : ∀ q ∈ cl, q.2.1 < Ng.length ∧ ∃ f, (q.1, f) ∈ exn) (hB : ∀ (Y : Cx) (Ex : XK), Ct s Y N scope (fun _ => false) k (fun _ => Ex) → DE s (fun _ => Ex) Y body mB) (ha : DAs s X es ma)
    (hL : lamSB sc scope = true := by decide +kernel) (hdef : defaultsOf ps X.env = ([], []) := by rfl) (hbind : ∀ (q : Str) (cl : List (Str × Addr)) (pm cv ctv : Value), bindArgs (PySem.W.kla_fn "<lambda>" q ps body scope cl pm cv ctv) ⟨[], []⟩ = pure [] := by intros; rfl) (hg : glB sc x = true := by decide +kernel)
    (hNg : Ng[0]? = some a := by rfl) (hva : visB sg a = true := by decide +kernel) (hdb : (x == ("__debug__" : Str)) = false := by decide +kernel) (hd : (a == ("__debug__" : Str)) = false := by decide +kernel) (hcd : (a == ("__classdict__" : Str)) = false := by decide +kernel)
    (he : starEach (.Lambda ps body scope lpos :: es) X.env = (false, eval (.Lambda ps body scope lpos) X.env) :: starEach es X.env := by rfl) (hpl : (backTo pos (starEach es X.env)).any (·.1) = false := by rfl) :
    DF s E X (.Call (.Name x p) (.Lambda ps body scope lpos :: es) [] pos) (mMet told pr.length (exn.map (·.1)) (cl.map fun q => (q.1, q.2.2)) mB ma) := by
  obtain ⟨c, P, TB, hcode, hmT, hu⟩ := hlam
  obtain ⟨ta, pa, qa⟩ := ha
  have U : ∀ Ex : XK, ∃ t, (∀ Y, Ct s Y N scope (fun _ => false) k (fun _ => Ex) → PE Y body t) ∧ ER s.W (fun _ => Ex) t mB := fun Ex => uni_E fun Y hY => hB Y Ex hY
  have hva' : Vis sg a := by
    unfold visB at hva
    simp only [Bool.or_eq_true, decide_eq_true_eq] at hva
    rcases hva with (z | z) | z
    · exact .inl z
    · exact .inr (.inl z)
    · exact .inr (.inr z)
  have L : LamS X.env.scope scope := by rw [h.sc]; exact lamS_by hL
  have hlen : pr.length + 1 ≤ Ng.length := by
    have z := congrArg List.length Sg.pre
    rw [List.length_take, List.length_cons] at z
    omega
  refine ⟨_, peMet (T := s.W.T) (tb := fun Ex => (U Ex).choose) (by rw [h.K]; exact F) (h.gl hg) (by rw [h.mg]; exact hm) (by rw [h.K]; exact hb) Sg (fun cdv s0 H Eg => hcl _ ⟨rfl, rfl, h.K, h.mg⟩) TB hcode hmT hu h.room L hdef hbind (fun A outer s0 H Ex f c' hr => (U Ex).choose_spec.1 _ (lam_ct h hr)) pa h.pass hNg hva' hdb hd hcd he hpl, ?_⟩
  rw [h.K]
  have z := ef_met (W := s.W) (E := E) (told := told) (q := X.env.qual ++ "<lambda>") (n := pr.length) (exn := exn.map (·.1)) (Ng := Ng) (cl := cl.map fun q => (⟨q.1, cof s q.1, q.2.1, q.2.2⟩ : ClT)) (mk := fun f c' => LamO f (X.env.qual ++ "<lambda>") ps body scope (cloFrom X.env.cells scope.names []) c') (tb := fun Ex => (U Ex).choose) (ta := ta) (mB := mB) (ma := ma)
    (fun Ex => (U Ex).choose_spec.2) qa hlen (fun p hp => ?_) (fun y hy y2 hy2 A B h1 h2 => ?_)
  · rw [List.map_map, List.map_map] at z
    exact z
  · obtain ⟨q, hq, rfl⟩ := List.mem_map.mp hp
    obtain ⟨h1, f0, h2⟩ := hc q hq
    obtain ⟨C, k1, _⟩ := e.at_ _ _ h2
    exact ⟨by show s.W.mg q.1 = some (.ref (cof s q.1)); rw [cof_eq k1]; exact k1, h1, List.mem_map.mpr ⟨_, h2, rfl⟩⟩
  · obtain ⟨⟨y, f1⟩, m1, rfl⟩ := List.mem_map.mp hy
    obtain ⟨⟨y2, f2⟩, m2, rfl⟩ := List.mem_map.mp hy2
    exact e.em _ _ _ _ m1 m2 A B h1 h2
end
end Dy

set_option Elab.async false
set_option linter.all false
set_option maxRecDepth 100000
set_option maxHeartbeats 4000000
namespace Dy
open PySem PySem.Spec L2 LamX
/-- .. with the defs that make lambdas, the classes told apart -/
structure Gr (s : Sx) (top : Nat → Stmt) (tab : List (Nat × Str)) (bl : List Str) (gi : List (Str × Int)) (ex : List (Str × Str × Str × Str)) (lt : List Str) (exn : List (Str × Str)) (a : Str → Addr) (fd : Str → FuncData) : Prop extends Gq s top tab bl gi ex a fd where
  lam : ∀ x ∈ lt, ∀ c, (fd x).code = .ref c → ∃ P, TabB s.base s.W.mg c P ∧ (P, x ++ ".<locals>." ++ "<lambda>") ∈ s.W.T ∧ ∀ p ∈ s.W.T, p.1 = P → p.2 = x ++ ".<locals>." ++ "<lambda>"
  exn : ExnG s exn
section
variable {s : Sx} {top : Nat → Stmt} {tab : List (Nat × Str)} {bl : List Str} {gi : List (Str × Int)} {ex : List (Str × Str × Str × Str)} {lt : List Str} {exn : List (Str × Str)} {a : Str → Addr} {fd : Str → FuncData}
theorem Gr.succL (g : Gr s top tab bl gi ex lt exn a fd) (i : Nat) (x : Str) {N ps : List Str} {k : Nat} {m : MS} (h : (i, x) ∈ tab) (hl : x ∈ lt) (hb : ∀ (kV doc pm : Value) (an : Option Addr) (cdv ct : Value) (us : List Value), us.length = ps.length → bindArgs (PySem.W.fnOf x x (defArgs (top i)) (defBody (top i)) (defScope (top i)) .none kV doc pm an cdv ct) ⟨us, []⟩ = pure (ps.zip us))
    (S : FnScope N ps (defScope (top i))) (hbody : ∀ Y E, Ct s Y N (defScope (top i)) (fun _ => true) k E → LamOk s Y → DB s E Y (defBody (top i)) m) : Fun s (k + 1) x (a x) (fd x) ps N.length m :=
  fun_ofL (g.toGs.fn i x h) (g.toGs.at_ i x h) S ((g.toGs.fn i x h).bindsN hb) (g.lam x hl) hbody
theorem Gr.bd (g : Gr s top tab bl gi ex lt exn a fd) (i : Nat) (x : Str) {ps : List Str} (h : (i, x) ∈ tab) (hb : ∀ (kV doc pm : Value) (an : Option Addr) (cdv ct : Value) (us : List Value), us.length = ps.length → bindArgs (PySem.W.fnOf x x (defArgs (top i)) (defBody (top i)) (defScope (top i)) .none kV doc pm an cdv ct) ⟨us, []⟩ = pure (ps.zip us)) : Binds s.W.K (fd x) ps [] := (g.toGs.fn i x h).bindsN hb
end
end Dy

set_option Elab.async false
set_option linter.all false
set_option maxRecDepth 100000
set_option maxHeartbeats 4000000
/-! C(par=v): an own exception made by keywords -/
namespace Dy
open PySem PySem.Spec PySem.Calls PySem.W
open PySem.HandSPX (excO)
section
variable {M : Model} {prog : Program} {w : World} {A : Around} {E : Value → Shared → Prop} {R : Result → Shared → Prop} {h : Heap} {g : Array GenState} {d : Drawn} {t : Nat} {os : OsState}
variable {nm q : Str} {C N : Addr} {bs bm bmB : List Value} {hdct : Bool} {sn : List Str} {sub : List Value} {ab : Bool} {col : Option Bool} {dd : Option Addr} {k0 k1 k2 k3 k5 : Option Value} {B newId initId : String}
theorem chkNewK (F : ExcBaseFacts B newId initId bmB) (hT : ∀ X : String, bm.contains (.type X) = bmB.contains (.type X)) {rest : List Value} {kws : List (Str × Value)} {Q : Unit → Shared → Prop}
    (hC : h.get? C = some (excClassObj nm q C N bs bm hdct sn sub ab col dd k0 k1 k2 k3 k5 newId)) (hq : Q () ⟨h, g, d, t, os⟩) : wpAny M A (checkBuiltinCall newId ⟨.ref C :: rest, kws⟩) Q E ⟨h, g, d, t, os⟩ := by
  have hcont : (Value.ref C :: bm).contains (.type B) = true := by rw [List.contains_cons, hT, F.hasB, Bool.or_true]
  have hstar := F.noStar
  simp only [checkBuiltinCall, F.newKind, F.newSplit, F.newRow]
  repeat (first | refine wpAny_loadPart_at hC ?_ | (refine wpAny_isSubtype_exc hC ?_; rw [hcont]) | refine wpAny_staticBase_exc hC ?_ | refine wpAny_madeBy_exc hC ?_ | simp only [bne_self_eq_false, Bool.false_eq_true, if_false] | wp_step)
  exact hq
theorem newK (F : ExcBaseFacts B newId initId bmB) (hT : ∀ X : String, bm.contains (.type X) = bmB.contains (.type X)) {rest : List Value} {kws : List (Str × Value)}
    (hC : h.get? C = some (excClassObj nm q C N bs bm hdct sn sub ab col dd k0 k1 k2 k3 k5 newId))
    (hq : R (.ok (.ret (.ref (h.objs.size + 1)))) ⟨(h.push (kdv_tup rest)).push (excO C h.objs.size), g, d, t, os⟩) (hrest : rest.length ≤ sizeLine) :
    codeAny (model prog w) A (.builtin newId ⟨.ref C :: rest, kws⟩) R ⟨h, g, d, t, os⟩ := by
  have hends := F.ends
  have hcB : (Value.ref C :: bm).contains (.type B) = true := by rw [List.contains_cons, hT, F.hasB, Bool.or_true]
  have hcA : (Value.ref C :: bm).contains (.type "AttributeError") = false := by rw [List.contains_cons, hT, F.noAttr]; rfl
  have hcN : (Value.ref C :: bm).contains (.type "NameError") = false := by rw [List.contains_cons, hT, F.noName]; rfl
  refine codeAny_builtinAt F.entry ?_
  unfold Builtin.«BaseException.__new__»
  refine wpAt_bind ?_
  show wpAt _ _ _ (stack >>= _) _ _ _
  refine wpAt_bind (wpAt_stack fun p below => wpAt_of_wpAny ?_)
  wp_walk
  refine wpAt_of_wpAny ?_
  rw [F.owner]
  repeat (first | with_reducible refine wpAny_madeHere_exc F.canon hC ?_ | with_reducible refine wpAny_loadPart_at hC ?_ | (with_reducible refine wpAny_isSubtype_exc hC ?_; first | rw [hcB] | rw [hcA] | rw [hcN]) | wp_step)
  show R _ _
  rw [Heap.size_push]
  exact hq
theorem typeCallK (F : ExcBaseFacts B newId initId bmB) (hT : ∀ X : String, bm.contains (.type X) = bmB.contains (.type X)) {rest : List Value} {kws : List (Str × Value)} {fI : Addr} {Q : Fin → Shared → Prop}
    (hC : h.get? C = some (excClassObj nm q C N bs bm hdct sn sub ab col dd k0 k1 k2 k3 k5 newId))
    (hi : Looks (model prog w) h (typeLookup (.ref C) "__init__") (some (.ref fI))) (hb : ∀ self, Looks (model prog w) h (bindSpecial (.ref fI) self) (.ref fI, [self])) (hrest : rest.length ≤ sizeLine)
    (hq : codeAny (model prog w) A (.call (.ref fI) ⟨.ref (h.objs.size + 1) :: rest, kws⟩)
      (fun r s' => match r with | .ok (.ret v) => v = .none ∧ Q (.done (.ret (.ref (h.objs.size + 1)))) s' | .ok _ => False | .error e => E e s')
      ⟨(h.push (kdv_tup rest)).push (excO C h.objs.size), g, d, t, os⟩) :
    wpAny (model prog w) A (Builtin.«type.__call__» ⟨.ref C :: rest, kws⟩) Q E ⟨h, g, d, t, os⟩ := by
  repeat (first | with_reducible refine wpAny_loadPart_at hC ?_ | with_reducible refine wpAny_madeBy_exc hC ?_ | wp_step)
  refine codeAny_call_builtin_code (Code.quiet_builtin _ F.quiet) (chkNewK F hT hC ?_)
  refine newK F hT hC ?_ hrest
  show wpAny _ _ _ _ _ _
  have k : ∀ b o, h.get? b = some o → ((h.push (kdv_tup rest)).push (excO C h.objs.size)).get? b = some o := fun b o e => Heap.get?_push_of_some _ (Heap.get?_push_of_some _ e)
  have hC₁ := k _ _ hC
  have hget : ((h.push (kdv_tup rest)).push (excO C h.objs.size)).get? (h.objs.size + 1) = some (excO C h.objs.size) := by heap_get
  have hcC : (Value.ref C :: bm).contains (.ref C) = true := by simp
  have i1 := hi.keeps k
  have b1 := (hb (.ref (h.objs.size + 1))).keeps k
  unfold isInstance
  repeat (first | with_reducible refine wpAny_loadPart_at hget ?_ | (with_reducible refine wpAny_isSubtype_exc hC₁ ?_; rw [hcC]) | wp_step)
  show wpAny _ _ (typeLookup (.ref C) _) _ _ _
  refine i1.at ?_
  refine wpAny_holding (wpAny_bind (b1.at ?_))
  refine wpAny_bind (wpAny_call (codeAny_mono hq fun r s' z => ?_))
  rcases r with e | (v | _ | _ | _) <;> first | exact z | exact z.elim | skip
  obtain ⟨rfl, z⟩ := z
  first
    | exact wpAny_pure (wpAny_pure z)
    | (wp_walk; exact z)
theorem chkTypeCallK {rest : List Value} {kws : List (Str × Value)} {Q : Unit → Shared → Prop} (hC : h.get? C = some (excClassObj nm q C N bs bm hdct sn sub ab col dd k0 k1 k2 k3 k5 newId)) (hq : Q () ⟨h, g, d, t, os⟩) :
    wpAny M A (checkBuiltinCall "type.__call__" ⟨.ref C :: rest, kws⟩) Q E ⟨h, g, d, t, os⟩ := by
  have f3 := tc_sub
  have hT : (⟨h, g, d, t, os⟩ : Shared).TypeIs (.ref C) "type" := ⟨_, hC, rfl⟩
  simp only [checkBuiltinCall, tc_kind, tc_split]
  repeat (any_goals (first | assumption | with_reducible refine wpAny_loadPart_at hC ?_ | with_reducible refine wpAny_onRaise ?_ | with_reducible refine wpAny_map ?_ | wp_step))
theorem callK (F : ExcBaseFacts B newId initId bmB) (hT : ∀ X : String, bm.contains (.type X) = bmB.contains (.type X)) {rest : List Value} {kws : List (Str × Value)} {fI : Addr}
    (hC : h.get? C = some (excClassObj nm q C N bs bm hdct sn sub ab col dd k0 k1 k2 k3 k5 newId))
    (hi : Looks (model prog w) h (typeLookup (.ref C) "__init__") (some (.ref fI))) (hb : ∀ self, Looks (model prog w) h (bindSpecial (.ref fI) self) (.ref fI, [self])) (hrest : rest.length ≤ sizeLine)
    (hq : codeAny (model prog w) (A.under (.builtin "type.__call__" ⟨.ref C :: rest, kws⟩)) (.call (.ref fI) ⟨.ref (h.objs.size + 1) :: rest, kws⟩) (InitBack (h.objs.size + 1) R)
      ⟨(h.push (kdv_tup rest)).push (excO C h.objs.size), g, d, t, os⟩) :
    codeAny (model prog w) A (.call (.ref C) ⟨rest, kws⟩) R ⟨h, g, d, t, os⟩ := by
  have f1 := tc_lookup
  have f2 := tc_bind (.ref C)
  have hTy : (⟨h, g, d, t, os⟩ : Shared).TypeIs (.ref C) "type" := ⟨_, hC, rfl⟩
  refine codeAny_of_tree ?_
  show wpAny _ _ (callAny (.ref C) _) _ _ _
  repeat (any_goals (first | assumption | with_reducible refine wpAny_loadPart_at hC ?_ | wp_step))
  refine ⟨rfl, ?_⟩
  refine codeAny_call_builtin_at (Code.quiet_builtin _ (by decide +kernel)) entry_typeCall (chkTypeCallK hC (typeCallK F hT hC hi hb hrest ?_))
  refine codeAny_mono hq fun r s' z => ?_
  rcases r with e | (v | _ | _ | _) <;> exact z
end
end Dy

set_option Elab.async false
set_option linter.all false
set_option maxRecDepth 100000
set_option maxHeartbeats 4000000
/-! own exceptions of any few fields, by place or by keyword: their __init__ -/
namespace Dy
open PySem PySem.Spec PySem.W PySem.Calls
open L2 (plainOf mcall_line)
/-- self.f = par, .. -/
inductive AsB : List Stmt → List (Str × Str) → Prop
  | nil : AsB [] []
  | cons {par f : Str} {b1 b2 b3 b4 : Pos} {ss : List Stmt} {r : List (Str × Str)} (h : AsB ss r) : AsB (.Assign [.Attribute (.Name "self" b1) f b2] (.Name par b3) b4 :: ss) ((par, f) :: r)
def supS (msg : Str) (kk : Nat) (a1 a2 a3 a4 a5 a6 : Pos) : Stmt := .Expr (.Call (.Attribute (.Call (.Name "super" a1) [] [] a2) "__init__" a3) [.Constant (.str msg) kk a4] [] a5) a6
/-- the scope of such an __init__ -/
structure EiSc (sc : Scope) (fps : List (Str × Str)) : Prop where
  self : sc.names.lookup ("self" : Str) = some .local
  cls : sc.names.lookup ("__class__" : Str) = some .free
  sup : sc.names.lookup ("super" : Str) = some .globalImplicit
  par : ∀ q ∈ fps, sc.names.lookup q.1 = some .local
  noc : ∀ y ∈ sc.names, y.2 ≠ .cell
  kind : sc.kind = .function
  gen : sc.isGenerator = false
  cor : sc.isCoroutine = false
/-- what the written part says of the class -/
structure ExC (K : Frag) (mg : Str → Option Value) (P : Program) (C fI : Addr) (x : Str) (fps : List (Str × Str)) : Prop where
  gC : mg x = some (.ref C)
  cls : ∃ nm q N bs bm sn sub ab col dd k0 k1 k2 k3 k5, K.lookup C = some (excClassObj nm q C N bs bm true sn sub ab col dd k0 k1 k2 k3 k5 "ValueError.__new__") ∧ HandSPX.refsVE bm = true
  sa : findIn K (.ref C) "__setattr__" = some (some (.builtin "object.__setattr__"))
  noF : ∀ q ∈ fps, findIn K (.ref C) q.2 = some none
  iC : findIn K (.ref C) "__init__" = some (some (.ref fI))
  tC : typeIn K (.ref fI) = some (.type "function")
  kC : keepIn K (.ref C) = true
  exC : subIn K (.ref C) (.type "BaseException") = some true
  veC : subIn K (.ref C) (.type "ValueError") = some true
  tyC : typeIn K (.ref C) = some (.type "type")
  sup : ks_superIn K C C "__init__" = some (some (.builtin "ValueError.__init__"))
  open_ : nsIn K cStatics "thirdparty.any" = some none
  noS : mg "super" = none
  top : (P.main.scope.names.lookup ("super" : Str)).isSome = false
section
variable {prog : Program} {w : World} {A : Around} {E : Value → Shared → Prop} {R : Result → Shared → Prop} {s : Shared} {K : Frag} {mg : Str → Option Value} {C fI : Addr} {x qual : Str} {fps : List (Str × Str)}
theorem exPre (T : ExC K mg prog C fI x fps) {ar : Arguments} {sc : Scope} {ss : List Stmt} {oc ct : Value} {od : Option Addr} {doc pm : Value} {an : Option Addr} {osl : Array (Option Value)} {kk : Nat} {msg : Str} {a1 a2 a3 a4 a5 a6 : Pos} {cc cda : Addr} {ccl cl : Value} {cdd cld : Option Addr} {ccs csl : Array (Option Value)} {vs : Array Value} {file : Str} {tf : PySem.Tok}
    {a0 : Arg} (har : (ar.posonlyargs ++ ar.args).head? = some a0) (ha0 : a0.arg = "self") (Z : EiSc sc fps) (ho : K.lookup fI = some ⟨oc, od, .func (fnX "__init__" qual ar (supS msg kk a1 a2 a3 a4 a5 a6 :: ss) sc [("__class__", cc)] .none .none doc pm an (.ref cda) ct), osl⟩) (hcd : codeIn K (.ref cda) qual = true) (hline : (a3.endLine == a5.line) = true)
    (hcda : K.lookup cda = some ⟨ccl, cdd, .fields vs, ccs⟩) (hvs : vs[2]? = some (.str file tf)) (hfile : ((prog.main.file : Str) == file) = true) (hcell : K.lookup cc = some ⟨cl, cld, .cell (some (.ref C)), csl⟩)
    {e t0 : Addr} {args : Args} {pv : List (Str × Value)} (hb : bindArgs (fnX "__init__" qual ar (supS msg kk a1 a2 a3 a4 a5 a6 :: ss) sc [("__class__", cc)] .none .none doc pm an (.ref cda) ct) args = pure ((PySem.Str.ofString "self", .ref e) :: pv)) (hpv : ∀ y ∈ pv, ∃ q ∈ fps, q.1 = y.1)
    (mS : List.lookup (PySem.Str.ofString "self") ((PySem.Str.ofString "self", Value.ref e) :: pv).reverse = some (.ref e))
    (X : K.In s.heap) (hG : s.heap.Ns mainGlobals mg) (hB : ∃ mb, s.heap.Ns builtinsNs mb ∧ ∀ y : Str, y ≠ "__name__" → mb y = bootBuiltins y) (hlim : s.heap.NoLimit) (hx : s.heap.get? e = some (HandSPX.excO C t0)) (hnx : K.lookup e = none) (hroom : A.depth < recursionLimit)
    (hq : ∀ (E' : Value → Shared → Prop) (h₃ : Heap) (t1 : Addr) (tk : Nat), K.In h₃ → h₃.Ns s.heap.objs.size (fun y => List.lookup y ((PySem.Str.ofString "self", Value.ref e) :: pv).reverse) → (∀ b o, b ≠ e → s.heap.get? b = some o → h₃.get? b = some o) → h₃.get? e = some (HandSPX.excO C t1) → s.heap.objs.size < h₃.objs.size →
      wpAny (model prog w) (A.deeper (callEnv (fnX "__init__" qual ar (supS msg kk a1 a2 a3 a4 a5 a6 :: ss) sc [("__class__", cc)] .none .none doc pm an (.ref cda) ct) s.heap.objs.size fI)) (execs ss (callEnv (fnX "__init__" qual ar (supS msg kk a1 a2 a3 a4 a5 a6 :: ss) sc [("__class__", cc)] .none .none doc pm an (.ref cda) ct) s.heap.objs.size fI)) (fun f s' => R (.ok (.ret (match f with | .ret v => v | _ => .none))) s') E' { s with heap := h₃, toks := tk }) :
    codeAny (model prog w) A (.call (.ref fI) args) R s := by
  obtain ⟨nm, q, N, bs, bm, sn, sub, ab, col, dd, k0, k1, k2, k3, k5, hC, hbm⟩ := T.cls
  obtain ⟨mb, hB1, hB2⟩ := hB
  obtain ⟨aN, aA, aP⟩ := a0
  have ha0 : aN = ("self" : Str) := ha0
  subst ha0
  have hcl : clsIn K C = some { name := nm, bases := bs, mro := .ref C :: bm, ns := N, qualname := q, hasDict := true, slotNames := sn, subclasses := sub, abstract := ab, collection := col, hasDel := false } := by unfold clsIn; rw [hC] <;> rfl
  have hcall : ∀ env : Env, eval (.Call (.Attribute (.Call (.Name "super" a1) [] [] a2) "__init__" a3) [.Constant (.str msg) kk a4] [] a5) env = (do
      let ov ← attributeBase (.Call (.Name "super" a1) [] [] a2) "__init__" env (eval (.Call (.Name "super" a1) [] [] a2) env)
      standAt a3.atName
      let (f, first) ← holding [ov] (getMethod ov "__init__" (plainOf (.Call (.Name "super" a1) [] [] a2) env))
      callWith a5 f first (backTo a5 (starEach [.Constant (.str msg) kk a4] env)) []) := fun env => by
    refine Eq.trans (b := (do
      let ov ← attributeBase (.Call (.Name "super" a1) [] [] a2) "__init__" env (eval (.Call (.Name "super" a1) [] [] a2) env)
      standAt a3.atName
      methodCall (.Call (.Name "super" a1) [] [] a2) "__init__" a3 a5 env ov 1 (backTo a5 (starEach [.Constant (.str msg) kk a4] env)) [])) rfl ?_
    exact congrArg _ (funext fun ov => congrArg _ (funext fun _ => mcall_line rfl hline))
  refine ks_codeAny_call_defAt (binds := (PySem.Str.ofString "self", .ref e) :: pv) hroom (X _ _ ho) rfl hlim (codeRec_of X hcd) rfl (BindsTo.of_eq hb) Z.noc (by
    intro y hy
    rcases List.mem_cons.mp hy with rfl | hy
    · exact Z.self
    · obtain ⟨q, h1, h2⟩ := hpv y hy
      rw [← h2]
      exact Z.par q h1) (fun h₁ hns kp => ?_) (hco := Z.cor) (hgen := Z.gen) (hk := Z.kind)
  have X1 : K.In h₁ := X.keeps kp
  have hx1 := kp _ _ hx
  have hD := X1 _ _ hC
  have hms : mroIn K C (.ref C) = some true := by
    unfold mroIn
    rw [hcl, Option.bind_some, if_neg (show ¬ (List.isEmpty (Value.ref C :: bm) = true) from Bool.false_ne_true), List.contains_cons, beq_self_eq_true, Bool.true_or]
  have hsz : s.heap.objs.size < h₁.objs.size := hns.lt
  refine ks_wpAt_execs_cons (ks_wpAt_Expr_any (ks_wpAt_MethodCall (ks_wpAt_super_base Z.sup Z.cls rfl rfl (X1 _ _ ho) rfl har rfl (X1 _ _ hcda) rfl hvs hfile T.top ?_) (hcall _)) (by show (sc.kind == .module && _) = false; rw [Z.kind]; rfl) rfl)
  refine ks_loadName_global Z.kind Z.sup (loadGlobal_builtin (hG.keeps kp) T.noS (hB1.keeps kp) ((hB2 _ (by decide)).trans (by decide +kernel)) ⟨rfl, ?_⟩)
  refine wpAny_loadName_free Z.kind Z.cls rfl ⟨_, X1 _ _ hcell, rfl⟩ ?_
  refine wpAny_loadName_local Z.kind Z.self hns mS ?_
  refine ks_wpAny_isType_cls hD rfl ⟨rfl, ?_⟩
  refine ks_wpAny_call_super hD rfl hx1 rfl (fun c z => by cases z) (looks_mroIn X1 hms) (fun h₂ so k2 => ?_)
  have X2 : K.In h₂ := X1.keeps k2
  have hx2 := k2 _ _ hx1
  have I2 : InstAt h₂ e (HandSPX.excO C t0) C none := ⟨hx2, rfl, rfl, trivial⟩
  have hsup := T.sup
  unfold ks_superIn at hsup
  rw [hcl] at hsup
  have heC : e ≠ C := fun z => by
    have y := X2 _ _ hC
    rw [← z, hx2] at y
    cases y
  refine kxs_getMethod kxs_ValueError so (looks_opaque X2 T.open_) (l₀ := .ref C :: bm) (fun A Q E s k q => wpAny_bind ((looks_clsIn X2 hcl) A _ E s k (wpAny_pure q))) rfl X2 hsup (I2.type.andThen (looks_subIn X2 T.veC)) heC (by decide) ?_
  show wpAny _ _ (callWith a5 (.ref h₂.objs.size) [] (backTo a5 (starEach [.Constant (.str msg) kk a4] _)) []) _ _ _
  have up : ∀ b o, h₂.get? b = some o → (h₂.push (kxs_mw "ValueError.__init__" e)).get? b = some o := fun b o z => Heap.get?_push_of_some _ z
  have hu : (h₂.push (kxs_mw "ValueError.__init__" e)).get? h₂.objs.size = some (kxs_mw "ValueError.__init__" e) := Heap.get?_push_size _ rfl
  refine kxs_callWith (i := "ValueError.__init__") (x := e) rfl (evalArgs_plain (spliced_cons (Constant_str (k := kk) (pos := a4) (spliced_nil ⟨hu, ?_⟩))))
  refine mwCall (up _ _ (X2 _ _ hC)) (up _ _ hx2) hu (by show 1 ≤ sizeLine; decide) (fun h₃ t1 k3 he3 => ?_)
  have k13 : ∀ b o, b ≠ e → h₁.get? b = some o → h₃.get? b = some o := fun b o n z => k3 b o n (up _ _ (k2 _ _ z))
  have hLe : s.heap.objs.size ≠ e := Nat.ne_of_gt (Heap.lt_size hx)
  have hns3 : h₃.Ns s.heap.objs.size (fun y => List.lookup y ((PySem.Str.ofString "self", Value.ref e) :: pv).reverse) := by
    obtain ⟨oL, es, ep, hL, r⟩ := hns
    exact ⟨oL, es, ep, k13 _ _ hLe hL, r⟩
  have X3 : K.In h₃ := fun b o z => k13 _ _ (fun y => by rw [y, hnx] at z; cases z) (X1 _ _ z)
  show wpAt _ _ _ (execs _ _) _ _ _
  exact wpAt_of_wpAny (hq _ h₃ t1 _ X3 hns3 (fun b o n z => k13 b o n (kp b o z)) he3 hns3.lt)
end
end Dy

set_option Elab.async false
set_option linter.all false
set_option maxRecDepth 100000
set_option maxHeartbeats 4000000
namespace Dy
open PySem PySem.Spec PySem.W PySem.Calls
open L2 (plainOf mcall_line)
/-- the fields, one after the other -/
def putA (loc : Str → Option Value) : List (Str × Str) → (Str → Option Value) → Str → Option Value
  | [], m => m
  | q :: r, m => putA loc r fun y => if y = q.2 then loc q.1 else m y
section
variable {prog : Program} {w : World} {A : Around} {E : Value → Shared → Prop} {g : Array GenState} {d : Drawn} {os : OsState} {K : Frag} {mg : Str → Option Value} {C fI e L : Addr} {x : Str} {fps fps0 : List (Str × Str)} {env : Env} {loc : Str → Option Value} {fv : Array Value}
theorem tailOld (T : ExC K mg prog C fI x fps0) (Z : EiSc env.scope fps0) (hL : env.locals = L) (hnx : K.lookup e = none) (mS : loc ("self" : Str) = some (.ref e)) : ∀ {ss : List Stmt} {fps : List (Str × Str)}, AsB ss fps → (∀ q ∈ fps, q ∈ fps0 ∧ (q.1 == ("__debug__" : Str)) = false ∧ ∃ v, loc q.1 = some v) →
    ∀ {hp : Heap} {t : Nat} {dx : Addr} {m0 : Str → Option Value} {nl : List Str} {Q : Flow → Shared → Prop}, K.In hp → hp.get? e = some { cls := .ref C, dict := some dx, data := .fields fv } → hp.Ns1 dx m0 → Within m0 nl → nl.length + fps.length ≤ 1000 → hp.Ns L loc → dx ≠ L → dx ≠ e → K.lookup dx = none →
    (∀ h' tk, (∀ b o, b ≠ dx → hp.get? b = some o → h'.get? b = some o) → h'.Ns1 dx (putA loc fps m0) → Q .next ⟨h', g, d, tk, os⟩) → wpAny (model prog w) A (execs ss env) Q E ⟨hp, g, d, t, os⟩
  | _, _, .nil, _, hp, t, dx, m0, nl, Q, X, hx, hn, hw, hz, hl, n1, n2, n3, hq => wpAny_execs_nil (hq hp t (fun _ _ _ z => z) hn)
  | _, _, .cons (par := par) (f := f) (r := r) h, hf, hp, t, dx, m0, nl, Q, X, hx, hn, hw, hz, hl, n1, n2, n3, hq => by
    obtain ⟨nm, q, N, bs, bm, sn, sub, ab, col, dd, k0, k1, k2, k3, k5, hC, hbm⟩ := T.cls
    have hcl : clsIn K C = some { name := nm, bases := bs, mro := .ref C :: bm, ns := N, qualname := q, hasDict := true, slotNames := sn, subclasses := sub, abstract := ab, collection := col, hasDel := false } := by unfold clsIn; rw [hC] <;> rfl
    obtain ⟨m1, n4, v, mP⟩ := hf (par, f) List.mem_cons_self
    obtain ⟨oD, esD, epD, hoD, hdD, _⟩ := hn.count hw
    refine wpAny_execs_cons (plainObj_wpAny_Assign_Attribute ?_)
    refine wpAny_Name (wpAny_loadName_local Z.kind (Z.par _ m1) (by rw [hL]; exact hl) mP ?_) n4
    refine wpAny_Name (wpAny_loadName_local Z.kind Z.self (by rw [hL]; exact hl) mS ?_) (by decide)
    refine set_plain X (ox := { cls := .ref C, dict := some dx, data := .fields fv }) (od := some oD) ⟨hx, rfl, rfl, hoD⟩ T.sa ?_
    refine PySem.OEX.osa_old X hx hn hw (by simp only [List.length_cons] at hz; omega) hcl (show HandSPX.refsVE (.ref C :: bm) = true from hbm) rfl (T.noF _ m1) (fun h₄ tk4 k4 hn4 => ?_)
    show wpAny _ _ (execs _ _) _ _ _
    refine tailOld T Z hL hnx mS h (fun q hq' => hf q (List.mem_cons_of_mem _ hq')) (nl := f :: nl) (fun b o z => k4 b o (fun y => by rw [y, n3] at z; cases z) (X b o z)) (k4 _ _ (Ne.symm n2) hx) hn4 ?_ (by simp only [List.length_cons] at hz ⊢; omega) ?_ n1 n2 n3 (fun h' tk kk hh => hq h' tk (fun b o hb z => kk b o hb (k4 b o hb z)) ?_)
    · intro y hy
      by_cases c : y = f
      · rw [c]; exact List.mem_cons_self
      · replace hy : (if y = f then some v else m0 y) ≠ none := hy
        rw [if_neg c] at hy; exact List.mem_cons_of_mem _ (hw y hy)
    · obtain ⟨oL, es, ep, hL', r⟩ := hl
      exact ⟨oL, es, ep, k4 _ _ (Ne.symm n1) hL', r⟩
    · show h'.Ns1 dx (putA loc r fun y => if y = f then loc par else m0 y)
      rw [mP]
      exact hh
/-- what __init__ leaves -/
structure ExL (h h' : Heap) (e C : Addr) (od : Option Addr) (m : Str → Option Value) : Prop where
  keep : ∀ b o, b ≠ e → h.get? b = some o → h'.get? b = some o
  obj : ∃ t1 : Addr, h'.get? e = some { cls := .ref C, dict := od, data := .fields #[.ref t1, .none, .none, .none, .bool false, .none] }
  dct : ∀ dx, od = some dx → h.objs.size ≤ dx ∧ dx ≠ e ∧ h'.Ns1 dx m
theorem tailNew (T : ExC K mg prog C fI x fps0) (Z : EiSc env.scope fps0) (hL : env.locals = L) (hnx : K.lookup e = none) (mS : loc ("self" : Str) = some (.ref e)) {ss : List Stmt} {fps : List (Str × Str)} (hA : AsB ss fps) (hf : ∀ q ∈ fps, q ∈ fps0 ∧ (q.1 == ("__debug__" : Str)) = false ∧ ∃ v, loc q.1 = some v) (hz : fps.length ≤ 900)
    {hp : Heap} {t : Nat} {t1 : Addr} {Q : Flow → Shared → Prop} (X : K.In hp) (hx : hp.get? e = some (HandSPX.excO C t1)) (hl : hp.Ns L loc)
    (hq : ∀ h' tk od, ExL hp h' e C od (putA loc fps fun _ => none) → (od = none ↔ fps = []) → Q .next ⟨h', g, d, tk, os⟩) : wpAny (model prog w) A (execs ss env) Q E ⟨hp, g, d, t, os⟩ := by
  obtain ⟨nm, q, N, bs, bm, sn, sub, ab, col, dd, k0, k1, k2, k3, k5, hC, hbm⟩ := T.cls
  have hcl : clsIn K C = some { name := nm, bases := bs, mro := .ref C :: bm, ns := N, qualname := q, hasDict := true, slotNames := sn, subclasses := sub, abstract := ab, collection := col, hasDel := false } := by unfold clsIn; rw [hC] <;> rfl
  cases hA with
  | nil => exact wpAny_execs_nil (hq hp t none ⟨fun _ _ _ z => z, ⟨t1, hx⟩, fun dx z => by cases z⟩ ⟨fun _ => rfl, fun _ => rfl⟩)
  | @cons par f b1 b2 b3 b4 ss r h =>
    obtain ⟨m1, n4, v, mP⟩ := hf (par, f) List.mem_cons_self
    refine wpAny_execs_cons (plainObj_wpAny_Assign_Attribute ?_)
    refine wpAny_Name (wpAny_loadName_local Z.kind (Z.par _ m1) (by rw [hL]; exact hl) mP ?_) n4
    refine wpAny_Name (wpAny_loadName_local Z.kind Z.self (by rw [hL]; exact hl) mS ?_) (by decide)
    refine set_plain X (ox := HandSPX.excO C t1) (od := none) ⟨hx, rfl, rfl, trivial⟩ T.sa ?_
    refine HandSPX.exc_osa X hx hcl (show HandSPX.refsVE (.ref C :: bm) = true from hbm) rfl (T.noF _ m1) (fun h₄ tk4 dx k4 dn dne hx4 hn4 => ?_)
    show wpAny _ _ (execs _ _) _ _ _
    have hLe : L ≠ e := fun z => by
      obtain ⟨oL, es, ep, hL', r⟩ := hl
      rw [z, hx] at hL'
      cases hL'
      rcases r with ⟨r1, _⟩
      cases r1
    have hdL : dx ≠ L := fun z => by
      have y := hl.lt
      rw [z] at dn
      exact absurd y (Nat.not_lt.mpr dn)
    have hdK : K.lookup dx = none := by
      cases z : K.lookup dx with
      | none => rfl
      | some o =>
        have y := Heap.lt_size (show hp.get? dx = some o from X _ _ z)
        exact absurd y (Nat.not_lt.mpr dn)
    refine tailOld T Z hL hnx mS h (fun q hq' => hf q (List.mem_cons_of_mem _ hq')) (nl := [f]) (fun b o z => k4 b o (fun y => by rw [y, hnx] at z; cases z) (X b o z)) hx4 hn4 ?_ (by simp only [List.length_cons, List.length_nil] at hz ⊢; omega) ?_ hdL dne hdK (fun h' tk kk hh => hq h' tk (some dx) ⟨fun b o hb z => kk b o (fun y => ?_) (k4 b o hb z), ⟨t1, kk _ _ (Ne.symm dne) hx4⟩, fun dx' z => ?_⟩ ⟨fun z => (by cases z), fun z => (by cases z)⟩)
    · intro y hy
      by_cases c : y = f
      · rw [c]; exact List.mem_cons_self
      · replace hy : (if y = f then some v else none) ≠ none := hy
        rw [if_neg c] at hy; exact absurd rfl hy
    · obtain ⟨oL, es, ep, hL', r⟩ := hl
      exact ⟨oL, es, ep, k4 _ _ hLe hL', r⟩
    · have y2 := Heap.lt_size z
      rw [y] at y2
      exact absurd y2 (Nat.not_lt.mpr dn)
    · cases z
      refine ⟨dn, dne, ?_⟩
      show h'.Ns1 dx (putA loc r fun y => if y = f then loc par else none)
      rw [mP]
      exact hh
end
end Dy

set_option Elab.async false
set_option linter.all false
set_option maxRecDepth 100000
set_option maxHeartbeats 4000000
namespace Dy
open PySem PySem.Spec PySem.W PySem.Calls
open L2 (plainOf mcall_line)
/-- the text of __init__, at fI; by place and by keyword it binds the same -/
structure ExFn (K : Frag) (P : Program) (C fI : Addr) (fps : List (Str × Str)) : Prop where
  few : fps.length ≤ 900
  dbg : ∀ q ∈ fps, (q.1 == ("__debug__" : Str)) = false
  nd : ("self" :: fps.map (·.1) : List Str).Nodup
  fn : ∃ (oc : Value) (od : Option Addr) (doc pm : Value) (an : Option Addr) (ct : Value) (osl : Array (Option Value)) (kk : Nat) (qual msg : Str) (a1 a2 a3 a4 a5 a6 : Pos) (ar : Arguments) (a0 : Arg) (sc : Scope) (ss : List Stmt) (cc cda : Addr) (ccl cl : Value) (cdd cld : Option Addr) (ccs csl : Array (Option Value)) (vs : Array Value) (file : Str) (tf : PySem.Tok),
    (ar.posonlyargs ++ ar.args).head? = some a0 ∧ a0.arg = "self" ∧ EiSc sc fps ∧ AsB ss fps ∧ K.lookup fI = some ⟨oc, od, .func (fnX "__init__" qual ar (supS msg kk a1 a2 a3 a4 a5 a6 :: ss) sc [("__class__", cc)] .none .none doc pm an (.ref cda) ct), osl⟩ ∧ codeIn K (.ref cda) qual = true ∧ (a3.endLine == a5.line) = true ∧
    K.lookup cda = some ⟨ccl, cdd, .fields vs, ccs⟩ ∧ vs[2]? = some (.str file tf) ∧ ((P.main.file : Str) == file) = true ∧ K.lookup cc = some ⟨cl, cld, .cell (some (.ref C)), csl⟩ ∧
    ∀ (u : Value) (us : List Value), us.length = fps.length → bindArgs (fnX "__init__" qual ar (supS msg kk a1 a2 a3 a4 a5 a6 :: ss) sc [("__class__", cc)] .none .none doc pm an (.ref cda) ct) ⟨u :: us, []⟩ = pure ((PySem.Str.ofString "self", u) :: (fps.map (·.1)).zip us) ∧
      bindArgs (fnX "__init__" qual ar (supS msg kk a1 a2 a3 a4 a5 a6 :: ss) sc [("__class__", cc)] .none .none doc pm an (.ref cda) ct) ⟨[u], (fps.map (·.1)).zip us⟩ = pure ((PySem.Str.ofString "self", u) :: (fps.map (·.1)).zip us)
/-- what C(..) leaves -/
structure ExN (h h' : Heap) (e C : Addr) (od : Option Addr) (m : Str → Option Value) : Prop where
  keep : ∀ b o, h.get? b = some o → h'.get? b = some o
  new : h.objs.size ≤ e
  obj : ∃ t1 : Addr, h'.get? e = some { cls := .ref C, dict := od, data := .fields #[.ref t1, .none, .none, .none, .bool false, .none] }
  dct : ∀ dx, od = some dx → h.objs.size ≤ dx ∧ dx ≠ e ∧ h'.Ns1 dx m
theorem look_rev {y : Str} {v : Value} : ∀ {l : List (Str × Value)}, (l.map (·.1)).Nodup → (y, v) ∈ l → l.reverse.lookup y = some v := by
  intro l hn hm
  have hn2 : (l.reverse.map (·.1)).Nodup := by rw [List.map_reverse]; exact (List.pairwise_reverse.mpr (hn.imp fun h => Ne.symm h))
  have hm2 := List.mem_reverse.mpr hm
  revert hn2 hm2
  generalize l.reverse = r
  induction r with
  | nil => intro _ h; cases h
  | cons a r ih =>
    intro h1 h2
    rw [List.map_cons, List.nodup_cons] at h1
    rcases List.mem_cons.mp h2 with rfl | h3
    · simp [List.lookup]
    · have z : (y == a.1) = false := by
        rw [beq_eq_false_iff_ne]
        intro c
        exact h1.1 (c ▸ List.mem_map.mpr ⟨_, h3, rfl⟩)
      obtain ⟨a1, a2⟩ := a
      simp only [List.lookup, z]
      exact ih h1.2 h3
/-- the locals of __init__ -/
def locN (e : Addr) (fps : List (Str × Str)) (us : List Value) : Str → Option Value := fun y => List.lookup y ((PySem.Str.ofString "self", Value.ref e) :: (fps.map (·.1)).zip us).reverse
section
variable {prog : Program} {w : World} {A : Around} {E : Value → Shared → Prop} {R : Result → Shared → Prop} {s : Shared} {K : Frag} {mg : Str → Option Value} {C fI : Addr} {x : Str} {fps : List (Str × Str)}
theorem zip_fst {α β : Type} : ∀ {l : List α} {r : List β}, r.length = l.length → (l.zip r).map (·.1) = l
  | [], [], _ => rfl
  | _ :: _, [], h => by cases h
  | [], _ :: _, h => by cases h
  | a :: l, b :: r, h => by
    rw [List.zip_cons_cons, List.map_cons, zip_fst (Nat.succ.inj h)]
theorem exMadeN (T : ExC K mg prog C fI x fps) (F : ExFn K prog C fI fps) {us : List Value} (hu : us.length = fps.length) (kw : Bool) (X : K.In s.heap) (hG : s.heap.Ns mainGlobals mg) (hB : ∃ mb, s.heap.Ns builtinsNs mb ∧ ∀ y : Str, y ≠ "__name__" → mb y = bootBuiltins y) (hlim : s.heap.NoLimit) (hroom : A.depth + 1 < recursionLimit)
    (hq : ∀ h' tk e od, ExN s.heap h' e C od (putA (locN e fps us) fps fun _ => none) → (od = none ↔ fps = []) → R (.ok (.ret (.ref e))) { s with heap := h', toks := tk }) : codeAny (model prog w) A (.call (.ref C) (if kw then ⟨[], (fps.map (·.1)).zip us⟩ else ⟨us, []⟩)) R s := by
  obtain ⟨nm, q, N, bs, bm, sn, sub, ab, col, dd, k0, k1, k2, k3, k5, hC, hbm⟩ := T.cls
  obtain ⟨oc, od, doc, pm, an, ct, osl, kk, qual, msg, a1, a2, a3, a4, a5, a6, ar, a0, sc, ss, cc, cda, ccl, cl, cdd, cld, ccs, csl, vs, file, tf, har, ha0, Z, hA, ho, hcd, hline, hcda, hvs, hfile, hcell, bd⟩ := F.fn
  obtain ⟨hp, g, dr, tk, os⟩ := s
  have go : ∀ (rest : List Value) (kws : List (Str × Value)), rest.length ≤ sizeLine → (∀ e : Addr, bindArgs (fnX "__init__" qual ar (supS msg kk a1 a2 a3 a4 a5 a6 :: ss) sc [("__class__", cc)] .none .none doc pm an (.ref cda) ct) ⟨.ref e :: rest, kws⟩ = pure ((PySem.Str.ofString "self", .ref e) :: (fps.map (·.1)).zip us)) → codeAny (model prog w) A (.call (.ref C) ⟨rest, kws⟩) R ⟨hp, g, dr, tk, os⟩ := by
    intro rest kws hz hbd
    have kk : ∀ b o, hp.get? b = some o → ((hp.push (kdv_tup rest)).push (HandSPX.excO C hp.objs.size)).get? b = some o := fun b o z => Heap.get?_push_of_some _ (Heap.get?_push_of_some _ z)
    have at_ : ((hp.push (kdv_tup rest)).push (HandSPX.excO C hp.objs.size)).get? (hp.objs.size + 1) = some (HandSPX.excO C hp.objs.size) := by heap_get
    have hnx : K.lookup (hp.objs.size + 1) = none := by
      cases z : K.lookup (hp.objs.size + 1) with
      | none => rfl
      | some o => exact absurd (Nat.lt_of_succ_lt (Heap.lt_size (show hp.get? (hp.objs.size + 1) = some o from X _ _ z))) (Nat.lt_irrefl _)
    obtain ⟨mb, hB1, hB2⟩ := hB
    have hzf : ((fps.map (·.1)).zip us).map (·.1) = fps.map (·.1) := zip_fst (by rw [List.length_map]; exact hu)
    have ndl : (((PySem.Str.ofString "self", Value.ref (hp.objs.size + 1)) :: (fps.map (·.1)).zip us).map (·.1)).Nodup := by
      rw [List.map_cons, hzf]
      exact F.nd
    refine callK PySem.F.excBase_ValueError (fun Y => HandSPX.refsVE_contains Y bm hbm) (X _ _ hC) (looks_findIn X T.iC) (fun self => bind_fn X self T.tC) hz ?_
    refine exPre (s := ⟨(hp.push (kdv_tup rest)).push (HandSPX.excO C hp.objs.size), g, dr, tk, os⟩) T har ha0 Z ho hcd hline hcda hvs hfile hcell (hbd _) (fun y hy => ?_) (look_rev ndl List.mem_cons_self) (X.keeps kk) (hG.keeps kk) ⟨mb, hB1.keeps kk, hB2⟩ (hlim.keeps kk) at_ hnx ?_ (fun E' h₃ t1 tk3 X3 hns3 k3 he3 hlt => ?_)
    · obtain ⟨q', h1, h2⟩ := List.mem_map.mp (by rw [← hzf]; exact List.mem_map.mpr ⟨y, hy, rfl⟩ : y.1 ∈ fps.map (·.1))
      exact ⟨q', h1, h2⟩
    · show A.depth + 1 < recursionLimit
      exact hroom
    · refine tailNew T Z rfl hnx (look_rev ndl List.mem_cons_self) hA (fun q' h1 => ⟨h1, F.dbg q' h1, ?_⟩) F.few X3 he3 hns3 (fun h' tk4 od' hE hod => ?_)
      · obtain ⟨y, h2, h3⟩ := List.mem_map.mp (by rw [hzf]; exact List.mem_map.mpr ⟨q', h1, rfl⟩ : q'.1 ∈ ((fps.map (·.1)).zip us).map (·.1))
        exact ⟨y.2, look_rev ndl (List.mem_cons_of_mem _ (by rw [← h3]; exact h2))⟩
      · have hs : hp.objs.size ≤ h₃.objs.size := by
          have z := hlt
          rw [show (({ heap := (hp.push (kdv_tup rest)).push (HandSPX.excO C hp.objs.size), gens := g, drawn := dr, toks := tk, os := os } : Shared)).heap.objs.size = hp.objs.size + 1 + 1 by simp only [Heap.size_push]] at z
          omega
        refine ⟨rfl, hq h' tk4 (hp.objs.size + 1) od' ⟨fun b o z => hE.keep b o ?_ (k3 b o ?_ (kk b o z)), Nat.le_succ _, hE.obj, fun dx z => ?_⟩ hod⟩
        · exact Nat.ne_of_lt (Nat.lt_succ_of_lt (Heap.lt_size z))
        · exact Nat.ne_of_lt (Nat.lt_succ_of_lt (Heap.lt_size z))
        · obtain ⟨z1, z2, z3⟩ := hE.dct dx z
          exact ⟨Nat.le_trans hs z1, z2, z3⟩
  cases kw with
  | true => exact go [] _ (Nat.zero_le _) (fun e => (bd (.ref e) us hu).2)
  | false => exact go us [] (by rw [hu, sizeLine_eq]; have := F.few; omega) (fun e => (bd (.ref e) us hu).1)
end
end Dy

set_option Elab.async false
set_option linter.all false
set_option maxRecDepth 100000
set_option maxHeartbeats 4000000
/-! C(..) as a value -/
namespace Dy
open PySem PySem.Spec L2
/-- an own exception is made and held -/
def tExN (C : Addr) (fs : List Str) (ta : TA) : TE := fun σ H Q => ta σ H fun vs H1 => vs.length = fs.length ∧ (fs = [] → ∀ a, H1 a = none → Q (.ref a) (upd H1 a (exo a C none))) ∧
  (fs ≠ [] → ∀ a d, H1 a = none → H1 d = none → d ≠ a → Q (.ref a) (upd (upd H1 d (.xd (fs.zip vs))) a (exo a C (some d))))
section
variable {W : Wx} {E : L2.St → XK} {C : Addr} {x : Str}
/-- the data of it -/
def mExc (x : Str) (fs : List Str) (m : MF) : ME := fun S => (m S).bind fun ds S1 => if ds.length = fs.length then .ok (.exc x fs ds, none) S1 else .stuck
theorem er_exn {fs : List Str} {ta : TA} {m : MF} (hC : W.mg x = some (.ref C)) (h : AI W E ta m) : ER W E (tExN C fs ta) (mExc x fs m) := fun c T σ H G S Q I hq => by
  refine h c T σ H G S _ I (hq.bind fun ds S1 _ h1 vs H1 G1 g1 I1 r1 => ?_)
  split at h1
  · rename_i hl
    have hlv : vs.length = fs.length := by rw [r1.length]; exact hl
    refine ⟨hlv, fun hf a ha => ?_, fun hf a d ha hd hda => ?_⟩
    · have J := I1.allocI ha (o := exo a C none) (fun ps z => exo_tbl z)
      have gu := gle_upd (o := exo a C none) (I1.le.none ha)
      exact h1 _ _ _ (g1.trans gu) J (by rw [Rep]; exact ⟨a, C, none, vs, rfl, hC, upd_same, fun dd z => (by cases z), fun _ => hf, r1.mono gu⟩) tok_none
    · have J1 := I1.allocI hd (o := .xd (fs.zip vs)) (fun ps z => (by cases z))
      have gu := gle_upd (o := HO.xd (fs.zip vs)) (I1.le.none hd)
      have ha2 : upd H1 d (.xd (fs.zip vs)) a = none := by rw [upd_ne (Ne.symm hda)]; exact ha
      have J2 := J1.allocI ha2 (o := exo a C (some d)) (fun ps z => exo_tbl z)
      have gu2 := gle_upd (o := exo a C (some d)) (J1.le.none ha2)
      exact h1 _ _ _ (g1.trans (gu.trans gu2)) J2 (by rw [Rep]; exact ⟨a, C, some d, vs, rfl, hC, upd_same, fun dd z => (by cases z; rw [upd_ne hda]; exact upd_same), fun z => (by cases z), r1.mono (gu.trans gu2)⟩) tok_none
  · exact (h1 : False).elim
end
end Dy

set_option Elab.async false
set_option linter.all false
set_option maxRecDepth 100000
set_option maxHeartbeats 4000000
namespace Dy
open PySem PySem.Spec L2
theorem putA_not {loc : Str → Option Value} {y : Str} : ∀ {fps : List (Str × Str)} {m : Str → Option Value}, y ∉ fps.map (·.2) → putA loc fps m y = m y
  | [], _, _ => rfl
  | (p, f) :: r, m, h => by
    rw [List.map_cons, List.mem_cons, not_or] at h
    show putA loc r (fun z => if z = f then loc p else m z) y = m y
    rw [putA_not h.2, if_neg h.1]
theorem relO_put {loc : Str → Option Value} {y : Str} : ∀ {fps : List (Str × Str)} {vs : List V} {us : List Value} {m0 : Str → Option Value}, (fps.map (·.2)).Nodup → Vals vs us → fps.map (fun q => loc q.1) = us.map some → (y ∉ fps.map (·.2) → m0 y = none) → RelO (((fps.map (·.2)).zip vs).lookup y) (putA loc fps m0 y)
  | [], vs, us, m0, _, _, _, h => by
    show RelO (List.lookup y []) (m0 y)
    rw [h (by simp)]
    trivial
  | (p, f) :: r, vs, us, m0, hn, hv, hl, h => by
    cases hv with
    | nil => cases hl
    | @cons v u vs us rv t =>
      rw [List.map_cons, List.map_cons, List.cons.injEq] at hl
      rw [List.map_cons, List.nodup_cons] at hn
      show RelO (List.lookup y ((f, v) :: (r.map (·.2)).zip vs)) (putA loc r (fun z => if z = f then loc p else m0 z) y)
      by_cases c : y = f
      · subst c
        rw [putA_not hn.1, if_pos rfl, show loc p = some u from hl.1, show List.lookup y ((y, v) :: (r.map (·.2)).zip vs) = some v by simp [List.lookup]]
        exact rv
      · have z : (y == f) = false := by simpa using c
        rw [show List.lookup y ((f, v) :: (r.map (·.2)).zip vs) = ((r.map (·.2)).zip vs).lookup y by simp only [List.lookup, z]]
        exact relO_put hn.2 t hl.2 fun k => by
          show (if y = f then loc p else m0 y) = none
          rw [if_neg c]
          exact h (by rw [List.map_cons, List.mem_cons, not_or]; exact ⟨c, k⟩)
theorem locN_vals {e : Addr} {fps : List (Str × Str)} {us : List Value} (hu : us.length = fps.length) (nd : ("self" :: fps.map (·.1) : List Str).Nodup) : fps.map (fun q => locN e fps us q.1) = us.map some := by
  have hzf : ((fps.map (·.1)).zip us).map (·.1) = fps.map (·.1) := zip_fst (by rw [List.length_map]; exact hu)
  have ndl : (((PySem.Str.ofString "self", Value.ref e) :: (fps.map (·.1)).zip us).map (·.1)).Nodup := by
    rw [List.map_cons, hzf]
    exact nd
  apply List.ext_getElem (by simp [hu])
  intro i h1 h2
  have i1 : i < fps.length := by simpa using h1
  have i2 : i < us.length := by omega
  rw [List.getElem_map, List.getElem_map]
  refine look_rev ndl (List.mem_cons_of_mem _ ?_)
  have z : ((fps.map (·.1)).zip us)[i]? = some (fps[i].1, us[i]) := by
    rw [List.getElem?_zip_eq_some]
    exact ⟨by rw [List.getElem?_map, List.getElem?_eq_getElem i1]; rfl, List.getElem?_eq_getElem i2⟩
  exact List.mem_of_getElem? z
end Dy

set_option Elab.async false
set_option linter.all false
set_option maxRecDepth 100000
set_option maxHeartbeats 4000000
namespace Dy
open PySem PySem.Spec L2
section
variable {X : Cx} {k : Nat} {pos p : Pos} {e : Expr} {rest : List Expr} {x : Str} {C fI : Addr} {fps : List (Str × Str)} {ta : TA}
/-- the exception stands: what the call of C leaves is tracked -/
theorem exn_end {pins : List (Addr × Obj)} {σ : L2.St} {H1 : Hp} {s1 : Shared} {vs : List V} {us : List Value} {Q : VK} {h' : Heap} {tk' : Nat} {x0 : Addr} {od : Option Addr} (F : ExFn X.K X.prog C fI fps) (nf : (fps.map (·.2)).Nodup) (J1 : Inv X pins σ H1 s1) (r1 : Vals vs us) (hl : us.length = fps.length)
    (q0 : fps.map (·.2) = [] → ∀ a, H1 a = none → Q (.ref a) (upd H1 a (exo a C none))) (q1 : fps.map (·.2) ≠ [] → ∀ a d, H1 a = none → H1 d = none → d ≠ a → Q (.ref a) (upd (upd H1 d (.xd ((fps.map (·.2)).zip vs))) a (exo a C (some d))))
    (M : ExN s1.heap h' x0 C od (putA (locN x0 fps us) fps fun _ => none)) (ho : od = none ↔ fps = []) : ∃ v H2, Inv X pins σ H2 { s1 with heap := h', toks := tk' } ∧ RelV v (.ref x0) ∧ Q v H2 := by
  obtain ⟨hp, g, dr, tk, os⟩ := s1
  obtain ⟨t1, hoe⟩ := M.obj
  have na : H1 x0 = none := J1.hok.fresh M.new
  have ng : hp.get? x0 = none := by
    cases z : hp.get? x0 with
    | none => rfl
    | some o => exact absurd (Heap.lt_size z) (Nat.not_lt.mpr M.new)
  cases od with
  | none =>
    have hf := ho.mp rfl
    exact ⟨.ref x0, _, L2.Inv.laidN (t' := tk') J1 M.keep ng na (exo_ok hoe), rfl, q0 (by rw [hf]; rfl) x0 na⟩
  | some d =>
    obtain ⟨db, dne, hns⟩ := M.dct d rfl
    have nd : H1 d = none := J1.hok.fresh db
    obtain ⟨B, b1, b2⟩ := restrict h' fun b => decide (b ≠ x0)
    have keepB : ∀ b, b ≠ x0 → B.get? b = h'.get? b := fun b hb => b1 b (decide_eq_true hb)
    have goneB : B.get? x0 = none := b2 x0 (by simp)
    have oldB : ∀ b o, hp.get? b = some o → B.get? b = some o := fun b o z => (keepB b (Nat.ne_of_lt (Nat.lt_of_lt_of_le (Heap.lt_size z) M.new))).trans (M.keep b o z)
    have dOk : ObjOk X.prog X.w (upd H1 d (.xd ((fps.map (·.2)).zip vs))) B d (.xd ((fps.map (·.2)).zip vs)) := ⟨_, hns.at (fun o z => (keepB d dne).trans z), fun y => relO_put nf r1 (locN_vals hl F.nd) (fun _ => rfl)⟩
    have J2 : Inv X pins σ (upd H1 d (.xd ((fps.map (·.2)).zip vs))) ⟨B, g, dr, tk', os⟩ := J1.laid (t' := tk') oldB db dOk
    have na2 : upd H1 d (.xd ((fps.map (·.2)).zip vs)) x0 = none := by rw [upd_ne (Ne.symm dne)]; exact na
    have up : ∀ b u, B.get? b = some u → h'.get? b = some u := fun b u z => by
      by_cases hb : b = x0
      · rw [hb, goneB] at z; cases z
      · exact (keepB b hb).symm.trans z
    have J3 : Inv X pins σ (upd (upd H1 d (.xd ((fps.map (·.2)).zip vs))) x0 (exo x0 C (some d))) ⟨h', g, dr, tk', os⟩ := L2.Inv.laidN (s := ⟨B, g, dr, tk', os⟩) (t' := tk') J2 up goneB na2 (exo_ok hoe)
    exact ⟨.ref x0, _, J3, rfl, q1 (fun z => by
      have y := ho.mpr (List.map_eq_nil_iff.mp z)
      cases y) x0 d na nd dne⟩
theorem pe_exn (T : ExC X.K X.mg X.prog C fI x fps) (F : ExFn X.K X.prog C fI fps) (nf : (fps.map (·.2)).Nodup) (hr : Room k X.A) (ha : PA X (e :: rest) ta) (hg : Gl X x) (hdb : (x == ("__debug__" : Str)) = false) (he : starEach (e :: rest) X.env = (false, eval e X.env) :: starEach rest X.env) (hpl : (backTo pos (starEach rest X.env)).any (·.1) = false) :
    PE X (.Call (.Name x p) (e :: rest) [] pos) (tExN C (fps.map (·.2)) ta) := ⟨fun pins s0 σ H Q I h => by
  refine wpAny_Call_Name_kw (ld_glob I hg T.gC ?_ hdb)
  refine PySem.W.callWith_K (h₀ := X.base) I.ok.mod.kin T.kC (thn (ha.run pos pins s0 σ H _ I h) fun us s1 hh => ?_) he hpl
  obtain ⟨vs, H1, J1, r1, hl, q0, q1⟩ := hh
  refine ⟨J1.kIn, ?_⟩
  have hlim := J1.nolimit
  have hG : s1.heap.Ns mainGlobals X.mg := J1.mod.glob.keeps J1.bk
  have hB : ∃ mb, s1.heap.Ns builtinsNs mb ∧ ∀ y : Str, y ≠ "__name__" → mb y = bootBuiltins y := by
    obtain ⟨mb, h1, h2⟩ := J1.mod.blt
    exact ⟨mb, h1.keeps J1.bk, h2⟩
  have hu : us.length = fps.length := by rw [← r1.length, hl, List.length_map]
  show wpAny _ _ (call (.ref C) us) _ _ _
  exact wpAny_call (exMadeN T F hu false J1.kIn hG hB hlim (by have z := hr.dp; omega) fun h' tk' x0 od M ho => exn_end F nf J1 r1 hu q0 q1 M ho)⟩
end
end Dy

set_option Elab.async false
set_option linter.all false
set_option maxRecDepth 100000
set_option maxHeartbeats 4000000
namespace Dy
open PySem PySem.Spec L2
section
variable {s : Sx} {X : Cx} {N : List Str} {sc : Scope} {fn : Str → Bool} {k : Nat} {E : L2.St → XK} {pos p : Pos} {e : Expr} {rest : List Expr} {x : Str} {fps : List (Str × Str)} {m : MF}
/-- the class x is known, with its __init__ -/
def ExK (s : Sx) (x : Str) (fps : List (Str × Str)) : Prop := ∃ C fI, ExC s.W.K s.W.mg s.P C fI x fps ∧ ExFn s.W.K s.P C fI fps
theorem de_exc (h : Ct s X N sc fn k E) (T : ExK s x fps) (ha : DI s E X (e :: rest) m) (nf : (fps.map (·.2)).Nodup := by decide +kernel) (hg : glB sc x = true := by decide +kernel) (hdb : (x == ("__debug__" : Str)) = false := by decide +kernel)
    (he : starEach (e :: rest) X.env = (false, eval e X.env) :: starEach rest X.env := by rfl) (hpl : (backTo pos (starEach rest X.env)).any (·.1) = false := by rfl) : DE s E X (.Call (.Name x p) (e :: rest) [] pos) (mExc x (fps.map (·.2)) m) := by
  obtain ⟨C, fI, T, F⟩ := T
  obtain ⟨ta, pa, q⟩ := ha
  exact ⟨_, pe_exn (by rw [h.K, h.mg, h.prog]; exact T) (by rw [h.K, h.prog]; exact F) nf h.room pa (h.gl hg) hdb he hpl, er_exn T.gC q⟩
end
end Dy

set_option Elab.async false
set_option linter.all false
set_option maxRecDepth 100000
set_option maxHeartbeats 4000000
namespace Dy
open PySem PySem.Spec L2
section
variable {s : Sx} {X : Cx} {N : List Str} {sc : Scope} {fn : Str → Bool} {k : Nat} {E : L2.St → XK} {pos p : Pos} {e : Expr} {kws : List Keyword} {x : Str} {C fI : Addr} {fps : List (Str × Str)} {m mr : MF} {me : ME} {ta : TA}
/-- keyword arguments, plain values -/
def DKI (s : Sx) (E : L2.St → XK) (X : Cx) (kws : List Keyword) (m : MF) : Prop := ∃ t, PK X kws t ∧ AI s.W E t m
theorem dki_nil : DKI s E X [] mNil := ⟨_, pk_nil, ai_nil⟩
theorem dki_cons {nm : Option Str} {kpos : Pos} (h : DE s E X e me) (t : DKI s E X kws mr) : DKI s E X (⟨nm, e, kpos⟩ :: kws) (mCons me mr) := let ⟨_, p, q⟩ := h; let ⟨_, p2, q2⟩ := t; ⟨_, pk_cons p p2, ai_cons q q2⟩
theorem pe_exnK (T : ExC X.K X.mg X.prog C fI x fps) (F : ExFn X.K X.prog C fI fps) (nf : (fps.map (·.2)).Nodup) (hr : Room k X.A) (ha : PK X kws ta) (hg : Gl X x) (hdb : (x == ("__debug__" : Str)) = false) (hall : (backToKw pos (keywordEach kws X.env)).all (·.1.isSome) = true) (hks : (backToKw pos (keywordEach kws X.env)).filterMap (·.1) = fps.map (·.1))
    (hpl : ((backTo pos (starEach [] X.env)).any (·.1) || (backToKw pos (keywordEach kws X.env)).any (·.1.isNone)) = false) :
    PE X (.Call (.Name x p) [] kws pos) (tExN C (fps.map (·.2)) ta) := ⟨fun pins s0 σ H Q I h => by
  refine wpAny_Call_Name_kw (ld_glob I hg T.gC ?_ hdb)
  refine PySem.W.callWith_KW0 (h₀ := X.base) I.ok.mod.kin T.kC hall (thn (ha.run pos pins s0 σ H _ I h) fun us s1 hh => ?_) hpl
  obtain ⟨vs, H1, J1, r1, hl, q0, q1⟩ := hh
  refine ⟨J1.kIn, ?_⟩
  rw [hks, List.nil_append]
  have hlim := J1.nolimit
  have hG : s1.heap.Ns mainGlobals X.mg := J1.mod.glob.keeps J1.bk
  have hB : ∃ mb, s1.heap.Ns builtinsNs mb ∧ ∀ y : Str, y ≠ "__name__" → mb y = bootBuiltins y := by
    obtain ⟨mb, h1, h2⟩ := J1.mod.blt
    exact ⟨mb, h1.keeps J1.bk, h2⟩
  have hu : us.length = fps.length := by rw [← r1.length, hl, List.length_map]
  exact wpAny_call (exMadeN T F hu true J1.kIn hG hB hlim (by have z := hr.dp; omega) fun h' tk' x0 od M ho => exn_end F nf J1 r1 hu q0 q1 M ho)⟩
theorem de_excK (h : Ct s X N sc fn k E) (T : ExK s x fps) (ha : DKI s E X kws m) (hall : (backToKw pos (keywordEach kws X.env)).all (·.1.isSome) = true := by rfl) (hks : (backToKw pos (keywordEach kws X.env)).filterMap (·.1) = fps.map (·.1) := by rfl) (hpl : ((backTo pos (starEach [] X.env)).any (·.1) || (backToKw pos (keywordEach kws X.env)).any (·.1.isNone)) = false := by rfl)
    (nf : (fps.map (·.2)).Nodup := by decide +kernel) (hg : glB sc x = true := by decide +kernel) (hdb : (x == ("__debug__" : Str)) = false := by decide +kernel) : DE s E X (.Call (.Name x p) [] kws pos) (mExc x (fps.map (·.2)) m) := by
  obtain ⟨C, fI, T, F⟩ := T
  obtain ⟨ta, pa, q⟩ := ha
  exact ⟨_, pe_exnK (by rw [h.K, h.mg, h.prog]; exact T) (by rw [h.K, h.prog]; exact F) nf h.room pa (h.gl hg) hdb hall hks hpl, er_exn T.gC q⟩
end
end Dy

set_option Elab.async false
set_option linter.all false
set_option maxRecDepth 100000
set_option maxHeartbeats 4000000
namespace Dy
open PySem PySem.Spec L2
section
variable {s : Sx} {X : Cx} {N : List Str} {sc : Scope} {fn : Str → Bool} {k : Nat} {E : L2.St → XK} {pos p : Pos} {x : Str} {C fI : Addr}
theorem pe_exn0 (T : ExC X.K X.mg X.prog C fI x []) (F : ExFn X.K X.prog C fI []) (hr : Room k X.A) (hg : Gl X x) (hdb : (x == ("__debug__" : Str)) = false) : PE X (.Call (.Name x p) [] [] pos) (tExN C [] tNil) := ⟨fun pins s0 σ H Q I h => by
  obtain ⟨_, q0, _⟩ := h
  have hlim := I.nolimit
  have hG : s0.heap.Ns mainGlobals X.mg := I.mod.glob.keeps I.bk
  have hB : ∃ mb, s0.heap.Ns builtinsNs mb ∧ ∀ y : Str, y ≠ "__name__" → mb y = bootBuiltins y := by
    obtain ⟨mb, h1, h2⟩ := I.mod.blt
    exact ⟨mb, h1.keeps I.bk, h2⟩
  refine wpAny_Call_Name_kw (ld_glob I hg T.gC (PySem.W.callWith_K0 I.kIn T.kC ?_) hdb)
  show wpAny _ _ (call (.ref C) []) _ _ _
  exact wpAny_call (exMadeN (us := []) T F rfl false I.kIn hG hB hlim (by have z := hr.dp; omega) fun h' tk' x0 od M ho => exn_end (vs := []) F (by simp) I .nil rfl q0 (fun z => absurd rfl z) M ho)⟩
theorem de_exc0 (h : Ct s X N sc fn k E) (T : ExK s x []) (hg : glB sc x = true := by decide +kernel) (hdb : (x == ("__debug__" : Str)) = false := by decide +kernel) : DE s E X (.Call (.Name x p) [] [] pos) (mExc x [] mNil) := by
  obtain ⟨C, fI, T, F⟩ := T
  exact ⟨_, pe_exn0 (by rw [h.K, h.mg, h.prog]; exact T) (by rw [h.K, h.prog]; exact F) h.room (h.gl hg) hdb, er_exn T.gC ai_nil⟩
end
end Dy

set_option Elab.async false
set_option linter.all false
set_option maxRecDepth 100000
set_option maxHeartbeats 4000000
/-! lambdas with parameters, as values -/
namespace Dy
open PySem PySem.Spec L2 LamX
open PyProof.Rows (envOfC)
/-- what is written of a lambda -/
structure LamD where
  ps : Arguments
  body : Expr
  scope : Scope
/-- a lambda of the table, over the cells cl -/
def LamV (tab : Nat → LamD) (k : Nat) (cl : List (Str × Addr)) (G : Hp) (v : V) : Prop := ∃ f c' q, v = .ref f ∧ G f = some (LamO f q (tab k).ps (tab k).body (tab k).scope cl c') ∧ G c' = some (CodeO c' q)
theorem lamV_mono {tab : Nat → LamD} {k : Nat} {cl : List (Str × Addr)} {G G' : Hp} {v : V} (g : GLe G G') : LamV tab k cl G v → LamV tab k cl G' v := fun ⟨f, c', q, e, h1, h2⟩ => ⟨f, c', q, e, g _ _ h1, g _ _ h2⟩
/-- an object that lies there is known to the world -/
theorem StOk.learn {W : Wx} {c : Cn} {T : Tm} {σ : L2.St} {H G : Hp} {S : List LV} {p : Addr} {o : HO} (I : StOk W c T σ H G S) (h : H p = some o) (hg : G p = none) (h0 : c.H0 p = none) (hO : ∀ i, ¬ Owns σ S i p) (hT : ∀ q ∈ T, q.1 ≠ p) (ho : ∀ ps, o ≠ .tbl ps) : GLe G (upd G p o) ∧ StOk W c T σ H (upd G p o) S := by
  refine ⟨gle_upd hg, StOk.known { I with tm := fun q hq => ?_, tn := ?_ }⟩
  · rcases List.mem_cons.mp hq with rfl | hq
    · exact ⟨h, hg, h0, hO, ho⟩
    · exact I.tm q hq
  · rw [List.map_cons, List.nodup_cons]
    refine ⟨fun hm => ?_, I.tn⟩
    obtain ⟨q, hq, e⟩ := List.mem_map.mp hm
    exact hT q hq e
/-! ### made -/
def tLamV (T : List (Addr × Str)) (mk : Addr → Addr → HO) (q : Str) : TE := fun σ H Q => Tabs T H ∧ ∀ (f c' : Addr) (H1 : Hp), ExtN H H1 → (∀ b, H1 b = none → H b = none) → Tabs T H1 → TNew T H H1 c' q → f ≠ c' → H f = none → H1 f = some (mk f c') → H1 c' = some (CodeO c' q) → Q (.ref f) H1
def mLam (k : Nat) : ME := fun S => .ok (.fn k [], none) S
theorem er_lam {W : Wx} {E : L2.St → XK} {tab : Nat → LamD} {k : Nat} {q : Str} (hΦ : ∀ k cl G v, W.Φ k cl G v ↔ LamV tab k cl G v) : ER W E (tLamV W.T (fun f c' => LamO f q (tab k).ps (tab k).body (tab k).scope [] c') q) (mLam k) := fun c T σ H G S Q I hq => by
  refine ⟨I.tb, fun f c' H1 eN nn T1 tn ne f0 f1 c1 => ?_⟩
  have J := I.code tn eN nn T1 c1
  have at_ := (tn.tg I.le I.tg).2
  have gf : gCode H G c' q f = none := by
    unfold gCode
    split
    · rw [upd_ne ne]; exact I.le.none f0
    · exact I.le.none f0
  have fr : ∀ i, ¬ Owns σ S i f := fun i o => by
    obtain ⟨⟨u, e⟩, _⟩ := I.own_at o
    rw [f0] at e; cases e
  have fT : ∀ p ∈ T, p.1 ≠ f := fun p hp z => by
    obtain ⟨e, _⟩ := I.tm p hp
    rw [z, f0] at e; cases e
  obtain ⟨gu, J2⟩ := J.learn f1 gf (I.fresh f0) fr fT fun ps => lamO_ne ps
  refine hq (.ref f) H1 _ ((gCode_le I.le).trans gu) J2 ?_ tok_none
  rw [Rep]
  exact (hΦ _ _ _ _).mpr ⟨f, c', q, rfl, upd_same, gu _ _ at_⟩
section
variable {s : Sx} {X : Cx} {N : List Str} {sc : Scope} {fn : Str → Bool} {k : Nat} {E : L2.St → XK} {pos p p1 p2 : Pos} {e : Expr} {es : List Expr} {x : Str}
theorem de_lam (h : Ct s X N sc fn k E) (hlam : LamOk s X) {tab : Nat → LamD} (hΦ : ∀ k cl G v, s.W.Φ k cl G v ↔ LamV tab k cl G v) (j : Nat) {ps : Arguments} {body : Expr} {scope : Scope} (e1 : (tab j).ps = ps := by rfl) (e2 : (tab j).body = body := by rfl) (e3 : (tab j).scope = scope := by rfl) (hdef : defaultsOf ps X.env = ([], []) := by rfl) (hfree : (scope.names.all fun y => y.2 != .free) = true := by decide +kernel) (hclo : cloFrom X.env.cells scope.names [] = [] := by rfl) :
    DE s E X (.Lambda ps body scope pos) (mLam j) := by
  obtain ⟨c, P, TB, hcode, hmT, hu⟩ := hlam
  subst e1 e2 e3
  refine ⟨_, ⟨fun pins s0 σ H Q I hw => ?_⟩, er_lam (q := X.env.qual ++ "<lambda>") hΦ⟩
  refine lamMade I TB hcode hmT hu hw.1 hdef (fun y hy e => ?_) fun f c' H1 s1 I1 eN nn T1 tn ne f0 f1 c1 => ?_
  · have z := List.all_eq_true.mp hfree y hy
    rw [e] at z
    cases z
  · rw [hclo] at f1
    exact ⟨.ref f, H1, I1, rfl, hw.2 f c' H1 eN nn T1 tn ne f0 f1 c1⟩
/-! ### called -/
theorem runLam {CX : CXT} {P : Program} {w : World} {K : PySem.W.Frag} {mg : Str → Option Value} {base : Heap} {k : Nat} {f c' : Addr} {q : Str} {params : Arguments} {body : Expr} {scope : Scope} {pm ctv : Value} {N ps : List Str} (S : FnScope N ps scope)
    {A : Around} {outer : List Env} {s : Shared} {H : Hp} {us : List Value} {vs : List V} {Q : VK} {E : XK} (hr : Room (k + 1) A) (e0 : Env0 P w K mg base A outer s H) (hf : s.heap.get? f = some (PySem.W.kla_obj "<lambda>" q params body scope [] pm c' ctv)) (hc : s.heap.CodeRec (.ref c') q)
    (hb : ∀ (pm cv ctv : Value) (us : List Value), us.length = ps.length → bindArgs (PySem.W.kla_fn "<lambda>" q params body scope [] pm cv ctv) ⟨us, []⟩ = pure (ps.zip us)) (r : Vals vs us) (hl : vs.length = ps.length)
    (hbody : Room k (A.deeper (envOfC q scope s.heap.objs.size f (.ref c'))) → ∃ t, PE (cxOf CX P w K mg base N q scope f (.ref c') A outer s H E) body t ∧ t (L2.start N vs) H Q) :
    codeAny (model P w) A (.call (.ref f) ⟨us, []⟩) (CR CX outer P w H s Q E) s := by
  have lim : s.heap.NoLimit := e0.mod.nolimit.keeps fun b o e => (e0.bs b o e).1
  have hkind : ∀ y ∈ ps.zip us, scope.names.lookup y.1 = some .local ∨ (scope.names.lookup y.1 = some .cell ∧ ((cellsFrom (s.heap.objs.size + 1) scope.names []).lookup y.1).isSome = true) := fun y hy => by
    rcases S.par y.1 (List.of_mem_zip (show (y.1, y.2) ∈ ps.zip us from hy)).1 with z | z
    · exact .inl z
    · exact .inr ⟨z, PySem.W.cellsFrom_some _ _ _ (.inl z)⟩
  refine PySem.W.kla_callFunE hr.depth hf rfl S.co S.gen rfl hc ?_
  rw [hb _ _ _ us (by rw [← r.length]; exact hl)]
  refine wpAny_pure (wpAny_newFunctionEnv_cells S.kind hkind fun env he s1 x => ?_)
  subst he
  refine ⟨lim.keeps x.toInCall.keep, ?_⟩
  obtain ⟨t, ht, hq⟩ := hbody (hr.deeper _)
  have I : Inv (cxOf CX P w K mg base N q scope f (.ref c') A outer s H E) [] (L2.start N vs) H s1 := inv_start S hr.hd e0 hl r x
  refine PySem.W.kla_codeExpr (wpAny_mono (ht.run [] s1 _ H Q I hq) (fun v s' hs => ?_) fun e s' hs => hs)
  obtain ⟨w', H', J, rv, q2⟩ := hs
  exact ⟨w', H', J.os, J.bare, J.base, J.hok, rv, q2⟩
/-- x(es), x a local that holds a lambda of the table -/
def tLook (tab : Nat → LamD) (n pl : Nat) (i : Nat) (N : List Str) (ta : TA) (tb : Nat → XK → TE) (E : L2.St → XK) : TE := fun σ H Q => ∃ k f c' q, k < n ∧ σ[i]? = some (some (.ref f)) ∧ H f = some (LamO f q (tab k).ps (tab k).body (tab k).scope [] c') ∧
  ta σ H fun vs H1 => H1 f = some (LamO f q (tab k).ps (tab k).body (tab k).scope [] c') ∧ H1 c' = some (CodeO c' q) ∧ vs.length = pl ∧ tb k (E σ) (L2.start N vs) H1 Q
/-- what the text must say of the lambdas -/
structure LamT (tab : Nat → LamD) (n : Nat) (N ps : List Str) : Prop where
  sc : ∀ k, k < n → FnScope N ps (tab k).scope
  bd : ∀ k, k < n → ∀ (q : Str) (pm cv ctv : Value) (us : List Value), us.length = ps.length → bindArgs (PySem.W.kla_fn "<lambda>" q (tab k).ps (tab k).body (tab k).scope [] pm cv ctv) ⟨us, []⟩ = pure (ps.zip us)
theorem pe_look {tab : Nat → LamD} {n i : Nat} {Ng ps : List Str} {ta : TA} {tb : Nat → XK → TE} (LT : LamT tab n Ng ps) (hr : Room (k + 1) X.A) (ha : PA X (e :: es) ta) (hx : ∀ σ, PassesAt (L2.CX X.prog X.w) X σ (E σ))
    (hbody : ∀ j, j < n → ∀ (q : Str) (A : Around) (outer : List Env) (s : Shared) (H : Hp) (Ex : XK) (f : Addr) (c' : Addr), Room k (A.deeper (envOfC q (tab j).scope s.heap.objs.size f (.ref c'))) → PE (cxOf (L2.CX X.prog X.w) X.prog X.w X.K X.mg X.base Ng q (tab j).scope f (.ref c') A outer s H Ex) (tab j).body (tb j Ex))
    (hN : X.N[i]? = some x) (hv : Vis X.env.scope x) (hd : (x == ("__debug__" : Str)) = false) (hcd : (x == ("__classdict__" : Str)) = false)
    (he : starEach (e :: es) X.env = (false, eval e X.env) :: starEach es X.env) (hpl : (backTo pos (starEach es X.env)).any (·.1) = false) :
    PE X (.Call (.Name x p) (e :: es) [] pos) (tLook tab n ps.length i Ng ta tb E) := ⟨fun pins s0 σ H Q I hw => by
  obtain ⟨j, f, c', q, hj, hs, hf, hw⟩ := hw
  refine wpAny_Call_Name_kw (thn ((pe_var (pos := p) (i := i) hN hv hd hcd).run pins s0 σ H (fun v H1 => v = .ref f ∧ H1 = H) I ⟨.ref f, hs, rfl, rfl⟩) fun u s1 hu => ?_)
  obtain ⟨v, H0, I1, r1, rfl, rfl⟩ := hu
  obtain rfl : u = Value.ref f := r1
  obtain ⟨pm, ctv, of1⟩ := lamO_at I1.hok hf
  refine PySem.W.callWith_F ⟨_, _, _, _, of1⟩ (thn (ha.run pos pins s1 σ _ _ I1 hw) fun us s2 hh => ?_) he hpl
  obtain ⟨vs, H2, I2, r2, hf2, hc2, hl, q2⟩ := hh
  obtain ⟨pm2, ctv2, of2⟩ := lamO_at I2.hok hf2
  refine ⟨⟨_, _, _, _, of2⟩, ?_⟩
  obtain ⟨⟨oc, ws, t, hoc, hdc, hvc⟩, _, _⟩ := I2.hok c' _ hc2
  show wpAny _ _ (call (.ref f) us) _ _ _
  refine wpAny_call (codeAny_mono (runLam (LT.sc j hj) hr I2.env0 of2 ⟨c', oc, ws, t, rfl, hoc, hdc, hvc⟩ (fun pm cv ctv us => LT.bd j hj q pm cv ctv us) r2 hl fun hr2 => ⟨_, hbody j hj q _ _ _ _ _ _ _ hr2, q2⟩) fun r s' hq => ?_)
  cases r with
  | error e => exact hx σ pins H2 s2 e s' I2 hq
  | ok fl =>
    cases fl with
    | ret u => exact I2.after hq
    | _ => exact hq.elim⟩
end
end Dy

set_option Elab.async false
set_option linter.all false
set_option maxRecDepth 100000
set_option maxHeartbeats 4000000
/-! x(e), x a local that holds a lambda of the table: on data -/
namespace Dy
open PySem PySem.Spec L2 LamX
open PyProof.Rows (envOfC)
variable {W : Wx} {c : Cn} {T : Tm} {σ : L2.St} {H G : Hp} {S : List LV} {E : L2.St → XK}
def imA (d : D) : AV := .im d none
theorem args_im : ∀ {ds : List D} {vs : List V}, RepL W G ds vs → ArgsOk W G σ (ds.map imA) vs
  | [], _, h => by rw [RepL] at h; exact h
  | d :: ds, _, h => by
    rw [RepL] at h
    obtain ⟨v, r, e, q, t⟩ := h
    exact ⟨v, r, e, q, tok_none, args_im t⟩
theorem pars_im : ∀ {ds : List D}, parsOf S (ds.map imA) = some (ds.map fun d => .im d true)
  | [] => rfl
  | d :: ds => by
    show (match parOf S (imA d), parsOf S (ds.map imA) with
      | some x, some y => some (x :: y)
      | _, _ => none) = _
    rw [pars_im] <;> rfl
theorem own_im : ∀ {ds : List D}, (ds.map imA).filterMap ownAt = []
  | [] => rfl
  | d :: ds => by
    show ((imA d) :: ds.map imA).filterMap ownAt = []
    rw [List.filterMap_cons_none rfl]
    exact own_im
theorem back_im {S2 : List LV} : ∀ {ds : List D} {i : Nat}, back S2 (ds.map imA) i S = some S
  | [], _ => rfl
  | d :: ds, i => by
    show back S2 (ds.map imA) (i + 1) S = some S
    exact back_im
def mLook (i n pl nN : Nat) (mL : Nat → MF) (ma : MF) : MF := fun S => match S[i]? with
  | some (.im (.fn k []) _) => if k < n then (ma S).bind fun ds S1 => (match mL k (ds.map (fun d => .im d true) ++ List.replicate (nN - ds.length) .no) with
    | .ok rs _ => if ds.length = pl then .ok rs S1 else .stuck
    | _ => .stuck) else .stuck
  | _ => .stuck
theorem ef_look {tab : Nat → LamD} {n pl i : Nat} {Ng : List Str} {ta : TA} {tb : Nat → XK → TE} {mL : Nat → MF} {ma : MF} (hΦ : ∀ k cl G v, W.Φ k cl G v ↔ LamV tab k cl G v) (ha : AI W E ta ma) (hL : ∀ k, k < n → ∀ Ex : XK, EF W (fun _ => Ex) (tb k Ex) (mL k)) : EF W E (tLook tab n pl i Ng ta tb E) (mLook i n pl Ng.length mL ma) := fun c T σ H G S Q I hq => by
  unfold mLook at hq
  split at hq
  · rename_i k o e
    split at hq
    · rename_i hk
      obtain ⟨v, e1, r, _⟩ := I.im _ _ _ e
      rw [Rep] at r
      obtain ⟨f, c', q, rfl, gf, gc⟩ := (hΦ _ _ _ _).mp r
      have at_ : ∀ {H' G' : Hp}, GLe G G' → Le G' H' → H' f = some (LamO f q (tab k).ps (tab k).body (tab k).scope [] c') ∧ H' c' = some (CodeO c' q) := fun {H' G'} g l => by
        refine ⟨?_, ?_⟩
        · rcases l _ _ (g _ _ gf) with z | ⟨_, _, z, _⟩
          · exact z
          · unfold LamO at z; cases z
        · rcases l _ _ (g _ _ gc) with z | ⟨_, _, z, _⟩
          · exact z
          · unfold CodeO at z; cases z
      refine ⟨k, f, c', q, hk, e1, (at_ GLe.rfl I.le).1, ha c T σ H G S _ I (hq.bind fun ds S1 _ h1 vs H1 G1 g1 I1 r1 => ?_)⟩
      split at h1
      · rename_i rs S2 em
        split at h1
        · rename_i hl
          obtain ⟨z1, z2⟩ := at_ g1 I1.le
          refine ⟨z1, z2, by rw [r1.length]; exact hl, ?_⟩
          have nd : ((ds.map imA).filterMap ownAt).Nodup := by rw [own_im]; exact List.nodup_nil
          have ao : ArgsOk W G1 σ (ds.map imA) vs := args_im r1
          have J := call_enter (nN := Ng.length) I1 ao pars_im nd
          rw [List.length_map] at J
          refine hL k hk (E σ) _ [] _ H1 G1 _ Q J ?_
          rw [em]
          exact fun a ws H2 G2 g2 J2 rr => h1 a ws H2 G2 (g1.trans g2) (call_exit I1 ao pars_im nd J2 back_im) rr
        · exact (h1 : False).elim
      · exact (h1 : False).elim
    · exact (hq : False).elim
  · exact (hq : False).elim
section
variable {s : Sx} {X : Cx} {N : List Str} {sc : Scope} {fn : Str → Bool} {k : Nat} {E : L2.St → XK} {pos p : Pos} {e : Expr} {es : List Expr} {x : Str} {ma : MF}
theorem uni_F {C : Cx → Prop} {E' : L2.St → XK} {m : MF} (h : ∀ Y, C Y → DF s E' Y e m) : ∃ t, (∀ Y, C Y → PE Y e t) ∧ EF s.W E' t m :=
  ⟨fun σ H Q => ∀ Y (hc : C Y), (h Y hc).choose σ H Q, fun Y hc => ⟨fun pins s0 σ H Q I q => (h Y hc).choose_spec.1.run pins s0 σ H Q I (q Y hc)⟩, fun c T σ H G S Q I q Y hc => (h Y hc).choose_spec.2 c T σ H G S Q I q⟩
theorem df_look (h : Ct s X N sc fn (k + 1) E) {tab : Nat → LamD} {n : Nat} {Ng ps : List Str} {mL : Nat → MF} (hΦ : ∀ k cl G v, s.W.Φ k cl G v ↔ LamV tab k cl G v) (LT : LamT tab n Ng ps) (hL : ∀ j, j < n → ∀ Y Ex, Ct s Y Ng (tab j).scope (fun _ => true) k (fun _ => Ex) → DF s (fun _ => Ex) Y (tab j).body (mL j)) (i : Nat) (ha : DI s E X (e :: es) ma)
    (hi : N[i]? = some x := by rfl) (hv : visB sc x = true := by decide +kernel) (hd : (x == ("__debug__" : Str)) = false := by decide +kernel) (hcd : (x == ("__classdict__" : Str)) = false := by decide +kernel)
    (he : starEach (e :: es) X.env = (false, eval e X.env) :: starEach es X.env := by rfl) (hpl : (backTo pos (starEach es X.env)).any (·.1) = false := by rfl) : DF s E X (.Call (.Name x p) (e :: es) [] pos) (mLook i n ps.length Ng.length mL ma) := by
  obtain ⟨ta, pa, qa⟩ := ha
  have U : ∀ j Ex, ∃ t, (∀ Y, (j < n ∧ Ct s Y Ng (tab j).scope (fun _ => true) k (fun _ => Ex)) → PE Y (tab j).body t) ∧ (j < n → EF s.W (fun _ => Ex) t (mL j)) := fun j Ex => by
    by_cases hj : j < n
    · obtain ⟨t, h1, h2⟩ := uni_F (e := (tab j).body) (m := mL j) (E' := fun _ => Ex) (C := fun Y => Ct s Y Ng (tab j).scope (fun _ => true) k (fun _ => Ex)) fun Y hY => hL j hj Y Ex hY
      exact ⟨t, fun Y hY => h1 Y hY.2, fun _ => h2⟩
    · exact ⟨fun _ _ _ => True, fun Y hY => absurd hY.1 hj, fun z => absurd z hj⟩
  refine ⟨_, pe_look (tb := fun j Ex => (U j Ex).choose) (k := k) LT h.room pa h.pass (fun j hj q A outer s0 H Ex f c' hr => (U j Ex).choose_spec.1 _ ⟨hj, ?_⟩) (h.at_ hi) (h.vis hv) hd hcd he hpl, ef_look hΦ qa fun j hj Ex => (U j Ex).choose_spec.2 hj⟩
  exact ⟨h.prog, h.w, h.K, h.mg, h.base, rfl, (LT.sc j hj).nd, rfl, rfl, hr, rfl, takes_of rfl rfl rfl rfl, passes_of rfl⟩
end
end Dy

set_option Elab.async false
set_option linter.all false
set_option maxRecDepth 100000
set_option maxHeartbeats 4000000
/-! isinstance(e, C), e an own exception as a value -/
namespace Dy
open PySem PySem.Spec PySem.Calls PyProof.Rows PySem.W
section
variable {prog : Program} {w : World} {A : Around} {E : Value → Shared → Prop} {s : Shared} {K : Frag} {x D : Addr} {ox : Obj} {od : Option Obj}
theorem found_class (hc : (clsIn K D).isSome = true) (ha : findIn K (.ref D) "__class__" = some (some (.builtin "object.__class__"))) (hg : specialIn K (.builtin "object.__class__") "__get__" = some (some (.builtin "getset_descriptor.__get__"))) (ht : takesIn K (.builtin "object.__class__") = some true) :
    findObj K D od "__class__" = some (.bind (.builtin "getset_descriptor.__get__") (.builtin "object.__class__")) := by
  obtain ⟨cd, hcd⟩ := Option.isSome_iff_exists.mp hc
  unfold findObj
  rw [hcd, Option.bind_some, ha, Option.bind_some]
  simp [hg, ht]
theorem class_ask {Q : Option Value → Shared → Prop} (T : L2.ExcC K D) (X : K.In s.heap) (I : InstAt s.heap x ox D od) (h : Q (some (.ref D)) { s with toks := s.toks + 1 }) : wpAny (model prog w) A (getAttr? (.ref x) "__class__") Q E s := by
  have hf := found_class (od := od) (by obtain ⟨cd, hc, _⟩ := any_some T.hd; rw [hc]; rfl) T.ha T.hn T.ht
  obtain ⟨hp, g, d, t, os⟩ := s
  have Lt := I.type (M := model prog w)
  have Lg := looks_findIn (M := model prog w) X T.hg
  have La := looks_findIn (M := model prog w) X T.hk
  have Lf := looks_find (M := model prog w) X I hf
  have Ls : Looks (model prog w) hp (isInstance (.ref x) (.type "BaseException")) true := Lt.andThen (looks_subIn X T.hs)
  have n2 : (Value.builtin "BaseException.__getattribute__" == Value.builtin "object.__getattribute__") = false := by decide +kernel
  have n1 : (onTheHeap (Value.ref D) && Value.builtin "BaseException.__getattribute__" == Value.builtin "object.__getattribute__") = false := by rw [n2]; rfl
  have n0 : (false && onTheHeap (Value.builtin "BaseException.__getattribute__")) = false := rfl
  unfold getAttr? getAttrBy? getAttrBy
  refine wpAny_bind (wpAny_mkText (wpAny_bind (wpAny_attempt (wpAny_holding (wpAny_bind (Lt.at (wpAny_bind (Lg.at ?_))))))))
  show wpAny _ _ (if (onTheHeap (Value.ref D) && Value.builtin "BaseException.__getattribute__" == Value.builtin "object.__getattribute__") = true then _ else _) _ _ _
  rw [n1, if_neg Bool.false_ne_true]
  unfold getAttrByItsOwn hookBefore
  refine wpAny_bind ?_
  rw [if_pos (show onTheHeap (Value.ref D) = true from rfl)]
  refine La.at ?_
  refine wpAny_bind (wpAny_attempt (wpAny_holding ?_))
  unfold callGetattribute
  rw [n0, if_neg Bool.false_ne_true]
  unfold boundAndCalled
  rw [PySem.F.excAttr_ValueError.ga.bind (.ref x)]
  refine wpAny_bind (wpAny_pure ?_)
  show wpAny _ _ (call (.builtin "BaseException.__getattribute__") [.ref x, .str "__class__" t]) _ _ _
  refine wpAny_call (codeAny_call_builtin PySem.F.excAttr_ValueError.ga.plain PySem.F.entry_bexc_ga ?_)
  refine @check_slot (model prog w) _ _ ⟨hp, g, d, t + 1, os⟩ "BaseException.__getattribute__" "BaseException" "__getattribute__" (.ref x) [.str "__class__" t] [] _ (by decide +kernel) (by decide +kernel) Ls (PySem.F.args_bexc_ga (.ref x) (.str "__class__" t)) ?_
  unfold Builtin.«object.__getattribute__»
  refine wpAny_bind (wpAny_of_eq (a := ((Value.ref x : Value), [Value.str "__class__" t])) (by first | rfl | (simp only [slotArgs]; rfl)) ?_)
  refine wpAny_bind (wpAny_pure (wpAny_bind (Lt.at (wpAny_bind (Lf.at ?_)))))
  show wpAny _ _ (holding [Value.builtin "object.__class__"] (call (.builtin "getset_descriptor.__get__") [.builtin "object.__class__", .ref x, .ref D]) >>= ret) _ _ _
  refine wpAny_bind (wpAny_holding (wpAny_call (class_get (s := ⟨hp, g, d, t + 1, os⟩) (ox := ox) (od := od) X I T.hm ?_)))
  refine wpAny_pure ?_
  show wpAny _ _ (handedOut (.ref D)) _ _ _
  rw [handedOut_of (v := .ref D) rfl]
  first
    | exact wpAny_pure (wpAny_pure h)
    | exact wpAny_pure h
    | exact wpAny_pure (wpAny_bind (wpAny_pure (wpAny_pure h)))
theorem kit_exo (T : L2.ExcC K D) : KitX K (.ref x) (.ref D) (fun h => ∃ ox od, InstAt h x ox D od) where
  ty := fun _ _ _ I => by
    obtain ⟨_, _, I⟩ := I
    exact I.type
  it := fun _ _ X _ => by
    obtain ⟨cdD, hcD, _⟩ := any_some T.hd
    unfold clsIn at hcD
    split at hcD
    · rename_i c2 d2 cd2 sl2 ho
      intro A2 Q2 E2 s2 k q
      unfold isType loadHead
      exact wpAny_bind (wpAny_loadPart (k _ _ (X _ _ ho)) (wpAny_pure q))
    · cases hcD
  ne := fun h tp dd its n sl X htp => by
    obtain ⟨cdD, hcD, _⟩ := any_some T.hd
    refine Bool.eq_false_iff.mpr fun q => ?_
    have e : D = tp := Value.ref.inj (beq_iff_eq.mp q)
    subst e
    unfold clsIn at hcD
    split at hcD
    · rename_i c2 d2 cd2 sl2 ho
      have z := (X _ _ ho).symm.trans htp
      cases z
    · cases hcD
  ca := fun X I k => by
    obtain ⟨_, _, I⟩ := I
    exact class_ask T X I k
end
end Dy
namespace Dy
open PySem PySem.Spec L2
/-- isinstance(e, c), e a tracked own exception -/
def rIsO (K : PySem.W.Frag) : List V → Hp → VK → Prop := fun xs H Q => ∃ (a D : Addr) (od : Option Addr) (fs : List (Str × V)) (c : V) (cv : Value) (b : Bool), xs = [.ref a, c] ∧ H a = some (exo a D od) ∧ (∀ dd, od = some dd → H dd = some (.xd fs)) ∧ ExcC K D ∧ (∀ u, RelV c u → u = cv) ∧ PySem.W.kitOne K (.ref D) cv = some b ∧ Q (.bl b) H
/-- the object of a tracked exception -/
theorem exo_inst {X : Cx} {pins : List (Addr × Obj)} {σ : L2.St} {H : Hp} {s : Shared} {a D : Addr} {od : Option Addr} {fs : List (Str × V)} (I : Inv X pins σ H s) (e : H a = some (exo a D od)) (hd : ∀ dd, od = some dd → H dd = some (.xd fs)) : ∃ ox oo, PySem.W.InstAt s.heap a ox D oo := by
  obtain ⟨t1, h1⟩ := exo_at I.hok e
  cases od with
  | none => exact ⟨_, none, h1, rfl, rfl, trivial⟩
  | some dd =>
    have hx : ObjOk X.prog X.w H s.heap dd (.xd fs) := I.hok dd _ (hd dd rfl)
    obtain ⟨mA, hns, hr⟩ := hx
    obtain ⟨oo, ho, hl⟩ := lookIn_ns hns
    exact ⟨_, some oo, h1, rfl, rfl, ho⟩
theorem call_isO {X : Cx} : CallR X (.builtin "isinstance") (rIsO X.K) := by
  intro pins s σ H xs us Q I r h
  obtain ⟨a, D, od, fs, c, cv, b, rfl, e, hd, C, hcv, ek, q⟩ := h
  obtain ⟨u1, u2, rfl, r1, r2⟩ := vals2 r
  cases (show u1 = Value.ref a from r1)
  have ec := hcv _ r2
  subst ec
  exact PySem.W.kia_one (kit_exo C) I.kIn (exo_inst I e hd) ek (fun z => nomatch z) fun tk => ⟨.bl b, H, I.tok tk, rfl, q⟩
end Dy

set_option Elab.async false
set_option linter.all false
set_option maxRecDepth 100000
set_option maxHeartbeats 4000000
/-! isinstance(e, C), e.f on data -/
namespace Dy
open PySem PySem.Spec L2
/-- what the written part says of the own exceptions xs, their fields, the classes ys that are asked for -/
structure Ef (s : Sx) (xs : List Str) (xf : List (Str × Str)) (ys : List Str) (rel : Str → Str → Bool) : Prop where
  exc : ∀ x ∈ xs, ∀ C : Addr, s.W.mg x = some (.ref C) → ExcC s.W.K C
  fld : ∀ x f, (x, f) ∈ xf → x ∈ xs ∧ ∀ C : Addr, s.W.mg x = some (.ref C) → PySem.W.findIn s.W.K (.ref C) f = some none
  cls : ∀ y ∈ ys, ∃ D : Addr, s.W.mg y = some (.ref D)
  kit : ∀ x ∈ xs, ∀ y ∈ ys, ∀ A B : Addr, s.W.mg x = some (.ref A) → s.W.mg y = some (.ref B) → PySem.W.kitOne s.W.K (.ref A) (.ref B) = some (rel x y)
  ve : ∀ x ∈ xs, ∀ A : Addr, s.W.mg x = some (.ref A) → PySem.W.kitOne s.W.K (.ref A) (.type "ValueError") = some true
section
variable {W : Wx} {E : L2.St → XK}
/-- a name is in the list, by computation -/
def memS (x : Str) (xs : List Str) : Bool := xs.any fun y => y == x
theorem memS_mem {x : Str} {xs : List Str} (h : memS x xs = true) : x ∈ xs := by
  obtain ⟨y, hy, e⟩ := List.any_eq_true.mp h
  have e2 : y = x := by simpa using e
  rw [← e2]; exact hy
def mIsE (xs : List Str) (rel : Str → Bool) (me : ME) : ME := fun S => (me S).bind fun d S1 => match d.1 with
  | .exc x _ _ => if memS x xs then .ok (.bl (rel x), none) S1 else .stuck
  | _ => .stuck
theorem er_isE {te : TE} {me : ME} {xs : List Str} {rel : Str → Bool} {v : V} {cv : Value} (hv : ∀ u, RelV v u → u = cv) (he : ∀ x ∈ xs, ∀ C : Addr, W.mg x = some (.ref C) → ExcC W.K C ∧ PySem.W.kitOne W.K (.ref C) cv = some (rel x)) (h : ER W E te me) :
    ER W E (tCB (rIsO W.K) (tCons te (tCons (tC v) tNil))) (mIsE xs rel me) := fun c T σ H G S Q I hq => by
  refine h c T σ H G S _ I (hq.bind fun d S1 _ h1 u H1 G1 g1 I1 r1 t1 => ?_)
  split at h1
  · rename_i x fs ds ed
    split at h1
    · rename_i hm
      rw [ed, Rep] at r1
      obtain ⟨a, C, od, vs, rfl, hC, ga, gd, no, rl⟩ := r1
      obtain ⟨z1, z2⟩ := he x (memS_mem hm) C hC
      have at_ : ∀ {b o}, G1 b = some o → (∀ kvs, o ≠ .dK kvs) → H1 b = some o := fun {b o} e n => by
        rcases I1.le _ _ e with z | ⟨_, kvs, z, _⟩
        · exact z
        · exact absurd z (n kvs)
      exact ⟨a, C, od, fs.zip vs, v, cv, rel x, rfl, at_ ga (fun kvs z => by unfold exo at z; cases z), fun dd e => at_ (gd dd e) (fun kvs z => by cases z), z1, hv, z2, h1 (.bl (rel x)) H1 G1 g1 I1 (by simp) tok_none⟩
    · exact (h1 : False).elim
  · exact (h1 : False).elim
/-! ### a field -/
def tXfO (K : PySem.W.Frag) (f : Str) (te : TE) : TE := fun σ H Q => te σ H fun x H1 => ∃ (a C dd : Addr) (fs : List (Str × V)) (v : V), x = .ref a ∧ H1 a = some (exo a C (some dd)) ∧ H1 dd = some (.xd fs) ∧ ExcC K C ∧ PySem.W.findIn K (.ref C) f = some none ∧ fs.lookup f = some v ∧ Q v H1
theorem pe_xfO {X : Cx} {e : Expr} {te : TE} {pos : Pos} {f : Str} (he : PE X e te) (hb : attributeBase e f X.env (eval e X.env) = eval e X.env) : PE X (.Attribute e f pos) (tXfO X.K f te) := by
  refine ⟨fun pins s σ H Q I h => ?_⟩
  refine attr_of hb (thn (he.run pins s σ H _ I h) fun u s1 hh => ?_)
  obtain ⟨x, H1, I1, rx, a, C, dd, fs, v, rfl, ha, hd, T, hno, hl, q⟩ := hh
  obtain rfl : u = Value.ref a := rx
  obtain ⟨t1, h1⟩ := exo_at I1.hok ha
  have hx : ObjOk X.prog X.w H1 s1.heap dd (.xd fs) := I1.hok dd _ hd
  obtain ⟨mA, hns, hr⟩ := hx
  obtain ⟨oo, ho, lo⟩ := lookIn_ns hns
  obtain ⟨u, hu, ru⟩ := RelO.some_of (v := v) (o := mA f) (by rw [← hl]; exact hr f)
  have J : PySem.W.InstAt s1.heap a _ C (some oo) := ⟨h1, rfl, rfl, ho⟩
  exact HandSPX.exc_get I1.kIn J T.hg T.hk T.hs (PySem.W.findObj_own T.hd hno rfl (by rw [lo, hu])) (handed_of ru) ⟨v, H1, I1.tok _, ru, q⟩
def memP (x f : Str) (xf : List (Str × Str)) : Bool := xf.any fun y => y.1 == x && y.2 == f
theorem memP_mem {x f : Str} {xf : List (Str × Str)} (h : memP x f xf = true) : (x, f) ∈ xf := by
  obtain ⟨⟨y, g⟩, hy, e⟩ := List.any_eq_true.mp h
  have e2 : y = x ∧ g = f := by simpa using e
  rw [← e2.1, ← e2.2]; exact hy
def mFld (xf : List (Str × Str)) (f : Str) (me : ME) : ME := fun S => (me S).bind fun d S1 => match d.1 with
  | .exc x fs ds => if memP x f xf then (match (fs.zip ds).lookup f with
    | some d => .ok (d, none) S1
    | none => .stuck) else .stuck
  | _ => .stuck
theorem zip_look {G : Hp} {f : Str} {d : D} : ∀ {fs : List Str} {ds : List D} {vs : List V}, RepL W G ds vs → (fs.zip ds).lookup f = some d → ∃ v, (fs.zip vs).lookup f = some v ∧ Rep W G d v
  | [], _, _, _, e => by simp at e
  | _ :: _, [], _, _, e => by simp at e
  | g :: fs, d0 :: ds, _, h, e => by
    rw [RepL] at h
    obtain ⟨v, r, rfl, q, t⟩ := h
    rw [List.zip_cons_cons, List.lookup_cons] at e ⊢
    cases z : f == g with
    | true => rw [z] at e; cases e; exact ⟨v, rfl, q⟩
    | false => rw [z] at e; exact zip_look t e
theorem er_fld {te : TE} {me : ME} {xf : List (Str × Str)} {f : Str} (he : ∀ x f, (x, f) ∈ xf → ∀ C : Addr, W.mg x = some (.ref C) → ExcC W.K C ∧ PySem.W.findIn W.K (.ref C) f = some none) (h : ER W E te me) : ER W E (tXfO W.K f te) (mFld xf f me) := fun c T σ H G S Q I hq => by
  refine h c T σ H G S _ I (hq.bind fun d S1 _ h1 u H1 G1 g1 I1 r1 t1 => ?_)
  split at h1
  · rename_i x fs ds ed
    split at h1
    · rename_i hm
      split at h1
      · rename_i d0 el
        rw [ed, Rep] at r1
        obtain ⟨a, C, od, vs, rfl, hC, ga, gd, no, rl⟩ := r1
        obtain ⟨z1, z2⟩ := he x f (memP_mem hm) C hC
        have at_ : ∀ {b o}, G1 b = some o → (∀ kvs, o ≠ .dK kvs) → H1 b = some o := fun {b o} e n => by
          rcases I1.le _ _ e with z | ⟨_, kvs, z, _⟩
          · exact z
          · exact absurd z (n kvs)
        obtain ⟨v, hl, rv⟩ := zip_look rl el
        cases od with
        | none =>
          rw [no rfl] at el
          simp at el
        | some dd =>
          exact ⟨a, C, dd, fs.zip vs, v, rfl, at_ ga (fun kvs z => by unfold exo at z; cases z), at_ (gd dd rfl) (fun kvs z => by cases z), z1, z2, hl, h1 v H1 G1 g1 I1 rv tok_none⟩
      · exact (h1 : False).elim
    · exact (h1 : False).elim
  · exact (h1 : False).elim
end
section
variable {s : Sx} {X : Cx} {N : List Str} {sc : Scope} {fn : Str → Bool} {k : Nat} {E : L2.St → XK} {pos p p2 : Pos} {e : Expr} {x y f : Str} {me : ME} {xs ys : List Str} {xf : List (Str × Str)} {rel : Str → Str → Bool}
theorem de_isE (h : Ct s X N sc fn k E) (F : Ef s xs xf ys rel) (hm : s.W.mg "isinstance" = none) (he : DE s E X e me) (hy : y ∈ ys) (hg0 : glB sc "isinstance" = true := by decide +kernel) (hg : glB sc y = true := by decide +kernel) (hd : (y == ("__debug__" : Str)) = false := by decide +kernel)
    (hs : starEach [e, .Name y p2] X.env = (false, eval e X.env) :: starEach [.Name y p2] X.env := by rfl) (hs2 : starEach [.Name y p2] X.env = (false, eval (.Name y p2) X.env) :: starEach [] X.env := by rfl) (hpl : (backTo pos (starEach [.Name y p2] X.env)).any (·.1) = false := by rfl) :
    DE s E X (.Call (.Name "isinstance" p) [e, .Name y p2] [] pos) (mIsE xs (fun x => rel x y) me) := by
  obtain ⟨te, pe, q⟩ := he
  obtain ⟨D, hD⟩ := F.cls y hy
  refine ⟨_, pe_callB call_isO (h.gl hg0) (h.none hm) PyProof.Rows.boot_isinstance (pa_cons pe (pa_cons (pe_glob (v := .ref D) (h.gl hg) (by rw [h.mg]; exact hD) rfl hd) pa_nil hs2) hs) (by decide) (by decide) hs hpl, ?_⟩
  rw [h.K]
  exact er_isE (cv := .ref D) (fun u r => r) (fun x hx C hC => ⟨F.exc x hx C hC, F.kit x hx y hy C D hC hD⟩) q
theorem de_isEV (h : Ct s X N sc fn k E) (F : Ef s xs xf ys rel) (hm : s.W.mg "isinstance" = none) (hmt : s.W.mg "ValueError" = none) (hv : bootBuiltins "ValueError" = some (.type "ValueError")) (he : DE s E X e me) (hg0 : glB sc "isinstance" = true := by decide +kernel) (hg : glB sc "ValueError" = true := by decide +kernel)
    (hs : starEach [e, .Name "ValueError" p2] X.env = (false, eval e X.env) :: starEach [.Name "ValueError" p2] X.env := by rfl) (hs2 : starEach [.Name "ValueError" p2] X.env = (false, eval (.Name "ValueError" p2) X.env) :: starEach [] X.env := by rfl) (hpl : (backTo pos (starEach [.Name "ValueError" p2] X.env)).any (·.1) = false := by rfl) :
    DE s E X (.Call (.Name "isinstance" p) [e, .Name "ValueError" p2] [] pos) (mIsE xs (fun _ => true) me) := by
  obtain ⟨te, pe, q⟩ := he
  refine ⟨_, pe_callB call_isO (h.gl hg0) (h.none hm) PyProof.Rows.boot_isinstance (pa_cons pe (pa_cons (pe_bltn (v := .ty "ValueError") (h.gl hg) (h.none hmt) hv rfl) pa_nil hs2) hs) (by decide) (by decide) hs hpl, ?_⟩
  rw [h.K]
  exact er_isE (cv := .type "ValueError") (fun u r => r) (fun x hx C hC => ⟨F.exc x hx C hC, F.ve x hx C hC⟩) q
theorem de_fld (h : Ct s X N sc fn k E) (F : Ef s xs xf ys rel) (he : DE s E X e me) (hb : attributeBase e f X.env (eval e X.env) = eval e X.env := by rfl) : DE s E X (.Attribute e f pos) (mFld xf f me) := by
  obtain ⟨te, pe, q⟩ := he
  refine ⟨_, pe_xfO pe hb, ?_⟩
  rw [h.K]
  exact er_fld (fun x f hx C hC => ⟨F.exc x (F.fld x f hx).1 C hC, (F.fld x f hx).2 C hC⟩) q
end
end Dy

set_option Elab.async false
set_option linter.all false
set_option maxRecDepth 100000
set_option maxHeartbeats 4000000
/-! dict(pairs) -/
namespace Dy
open PySem PySem.Spec L2
variable {W : Wx} {c : Cn} {T : Tm} {σ : L2.St} {H G : Hp} {S : List LV} {E : L2.St → XK}
def KR (W : Wx) (G : Hp) : List (Key × D) → List (Key × V) → Prop
  | [], kvs => kvs = []
  | (k, d) :: r, kvs => ∃ v q, kvs = (k, v) :: q ∧ Rep W G d v ∧ KR W G r q
def putD (kds : List (Key × D)) (k : Key) (d : D) : List (Key × D) := if (kds.any fun kd => decide (kd.1 = k)) = true then kds.map (fun kd => if kd.1 = k then (kd.1, d) else kd) else kds ++ [(k, d)]
def mergeD (kds more : List (Key × D)) : List (Key × D) := more.foldl (fun acc kd => putD acc kd.1 kd.2) kds
theorem KR.any {k : Key} : ∀ {kds : List (Key × D)} {kvs : List (Key × V)}, KR W G kds kvs → (kvs.any fun kv => decide (kv.1 = k)) = (kds.any fun kd => decide (kd.1 = k))
  | [], _, h => by rw [KR] at h; rw [h]; rfl
  | (k2, d) :: r, _, h => by
    rw [KR] at h
    obtain ⟨v, q, rfl, _, t⟩ := h
    rw [List.any_cons, List.any_cons, KR.any t]
theorem KR.map {k : Key} {d : D} {v : V} (rv : Rep W G d v) : ∀ {kds : List (Key × D)} {kvs : List (Key × V)}, KR W G kds kvs → KR W G (kds.map fun kd => if kd.1 = k then (kd.1, d) else kd) (kvs.map fun kv => if kv.1 = k then (kv.1, v) else kv)
  | [], _, h => by rw [KR] at h; rw [h]; rfl
  | (k2, d2) :: r, _, h => by
    rw [KR] at h
    obtain ⟨v2, q, rfl, h1, t⟩ := h
    rw [List.map_cons, List.map_cons]
    by_cases e : k2 = k
    · rw [if_pos e, if_pos e]; exact ⟨v, _, rfl, rv, KR.map rv t⟩
    · rw [if_neg e, if_neg e]; exact ⟨v2, _, rfl, h1, KR.map rv t⟩
theorem KR.snoc {k : Key} {d : D} {v : V} (rv : Rep W G d v) : ∀ {kds : List (Key × D)} {kvs : List (Key × V)}, KR W G kds kvs → KR W G (kds ++ [(k, d)]) (kvs ++ [(k, v)])
  | [], _, h => by rw [KR] at h; rw [h]; exact ⟨v, [], rfl, rv, rfl⟩
  | (k2, d2) :: r, _, h => by
    rw [KR] at h
    obtain ⟨v2, q, rfl, h1, t⟩ := h
    exact ⟨v2, _, rfl, h1, KR.snoc rv t⟩
theorem KR.put {k : Key} {d : D} {v : V} {kds : List (Key × D)} {kvs : List (Key × V)} (rv : Rep W G d v) (h : KR W G kds kvs) : KR W G (putD kds k d) (putK kvs k v) := by
  unfold putD putK
  rw [h.any]
  split
  · exact h.map rv
  · exact h.snoc rv
theorem KR.merge : ∀ {more : List (Key × D)} {mv : List (Key × V)} {kds : List (Key × D)} {kvs : List (Key × V)}, KR W G more mv → KR W G kds kvs → KR W G (mergeD kds more) (mergeK kvs mv)
  | [], _, _, _, h, q => by rw [KR] at h; rw [h]; exact q
  | (k, d) :: r, _, kds, kvs, h, q => by
    rw [KR] at h
    obtain ⟨v, t, rfl, h1, h2⟩ := h
    show KR W G (mergeD (putD kds k d) r) (mergeK (putK kvs k v) t)
    exact KR.merge (more := r) h2 (q.put h1)
theorem KR.out : ∀ {kds : List (Key × D)} {kvs : List (Key × V)}, KR W G kds kvs → kvs.map (·.1) = kds.map (·.1) ∧ RepL W G (kds.map (·.2)) (kvs.map (·.2))
  | [], _, h => by rw [KR] at h; rw [h]; exact ⟨rfl, RepL.nil⟩
  | (k, d) :: r, _, h => by
    rw [KR] at h
    obtain ⟨v, q, rfl, h1, t⟩ := h
    obtain ⟨z1, z2⟩ := KR.out t
    exact ⟨by rw [List.map_cons, List.map_cons, z1], RepL.cons h1 z2⟩
theorem KR.mono {G' : Hp} (g : GLe G G') : ∀ {kds : List (Key × D)} {kvs : List (Key × V)}, KR W G kds kvs → KR W G' kds kvs
  | [], _, h => h
  | (k, d) :: r, _, h => by
    obtain ⟨v, q, e, h1, t⟩ := h
    exact ⟨v, q, e, h1.mono g, KR.mono g t⟩
def pairD : D → Option (Key × D)
  | .tup [.int i, d] => some (.inl i, d)
  | .tup [.str x, d] => some (.inr x, d)
  | _ => none
def pairsD : List D → Option (List (Key × D))
  | [] => some []
  | d :: r => match pairD d, pairsD r with
    | some x, some y => some (x :: y)
    | _, _ => none
theorem pairD_ok {d : D} {v : V} {k : Key} {e : D} (h : pairD d = some (k, e)) (r : Rep W G d v) : ∃ p w, v = .ref p ∧ SqT W.K G p [kV k, w] ∧ Rep W G e w := by
  unfold pairD at h
  split at h
  · cases h
    rw [Rep] at r
    obtain ⟨a, vs, rfl, q, rl⟩ := r
    obtain ⟨v1, w, rfl, r1, r2⟩ := repL2 rl
    rw [Rep] at r1
    subst r1
    exact ⟨a, w, rfl, q, r2⟩
  · cases h
    rw [Rep] at r
    obtain ⟨a, vs, rfl, q, rl⟩ := r
    obtain ⟨v1, w, rfl, r1, r2⟩ := repL2 rl
    rw [Rep] at r1
    subst r1
    exact ⟨a, w, rfl, q, r2⟩
  · cases h
theorem pairsD_ok : ∀ {ds : List D} {vs : List V} {kds : List (Key × D)}, pairsD ds = some kds → RepL W G ds vs → ∃ ps kvs, vs = ps.map V.ref ∧ Paired (fun p (kv : Key × V) => SqT W.K G p [kV kv.1, kv.2]) ps kvs ∧ KR W G kds kvs
  | [], _, _, h, r => by
    cases h
    rw [RepL] at r
    exact ⟨[], [], r, .nil, rfl⟩
  | d :: ds, _, _, h, r => by
    unfold pairsD at h
    split at h
    · rename_i x y h1 h2
      cases h
      rw [RepL] at r
      obtain ⟨v, q, rfl, r1, r2⟩ := r
      obtain ⟨k, e⟩ := x
      obtain ⟨p, w, rfl, s1, s2⟩ := pairD_ok h1 r1
      obtain ⟨ps, kvs, rfl, z1, z2⟩ := pairsD_ok h2 r2
      exact ⟨p :: ps, (k, w) :: kvs, rfl, .cons s1 z1, w, kvs, rfl, s2, z2⟩
    · cases h
def dictD : List D → Option D
  | [.lst ds] => (pairsD ds).map fun kds => .dct ((mergeD [] kds).map (·.1)) ((mergeD [] kds).map (·.2))
  | _ => none
def rDictP (K : PySem.W.Frag) : List V → Hp → VK → Prop := fun xs H Q => ∃ (a : Addr) (ps : List Addr) (kvs : List (Key × V)), xs = [.ref a] ∧ SqL K H a (ps.map V.ref) ∧ Paired (fun p kv => SqT K H p [kV kv.1, kv.2]) ps kvs ∧ ∀ p, H p = none → Q (.ref p) (upd H p (.dK (mergeK [] kvs)))
theorem cd_dict : CallD W (rDictP W.K) dictD := by
  intro c T σ H G S vs ds d Q I r e k
  unfold dictD at e
  split at e
  · rename_i es
    cases z : pairsD es with
    | none => rw [z] at e; cases e
    | some kds =>
      rw [z] at e
      cases e
      obtain ⟨v, rfl, r1⟩ := repL1 r
      rw [Rep] at r1
      obtain ⟨a, ws, rfl, ga, rl⟩ := r1
      obtain ⟨ps, kvs, rfl, hp, kr⟩ := pairsD_ok z rl
      have hp2 : Paired (fun p (kv : Key × V) => SqT W.K H p [kV kv.1, kv.2]) ps kvs := by
        clear z r rl ga kr k
        induction hp with
        | nil => exact .nil
        | cons h t ih => exact .cons (leT I.le h) ih
      refine ⟨a, ps, kvs, rfl, leL I.le (SqL.of ga), hp2, fun p np => ?_⟩
      have J := I.allocI np (o := .dK (mergeK [] kvs)) (fun ps z => by cases z)
      have gu := gle_upd (o := HO.dK (mergeK [] kvs)) (I.le.none np)
      obtain ⟨k1, k2⟩ := (KR.merge (kds := []) (kvs := []) (kr.mono gu) rfl).out
      refine k (.ref p) _ _ gu J ?_
      rw [Rep]
      exact ⟨p, _, rfl, upd_same, k1, k2⟩
  · cases e
section
variable {s : Sx} {X : Cx} {N : List Str} {sc : Scope} {fn : Str → Bool} {k : Nat} {pos p : Pos} {e : Expr} {es : List Expr} {mi : MF}
theorem de_dict (h : Ct s X N sc fn k E) (hm : s.W.mg "dict" = none) (hv : bootBuiltins "dict" = some (.type "dict")) (ha : DI s E X (e :: es) mi) (hg : glB sc "dict" = true := by decide +kernel) (he : starEach (e :: es) X.env = (false, eval e X.env) :: starEach es X.env := by rfl) (hpl : (backTo pos (starEach es X.env)).any (·.1) = false := by rfl) :
    DE s E X (.Call (.Name "dict" p) (e :: es) [] pos) (mCall dictD mi) := de_callT (r := rDictP X.K) h (call_dictP h.calm) (by rw [h.K]; exact cd_dict) hm hv ha hg (by decide) (by decide +kernel) he hpl
end
end Dy

set_option Elab.async false
set_option linter.all false
set_option maxRecDepth 100000
set_option maxHeartbeats 4000000
/-! two locals are taken for the very values that they are; what comes out does not hang on them -/
namespace Dy
open PySem PySem.Spec L2
variable {W : Wx} {c : Cn} {T : Tm} {σ : L2.St} {H G : Hp} {S : List LV} {E : L2.St → XK}
/-- fewer is known of the slots -/
def Less (S S' : List LV) : Prop := S'.length = S.length ∧ ∀ (i : Nat) (x : LV), S'[i]? = some x → x = .no ∨ S[i]? = some x
theorem StOk.less {S' : List LV} (I : StOk W c T σ H G S) (l : Less S S') : StOk W c T σ H G S' := by
  have own : ∀ {i a}, Owns σ S' i a → Owns σ S i a := fun {i a} o => by
    obtain ⟨e, o⟩ := o
    refine ⟨e, ?_⟩
    rcases o with ⟨ds, p, q⟩ | ⟨ks, ds, p, q⟩
    · rcases l.2 _ _ q with z | z
      · cases z
      · exact .inl ⟨ds, p, z⟩
    · rcases l.2 _ _ q with z | z
      · cases z
      · exact .inr ⟨ks, ds, p, z⟩
  exact { I with
    im := fun i d o e => by
      rcases l.2 _ _ e with z | z
      · cases z
      · exact I.im i d o z
    ow := fun i ds p e => by
      rcases l.2 _ _ e with z | z
      · cases z
      · exact I.ow i ds p z
    od := fun i ks ds p e => by
      rcases l.2 _ _ e with z | z
      · cases z
      · exact I.od i ks ds p z
    sep := fun i j a p q => I.sep i j a (own p) (own q)
    tm := fun p hp => by
      obtain ⟨h1, h2, h3, h4, h5⟩ := I.tm p hp
      exact ⟨h1, h2, h3, fun i o => h4 i (own o), h5⟩
    len := l.1.trans I.len }
/-- only the slots of keep are told -/
def quiet (keep : Nat → Bool) (S : List LV) : List LV := S.mapIdx fun i x => if keep i then x else .no
theorem quiet_less (keep : Nat → Bool) (S : List LV) : Less S (quiet keep S) := by
  refine ⟨by unfold quiet; rw [List.length_mapIdx], fun i x e => ?_⟩
  unfold quiet at e
  rw [List.getElem?_mapIdx] at e
  cases z : S[i]? with
  | none => rw [z] at e; cases e
  | some y =>
    rw [z, Option.map_some] at e
    cases hk : keep i with
    | true => rw [hk, if_pos rfl] at e; exact .inr e
    | false =>
      rw [hk, if_neg Bool.false_ne_true] at e
      exact .inl (Option.some.inj e).symm
def fgt (keep : Nat → Bool) : SRes → SRes
  | .nx S => .nx (quiet keep S)
  | _ => .stuck
theorem fgt_ok {D : Ends} {keep : Nat → Bool} {r : SRes} (h : SPo W c T E D G (fgt keep r)) : SPo W c T E D G r := by
  cases r with
  | nx S => exact fun σ' H' G' g J => h σ' H' G' g (J.less (quiet_less keep S))
  | _ => exact (h : False).elim
/-- slot i is this very value -/
theorem StOk.pin (I : StOk W c T σ H G S) {i : Nat} {d : D} {o : Bool} (e : S[i]? = some (.im d o)) : ∃ v, StOk W c T σ H G (S.set i (.im (.is v d) false)) := by
  obtain ⟨v, e1, r, _⟩ := I.im i d o e
  have hi := lt_of_get e
  have nx : (∀ ds p, LV.im (.is v d) false ≠ .ow ds p) ∧ ∀ ks ds p, LV.im (.is v d) false ≠ .od ks ds p := ⟨fun _ _ z => (by cases z), fun _ _ _ z => (by cases z)⟩
  refine ⟨v, { I with im := fun j d2 o2 q => ?_, ow := fun j ds p q => ?_, od := fun j ks ds p q => ?_, sep := fun x y a p q => I.sep x y a (owns_set nx p).2 (owns_set nx q).2, tm := fun p hp => ?_, len := by rw [List.length_set]; exact I.len }⟩
  · by_cases hj : j = i
    · subst hj
      rw [List.getElem?_set_self hi] at q
      cases q
      exact ⟨v, e1, by rw [Rep]; exact ⟨rfl, r⟩, fun z => by cases z⟩
    · rw [get_set_ne (Ne.symm hj)] at q
      exact I.im j d2 o2 q
  · by_cases hj : j = i
    · subst hj
      rw [List.getElem?_set_self hi] at q
      cases q
    · rw [get_set_ne (Ne.symm hj)] at q
      exact I.ow j ds p q
  · by_cases hj : j = i
    · subst hj
      rw [List.getElem?_set_self hi] at q
      cases q
    · rw [get_set_ne (Ne.symm hj)] at q
      exact I.od j ks ds p q
  · obtain ⟨h1, h2, h3, h4, h5⟩ := I.tm p hp
    exact ⟨h1, h2, h3, fun i o => h4 i (owns_set nx o).2, h5⟩
open Classical in
/-- slots i and j pinned, the block m, and only the slots of keep told -/
noncomputable def mPin (i j : Nat) (keep : Nat → Bool) (m : MS) : MS := fun S => match S[i]?, S[j]? with
  | some (.im dx _), some (.im dy _) => if h : ∃ r, ∀ v u, fgt keep (m ((S.set i (.im (.is v dx) false)).set j (.im (.is u dy) false))) = r then h.choose else .stuck
  | _, _ => .stuck
theorem sr_pin {i j : Nat} {keep : Nat → Bool} {ts : TS} {m : MS} (hij : i ≠ j) (h : SR W E ts m) : SR W E ts (mPin i j keep m) := fun c T σ H G S D I hq => by
  unfold mPin at hq
  split at hq
  · rename_i dx o dy o2 e1 e2
    split at hq
    · rename_i hr
      obtain ⟨v, I1⟩ := I.pin e1
      obtain ⟨u, I2⟩ := I1.pin (i := j) (by rw [get_set_ne hij]; exact e2)
      refine h c T σ H G _ D I2 (fgt_ok (keep := keep) ?_)
      rw [hr.choose_spec v u]
      exact hq
    · exact (hq : False).elim
  · exact (hq : False).elim
theorem mPin_eq {i j : Nat} {keep : Nat → Bool} {m : MS} {dx dy : D} {o o2 : Bool} {r : SRes} (e1 : S[i]? = some (.im dx o)) (e2 : S[j]? = some (.im dy o2)) (h : ∀ v u, fgt keep (m ((S.set i (.im (.is v dx) false)).set j (.im (.is u dy) false))) = r) : mPin i j keep m S = r := by
  unfold mPin
  rw [e1, e2]
  have hr : ∃ r, ∀ v u, fgt keep (m ((S.set i (.im (.is v dx) false)).set j (.im (.is u dy) false))) = r := ⟨r, h⟩
  simp only [dif_pos hr]
  rw [← hr.choose_spec .non .non]
  exact h .non .non
section
variable {s : Sx} {X : Cx} {sts : List Stmt} {m : MS}
theorem db_pin {i j : Nat} {keep : Nat → Bool} (hij : i ≠ j) (h : DB s E X sts m) : DB s E X sts (mPin i j keep m) := let ⟨_, p, q⟩ := h; ⟨_, p, sr_pin hij q⟩
end
end Dy

set_option Elab.async false
set_option linter.all false
set_option maxRecDepth 100000
set_option maxHeartbeats 4000000
namespace Dy
open PySem PySem.Spec L2 LamX
/-- .. with own exceptions as values, lambdas as values -/
structure Gx (s : Sx) (top : Nat → Stmt) (tab : List (Nat × Str)) (bl : List Str) (gi : List (Str × Int)) (lt : List Str) (exx : List (Str × List (Str × Str))) (xs : List Str) (xf : List (Str × Str)) (ys : List Str) (rel : Str → Str → Bool) (tabL : Nat → LamD) (a : Str → Addr) (fd : Str → FuncData) : Prop extends Gr s top tab bl gi [] lt [] a fd where
  ef : Ef s xs xf ys rel
  exk : ∀ x fps, (x, fps) ∈ exx → ExK s x fps
  phi : ∀ k cl G v, s.W.Φ k cl G v ↔ LamV tabL k cl G v
end Dy

set_option Elab.async false
set_option linter.all false
set_option maxRecDepth 100000
set_option maxHeartbeats 4000000
/-! the def that asks whether two are the very same: list and dict are written at and brought back -/
namespace Dy
open PySem PySem.Spec L2 LamX
theorem pss_never {X : Cx} {sts : List Stmt} : PSs X sts tNever := ⟨fun _ _ _ _ _ _ h => h.elim⟩
open Classical in
noncomputable def mVery (m : MS) : MS := fun S => match S with
  | [.im (.is v d) o, .im (.is u e) p, .no] => if v = u ∧ d = e then (match d with
    | .lst ds => if ds.length ≤ 1000 then .rt (.bl true) [.im (.is v d) o, .im (.is u e) p, .no] else .stuck
    | .dct ks _ => if (ks.all fun k => decide (k ≠ .inr " late ")) = true ∧ ks.length ≤ 1000 then .rt (.bl true) [.im (.is v d) o, .im (.is u e) p, .no] else .stuck
    | _ => m [.im d o, .im d p, .no]) else .stuck
  | S => m S
theorem two_at {vs : List V} {v u : V} (hl : vs.length = 2) (h0 : (start0 3 vs)[0]? = some (some v)) (h1 : (start0 3 vs)[1]? = some (some u)) : vs = [v, u] := by
  match vs, hl with
  | [x, y], _ =>
    have e0 : x = v := by injection h0 with h0; injection h0
    have e1 : y = u := by injection h1 with h1; injection h1
    rw [e0, e1]
section
variable {W : Wx} {c : Cn} {T : Tm} {σ : L2.St} {H G : Hp}
/-- the values are taken for their data again -/
theorem strip (I : StOk W c T σ H G [.im (.is v d) o, .im (.is u e) p, .no]) : StOk W c T σ H G [.im d o, .im e p, .no] := by
  have noO : ∀ {S : List LV} {i a}, (∀ (j : Nat) ds p, S[j]? ≠ some (.ow ds p)) → (∀ (j : Nat) ks ds p, S[j]? ≠ some (.od ks ds p)) → ¬ Owns σ S i a := fun n1 n2 o => by
    obtain ⟨_, ⟨ds, p, q⟩ | ⟨ks, ds, p, q⟩⟩ := o
    · exact n1 _ _ _ q
    · exact n2 _ _ _ _ q
  have a1 : ∀ (j : Nat) ds q, [LV.im d o, .im e p, .no][j]? ≠ some (.ow ds q) := fun j ds q z => by
    match j with
    | 0 => cases z
    | 1 => cases z
    | 2 => cases z
    | n + 3 => cases z
  have a2 : ∀ (j : Nat) ks ds q, [LV.im d o, .im e p, .no][j]? ≠ some (.od ks ds q) := fun j ks ds q z => by
    match j with
    | 0 => cases z
    | 1 => cases z
    | 2 => cases z
    | n + 3 => cases z
  exact { I with
    im := fun j d2 o2 q => by
      match j with
      | 0 =>
        cases q
        obtain ⟨w, e1, r, k⟩ := I.im 0 _ _ rfl
        rw [Rep] at r
        exact ⟨w, e1, by rw [r.1]; exact r.2, k⟩
      | 1 =>
        cases q
        obtain ⟨w, e1, r, k⟩ := I.im 1 _ _ rfl
        rw [Rep] at r
        exact ⟨w, e1, by rw [r.1]; exact r.2, k⟩
      | 2 => cases q
      | n + 3 => cases q
    ow := fun j ds q z => absurd z (a1 j ds q)
    od := fun j ks ds q z => absurd z (a2 j ks ds q)
    sep := fun i j a x => absurd x (noO a1 a2)
    tm := fun q hq => by
      obtain ⟨h1, h2, h3, h4, h5⟩ := I.tm q hq
      exact ⟨h1, h2, h3, fun i => noO a1 a2, h5⟩
    len := I.len }
end
section
variable {s : Sx} {k : Nat} {x qual : Str} {params : Arguments} {body : List Stmt} {scope : Scope} {dvs : List V} {kws : List (Str × V)} {f : Addr} {fd : FuncData} {N ps : List Str} {m : MS}
theorem fun_very (F : FunD s.W.K x qual params body scope dvs kws f fd) (hm : s.W.mg x = some (.ref f)) (S : FnScope N ps scope) (hN : N.length = 3) (hps : ps.length = 2) (hb : Binds s.W.K fd ps [])
    (hgen : ∀ Y E, Ct s Y N scope (fun _ => true) k E → DB s E Y body m)
    (hl : ∀ Y E, Ct s Y N scope (fun _ => true) k E → ∃ t, PSs Y body t ∧ ∀ (b : Addr) (vs : List V) (H : Hp) (D : Ends), H b = some (.lst vs) → vs.length ≤ 1000 → D.rt (.bl true) H → t D [some (.ref b), some (.ref b), none] H)
    (hd : ∀ Y E, Ct s Y N scope (fun _ => true) k E → ∃ t, PSs Y body t ∧ ∀ (b : Addr) (kvs : List (Key × V)) (H : Hp) (D : Ends), H b = some (.dK kvs) → kvs.length ≤ 1000 → (∀ kv ∈ kvs, kv.1 ≠ .inr " late ") → D.rt (.bl true) H → t D [some (.ref b), some (.ref b), none] H) :
    Fun s (k + 1) x f fd ps 3 (mVery m) :=
  ⟨hm, F.kp, hb, F.ok S spD_len fun cdv A outer s0 H vs Q E hr hsp => by
    obtain ⟨hlv, G, A0, S0, I, q⟩ := hsp
    have C : Ct s (cxOf (L2.CX s.P s.w) s.P s.w s.W.K s.W.mg s.base N qual scope f cdv A outer s0 H E) N scope (fun _ => true) k fun _ => E := ⟨rfl, rfl, rfl, rfl, rfl, rfl, S.nd, rfl, rfl, hr, rfl, takes_of rfl rfl rfl rfl, passes_of rfl⟩
    have e0 : L2.start N vs = start0 3 vs := by unfold L2.start start0; rw [hN]
    rw [e0]
    unfold mVery at q
    split at q
    · rename_i v d o u e p
      split at q
      · rename_i hve
        obtain ⟨ev, ed⟩ := hve
        subst ev ed
        obtain ⟨w0, z0, r0, _⟩ := I.im 0 _ _ rfl
        obtain ⟨w1, z1, r1, _⟩ := I.im 1 _ _ rfl
        rw [Rep] at r0 r1
        obtain ⟨y0, r0⟩ := r0
        obtain ⟨y1, r1⟩ := r1
        subst y0 y1
        have ev := two_at (by rw [hlv]; exact hps) z0 z1
        split at q
        · rename_i ds
          split at q
          · rename_i hle
            rw [Rep] at r0
            obtain ⟨b, ws, rfl, gb, rl⟩ := r0
            obtain ⟨t, p1, p2⟩ := hl _ _ C
            refine ⟨t, p1, ?_⟩
            rw [ev]
            exact p2 b ws H _ (I.le.at_ gb) (by rw [rl.length]; exact hle) (q _ (.bl true) H G GLe.rfl I (by simp))
          · exact (q : False).elim
        · rename_i ks ds
          split at q
          · rename_i hle
            rw [Rep] at r0
            obtain ⟨b, kvs, rfl, gb, ek, rl⟩ := r0
            obtain ⟨t, p1, p2⟩ := hd _ _ C
            refine ⟨t, p1, ?_⟩
            rw [ev]
            refine p2 b kvs H _ (I.le.at_ gb) (by rw [← List.length_map (f := (·.1)), ek]; exact hle.2) (fun kv hkv z => ?_) (q _ (.bl true) H G GLe.rfl I (by simp))
            have z2 := List.all_eq_true.mp hle.1 kv.1 (by rw [← ek]; exact List.mem_map.mpr ⟨kv, hkv, rfl⟩)
            exact of_decide_eq_true z2 z
          · exact (q : False).elim
        · obtain ⟨t, p1, p2⟩ := hgen _ _ C
          exact ⟨t, p1, p2 _ [] _ H G _ _ (strip I) q⟩
      · exact (q : False).elim
    · obtain ⟨t, p1, p2⟩ := hgen _ _ C
      exact ⟨t, p1, p2 _ [] _ H G _ _ I q⟩⟩
end
end Dy

set_option Elab.async false
set_option linter.all false
set_option maxRecDepth 100000
set_option maxHeartbeats 4000000
namespace Dy
namespace K00
open PySem PySem.Spec L2 Dy LamX
noncomputable section
abbrev top (i : Nat) : Stmt := PySem.Challenge.pw_floormill_k00_errors_made.main.body.getD i (.Pass ⟨0, 0, 0, 0⟩)
def tab : List (Nat × Str) := [(67, .ofString "_law_spring"), (68, .ofString "_law_draw"), (69, .ofString "_law_pick"), (70, .ofString "_law_mixed"), (72, .ofString "_law_same"), (71, .ofString "_law_very"), (73, .ofString "_law_e_first"), (74, .ofString "_law_e_second"), (75, .ofString "_law_e_third"), (76, .ofString "_law_e_fourth"), (77, .ofString "_law_e_kinds"), (78, .ofString "_law_e_drawn"), (79, .ofString "_law_e_right"), (80, .ofString "law")]
def bl : List Str := [.ofString "ValueError", .ofString "all", .ofString "bool", .ofString "dict", .ofString "enumerate", .ofString "int", .ofString "isinstance", .ofString "len", .ofString "list", .ofString "range", .ofString "str", .ofString "tuple", .ofString "zip"]
def gi : List (Str × Int) := []
def ex : List (Str × Str × Str × Str) := []
def lt : List Str := [.ofString "_law_e_first", .ofString "_law_e_second", .ofString "_law_e_third", .ofString "_law_e_fourth"]
def exn : List (Str × Str) := []
def exx : List (Str × List (Str × Str)) := [(.ofString "BadQuestion", [(.ofString "question", .ofString "question")]), (.ofString "BadChange", [(.ofString "change", .ofString "change")]), (.ofString "BadClaim", [(.ofString "claim", .ofString "claim")]), (.ofString "BadClaims", [(.ofString "claims", .ofString "claims")]), (.ofString "BadCode", [(.ofString "code", .ofString "code")]), (.ofString "BadClasses", [(.ofString "classes", .ofString "classes")]), (.ofString "NoCover", [(.ofString "classes", .ofString "classes")]), (.ofString "BadBook", [(.ofString "book", .ofString "book")]), (.ofString "BadLetter", [(.ofString "letter", .ofString "letter")]), (.ofString "BadNumber", [(.ofString "number", .ofString "number")]), (.ofString "BadPath", [(.ofString "path", .ofString "path")]), (.ofString "BadPlace", [(.ofString "place", .ofString "place")]), (.ofString "BadTree", [(.ofString "tree", .ofString "tree")]), (.ofString "NoName", [(.ofString "named", .ofString "named")]), (.ofString "Refused", [(.ofString "path", .ofString "path")]), (.ofString "TooGreat", [(.ofString "most", .ofString "most")]), (.ofString "BadBase", [(.ofString "base", .ofString "base")]), (.ofString "BadBases", [(.ofString "bases", .ofString "bases")]), (.ofString "BadFigures", [(.ofString "figures", .ofString "figures")]), (.ofString "BadParts", [(.ofString "parts", .ofString "parts")]), (.ofString "BadForm", [(.ofString "form", .ofString "form")]), (.ofString "BadImage", [(.ofString "image", .ofString "image")]), (.ofString "BadWord", [(.ofString "word", .ofString "word")]), (.ofString "BadJournal", [(.ofString "journal", .ofString "journal")]), (.ofString "Wrong", [(.ofString "index", .ofString "index")]), (.ofString "BadWhich", [(.ofString "word", .ofString "word")]), (.ofString "BadChain", [(.ofString "chain", .ofString "chain")]), (.ofString "BadMove", [(.ofString "move", .ofString "move")]), (.ofString "Unfit", [(.ofString "move", .ofString "move")]), (.ofString "BadMoment", [(.ofString "moment", .ofString "moment")]), (.ofString "BadStep", [(.ofString "step", .ofString "step")]), (.ofString "BadSteps", [(.ofString "steps", .ofString "steps")]), (.ofString "Barred", [(.ofString "fault", .ofString "fault")]), (.ofString "BadReport", [(.ofString "report", .ofString "report")]), (.ofString "BadSet", [(.ofString "some", .ofString "some")]), (.ofString "NotOne", [(.ofString "letters", .ofString "letters")]), (.ofString "BadForms", [(.ofString "forms", .ofString "forms")]), (.ofString "BadPeriods", [(.ofString "periods", .ofString "periods")]), (.ofString "BadPowers", [(.ofString "powers", .ofString "powers")]), (.ofString "BadRow", [(.ofString "row", .ofString "row")]), (.ofString "BadLine", [(.ofString "form", .ofString "form")]), (.ofString "NoTurn", [(.ofString "line", .ofString "line")]), (.ofString "Stopped", [(.ofString "index", .ofString "index"), (.ofString "fault", .ofString "fault")]), (.ofString "Unread", [(.ofString "text", .ofString "text"), (.ofString "place", .ofString "place")]), (.ofString "BadText", [(.ofString "text", .ofString "text"), (.ofString "index", .ofString "index")]), (.ofString "NothingDone", []), (.ofString "NothingUndone", [])]
def xs : List Str := exx.map (·.1)
def xf : List (Str × Str) := exx.flatMap fun x => x.2.map fun y => (x.1, y.2)
def ys : List Str := [.ofString "BadBase", .ofString "BadBases", .ofString "BadBook", .ofString "BadChain", .ofString "BadChange", .ofString "BadClaim", .ofString "BadClaims", .ofString "BadClasses", .ofString "BadCode", .ofString "BadFigures", .ofString "BadForm", .ofString "BadForms", .ofString "BadImage", .ofString "BadJournal", .ofString "BadLetter", .ofString "BadLine", .ofString "BadMoment", .ofString "BadMove", .ofString "BadNumber", .ofString "BadParts", .ofString "BadPath", .ofString "BadPeriods", .ofString "BadPlace", .ofString "BadPowers", .ofString "BadQuestion", .ofString "BadReport", .ofString "BadRow", .ofString "BadSet", .ofString "BadStep", .ofString "BadSteps", .ofString "BadText", .ofString "BadTree", .ofString "BadWhich", .ofString "BadWord", .ofString "Barred", .ofString "FloorError", .ofString "NoCover", .ofString "NoName", .ofString "NoTurn", .ofString "NotOne", .ofString "NothingDone", .ofString "NothingUndone", .ofString "Refused", .ofString "Stopped", .ofString "TooGreat", .ofString "Unfit", .ofString "Unread", .ofString "Wrong"]
def rel (x y : Str) : Bool := x == y || y == "FloorError"
def nL : Nat := 45
def lamIx : List (Nat × Nat) := [(73, 1), (73, 2), (73, 3), (73, 4), (73, 5), (73, 6), (73, 7), (73, 8), (73, 9), (73, 10), (73, 11), (73, 12), (73, 13), (73, 14), (74, 1), (74, 2), (74, 3), (74, 4), (74, 5), (74, 6), (74, 7), (74, 8), (74, 9), (74, 10), (74, 11), (74, 12), (74, 13), (74, 14), (75, 1), (75, 2), (75, 3), (75, 4), (75, 5), (75, 6), (75, 7), (75, 8), (75, 9), (75, 10), (75, 11), (75, 12), (75, 13), (75, 14), (76, 1), (76, 2), (76, 3)]
def lamAt (st : Stmt) : LamD := match st with
  | .Expr (.Call _ [.Tuple [_, _, .Lambda ps b sc _, _] _ _] _ _) _ => ⟨ps, b, sc⟩
  | _ => ⟨defArgs (top 0), .Constant .none 0 ⟨0, 0, 0, 0⟩, defScope (top 0)⟩
def tabL (k : Nat) : LamD := lamAt ((defBody (top (lamIx.getD k (0, 0)).1)).getD (lamIx.getD k (0, 0)).2 (.Pass ⟨0, 0, 0, 0⟩))
abbrev G (s : Sx) (a : Str → Addr) (fd : Str → FuncData) : Prop := Gx s top tab bl gi lt exx xs xf ys rel tabL a fd
def FUEL : Nat := 1000000
variable {s : Sx} {a : Str → Addr} {fd : Str → FuncData}
def mFlds : List Str → MF
  | [] => mNil
  | f :: r => mCons (mFld xf f (mVar 0)) (mFlds r)
def lamF : List (List Str) := [[.ofString "question"], [.ofString "change"], [.ofString "claim"], [.ofString "claims"], [.ofString "code"], [.ofString "classes"], [.ofString "classes"], [.ofString "book"], [.ofString "letter"], [.ofString "number"], [.ofString "path"], [.ofString "place"], [.ofString "tree"], [.ofString "named"], [.ofString "path"], [.ofString "most"], [.ofString "base"], [.ofString "bases"], [.ofString "figures"], [.ofString "parts"], [.ofString "form"], [.ofString "image"], [.ofString "word"], [.ofString "journal"], [.ofString "index"], [.ofString "word"], [.ofString "chain"], [.ofString "move"], [.ofString "move"], [.ofString "moment"], [.ofString "step"], [.ofString "steps"], [.ofString "fault"], [.ofString "report"], [.ofString "some"], [.ofString "letters"], [.ofString "forms"], [.ofString "periods"], [.ofString "powers"], [.ofString "row"], [.ofString "form"], [.ofString "line"], [.ofString "index", .ofString "fault"], [.ofString "text", .ofString "place"], [.ofString "text", .ofString "index"]]
def mL (k : Nat) : MF := mLst (mFlds (lamF.getD k []))
theorem ls_0 : FnScope ["e"] ["e"] (tabL 0).scope := ⟨rfl, rfl, rfl, by decide +kernel, rfl, by decide +kernel, by decide +kernel⟩
theorem lb_0 (q : Str) (pm cv ctv : Value) (us : List Value) (hl : us.length = 1) : bindArgs (PySem.W.kla_fn "<lambda>" q (tabL 0).ps (tabL 0).body (tabL 0).scope [] pm cv ctv) ⟨us, []⟩ = pure ((["e"] : List Str).zip us) := match us, hl with
  | [_], _ => rfl
theorem lf_0 (g : G s a fd) {X : Cx} {k : Nat} {E : L2.St → XK} (h : Ct s X ["e"] (tabL 0).scope (fun _ => true) k E) : DF s E X (tabL 0).body (mL 0) := df_lst (di_cons (de_fld h g.ef (de_var h 0)) (di_nil))
theorem ls_1 : FnScope ["e"] ["e"] (tabL 1).scope := ⟨rfl, rfl, rfl, by decide +kernel, rfl, by decide +kernel, by decide +kernel⟩
theorem lb_1 (q : Str) (pm cv ctv : Value) (us : List Value) (hl : us.length = 1) : bindArgs (PySem.W.kla_fn "<lambda>" q (tabL 1).ps (tabL 1).body (tabL 1).scope [] pm cv ctv) ⟨us, []⟩ = pure ((["e"] : List Str).zip us) := match us, hl with
  | [_], _ => rfl
theorem lf_1 (g : G s a fd) {X : Cx} {k : Nat} {E : L2.St → XK} (h : Ct s X ["e"] (tabL 1).scope (fun _ => true) k E) : DF s E X (tabL 1).body (mL 1) := df_lst (di_cons (de_fld h g.ef (de_var h 0)) (di_nil))
theorem ls_2 : FnScope ["e"] ["e"] (tabL 2).scope := ⟨rfl, rfl, rfl, by decide +kernel, rfl, by decide +kernel, by decide +kernel⟩
theorem lb_2 (q : Str) (pm cv ctv : Value) (us : List Value) (hl : us.length = 1) : bindArgs (PySem.W.kla_fn "<lambda>" q (tabL 2).ps (tabL 2).body (tabL 2).scope [] pm cv ctv) ⟨us, []⟩ = pure ((["e"] : List Str).zip us) := match us, hl with
  | [_], _ => rfl
theorem lf_2 (g : G s a fd) {X : Cx} {k : Nat} {E : L2.St → XK} (h : Ct s X ["e"] (tabL 2).scope (fun _ => true) k E) : DF s E X (tabL 2).body (mL 2) := df_lst (di_cons (de_fld h g.ef (de_var h 0)) (di_nil))
theorem ls_3 : FnScope ["e"] ["e"] (tabL 3).scope := ⟨rfl, rfl, rfl, by decide +kernel, rfl, by decide +kernel, by decide +kernel⟩
theorem lb_3 (q : Str) (pm cv ctv : Value) (us : List Value) (hl : us.length = 1) : bindArgs (PySem.W.kla_fn "<lambda>" q (tabL 3).ps (tabL 3).body (tabL 3).scope [] pm cv ctv) ⟨us, []⟩ = pure ((["e"] : List Str).zip us) := match us, hl with
  | [_], _ => rfl
theorem lf_3 (g : G s a fd) {X : Cx} {k : Nat} {E : L2.St → XK} (h : Ct s X ["e"] (tabL 3).scope (fun _ => true) k E) : DF s E X (tabL 3).body (mL 3) := df_lst (di_cons (de_fld h g.ef (de_var h 0)) (di_nil))
theorem ls_4 : FnScope ["e"] ["e"] (tabL 4).scope := ⟨rfl, rfl, rfl, by decide +kernel, rfl, by decide +kernel, by decide +kernel⟩
theorem lb_4 (q : Str) (pm cv ctv : Value) (us : List Value) (hl : us.length = 1) : bindArgs (PySem.W.kla_fn "<lambda>" q (tabL 4).ps (tabL 4).body (tabL 4).scope [] pm cv ctv) ⟨us, []⟩ = pure ((["e"] : List Str).zip us) := match us, hl with
  | [_], _ => rfl
theorem lf_4 (g : G s a fd) {X : Cx} {k : Nat} {E : L2.St → XK} (h : Ct s X ["e"] (tabL 4).scope (fun _ => true) k E) : DF s E X (tabL 4).body (mL 4) := df_lst (di_cons (de_fld h g.ef (de_var h 0)) (di_nil))
theorem ls_5 : FnScope ["e"] ["e"] (tabL 5).scope := ⟨rfl, rfl, rfl, by decide +kernel, rfl, by decide +kernel, by decide +kernel⟩
theorem lb_5 (q : Str) (pm cv ctv : Value) (us : List Value) (hl : us.length = 1) : bindArgs (PySem.W.kla_fn "<lambda>" q (tabL 5).ps (tabL 5).body (tabL 5).scope [] pm cv ctv) ⟨us, []⟩ = pure ((["e"] : List Str).zip us) := match us, hl with
  | [_], _ => rfl
theorem lf_5 (g : G s a fd) {X : Cx} {k : Nat} {E : L2.St → XK} (h : Ct s X ["e"] (tabL 5).scope (fun _ => true) k E) : DF s E X (tabL 5).body (mL 5) := df_lst (di_cons (de_fld h g.ef (de_var h 0)) (di_nil))
theorem ls_6 : FnScope ["e"] ["e"] (tabL 6).scope := ⟨rfl, rfl, rfl, by decide +kernel, rfl, by decide +kernel, by decide +kernel⟩
theorem lb_6 (q : Str) (pm cv ctv : Value) (us : List Value) (hl : us.length = 1) : bindArgs (PySem.W.kla_fn "<lambda>" q (tabL 6).ps (tabL 6).body (tabL 6).scope [] pm cv ctv) ⟨us, []⟩ = pure ((["e"] : List Str).zip us) := match us, hl with
  | [_], _ => rfl
theorem lf_6 (g : G s a fd) {X : Cx} {k : Nat} {E : L2.St → XK} (h : Ct s X ["e"] (tabL 6).scope (fun _ => true) k E) : DF s E X (tabL 6).body (mL 6) := df_lst (di_cons (de_fld h g.ef (de_var h 0)) (di_nil))
theorem ls_7 : FnScope ["e"] ["e"] (tabL 7).scope := ⟨rfl, rfl, rfl, by decide +kernel, rfl, by decide +kernel, by decide +kernel⟩
theorem lb_7 (q : Str) (pm cv ctv : Value) (us : List Value) (hl : us.length = 1) : bindArgs (PySem.W.kla_fn "<lambda>" q (tabL 7).ps (tabL 7).body (tabL 7).scope [] pm cv ctv) ⟨us, []⟩ = pure ((["e"] : List Str).zip us) := match us, hl with
  | [_], _ => rfl
theorem lf_7 (g : G s a fd) {X : Cx} {k : Nat} {E : L2.St → XK} (h : Ct s X ["e"] (tabL 7).scope (fun _ => true) k E) : DF s E X (tabL 7).body (mL 7) := df_lst (di_cons (de_fld h g.ef (de_var h 0)) (di_nil))
theorem ls_8 : FnScope ["e"] ["e"] (tabL 8).scope := ⟨rfl, rfl, rfl, by decide +kernel, rfl, by decide +kernel, by decide +kernel⟩
theorem lb_8 (q : Str) (pm cv ctv : Value) (us : List Value) (hl : us.length = 1) : bindArgs (PySem.W.kla_fn "<lambda>" q (tabL 8).ps (tabL 8).body (tabL 8).scope [] pm cv ctv) ⟨us, []⟩ = pure ((["e"] : List Str).zip us) := match us, hl with
  | [_], _ => rfl
theorem lf_8 (g : G s a fd) {X : Cx} {k : Nat} {E : L2.St → XK} (h : Ct s X ["e"] (tabL 8).scope (fun _ => true) k E) : DF s E X (tabL 8).body (mL 8) := df_lst (di_cons (de_fld h g.ef (de_var h 0)) (di_nil))
theorem ls_9 : FnScope ["e"] ["e"] (tabL 9).scope := ⟨rfl, rfl, rfl, by decide +kernel, rfl, by decide +kernel, by decide +kernel⟩
theorem lb_9 (q : Str) (pm cv ctv : Value) (us : List Value) (hl : us.length = 1) : bindArgs (PySem.W.kla_fn "<lambda>" q (tabL 9).ps (tabL 9).body (tabL 9).scope [] pm cv ctv) ⟨us, []⟩ = pure ((["e"] : List Str).zip us) := match us, hl with
  | [_], _ => rfl
theorem lf_9 (g : G s a fd) {X : Cx} {k : Nat} {E : L2.St → XK} (h : Ct s X ["e"] (tabL 9).scope (fun _ => true) k E) : DF s E X (tabL 9).body (mL 9) := df_lst (di_cons (de_fld h g.ef (de_var h 0)) (di_nil))
theorem ls_10 : FnScope ["e"] ["e"] (tabL 10).scope := ⟨rfl, rfl, rfl, by decide +kernel, rfl, by decide +kernel, by decide +kernel⟩
theorem lb_10 (q : Str) (pm cv ctv : Value) (us : List Value) (hl : us.length = 1) : bindArgs (PySem.W.kla_fn "<lambda>" q (tabL 10).ps (tabL 10).body (tabL 10).scope [] pm cv ctv) ⟨us, []⟩ = pure ((["e"] : List Str).zip us) := match us, hl with
  | [_], _ => rfl
theorem lf_10 (g : G s a fd) {X : Cx} {k : Nat} {E : L2.St → XK} (h : Ct s X ["e"] (tabL 10).scope (fun _ => true) k E) : DF s E X (tabL 10).body (mL 10) := df_lst (di_cons (de_fld h g.ef (de_var h 0)) (di_nil))
theorem ls_11 : FnScope ["e"] ["e"] (tabL 11).scope := ⟨rfl, rfl, rfl, by decide +kernel, rfl, by decide +kernel, by decide +kernel⟩
theorem lb_11 (q : Str) (pm cv ctv : Value) (us : List Value) (hl : us.length = 1) : bindArgs (PySem.W.kla_fn "<lambda>" q (tabL 11).ps (tabL 11).body (tabL 11).scope [] pm cv ctv) ⟨us, []⟩ = pure ((["e"] : List Str).zip us) := match us, hl with
  | [_], _ => rfl
theorem lf_11 (g : G s a fd) {X : Cx} {k : Nat} {E : L2.St → XK} (h : Ct s X ["e"] (tabL 11).scope (fun _ => true) k E) : DF s E X (tabL 11).body (mL 11) := df_lst (di_cons (de_fld h g.ef (de_var h 0)) (di_nil))
theorem ls_12 : FnScope ["e"] ["e"] (tabL 12).scope := ⟨rfl, rfl, rfl, by decide +kernel, rfl, by decide +kernel, by decide +kernel⟩
theorem lb_12 (q : Str) (pm cv ctv : Value) (us : List Value) (hl : us.length = 1) : bindArgs (PySem.W.kla_fn "<lambda>" q (tabL 12).ps (tabL 12).body (tabL 12).scope [] pm cv ctv) ⟨us, []⟩ = pure ((["e"] : List Str).zip us) := match us, hl with
  | [_], _ => rfl
theorem lf_12 (g : G s a fd) {X : Cx} {k : Nat} {E : L2.St → XK} (h : Ct s X ["e"] (tabL 12).scope (fun _ => true) k E) : DF s E X (tabL 12).body (mL 12) := df_lst (di_cons (de_fld h g.ef (de_var h 0)) (di_nil))
theorem ls_13 : FnScope ["e"] ["e"] (tabL 13).scope := ⟨rfl, rfl, rfl, by decide +kernel, rfl, by decide +kernel, by decide +kernel⟩
theorem lb_13 (q : Str) (pm cv ctv : Value) (us : List Value) (hl : us.length = 1) : bindArgs (PySem.W.kla_fn "<lambda>" q (tabL 13).ps (tabL 13).body (tabL 13).scope [] pm cv ctv) ⟨us, []⟩ = pure ((["e"] : List Str).zip us) := match us, hl with
  | [_], _ => rfl
theorem lf_13 (g : G s a fd) {X : Cx} {k : Nat} {E : L2.St → XK} (h : Ct s X ["e"] (tabL 13).scope (fun _ => true) k E) : DF s E X (tabL 13).body (mL 13) := df_lst (di_cons (de_fld h g.ef (de_var h 0)) (di_nil))
theorem ls_14 : FnScope ["e"] ["e"] (tabL 14).scope := ⟨rfl, rfl, rfl, by decide +kernel, rfl, by decide +kernel, by decide +kernel⟩
theorem lb_14 (q : Str) (pm cv ctv : Value) (us : List Value) (hl : us.length = 1) : bindArgs (PySem.W.kla_fn "<lambda>" q (tabL 14).ps (tabL 14).body (tabL 14).scope [] pm cv ctv) ⟨us, []⟩ = pure ((["e"] : List Str).zip us) := match us, hl with
  | [_], _ => rfl
theorem lf_14 (g : G s a fd) {X : Cx} {k : Nat} {E : L2.St → XK} (h : Ct s X ["e"] (tabL 14).scope (fun _ => true) k E) : DF s E X (tabL 14).body (mL 14) := df_lst (di_cons (de_fld h g.ef (de_var h 0)) (di_nil))
theorem ls_15 : FnScope ["e"] ["e"] (tabL 15).scope := ⟨rfl, rfl, rfl, by decide +kernel, rfl, by decide +kernel, by decide +kernel⟩
theorem lb_15 (q : Str) (pm cv ctv : Value) (us : List Value) (hl : us.length = 1) : bindArgs (PySem.W.kla_fn "<lambda>" q (tabL 15).ps (tabL 15).body (tabL 15).scope [] pm cv ctv) ⟨us, []⟩ = pure ((["e"] : List Str).zip us) := match us, hl with
  | [_], _ => rfl
theorem lf_15 (g : G s a fd) {X : Cx} {k : Nat} {E : L2.St → XK} (h : Ct s X ["e"] (tabL 15).scope (fun _ => true) k E) : DF s E X (tabL 15).body (mL 15) := df_lst (di_cons (de_fld h g.ef (de_var h 0)) (di_nil))
theorem ls_16 : FnScope ["e"] ["e"] (tabL 16).scope := ⟨rfl, rfl, rfl, by decide +kernel, rfl, by decide +kernel, by decide +kernel⟩
theorem lb_16 (q : Str) (pm cv ctv : Value) (us : List Value) (hl : us.length = 1) : bindArgs (PySem.W.kla_fn "<lambda>" q (tabL 16).ps (tabL 16).body (tabL 16).scope [] pm cv ctv) ⟨us, []⟩ = pure ((["e"] : List Str).zip us) := match us, hl with
  | [_], _ => rfl
theorem lf_16 (g : G s a fd) {X : Cx} {k : Nat} {E : L2.St → XK} (h : Ct s X ["e"] (tabL 16).scope (fun _ => true) k E) : DF s E X (tabL 16).body (mL 16) := df_lst (di_cons (de_fld h g.ef (de_var h 0)) (di_nil))
theorem ls_17 : FnScope ["e"] ["e"] (tabL 17).scope := ⟨rfl, rfl, rfl, by decide +kernel, rfl, by decide +kernel, by decide +kernel⟩
theorem lb_17 (q : Str) (pm cv ctv : Value) (us : List Value) (hl : us.length = 1) : bindArgs (PySem.W.kla_fn "<lambda>" q (tabL 17).ps (tabL 17).body (tabL 17).scope [] pm cv ctv) ⟨us, []⟩ = pure ((["e"] : List Str).zip us) := match us, hl with
  | [_], _ => rfl
theorem lf_17 (g : G s a fd) {X : Cx} {k : Nat} {E : L2.St → XK} (h : Ct s X ["e"] (tabL 17).scope (fun _ => true) k E) : DF s E X (tabL 17).body (mL 17) := df_lst (di_cons (de_fld h g.ef (de_var h 0)) (di_nil))
theorem ls_18 : FnScope ["e"] ["e"] (tabL 18).scope := ⟨rfl, rfl, rfl, by decide +kernel, rfl, by decide +kernel, by decide +kernel⟩
theorem lb_18 (q : Str) (pm cv ctv : Value) (us : List Value) (hl : us.length = 1) : bindArgs (PySem.W.kla_fn "<lambda>" q (tabL 18).ps (tabL 18).body (tabL 18).scope [] pm cv ctv) ⟨us, []⟩ = pure ((["e"] : List Str).zip us) := match us, hl with
  | [_], _ => rfl
theorem lf_18 (g : G s a fd) {X : Cx} {k : Nat} {E : L2.St → XK} (h : Ct s X ["e"] (tabL 18).scope (fun _ => true) k E) : DF s E X (tabL 18).body (mL 18) := df_lst (di_cons (de_fld h g.ef (de_var h 0)) (di_nil))
theorem ls_19 : FnScope ["e"] ["e"] (tabL 19).scope := ⟨rfl, rfl, rfl, by decide +kernel, rfl, by decide +kernel, by decide +kernel⟩
theorem lb_19 (q : Str) (pm cv ctv : Value) (us : List Value) (hl : us.length = 1) : bindArgs (PySem.W.kla_fn "<lambda>" q (tabL 19).ps (tabL 19).body (tabL 19).scope [] pm cv ctv) ⟨us, []⟩ = pure ((["e"] : List Str).zip us) := match us, hl with
  | [_], _ => rfl
theorem lf_19 (g : G s a fd) {X : Cx} {k : Nat} {E : L2.St → XK} (h : Ct s X ["e"] (tabL 19).scope (fun _ => true) k E) : DF s E X (tabL 19).body (mL 19) := df_lst (di_cons (de_fld h g.ef (de_var h 0)) (di_nil))
theorem ls_20 : FnScope ["e"] ["e"] (tabL 20).scope := ⟨rfl, rfl, rfl, by decide +kernel, rfl, by decide +kernel, by decide +kernel⟩
theorem lb_20 (q : Str) (pm cv ctv : Value) (us : List Value) (hl : us.length = 1) : bindArgs (PySem.W.kla_fn "<lambda>" q (tabL 20).ps (tabL 20).body (tabL 20).scope [] pm cv ctv) ⟨us, []⟩ = pure ((["e"] : List Str).zip us) := match us, hl with
  | [_], _ => rfl
theorem lf_20 (g : G s a fd) {X : Cx} {k : Nat} {E : L2.St → XK} (h : Ct s X ["e"] (tabL 20).scope (fun _ => true) k E) : DF s E X (tabL 20).body (mL 20) := df_lst (di_cons (de_fld h g.ef (de_var h 0)) (di_nil))
theorem ls_21 : FnScope ["e"] ["e"] (tabL 21).scope := ⟨rfl, rfl, rfl, by decide +kernel, rfl, by decide +kernel, by decide +kernel⟩
theorem lb_21 (q : Str) (pm cv ctv : Value) (us : List Value) (hl : us.length = 1) : bindArgs (PySem.W.kla_fn "<lambda>" q (tabL 21).ps (tabL 21).body (tabL 21).scope [] pm cv ctv) ⟨us, []⟩ = pure ((["e"] : List Str).zip us) := match us, hl with
  | [_], _ => rfl
theorem lf_21 (g : G s a fd) {X : Cx} {k : Nat} {E : L2.St → XK} (h : Ct s X ["e"] (tabL 21).scope (fun _ => true) k E) : DF s E X (tabL 21).body (mL 21) := df_lst (di_cons (de_fld h g.ef (de_var h 0)) (di_nil))
theorem ls_22 : FnScope ["e"] ["e"] (tabL 22).scope := ⟨rfl, rfl, rfl, by decide +kernel, rfl, by decide +kernel, by decide +kernel⟩
theorem lb_22 (q : Str) (pm cv ctv : Value) (us : List Value) (hl : us.length = 1) : bindArgs (PySem.W.kla_fn "<lambda>" q (tabL 22).ps (tabL 22).body (tabL 22).scope [] pm cv ctv) ⟨us, []⟩ = pure ((["e"] : List Str).zip us) := match us, hl with
  | [_], _ => rfl
theorem lf_22 (g : G s a fd) {X : Cx} {k : Nat} {E : L2.St → XK} (h : Ct s X ["e"] (tabL 22).scope (fun _ => true) k E) : DF s E X (tabL 22).body (mL 22) := df_lst (di_cons (de_fld h g.ef (de_var h 0)) (di_nil))
theorem ls_23 : FnScope ["e"] ["e"] (tabL 23).scope := ⟨rfl, rfl, rfl, by decide +kernel, rfl, by decide +kernel, by decide +kernel⟩
theorem lb_23 (q : Str) (pm cv ctv : Value) (us : List Value) (hl : us.length = 1) : bindArgs (PySem.W.kla_fn "<lambda>" q (tabL 23).ps (tabL 23).body (tabL 23).scope [] pm cv ctv) ⟨us, []⟩ = pure ((["e"] : List Str).zip us) := match us, hl with
  | [_], _ => rfl
theorem lf_23 (g : G s a fd) {X : Cx} {k : Nat} {E : L2.St → XK} (h : Ct s X ["e"] (tabL 23).scope (fun _ => true) k E) : DF s E X (tabL 23).body (mL 23) := df_lst (di_cons (de_fld h g.ef (de_var h 0)) (di_nil))
theorem ls_24 : FnScope ["e"] ["e"] (tabL 24).scope := ⟨rfl, rfl, rfl, by decide +kernel, rfl, by decide +kernel, by decide +kernel⟩
theorem lb_24 (q : Str) (pm cv ctv : Value) (us : List Value) (hl : us.length = 1) : bindArgs (PySem.W.kla_fn "<lambda>" q (tabL 24).ps (tabL 24).body (tabL 24).scope [] pm cv ctv) ⟨us, []⟩ = pure ((["e"] : List Str).zip us) := match us, hl with
  | [_], _ => rfl
theorem lf_24 (g : G s a fd) {X : Cx} {k : Nat} {E : L2.St → XK} (h : Ct s X ["e"] (tabL 24).scope (fun _ => true) k E) : DF s E X (tabL 24).body (mL 24) := df_lst (di_cons (de_fld h g.ef (de_var h 0)) (di_nil))
theorem ls_25 : FnScope ["e"] ["e"] (tabL 25).scope := ⟨rfl, rfl, rfl, by decide +kernel, rfl, by decide +kernel, by decide +kernel⟩
theorem lb_25 (q : Str) (pm cv ctv : Value) (us : List Value) (hl : us.length = 1) : bindArgs (PySem.W.kla_fn "<lambda>" q (tabL 25).ps (tabL 25).body (tabL 25).scope [] pm cv ctv) ⟨us, []⟩ = pure ((["e"] : List Str).zip us) := match us, hl with
  | [_], _ => rfl
theorem lf_25 (g : G s a fd) {X : Cx} {k : Nat} {E : L2.St → XK} (h : Ct s X ["e"] (tabL 25).scope (fun _ => true) k E) : DF s E X (tabL 25).body (mL 25) := df_lst (di_cons (de_fld h g.ef (de_var h 0)) (di_nil))
theorem ls_26 : FnScope ["e"] ["e"] (tabL 26).scope := ⟨rfl, rfl, rfl, by decide +kernel, rfl, by decide +kernel, by decide +kernel⟩
theorem lb_26 (q : Str) (pm cv ctv : Value) (us : List Value) (hl : us.length = 1) : bindArgs (PySem.W.kla_fn "<lambda>" q (tabL 26).ps (tabL 26).body (tabL 26).scope [] pm cv ctv) ⟨us, []⟩ = pure ((["e"] : List Str).zip us) := match us, hl with
  | [_], _ => rfl
theorem lf_26 (g : G s a fd) {X : Cx} {k : Nat} {E : L2.St → XK} (h : Ct s X ["e"] (tabL 26).scope (fun _ => true) k E) : DF s E X (tabL 26).body (mL 26) := df_lst (di_cons (de_fld h g.ef (de_var h 0)) (di_nil))
theorem ls_27 : FnScope ["e"] ["e"] (tabL 27).scope := ⟨rfl, rfl, rfl, by decide +kernel, rfl, by decide +kernel, by decide +kernel⟩
theorem lb_27 (q : Str) (pm cv ctv : Value) (us : List Value) (hl : us.length = 1) : bindArgs (PySem.W.kla_fn "<lambda>" q (tabL 27).ps (tabL 27).body (tabL 27).scope [] pm cv ctv) ⟨us, []⟩ = pure ((["e"] : List Str).zip us) := match us, hl with
  | [_], _ => rfl
theorem lf_27 (g : G s a fd) {X : Cx} {k : Nat} {E : L2.St → XK} (h : Ct s X ["e"] (tabL 27).scope (fun _ => true) k E) : DF s E X (tabL 27).body (mL 27) := df_lst (di_cons (de_fld h g.ef (de_var h 0)) (di_nil))
theorem ls_28 : FnScope ["e"] ["e"] (tabL 28).scope := ⟨rfl, rfl, rfl, by decide +kernel, rfl, by decide +kernel, by decide +kernel⟩
theorem lb_28 (q : Str) (pm cv ctv : Value) (us : List Value) (hl : us.length = 1) : bindArgs (PySem.W.kla_fn "<lambda>" q (tabL 28).ps (tabL 28).body (tabL 28).scope [] pm cv ctv) ⟨us, []⟩ = pure ((["e"] : List Str).zip us) := match us, hl with
  | [_], _ => rfl
theorem lf_28 (g : G s a fd) {X : Cx} {k : Nat} {E : L2.St → XK} (h : Ct s X ["e"] (tabL 28).scope (fun _ => true) k E) : DF s E X (tabL 28).body (mL 28) := df_lst (di_cons (de_fld h g.ef (de_var h 0)) (di_nil))
theorem ls_29 : FnScope ["e"] ["e"] (tabL 29).scope := ⟨rfl, rfl, rfl, by decide +kernel, rfl, by decide +kernel, by decide +kernel⟩
theorem lb_29 (q : Str) (pm cv ctv : Value) (us : List Value) (hl : us.length = 1) : bindArgs (PySem.W.kla_fn "<lambda>" q (tabL 29).ps (tabL 29).body (tabL 29).scope [] pm cv ctv) ⟨us, []⟩ = pure ((["e"] : List Str).zip us) := match us, hl with
  | [_], _ => rfl
theorem lf_29 (g : G s a fd) {X : Cx} {k : Nat} {E : L2.St → XK} (h : Ct s X ["e"] (tabL 29).scope (fun _ => true) k E) : DF s E X (tabL 29).body (mL 29) := df_lst (di_cons (de_fld h g.ef (de_var h 0)) (di_nil))
theorem ls_30 : FnScope ["e"] ["e"] (tabL 30).scope := ⟨rfl, rfl, rfl, by decide +kernel, rfl, by decide +kernel, by decide +kernel⟩
theorem lb_30 (q : Str) (pm cv ctv : Value) (us : List Value) (hl : us.length = 1) : bindArgs (PySem.W.kla_fn "<lambda>" q (tabL 30).ps (tabL 30).body (tabL 30).scope [] pm cv ctv) ⟨us, []⟩ = pure ((["e"] : List Str).zip us) := match us, hl with
  | [_], _ => rfl
theorem lf_30 (g : G s a fd) {X : Cx} {k : Nat} {E : L2.St → XK} (h : Ct s X ["e"] (tabL 30).scope (fun _ => true) k E) : DF s E X (tabL 30).body (mL 30) := df_lst (di_cons (de_fld h g.ef (de_var h 0)) (di_nil))
theorem ls_31 : FnScope ["e"] ["e"] (tabL 31).scope := ⟨rfl, rfl, rfl, by decide +kernel, rfl, by decide +kernel, by decide +kernel⟩
theorem lb_31 (q : Str) (pm cv ctv : Value) (us : List Value) (hl : us.length = 1) : bindArgs (PySem.W.kla_fn "<lambda>" q (tabL 31).ps (tabL 31).body (tabL 31).scope [] pm cv ctv) ⟨us, []⟩ = pure ((["e"] : List Str).zip us) := match us, hl with
  | [_], _ => rfl
theorem lf_31 (g : G s a fd) {X : Cx} {k : Nat} {E : L2.St → XK} (h : Ct s X ["e"] (tabL 31).scope (fun _ => true) k E) : DF s E X (tabL 31).body (mL 31) := df_lst (di_cons (de_fld h g.ef (de_var h 0)) (di_nil))
theorem ls_32 : FnScope ["e"] ["e"] (tabL 32).scope := ⟨rfl, rfl, rfl, by decide +kernel, rfl, by decide +kernel, by decide +kernel⟩
theorem lb_32 (q : Str) (pm cv ctv : Value) (us : List Value) (hl : us.length = 1) : bindArgs (PySem.W.kla_fn "<lambda>" q (tabL 32).ps (tabL 32).body (tabL 32).scope [] pm cv ctv) ⟨us, []⟩ = pure ((["e"] : List Str).zip us) := match us, hl with
  | [_], _ => rfl
theorem lf_32 (g : G s a fd) {X : Cx} {k : Nat} {E : L2.St → XK} (h : Ct s X ["e"] (tabL 32).scope (fun _ => true) k E) : DF s E X (tabL 32).body (mL 32) := df_lst (di_cons (de_fld h g.ef (de_var h 0)) (di_nil))
theorem ls_33 : FnScope ["e"] ["e"] (tabL 33).scope := ⟨rfl, rfl, rfl, by decide +kernel, rfl, by decide +kernel, by decide +kernel⟩
theorem lb_33 (q : Str) (pm cv ctv : Value) (us : List Value) (hl : us.length = 1) : bindArgs (PySem.W.kla_fn "<lambda>" q (tabL 33).ps (tabL 33).body (tabL 33).scope [] pm cv ctv) ⟨us, []⟩ = pure ((["e"] : List Str).zip us) := match us, hl with
  | [_], _ => rfl
theorem lf_33 (g : G s a fd) {X : Cx} {k : Nat} {E : L2.St → XK} (h : Ct s X ["e"] (tabL 33).scope (fun _ => true) k E) : DF s E X (tabL 33).body (mL 33) := df_lst (di_cons (de_fld h g.ef (de_var h 0)) (di_nil))
theorem ls_34 : FnScope ["e"] ["e"] (tabL 34).scope := ⟨rfl, rfl, rfl, by decide +kernel, rfl, by decide +kernel, by decide +kernel⟩
theorem lb_34 (q : Str) (pm cv ctv : Value) (us : List Value) (hl : us.length = 1) : bindArgs (PySem.W.kla_fn "<lambda>" q (tabL 34).ps (tabL 34).body (tabL 34).scope [] pm cv ctv) ⟨us, []⟩ = pure ((["e"] : List Str).zip us) := match us, hl with
  | [_], _ => rfl
theorem lf_34 (g : G s a fd) {X : Cx} {k : Nat} {E : L2.St → XK} (h : Ct s X ["e"] (tabL 34).scope (fun _ => true) k E) : DF s E X (tabL 34).body (mL 34) := df_lst (di_cons (de_fld h g.ef (de_var h 0)) (di_nil))
theorem ls_35 : FnScope ["e"] ["e"] (tabL 35).scope := ⟨rfl, rfl, rfl, by decide +kernel, rfl, by decide +kernel, by decide +kernel⟩
theorem lb_35 (q : Str) (pm cv ctv : Value) (us : List Value) (hl : us.length = 1) : bindArgs (PySem.W.kla_fn "<lambda>" q (tabL 35).ps (tabL 35).body (tabL 35).scope [] pm cv ctv) ⟨us, []⟩ = pure ((["e"] : List Str).zip us) := match us, hl with
  | [_], _ => rfl
theorem lf_35 (g : G s a fd) {X : Cx} {k : Nat} {E : L2.St → XK} (h : Ct s X ["e"] (tabL 35).scope (fun _ => true) k E) : DF s E X (tabL 35).body (mL 35) := df_lst (di_cons (de_fld h g.ef (de_var h 0)) (di_nil))
theorem ls_36 : FnScope ["e"] ["e"] (tabL 36).scope := ⟨rfl, rfl, rfl, by decide +kernel, rfl, by decide +kernel, by decide +kernel⟩
theorem lb_36 (q : Str) (pm cv ctv : Value) (us : List Value) (hl : us.length = 1) : bindArgs (PySem.W.kla_fn "<lambda>" q (tabL 36).ps (tabL 36).body (tabL 36).scope [] pm cv ctv) ⟨us, []⟩ = pure ((["e"] : List Str).zip us) := match us, hl with
  | [_], _ => rfl
theorem lf_36 (g : G s a fd) {X : Cx} {k : Nat} {E : L2.St → XK} (h : Ct s X ["e"] (tabL 36).scope (fun _ => true) k E) : DF s E X (tabL 36).body (mL 36) := df_lst (di_cons (de_fld h g.ef (de_var h 0)) (di_nil))
theorem ls_37 : FnScope ["e"] ["e"] (tabL 37).scope := ⟨rfl, rfl, rfl, by decide +kernel, rfl, by decide +kernel, by decide +kernel⟩
theorem lb_37 (q : Str) (pm cv ctv : Value) (us : List Value) (hl : us.length = 1) : bindArgs (PySem.W.kla_fn "<lambda>" q (tabL 37).ps (tabL 37).body (tabL 37).scope [] pm cv ctv) ⟨us, []⟩ = pure ((["e"] : List Str).zip us) := match us, hl with
  | [_], _ => rfl
theorem lf_37 (g : G s a fd) {X : Cx} {k : Nat} {E : L2.St → XK} (h : Ct s X ["e"] (tabL 37).scope (fun _ => true) k E) : DF s E X (tabL 37).body (mL 37) := df_lst (di_cons (de_fld h g.ef (de_var h 0)) (di_nil))
theorem ls_38 : FnScope ["e"] ["e"] (tabL 38).scope := ⟨rfl, rfl, rfl, by decide +kernel, rfl, by decide +kernel, by decide +kernel⟩
theorem lb_38 (q : Str) (pm cv ctv : Value) (us : List Value) (hl : us.length = 1) : bindArgs (PySem.W.kla_fn "<lambda>" q (tabL 38).ps (tabL 38).body (tabL 38).scope [] pm cv ctv) ⟨us, []⟩ = pure ((["e"] : List Str).zip us) := match us, hl with
  | [_], _ => rfl
theorem lf_38 (g : G s a fd) {X : Cx} {k : Nat} {E : L2.St → XK} (h : Ct s X ["e"] (tabL 38).scope (fun _ => true) k E) : DF s E X (tabL 38).body (mL 38) := df_lst (di_cons (de_fld h g.ef (de_var h 0)) (di_nil))
theorem ls_39 : FnScope ["e"] ["e"] (tabL 39).scope := ⟨rfl, rfl, rfl, by decide +kernel, rfl, by decide +kernel, by decide +kernel⟩
theorem lb_39 (q : Str) (pm cv ctv : Value) (us : List Value) (hl : us.length = 1) : bindArgs (PySem.W.kla_fn "<lambda>" q (tabL 39).ps (tabL 39).body (tabL 39).scope [] pm cv ctv) ⟨us, []⟩ = pure ((["e"] : List Str).zip us) := match us, hl with
  | [_], _ => rfl
theorem lf_39 (g : G s a fd) {X : Cx} {k : Nat} {E : L2.St → XK} (h : Ct s X ["e"] (tabL 39).scope (fun _ => true) k E) : DF s E X (tabL 39).body (mL 39) := df_lst (di_cons (de_fld h g.ef (de_var h 0)) (di_nil))
theorem ls_40 : FnScope ["e"] ["e"] (tabL 40).scope := ⟨rfl, rfl, rfl, by decide +kernel, rfl, by decide +kernel, by decide +kernel⟩
theorem lb_40 (q : Str) (pm cv ctv : Value) (us : List Value) (hl : us.length = 1) : bindArgs (PySem.W.kla_fn "<lambda>" q (tabL 40).ps (tabL 40).body (tabL 40).scope [] pm cv ctv) ⟨us, []⟩ = pure ((["e"] : List Str).zip us) := match us, hl with
  | [_], _ => rfl
theorem lf_40 (g : G s a fd) {X : Cx} {k : Nat} {E : L2.St → XK} (h : Ct s X ["e"] (tabL 40).scope (fun _ => true) k E) : DF s E X (tabL 40).body (mL 40) := df_lst (di_cons (de_fld h g.ef (de_var h 0)) (di_nil))
theorem ls_41 : FnScope ["e"] ["e"] (tabL 41).scope := ⟨rfl, rfl, rfl, by decide +kernel, rfl, by decide +kernel, by decide +kernel⟩
theorem lb_41 (q : Str) (pm cv ctv : Value) (us : List Value) (hl : us.length = 1) : bindArgs (PySem.W.kla_fn "<lambda>" q (tabL 41).ps (tabL 41).body (tabL 41).scope [] pm cv ctv) ⟨us, []⟩ = pure ((["e"] : List Str).zip us) := match us, hl with
  | [_], _ => rfl
theorem lf_41 (g : G s a fd) {X : Cx} {k : Nat} {E : L2.St → XK} (h : Ct s X ["e"] (tabL 41).scope (fun _ => true) k E) : DF s E X (tabL 41).body (mL 41) := df_lst (di_cons (de_fld h g.ef (de_var h 0)) (di_nil))
theorem ls_42 : FnScope ["e"] ["e"] (tabL 42).scope := ⟨rfl, rfl, rfl, by decide +kernel, rfl, by decide +kernel, by decide +kernel⟩
theorem lb_42 (q : Str) (pm cv ctv : Value) (us : List Value) (hl : us.length = 1) : bindArgs (PySem.W.kla_fn "<lambda>" q (tabL 42).ps (tabL 42).body (tabL 42).scope [] pm cv ctv) ⟨us, []⟩ = pure ((["e"] : List Str).zip us) := match us, hl with
  | [_], _ => rfl
theorem lf_42 (g : G s a fd) {X : Cx} {k : Nat} {E : L2.St → XK} (h : Ct s X ["e"] (tabL 42).scope (fun _ => true) k E) : DF s E X (tabL 42).body (mL 42) := df_lst (di_cons (de_fld h g.ef (de_var h 0)) (di_cons (de_fld h g.ef (de_var h 0)) (di_nil)))
theorem ls_43 : FnScope ["e"] ["e"] (tabL 43).scope := ⟨rfl, rfl, rfl, by decide +kernel, rfl, by decide +kernel, by decide +kernel⟩
theorem lb_43 (q : Str) (pm cv ctv : Value) (us : List Value) (hl : us.length = 1) : bindArgs (PySem.W.kla_fn "<lambda>" q (tabL 43).ps (tabL 43).body (tabL 43).scope [] pm cv ctv) ⟨us, []⟩ = pure ((["e"] : List Str).zip us) := match us, hl with
  | [_], _ => rfl
theorem lf_43 (g : G s a fd) {X : Cx} {k : Nat} {E : L2.St → XK} (h : Ct s X ["e"] (tabL 43).scope (fun _ => true) k E) : DF s E X (tabL 43).body (mL 43) := df_lst (di_cons (de_fld h g.ef (de_var h 0)) (di_cons (de_fld h g.ef (de_var h 0)) (di_nil)))
theorem ls_44 : FnScope ["e"] ["e"] (tabL 44).scope := ⟨rfl, rfl, rfl, by decide +kernel, rfl, by decide +kernel, by decide +kernel⟩
theorem lb_44 (q : Str) (pm cv ctv : Value) (us : List Value) (hl : us.length = 1) : bindArgs (PySem.W.kla_fn "<lambda>" q (tabL 44).ps (tabL 44).body (tabL 44).scope [] pm cv ctv) ⟨us, []⟩ = pure ((["e"] : List Str).zip us) := match us, hl with
  | [_], _ => rfl
theorem lf_44 (g : G s a fd) {X : Cx} {k : Nat} {E : L2.St → XK} (h : Ct s X ["e"] (tabL 44).scope (fun _ => true) k E) : DF s E X (tabL 44).body (mL 44) := df_lst (di_cons (de_fld h g.ef (de_var h 0)) (di_cons (de_fld h g.ef (de_var h 0)) (di_nil)))
theorem lamT : LamT tabL nL ["e"] ["e"] where
  sc := fun k hk => match k, hk with
  | 0, _ => ls_0
  | 1, _ => ls_1
  | 2, _ => ls_2
  | 3, _ => ls_3
  | 4, _ => ls_4
  | 5, _ => ls_5
  | 6, _ => ls_6
  | 7, _ => ls_7
  | 8, _ => ls_8
  | 9, _ => ls_9
  | 10, _ => ls_10
  | 11, _ => ls_11
  | 12, _ => ls_12
  | 13, _ => ls_13
  | 14, _ => ls_14
  | 15, _ => ls_15
  | 16, _ => ls_16
  | 17, _ => ls_17
  | 18, _ => ls_18
  | 19, _ => ls_19
  | 20, _ => ls_20
  | 21, _ => ls_21
  | 22, _ => ls_22
  | 23, _ => ls_23
  | 24, _ => ls_24
  | 25, _ => ls_25
  | 26, _ => ls_26
  | 27, _ => ls_27
  | 28, _ => ls_28
  | 29, _ => ls_29
  | 30, _ => ls_30
  | 31, _ => ls_31
  | 32, _ => ls_32
  | 33, _ => ls_33
  | 34, _ => ls_34
  | 35, _ => ls_35
  | 36, _ => ls_36
  | 37, _ => ls_37
  | 38, _ => ls_38
  | 39, _ => ls_39
  | 40, _ => ls_40
  | 41, _ => ls_41
  | 42, _ => ls_42
  | 43, _ => ls_43
  | 44, _ => ls_44
  | n + 45, z => absurd z (by unfold nL; omega)
  bd := fun k hk => match k, hk with
  | 0, _ => lb_0
  | 1, _ => lb_1
  | 2, _ => lb_2
  | 3, _ => lb_3
  | 4, _ => lb_4
  | 5, _ => lb_5
  | 6, _ => lb_6
  | 7, _ => lb_7
  | 8, _ => lb_8
  | 9, _ => lb_9
  | 10, _ => lb_10
  | 11, _ => lb_11
  | 12, _ => lb_12
  | 13, _ => lb_13
  | 14, _ => lb_14
  | 15, _ => lb_15
  | 16, _ => lb_16
  | 17, _ => lb_17
  | 18, _ => lb_18
  | 19, _ => lb_19
  | 20, _ => lb_20
  | 21, _ => lb_21
  | 22, _ => lb_22
  | 23, _ => lb_23
  | 24, _ => lb_24
  | 25, _ => lb_25
  | 26, _ => lb_26
  | 27, _ => lb_27
  | 28, _ => lb_28
  | 29, _ => lb_29
  | 30, _ => lb_30
  | 31, _ => lb_31
  | 32, _ => lb_32
  | 33, _ => lb_33
  | 34, _ => lb_34
  | 35, _ => lb_35
  | 36, _ => lb_36
  | 37, _ => lb_37
  | 38, _ => lb_38
  | 39, _ => lb_39
  | 40, _ => lb_40
  | 41, _ => lb_41
  | 42, _ => lb_42
  | 43, _ => lb_43
  | 44, _ => lb_44
  | n + 45, z => absurd z (by unfold nL; omega)
theorem lf (g : G s a fd) (j : Nat) (hj : j < nL) {X : Cx} {k : Nat} {E : L2.St → XK} (h : Ct s X ["e"] (tabL j).scope (fun _ => true) k E) : DF s E X (tabL j).body (mL j) := match j, hj, h with
  | 0, _, h => lf_0 g h
  | 1, _, h => lf_1 g h
  | 2, _, h => lf_2 g h
  | 3, _, h => lf_3 g h
  | 4, _, h => lf_4 g h
  | 5, _, h => lf_5 g h
  | 6, _, h => lf_6 g h
  | 7, _, h => lf_7 g h
  | 8, _, h => lf_8 g h
  | 9, _, h => lf_9 g h
  | 10, _, h => lf_10 g h
  | 11, _, h => lf_11 g h
  | 12, _, h => lf_12 g h
  | 13, _, h => lf_13 g h
  | 14, _, h => lf_14 g h
  | 15, _, h => lf_15 g h
  | 16, _, h => lf_16 g h
  | 17, _, h => lf_17 g h
  | 18, _, h => lf_18 g h
  | 19, _, h => lf_19 g h
  | 20, _, h => lf_20 g h
  | 21, _, h => lf_21 g h
  | 22, _, h => lf_22 g h
  | 23, _, h => lf_23 g h
  | 24, _, h => lf_24 g h
  | 25, _, h => lf_25 g h
  | 26, _, h => lf_26 g h
  | 27, _, h => lf_27 g h
  | 28, _, h => lf_28 g h
  | 29, _, h => lf_29 g h
  | 30, _, h => lf_30 g h
  | 31, _, h => lf_31 g h
  | 32, _, h => lf_32 g h
  | 33, _, h => lf_33 g h
  | 34, _, h => lf_34 g h
  | 35, _, h => lf_35 g h
  | 36, _, h => lf_36 g h
  | 37, _, h => lf_37 g h
  | 38, _, h => lf_38 g h
  | 39, _, h => lf_39 g h
  | 40, _, h => lf_40 g h
  | 41, _, h => lf_41 g h
  | 42, _, h => lf_42 g h
  | 43, _, h => lf_43 g h
  | 44, _, h => lf_44 g h
  | n + 45, z, _ => absurd z (by unfold nL; omega)
/-! ### _law_spring -/
def b__law_spring (k : Nat) : MS := mSeq (mPar 2 3 (mXi (mIf (mTst (mBin (cmpI fun i j => decide (i < j)) (mVar 1) (mCall lenD (mCons (mVar 0) (mNil))))) (mBin ixD (mVar 0) (mVar 1)) (mBin addD (mBin mulI (mC (.int 7)) (mVar 1)) (mCall lenD (mCons (mVar 0) (mNil)))))) (mXi (mBin addD (mC (.int 1009)) (mBin mulI (mC (.int 97)) (mVar 1))))) (mSeq (mFor (mEnum (mCons (mFrz (mSl (mVar 0) (mNo) (mSome (mC (.int 63))))) (mNil))) (mgTup 2 (mgCons (mgName 4) (mgCons (mgName 5) (mgNil)))) (mSet (mBin modD (mCall intD (mCons (mBin addD (mBin addD (mBin addD (mBin mulI (mVar 3) (mC (.int 69069))) (mVar 5)) (mBin mulI (mC (.int 5)) (mVar 4))) (mC (.int 1))) (mNil))) (mC (.int 2147483629))) (mgName 3))) (mRetF (mLst (mCons (mIf (mTst (mBin (cmpI fun i j => decide (j ≤ i)) (mVar 2) (mBin powD (mC (.int 10)) (mC (.int 18))))) (mVar 2) (mC (.int 0))) (mCons (mBin modD (mCall intD (mCons (mBin addD (mVar 3) (mBin mulI (mVar 2) (mC (.int 31)))) (mNil))) (mC (.int 2147483647))) (mCons (mC (.int 0)) (mNil)))))))
def m__law_spring : Nat → MS
  | 0 => mNever
  | k + 1 => b__law_spring k
theorem sc__law_spring : FnScope ["script", "turn", "cell", "mix", "at", "one"] ["script", "turn"] (defScope (top 67)) := ⟨rfl, rfl, rfl, by decide +kernel, rfl, by decide +kernel, by decide +kernel⟩
theorem bd__law_spring (kV doc pm : Value) (an : Option Addr) (cdv ct : Value) (us : List Value) (hl : us.length = 2) : bindArgs (PySem.W.fnOf "_law_spring" "_law_spring" (defArgs (top 67)) (defBody (top 67)) (defScope (top 67)) .none kV doc pm an cdv ct) ⟨us, []⟩ = pure ((["script", "turn"] : List Str).zip us) := match us, hl with
  | [_, _], _ => rfl
theorem fn__law_spring (g : G s a fd) : ∀ k, Fun s k "_law_spring" (a "_law_spring") (fd "_law_spring") ["script", "turn"] 6 (m__law_spring k)
  | 0 => g.toGs.zero (ps := ["script", "turn"]) 67 "_law_spring" (by decide +kernel) bd__law_spring 0
  | k + 1 => g.toGs.succ (N := ["script", "turn", "cell", "mix", "at", "one"]) (ps := ["script", "turn"]) (m := b__law_spring k) 67 "_law_spring" (by decide +kernel) bd__law_spring sc__law_spring fun _ _ h => db_cons (ds_par h 2 3 (dx_i (de_if (dt_cmp ck_lt (de_var h 1) (de_callB h call_len (h.K ▸ cd_len) (g.toGs.no "len") PySem.boot_len (di_cons (de_var h 0) (di_nil)))) (de_ix h (de_var h 0) (de_var h 1)) (de_add h (de_mul (de_int) (de_var h 1)) (de_callB h call_len (h.K ▸ cd_len) (g.toGs.no "len") PySem.boot_len (di_cons (de_var h 0) (di_nil)))))) (dx_i (de_add h (de_int) (de_mul (de_int) (de_var h 1))))) (db_cons (ds_for h (dn_enum h (g.toGs.no "enumerate") (di_cons (de_frz (df_sl h (de_var h 0) (do_none) (do_some (de_int)))) (di_nil))) (dg_tup h 2 (dgs_cons (dg_name h 4) (dgs_cons (dg_name h 5) (dgs_nil)))) (db_one (ds_set h 3 (de_mod (de_callT h call_int1 cd_int (g.toGs.no "int") PyProof.Rows.boot_int (di_cons (de_add h (de_add h (de_add h (de_mul (de_var h 3) (de_int)) (de_var h 5)) (de_mul (de_int) (de_var h 4))) (de_int)) (di_nil))) (de_int))))) (db_one (ds_retF (df_lst (di_cons (de_if (dt_cmp ck_ge (de_var h 2) (de_pow (de_int) (de_int))) (de_var h 2) (de_int)) (di_cons (de_mod (de_callT h call_int1 cd_int (g.toGs.no "int") PyProof.Rows.boot_int (di_cons (de_add h (de_var h 3) (de_mul (de_var h 2) (de_int))) (di_nil))) (de_int)) (di_cons (de_int) (di_nil))))))))
/-! ### _law_draw -/
def b__law_draw (k : Nat) : MS := mSeq (mIfS (mTst (mBin (cmpI fun i j => decide (j < i)) (mIxO 0 (mC (.int 0))) (mC (.int 0)))) (mSeq (mSet (mBin modD (mCall intD (mCons (mIxO 0 (mC (.int 0))) (mNil))) (mVar 1)) (mgName 2)) (mSeq (mSet (mBin divD (mIxO 0 (mC (.int 0))) (mVar 1)) (mgSub 0 (mC (.int 0)))) (mRet (mVar 2)))) (mNext)) (mSeq (mSet (mBin addD (mIxO 0 (mC (.int 2))) (mC (.int 1))) (mgSub 0 (mC (.int 2)))) (mSeq (mSet (mBin modD (mBin powD (mCall intD (mCons (mBin addD (mBin addD (mIxO 0 (mC (.int 1))) (mBin mulI (mC (.int 6364137)) (mIxO 0 (mC (.int 2))))) (mC (.int 1442695))) (mNil))) (mC (.int 3))) (mC (.int 2147483647))) (mgName 3)) (mRet (mBin modD (mBin divD (mBin modD (mBin powD (mCall intD (mCons (mBin addD (mBin mulI (mVar 3) (mC (.int 48271))) (mBin mulI (mC (.int 11)) (mIxO 0 (mC (.int 2))))) (mNil))) (mC (.int 3))) (mC (.int 2147483629))) (mC (.int 8))) (mVar 1)))))
def m__law_draw : Nat → MS
  | 0 => mNever
  | k + 1 => b__law_draw k
theorem sc__law_draw : FnScope ["spring", "many", "digit", "mixed"] ["spring", "many"] (defScope (top 68)) := ⟨rfl, rfl, rfl, by decide +kernel, rfl, by decide +kernel, by decide +kernel⟩
theorem bd__law_draw (kV doc pm : Value) (an : Option Addr) (cdv ct : Value) (us : List Value) (hl : us.length = 2) : bindArgs (PySem.W.fnOf "_law_draw" "_law_draw" (defArgs (top 68)) (defBody (top 68)) (defScope (top 68)) .none kV doc pm an cdv ct) ⟨us, []⟩ = pure ((["spring", "many"] : List Str).zip us) := match us, hl with
  | [_, _], _ => rfl
theorem fn__law_draw (g : G s a fd) : ∀ k, Fun s k "_law_draw" (a "_law_draw") (fd "_law_draw") ["spring", "many"] 4 (m__law_draw k)
  | 0 => g.toGs.zero (ps := ["spring", "many"]) 68 "_law_draw" (by decide +kernel) bd__law_draw 0
  | k + 1 => g.toGs.succ (N := ["spring", "many", "digit", "mixed"]) (ps := ["spring", "many"]) (m := b__law_draw k) 68 "_law_draw" (by decide +kernel) bd__law_draw sc__law_draw fun _ _ h => db_cons (ds_if (dt_cmp ck_gt (de_ixO h 0 (de_int)) (de_int)) (db_cons (ds_set h 2 (de_mod (de_callT h call_int1 cd_int (g.toGs.no "int") PyProof.Rows.boot_int (di_cons (de_ixO h 0 (de_int)) (di_nil))) (de_var h 1))) (db_cons (ds_asgS h (de_div (de_ixO h 0 (de_int)) (de_var h 1)) (dg_sub h 0 (de_int))) (db_one (ds_ret (de_var h 2))))) (db_nil)) (db_cons (ds_asgS h (de_add h (de_ixO h 0 (de_int)) (de_int)) (dg_sub h 0 (de_int))) (db_cons (ds_set h 3 (de_mod (de_pow (de_callT h call_int1 cd_int (g.toGs.no "int") PyProof.Rows.boot_int (di_cons (de_add h (de_add h (de_ixO h 0 (de_int)) (de_mul (de_int) (de_ixO h 0 (de_int)))) (de_int)) (di_nil))) (de_int)) (de_int))) (db_one (ds_ret (de_mod (de_div (de_mod (de_pow (de_callT h call_int1 cd_int (g.toGs.no "int") PyProof.Rows.boot_int (di_cons (de_add h (de_mul (de_var h 3) (de_int)) (de_mul (de_int) (de_ixO h 0 (de_int)))) (di_nil))) (de_int)) (de_int)) (de_int)) (de_var h 1))))))
/-! ### _law_pick -/
def b__law_pick (k : Nat) : MS := mRet (mBin ixD (mVar 1) (mFn (m__law_draw k) 4 (mAOwn 0 (mAIm (mCall lenD (mCons (mVar 1) (mNil))) (mANil)))))
def m__law_pick : Nat → MS
  | 0 => mNever
  | k + 1 => b__law_pick k
theorem sc__law_pick : FnScope ["spring", "some"] ["spring", "some"] (defScope (top 69)) := ⟨rfl, rfl, rfl, by decide +kernel, rfl, by decide +kernel, by decide +kernel⟩
theorem bd__law_pick (kV doc pm : Value) (an : Option Addr) (cdv ct : Value) (us : List Value) (hl : us.length = 2) : bindArgs (PySem.W.fnOf "_law_pick" "_law_pick" (defArgs (top 69)) (defBody (top 69)) (defScope (top 69)) .none kV doc pm an cdv ct) ⟨us, []⟩ = pure ((["spring", "some"] : List Str).zip us) := match us, hl with
  | [_, _], _ => rfl
theorem fn__law_pick (g : G s a fd) : ∀ k, Fun s k "_law_pick" (a "_law_pick") (fd "_law_pick") ["spring", "some"] 2 (m__law_pick k)
  | 0 => g.toGs.zero (ps := ["spring", "some"]) 69 "_law_pick" (by decide +kernel) bd__law_pick 0
  | k + 1 => g.toGs.succ (N := ["spring", "some"]) (ps := ["spring", "some"]) (m := b__law_pick k) 69 "_law_pick" (by decide +kernel) bd__law_pick sc__law_pick fun _ _ h => db_one (ds_ret (de_ix h (de_var h 1) (de_fn h (fn__law_draw g k) (da_own h 0 (da_im (de_callB h call_len (h.K ▸ cd_len) (g.toGs.no "len") PySem.boot_len (di_cons (de_var h 1) (di_nil))) (da_nil))) (na_own (na_im (na_nil))))))
/-! ### _law_mixed -/
def b__law_mixed (k : Nat) : MS := mSeq (mSetO 2 (mCallF listD (mCons (mVar 1) (mNil)))) (mRetF (mComp (mRng1 (mCons (mLenO 2) (mNil))) (mgName 3) (mYes) (mPopAt 2 (mFn (m__law_draw k) 4 (mAOwn 0 (mAIm (mLenO 2) (mANil))))) [3]))
def m__law_mixed : Nat → MS
  | 0 => mNever
  | k + 1 => b__law_mixed k
theorem sc__law_mixed : FnScope ["spring", "some", "left", "k"] ["spring", "some"] (defScope (top 70)) := ⟨rfl, rfl, rfl, by decide +kernel, rfl, by decide +kernel, by decide +kernel⟩
theorem bd__law_mixed (kV doc pm : Value) (an : Option Addr) (cdv ct : Value) (us : List Value) (hl : us.length = 2) : bindArgs (PySem.W.fnOf "_law_mixed" "_law_mixed" (defArgs (top 70)) (defBody (top 70)) (defScope (top 70)) .none kV doc pm an cdv ct) ⟨us, []⟩ = pure ((["spring", "some"] : List Str).zip us) := match us, hl with
  | [_, _], _ => rfl
theorem fn__law_mixed (g : G s a fd) : ∀ k, Fun s k "_law_mixed" (a "_law_mixed") (fd "_law_mixed") ["spring", "some"] 4 (m__law_mixed k)
  | 0 => g.toGs.zero (ps := ["spring", "some"]) 70 "_law_mixed" (by decide +kernel) bd__law_mixed 0
  | k + 1 => g.toGs.succ (N := ["spring", "some", "left", "k"]) (ps := ["spring", "some"]) (m := b__law_mixed k) 70 "_law_mixed" (by decide +kernel) bd__law_mixed sc__law_mixed fun _ _ h => db_cons (ds_setO h 2 (df_callT h call_list_of (h.K ▸ cf_list) (g.toGs.no "list") PyProof.Rows.boot_list (di_cons (de_var h 1) (di_nil)))) (db_one (ds_retF (df_comp h [("k", 3)] (dn_rng1 h (g.toGs.no "range") (di_cons (de_lenO h 2 (g.toGs.no "len")) (di_nil))) (fun _ q1 => dgb_name q1.1 3) (fun _ q1 => dts_nil) (fun _ q1 => de_popAt q1.1 2 (de_fn q1.1 (fn__law_draw g k) (da_own q1.1 0 (da_im (de_lenO q1.1 2 (g.toGs.no "len")) (da_nil))) (na_own (na_im (na_nil))))))))
/-! ### _law_same -/
def b__law_same (k : Nat) (mself : MS) : MS := mSeq (mIfS (mTru (mIsi ["dict"] (mVar 1))) (mRet (mAndV (mIsi ["dict"] (mVar 0)) (mFn mself 5 (mAIm (mFrz (mCallF listD (mCons (mStuck) (mNil)))) (mAIm (mFrz (mCallF listD (mCons (mStuck) (mNil)))) (mANil)))))) (mNext)) (mSeq (mIfS (mTru (mIsi ["list", "tuple"] (mVar 1))) (mSeq (mIfS (mOrT (mTst (mBin (mEq true) (mIsi ["list"] (mVar 0)) (mIsi ["list"] (mVar 1)))) (mTst (mBin (mEq true) (mIsi ["tuple"] (mVar 0)) (mIsi ["tuple"] (mVar 1))))) (mRet (mC (.bl false))) (mNext)) (mRet (mAndV (mBin (mEq false) (mCall lenD (mCons (mVar 0) (mNil))) (mCall lenD (mCons (mVar 1) (mNil)))) (mCall allD (mCons (mFrz (mComp (mZip (mCons (mVar 0) (mCons (mVar 1) (mNil)))) (mgTup 2 (mgCons (mgName 2) (mgCons (mgName 3) (mgNil)))) (mYes) (mFn mself 5 (mAIm (mVar 2) (mAIm (mVar 3) (mANil)))) [2, 3])) (mNil)))))) (mNext)) (mSeq (mSet (mAndV (mBin (mEq false) (mIsi ["bool"] (mVar 0)) (mIsi ["bool"] (mVar 1))) (mBin (mEq false) (mIsi ["int"] (mVar 0)) (mIsi ["int"] (mVar 1)))) (mgName 4)) (mSeq (mIfS (mOrT (mTru (mIsi ["dict", "list", "tuple"] (mVar 0))) (mOrT (mNotT (mTru (mVar 4))) (mTst (mBin (mEq true) (mIsi ["str"] (mVar 0)) (mIsi ["str"] (mVar 1)))))) (mRet (mC (.bl false))) (mNext)) (mRet (mIf (mTst (mBin (isN false) (mVar 1) (mC .non))) (mBin (isN false) (mVar 0) (mC .non)) (mBin (mEq false) (mVar 0) (mVar 1)))))))
def m__law_same : Nat → MS
  | 0 => mNever
  | k + 1 => b__law_same k (m__law_same k)
theorem sc__law_same : FnScope ["found", "due", "one", "other", "is_alike"] ["found", "due"] (defScope (top 72)) := ⟨rfl, rfl, rfl, by decide +kernel, rfl, by decide +kernel, by decide +kernel⟩
theorem bd__law_same (kV doc pm : Value) (an : Option Addr) (cdv ct : Value) (us : List Value) (hl : us.length = 2) : bindArgs (PySem.W.fnOf "_law_same" "_law_same" (defArgs (top 72)) (defBody (top 72)) (defScope (top 72)) .none kV doc pm an cdv ct) ⟨us, []⟩ = pure ((["found", "due"] : List Str).zip us) := match us, hl with
  | [_, _], _ => rfl
theorem fn__law_same (g : G s a fd) : ∀ k, Fun s k "_law_same" (a "_law_same") (fd "_law_same") ["found", "due"] 5 (m__law_same k)
  | 0 => g.toGs.zero (ps := ["found", "due"]) 72 "_law_same" (by decide +kernel) bd__law_same 0
  | k + 1 => g.toGs.succ (N := ["found", "due", "one", "other", "is_alike"]) (ps := ["found", "due"]) (m := b__law_same k (m__law_same k)) 72 "_law_same" (by decide +kernel) bd__law_same sc__law_same fun _ _ h => db_cons (ds_if (dt_tru h (de_isi h (g.toGs.no "isinstance") (de_var h 1) (g.toGs.no "dict") (by decide +kernel))) (db_one (ds_ret (de_and (de_isi h (g.toGs.no "isinstance") (de_var h 0) (g.toGs.no "dict") (by decide +kernel)) (de_one (de_fn h (fn__law_same g k) (da_im (de_frz (df_callT h call_list_of (h.K ▸ cf_list) (g.toGs.no "list") PyProof.Rows.boot_list (di_cons (de_stuck) (di_nil)))) (da_im (de_frz (df_callT h call_list_of (h.K ▸ cf_list) (g.toGs.no "list") PyProof.Rows.boot_list (di_cons (de_stuck) (di_nil)))) (da_nil))) (na_im (na_im (na_nil)))))))) (db_nil)) (db_cons (ds_if (dt_tru h (de_isiT h (g.toGs.no "isinstance") (de_var h 1) (dty_cons h (g.toGs.no "list") (by decide +kernel) (dty_cons h (g.toGs.no "tuple") (by decide +kernel) (dty_nil))))) (db_cons (ds_if (dt_w (dw_or (dt_cmp (ck_ne h) (de_isi h (g.toGs.no "isinstance") (de_var h 0) (g.toGs.no "list") (by decide +kernel)) (de_isi h (g.toGs.no "isinstance") (de_var h 1) (g.toGs.no "list") (by decide +kernel))) (dw_or1 (dt_cmp (ck_ne h) (de_isi h (g.toGs.no "isinstance") (de_var h 0) (g.toGs.no "tuple") (by decide +kernel)) (de_isi h (g.toGs.no "isinstance") (de_var h 1) (g.toGs.no "tuple") (by decide +kernel)))))) (db_one (ds_ret (de_bl))) (db_nil)) (db_one (ds_ret (de_and (de_cmp (ck_eq h) (de_callB h call_len (h.K ▸ cd_len) (g.toGs.no "len") PySem.boot_len (di_cons (de_var h 0) (di_nil))) (de_callB h call_len (h.K ▸ cd_len) (g.toGs.no "len") PySem.boot_len (di_cons (de_var h 1) (di_nil)))) (de_one (de_callB h (cr_all h.calm) (h.K ▸ cd_all) (g.toGs.no "all") PyProof.Rows.boot_all (di_cons (de_frz (df_comp h [("one", 2), ("other", 3)] (dn_zip h (g.toGs.no "zip") (di_cons (de_var h 0) (di_cons (de_var h 1) (di_nil)))) (fun _ q1 => dgb_tup q1.1 2 (dgbs_cons (dgb_name q1.1 2) (dgbs_cons (dgb_name q1.1 3) (dgbs_nil)))) (fun _ q1 => dts_nil) (fun _ q1 => de_fn q1.1 (fn__law_same g k) (da_im (de_var q1.1 2) (da_im (de_var q1.1 3) (da_nil))) (na_im (na_im (na_nil)))))) (di_nil)))))))) (db_nil)) (db_cons (ds_set h 4 (de_and (de_cmp (ck_eq h) (de_isi h (g.toGs.no "isinstance") (de_var h 0) (g.toGs.no "bool") (by decide +kernel)) (de_isi h (g.toGs.no "isinstance") (de_var h 1) (g.toGs.no "bool") (by decide +kernel))) (de_one (de_cmp (ck_eq h) (de_isi h (g.toGs.no "isinstance") (de_var h 0) (g.toGs.no "int") (by decide +kernel)) (de_isi h (g.toGs.no "isinstance") (de_var h 1) (g.toGs.no "int") (by decide +kernel)))))) (db_cons (ds_if (dt_w (dw_or (dt_tru h (de_isiT h (g.toGs.no "isinstance") (de_var h 0) (dty_cons h (g.toGs.no "dict") (by decide +kernel) (dty_cons h (g.toGs.no "list") (by decide +kernel) (dty_cons h (g.toGs.no "tuple") (by decide +kernel) (dty_nil)))))) (dw_or (dt_not (dt_tru h (de_var h 4))) (dw_or1 (dt_cmp (ck_ne h) (de_isi h (g.toGs.no "isinstance") (de_var h 0) (g.toGs.no "str") (by decide +kernel)) (de_isi h (g.toGs.no "isinstance") (de_var h 1) (g.toGs.no "str") (by decide +kernel))))))) (db_one (ds_ret (de_bl))) (db_nil)) (db_one (ds_ret (de_if (dt_cmp ck_is (de_var h 1) (de_non)) (de_cmp ck_is (de_var h 0) (de_non)) (de_cmp (ck_eq h) (de_var h 0) (de_var h 1))))))))
/-! ### _law_very -/
def b__law_very (k : Nat) : MS := mSeq (mIfS (mTru (mIsi ["list"] (mVar 1))) (mSeq (mDrop (mStuck)) (mSeq (mSet (mAndV (mIsi ["list"] (mVar 0)) (mAndV (mBin (mEq false) (mCall lenD (mCons (mVar 0) (mNil))) (mCall lenD (mCons (mVar 1) (mNil)))) (mBin (mEq false) (mBin ixD (mVar 0) (mNeg (mC (.int 1)))) (mC (.str " late "))))) (mgName 2)) (mSeq (mDrop (mStuck)) (mRet (mVar 2))))) (mNext)) (mSeq (mIfS (mTru (mIsi ["dict"] (mVar 1))) (mSeq (mNever) (mSeq (mSet (mAndV (mIsi ["dict"] (mVar 0)) (mAndV (mBin (mEq false) (mCall lenD (mCons (mVar 0) (mNil))) (mCall lenD (mCons (mVar 1) (mNil)))) (mBin (mEq false) (mStuck) (mC (.int 7))))) (mgName 2)) (mSeq (mDrop (mStuck)) (mRet (mVar 2))))) (mNext)) (mSeq (mIfS (mOrT (mTru (mIsi ["tuple", "str", "bool", "int"] (mVar 1))) (mTst (mBin (isN false) (mVar 1) (mC .non)))) (mRet (mFn (m__law_same k) 5 (mAIm (mVar 0) (mAIm (mVar 1) (mANil))))) (mNext)) (mRet (mBin (mEq false) (mVar 0) (mVar 1)))))
def m__law_very : Nat → MS
  | 0 => mNever
  | k + 1 => mVery (b__law_very k)
theorem sc__law_very : FnScope ["held", "thing", "found"] ["held", "thing"] (defScope (top 71)) := ⟨rfl, rfl, rfl, by decide +kernel, rfl, by decide +kernel, by decide +kernel⟩
theorem bd__law_very (kV doc pm : Value) (an : Option Addr) (cdv ct : Value) (us : List Value) (hl : us.length = 2) : bindArgs (PySem.W.fnOf "_law_very" "_law_very" (defArgs (top 71)) (defBody (top 71)) (defScope (top 71)) .none kV doc pm an cdv ct) ⟨us, []⟩ = pure ((["held", "thing"] : List Str).zip us) := match us, hl with
  | [_, _], _ => rfl
section
variable {X : Cx} {k : Nat} {E : L2.St → XK}
abbrev NV : List Str := ["held", "thing", "found"]
theorem very_l (g : G s a fd) (h : Ct s X NV (defScope (top 71)) (fun _ => true) k E) : ∃ t, PSs X (defBody (top 71)) t ∧ ∀ (b : Addr) (vs : List V) (H : Hp) (D : Ends), H b = some (.lst vs) → vs.length ≤ 1000 → D.rt (.bl true) H → t D [some (.ref b), some (.ref b), none] H := by
  have pv : ∀ {p : Pos} (i : Nat) (x : Str), NV[i]? = some x → visB (defScope (top 71)) x = true → (x == ("__debug__" : Str)) = false → (x == ("__classdict__" : Str)) = false → PE X (.Name x p) (tVar i) := fun i x h1 h2 h3 h4 => pe_var (h.at_ h1) (h.vis h2) h3 h4
  have v0 : ∀ {p : Pos}, PE X (.Name "held" p) (tVar 0) := pv 0 "held" rfl (by decide +kernel) (by decide +kernel) (by decide +kernel)
  have v1 : ∀ {p : Pos}, PE X (.Name "thing" p) (tVar 1) := pv 1 "thing" rfl (by decide +kernel) (by decide +kernel) (by decide +kernel)
  have v2 : ∀ {p : Pos}, PE X (.Name "found" p) (tVar 2) := pv 2 "found" rfl (by decide +kernel) (by decide +kernel) (by decide +kernel)
  have gi : Gl X "isinstance" := h.gl (by decide +kernel)
  have ni : X.mg "isinstance" = none := h.none (g.toGs.no "isinstance")
  have gl : Gl X "len" := h.gl (by decide +kernel)
  have nl : X.mg "len" = none := h.none (g.toGs.no "len")
  have ty : ∀ {p : Pos}, PE X (.Name "list" p) (tC (.ty "list")) := pe_bltn (v := .ty "list") (h.gl (by decide +kernel)) (h.none (g.toGs.no "list")) PyProof.Rows.boot_list rfl (by decide) (by decide +kernel)
  refine ⟨_, pss_cons (ps_if (pt_val (pe_callB call_isi gi ni PyProof.Rows.boot_isinstance (pa_cons v1 (pa_cons ty pa_nil))))
    (pss_cons (ps_expr (pe_bm PySem.F.plainAttrs_list PySem.F.slot_list_append PySem.F.type_list_append mt_append v1 (pa_cons pe_str pa_nil) rfl rfl rfl rfl rfl) rfl)
    (pss_cons (ps_set h.ndX (h.at_ (i := 2) rfl) (h.loc (by decide +kernel)).1 (pe_and (pe_callB call_isi gi ni PyProof.Rows.boot_isinstance (pa_cons v0 (pa_cons ty pa_nil))) (pe_and (pe_cmpR op_eq (pe_callB call_len gl nl PySem.boot_len (pa_cons v0 pa_nil)) (pe_callB call_len gl nl PySem.boot_len (pa_cons v1 pa_nil)) rfl)
      (pe_one (pe_cmpR op_eq (pe_ix ix_seq v0 (pe_un un_neg pe_int) (by intro _ _; rfl)) pe_str rfl)))) rfl (h.loc (by decide +kernel)).2)
    (pss_cons (ps_expr (pe_bm0 PySem.F.plainAttrs_list PySem.F.slot_list_pop PySem.F.type_list_pop mt_pop v1 rfl rfl) rfl)
    (pss_one (ps_ret v2))))) pss_nil) pss_never, ?_⟩
  intro b vs H D e hl hD
  have kk : PySem.W.kitOne X.K (.type "list") (.type "list") = some true := kitOne_ok (by decide) (by decide)
  refine ⟨.ref b, rfl, .ref b, .ty "list", .type "list", .type "list", true, rfl, .ty "list", .base (.lst e), kk, true, rfl, ?_⟩
  have lt : vs.length < sizeLine := Nat.lt_of_le_of_lt hl (by rw [sizeLine_eq]; decide)
  refine ⟨.ref b, rfl, .inl ⟨rfl, vs, SqL.of e⟩, b, vs, V.str " late ", rfl, rfl, e, lt, ?_⟩
  have e1 : upd H b (HO.lst (vs ++ [V.str " late "])) b = some (HO.lst (vs ++ [V.str " late "])) := upd_same
  have ln : LenV X.K (.ref b) (upd H b (HO.lst (vs ++ [V.str " late "]))) (vs ++ [V.str " late "]).length := .inl ⟨_, SqL.of e1, rfl⟩
  refine ⟨.ref b, rfl, .ref b, .ty "list", .type "list", .type "list", true, rfl, .ty "list", .base (.lst e1), kk, true, rfl, ?_⟩
  refine ⟨.ref b, rfl, .ref b, _, rfl, ln, .ref b, rfl, .ref b, _, rfl, ln, rfl, true, by rw [decide_eq_true rfl], ?_⟩
  refine ⟨.ref b, rfl, 1, rfl, .inl ⟨b, _, -1, V.str " late ", rfl, rfl, SqL.of e1, ?_, rfl, ?_⟩⟩
  · unfold atI ixN
    rw [if_neg (by decide), List.length_append]
    simp
    rw [if_pos (by omega), Option.bind_some, show (-1 + ((vs.length : Int) + 1)).toNat = vs.length by omega, List.getElem?_append_right (Nat.le_refl _), Nat.sub_self]
    rfl
  refine ⟨.ref b, rfl, .inl ⟨rfl, _, SqL.of e1⟩, b, _, V.str " late ", rfl, rfl, e1, by simp, ?_⟩
  refine ⟨.bl true, by rw [decide_eq_true rfl]; rfl, ?_⟩
  have eH : upd (upd H b (HO.lst (vs ++ [V.str " late "]))) b (HO.lst (vs ++ [V.str " late "]).dropLast) = H := by
    funext c
    by_cases hc : c = b
    · subst hc
      rw [upd_same, e, List.dropLast_concat]
    · rw [upd_ne hc, upd_ne hc]
  show D.rt (.bl true) _
  rw [eH]
  exact hD
theorem very_d (g : G s a fd) (h : Ct s X NV (defScope (top 71)) (fun _ => true) k E) : ∃ t, PSs X (defBody (top 71)) t ∧ ∀ (b : Addr) (kvs : List (Key × V)) (H : Hp) (D : Ends), H b = some (.dK kvs) → kvs.length ≤ 1000 → (∀ kv ∈ kvs, kv.1 ≠ .inr " late ") → D.rt (.bl true) H → t D [some (.ref b), some (.ref b), none] H := by
  have pv : ∀ {p : Pos} (i : Nat) (x : Str), NV[i]? = some x → visB (defScope (top 71)) x = true → (x == ("__debug__" : Str)) = false → (x == ("__classdict__" : Str)) = false → PE X (.Name x p) (tVar i) := fun i x h1 h2 h3 h4 => pe_var (h.at_ h1) (h.vis h2) h3 h4
  have v0 : ∀ {p : Pos}, PE X (.Name "held" p) (tVar 0) := pv 0 "held" rfl (by decide +kernel) (by decide +kernel) (by decide +kernel)
  have v1 : ∀ {p : Pos}, PE X (.Name "thing" p) (tVar 1) := pv 1 "thing" rfl (by decide +kernel) (by decide +kernel) (by decide +kernel)
  have v2 : ∀ {p : Pos}, PE X (.Name "found" p) (tVar 2) := pv 2 "found" rfl (by decide +kernel) (by decide +kernel) (by decide +kernel)
  have gi : Gl X "isinstance" := h.gl (by decide +kernel)
  have ni : X.mg "isinstance" = none := h.none (g.toGs.no "isinstance")
  have gl : Gl X "len" := h.gl (by decide +kernel)
  have nl : X.mg "len" = none := h.none (g.toGs.no "len")
  have ty : ∀ {p : Pos}, PE X (.Name "list" p) (tC (.ty "list")) := pe_bltn (v := .ty "list") (h.gl (by decide +kernel)) (h.none (g.toGs.no "list")) PyProof.Rows.boot_list rfl (by decide) (by decide +kernel)
  have td : ∀ {p : Pos}, PE X (.Name "dict" p) (tC (.ty "dict")) := pe_bltn (v := .ty "dict") (h.gl (by decide +kernel)) (h.none (g.toGs.no "dict")) rfl rfl (by decide) (by decide +kernel)
  have hu : X.A.units + 1 < cLine := Nat.lt_of_le_of_lt (Nat.add_le_add_left (by decide) _) h.un
  refine ⟨_, pss_cons (ps_if (pt_val (pe_callB call_isi gi ni PyProof.Rows.boot_isinstance (pa_cons v1 (pa_cons ty pa_nil)))) pss_never pss_nil)
    (pss_cons (ps_if (pt_val (pe_callB call_isi gi ni PyProof.Rows.boot_isinstance (pa_cons v1 (pa_cons td pa_nil))))
    (pss_cons (ps_dput hu v1 pe_str pe_int rfl)
    (pss_cons (ps_set h.ndX (h.at_ (i := 2) rfl) (h.loc (by decide +kernel)).1 (pe_and (pe_callB call_isi gi ni PyProof.Rows.boot_isinstance (pa_cons v0 (pa_cons td pa_nil))) (pe_and (pe_cmpR op_eq (pe_callB call_lenD gl nl PySem.boot_len (pa_cons v0 pa_nil)) (pe_callB call_lenD gl nl PySem.boot_len (pa_cons v1 pa_nil)) rfl)
      (pe_one (pe_cmpR op_eq (pe_dget1 hu v0 pe_str ⟨rfl, rfl, rfl, rfl⟩) pe_int rfl)))) rfl (h.loc (by decide +kernel)).2)
    (pss_cons (ps_expr (pe_dpop1 v1 pe_str ⟨rfl, rfl, rfl, rfl⟩) rfl)
    (pss_one (ps_ret v2))))) pss_nil) pss_never), ?_⟩
  intro b kvs H D e hl hn hD
  have kk : PySem.W.kitOne X.K (.type "dict") (.type "dict") = some true := kitOne_ok (by decide) (by decide)
  have kf : PySem.W.kitOne X.K (.type "dict") (.type "list") = some false := kitOne_ok (by decide) (by decide)
  have pk : putK kvs (.inr " late ") (V.int 7) = kvs ++ [(.inr " late ", V.int 7)] := by
    unfold putK
    rw [if_neg]
    intro z
    obtain ⟨kv, h1, h2⟩ := List.any_eq_true.mp z
    exact hn kv h1 (of_decide_eq_true h2)
  have vk : valV (putK kvs (.inr " late ") (V.int 7)) (.inr " late ") = some (V.int 7) := by
    rw [pk]
    unfold valV
    rw [List.find?_append, List.find?_eq_none.mpr (fun kv h1 => by simpa using hn kv h1)]
    simp
  refine ⟨.ref b, rfl, .ref b, .ty "list", .type "dict", .type "list", false, rfl, .ty "list", .base (.dK e), kf, false, rfl, ?_⟩
  refine ⟨.ref b, rfl, .ref b, .ty "dict", .type "dict", .type "dict", true, rfl, .ty "dict", .base (.dK e), kk, true, rfl, ?_⟩
  have lt : kvs.length < sizeLine := Nat.lt_of_le_of_lt hl (by rw [sizeLine_eq]; decide)
  refine ⟨.ref b, rfl, b, upd H b (HO.dK (putK kvs (.inr " late ") (V.int 7))), rfl, .inl ⟨kvs, .inr " late ", e, rfl, lt, rfl⟩, ?_⟩
  have e1 : upd H b (HO.dK (putK kvs (.inr " late ") (V.int 7))) b = some (HO.dK (putK kvs (.inr " late ") (V.int 7))) := upd_same
  refine ⟨.ref b, rfl, .ref b, .ty "dict", .type "dict", .type "dict", true, rfl, .ty "dict", .base (.dK e1), kk, true, rfl, ?_⟩
  refine ⟨.ref b, rfl, b, _, rfl, e1, .ref b, rfl, b, _, rfl, e1, rfl, true, by rw [decide_eq_true rfl], ?_⟩
  refine ⟨.ref b, rfl, b, rfl, .inl ⟨_, .inl e1⟩, some (V.int 7), by rw [← vk]; exact DGet.k (k := .inr " late ") e1, rfl, ?_⟩
  refine ⟨.ref b, rfl, b, rfl, .inl ⟨_, .inl e1⟩, _, .inr " late ", V.int 7, e1, rfl, vk, ?_⟩
  refine ⟨.bl true, by show some (some (V.bl (decide (V.int 7 = V.int 7)))) = _; rw [decide_eq_true rfl], ?_⟩
  have eH : upd (upd H b (HO.dK (putK kvs (.inr " late ") (V.int 7)))) b (HO.dK (dropK (putK kvs (.inr " late ") (V.int 7)) (.inr " late "))) = H := by
    funext c
    by_cases hc : c = b
    · subst hc
      rw [upd_same, e, pk]
      unfold dropK
      rw [List.filter_append, List.filter_eq_self.mpr (fun kv h1 => by simpa using hn kv h1)]
      simp
    · rw [upd_ne hc, upd_ne hc]
  show D.rt (.bl true) _
  rw [eH]
  exact hD
end
theorem fn__law_very (g : G s a fd) : ∀ k, Fun s k "_law_very" (a "_law_very") (fd "_law_very") ["held", "thing"] 3 (m__law_very k)
  | 0 => g.toGs.zero (ps := ["held", "thing"]) 71 "_law_very" (by decide +kernel) bd__law_very 0
  | k + 1 => fun_very (N := ["held", "thing", "found"]) (ps := ["held", "thing"]) (g.toGs.fn 71 "_law_very" (by decide +kernel)) (g.toGs.at_ 71 "_law_very" (by decide +kernel)) sc__law_very rfl rfl (g.bd (ps := ["held", "thing"]) 71 "_law_very" (by decide +kernel) bd__law_very) (fun _ _ h => db_cons (ds_if (dt_tru h (de_isi h (g.toGs.no "isinstance") (de_var h 1) (g.toGs.no "list") (by decide +kernel))) (db_cons (ds_drop (de_stuck)) (db_cons (ds_set h 2 (de_and (de_isi h (g.toGs.no "isinstance") (de_var h 0) (g.toGs.no "list") (by decide +kernel)) (de_and (de_cmp (ck_eq h) (de_callB h call_len (h.K ▸ cd_len) (g.toGs.no "len") PySem.boot_len (di_cons (de_var h 0) (di_nil))) (de_callB h call_len (h.K ▸ cd_len) (g.toGs.no "len") PySem.boot_len (di_cons (de_var h 1) (di_nil)))) (de_one (de_cmp (ck_eq h) (de_ix h (de_var h 0) (de_neg (de_int))) (de_str)))))) (db_cons (ds_drop (de_stuck)) (db_one (ds_ret (de_var h 2)))))) (db_nil)) (db_cons (ds_if (dt_tru h (de_isi h (g.toGs.no "isinstance") (de_var h 1) (g.toGs.no "dict") (by decide +kernel))) (db_cons (ds_never) (db_cons (ds_set h 2 (de_and (de_isi h (g.toGs.no "isinstance") (de_var h 0) (g.toGs.no "dict") (by decide +kernel)) (de_and (de_cmp (ck_eq h) (de_callB h call_len (h.K ▸ cd_len) (g.toGs.no "len") PySem.boot_len (di_cons (de_var h 0) (di_nil))) (de_callB h call_len (h.K ▸ cd_len) (g.toGs.no "len") PySem.boot_len (di_cons (de_var h 1) (di_nil)))) (de_one (de_cmp (ck_eq h) (de_stuck) (de_int)))))) (db_cons (ds_drop (de_stuck)) (db_one (ds_ret (de_var h 2)))))) (db_nil)) (db_cons (ds_if (dt_w (dw_or (dt_tru h (de_isiT h (g.toGs.no "isinstance") (de_var h 1) (dty_cons h (g.toGs.no "tuple") (by decide +kernel) (dty_cons h (g.toGs.no "str") (by decide +kernel) (dty_cons h (g.toGs.no "bool") (by decide +kernel) (dty_cons h (g.toGs.no "int") (by decide +kernel) (dty_nil))))))) (dw_or1 (dt_cmp ck_is (de_var h 1) (de_non))))) (db_one (ds_ret (de_fn h (fn__law_same g k) (da_im (de_var h 0) (da_im (de_var h 1) (da_nil))) (na_im (na_im (na_nil)))))) (db_nil)) (db_one (ds_ret (de_cmp (ck_eq h) (de_var h 0) (de_var h 1))))))) (fun _ _ h => very_l g h) (fun _ _ h => very_d g h)
/-! ### _law_e_first -/
def b__law_e_first (k : Nat) : MS := mSeq (mSetO 1 (mLst (mNil))) (mSeq (mApp 1 (mTup (mCons (mExc "BadQuestion" ["question"] (mCons (mVar 0) (mNil))) (mCons (mExc "BadQuestion" ["question"] (mCons (mVar 0) (mNil))) (mCons (mLam 0) (mCons (mFrz (mLst (mCons (mVar 0) (mNil)))) (mNil))))))) (mSeq (mApp 1 (mTup (mCons (mExc "BadChange" ["change"] (mCons (mVar 0) (mNil))) (mCons (mExc "BadChange" ["change"] (mCons (mVar 0) (mNil))) (mCons (mLam 1) (mCons (mFrz (mLst (mCons (mVar 0) (mNil)))) (mNil))))))) (mSeq (mApp 1 (mTup (mCons (mExc "BadClaim" ["claim"] (mCons (mVar 0) (mNil))) (mCons (mExc "BadClaim" ["claim"] (mCons (mVar 0) (mNil))) (mCons (mLam 2) (mCons (mFrz (mLst (mCons (mVar 0) (mNil)))) (mNil))))))) (mSeq (mApp 1 (mTup (mCons (mExc "BadClaims" ["claims"] (mCons (mVar 0) (mNil))) (mCons (mExc "BadClaims" ["claims"] (mCons (mVar 0) (mNil))) (mCons (mLam 3) (mCons (mFrz (mLst (mCons (mVar 0) (mNil)))) (mNil))))))) (mSeq (mApp 1 (mTup (mCons (mExc "BadCode" ["code"] (mCons (mVar 0) (mNil))) (mCons (mExc "BadCode" ["code"] (mCons (mVar 0) (mNil))) (mCons (mLam 4) (mCons (mFrz (mLst (mCons (mVar 0) (mNil)))) (mNil))))))) (mSeq (mApp 1 (mTup (mCons (mExc "BadClasses" ["classes"] (mCons (mVar 0) (mNil))) (mCons (mExc "BadClasses" ["classes"] (mCons (mVar 0) (mNil))) (mCons (mLam 5) (mCons (mFrz (mLst (mCons (mVar 0) (mNil)))) (mNil))))))) (mSeq (mApp 1 (mTup (mCons (mExc "NoCover" ["classes"] (mCons (mVar 0) (mNil))) (mCons (mExc "NoCover" ["classes"] (mCons (mVar 0) (mNil))) (mCons (mLam 6) (mCons (mFrz (mLst (mCons (mVar 0) (mNil)))) (mNil))))))) (mSeq (mApp 1 (mTup (mCons (mExc "BadBook" ["book"] (mCons (mVar 0) (mNil))) (mCons (mExc "BadBook" ["book"] (mCons (mVar 0) (mNil))) (mCons (mLam 7) (mCons (mFrz (mLst (mCons (mVar 0) (mNil)))) (mNil))))))) (mSeq (mApp 1 (mTup (mCons (mExc "BadLetter" ["letter"] (mCons (mVar 0) (mNil))) (mCons (mExc "BadLetter" ["letter"] (mCons (mVar 0) (mNil))) (mCons (mLam 8) (mCons (mFrz (mLst (mCons (mVar 0) (mNil)))) (mNil))))))) (mSeq (mApp 1 (mTup (mCons (mExc "BadNumber" ["number"] (mCons (mVar 0) (mNil))) (mCons (mExc "BadNumber" ["number"] (mCons (mVar 0) (mNil))) (mCons (mLam 9) (mCons (mFrz (mLst (mCons (mVar 0) (mNil)))) (mNil))))))) (mSeq (mApp 1 (mTup (mCons (mExc "BadPath" ["path"] (mCons (mVar 0) (mNil))) (mCons (mExc "BadPath" ["path"] (mCons (mVar 0) (mNil))) (mCons (mLam 10) (mCons (mFrz (mLst (mCons (mVar 0) (mNil)))) (mNil))))))) (mSeq (mApp 1 (mTup (mCons (mExc "BadPlace" ["place"] (mCons (mVar 0) (mNil))) (mCons (mExc "BadPlace" ["place"] (mCons (mVar 0) (mNil))) (mCons (mLam 11) (mCons (mFrz (mLst (mCons (mVar 0) (mNil)))) (mNil))))))) (mSeq (mApp 1 (mTup (mCons (mExc "BadTree" ["tree"] (mCons (mVar 0) (mNil))) (mCons (mExc "BadTree" ["tree"] (mCons (mVar 0) (mNil))) (mCons (mLam 12) (mCons (mFrz (mLst (mCons (mVar 0) (mNil)))) (mNil))))))) (mSeq (mApp 1 (mTup (mCons (mExc "NoName" ["named"] (mCons (mVar 0) (mNil))) (mCons (mExc "NoName" ["named"] (mCons (mVar 0) (mNil))) (mCons (mLam 13) (mCons (mFrz (mLst (mCons (mVar 0) (mNil)))) (mNil))))))) (mRetF (mMove 1))))))))))))))))
def m__law_e_first : Nat → MS
  | 0 => mNever
  | k + 1 => b__law_e_first k
theorem sc__law_e_first : FnScope ["x", "found"] ["x"] (defScope (top 73)) := ⟨rfl, rfl, rfl, by decide +kernel, rfl, by decide +kernel, by decide +kernel⟩
theorem bd__law_e_first (kV doc pm : Value) (an : Option Addr) (cdv ct : Value) (us : List Value) (hl : us.length = 1) : bindArgs (PySem.W.fnOf "_law_e_first" "_law_e_first" (defArgs (top 73)) (defBody (top 73)) (defScope (top 73)) .none kV doc pm an cdv ct) ⟨us, []⟩ = pure ((["x"] : List Str).zip us) := match us, hl with
  | [_], _ => rfl
theorem fn__law_e_first (g : G s a fd) : ∀ k, Fun s k "_law_e_first" (a "_law_e_first") (fd "_law_e_first") ["x"] 2 (m__law_e_first k)
  | 0 => g.toGs.zero (ps := ["x"]) 73 "_law_e_first" (by decide +kernel) bd__law_e_first 0
  | k + 1 => g.toGr.succL (N := ["x", "found"]) (ps := ["x"]) (m := b__law_e_first k) 73 "_law_e_first" (by decide +kernel) (by decide +kernel) bd__law_e_first sc__law_e_first fun _ _ h l => db_cons (ds_setO h 1 (df_lst (di_nil))) (db_cons (ds_app h 1 (de_tup (di_cons (de_exc h (g.exk "BadQuestion" [("question", "question")] (by decide +kernel)) (di_cons (de_var h 0) (di_nil))) (di_cons (de_excK h (g.exk "BadQuestion" [("question", "question")] (by decide +kernel)) (dki_cons (de_var h 0) (dki_nil))) (di_cons (de_lam h l g.phi 0) (di_cons (de_frz (df_lst (di_cons (de_var h 0) (di_nil)))) (di_nil))))))) (db_cons (ds_app h 1 (de_tup (di_cons (de_exc h (g.exk "BadChange" [("change", "change")] (by decide +kernel)) (di_cons (de_var h 0) (di_nil))) (di_cons (de_excK h (g.exk "BadChange" [("change", "change")] (by decide +kernel)) (dki_cons (de_var h 0) (dki_nil))) (di_cons (de_lam h l g.phi 1) (di_cons (de_frz (df_lst (di_cons (de_var h 0) (di_nil)))) (di_nil))))))) (db_cons (ds_app h 1 (de_tup (di_cons (de_exc h (g.exk "BadClaim" [("claim", "claim")] (by decide +kernel)) (di_cons (de_var h 0) (di_nil))) (di_cons (de_excK h (g.exk "BadClaim" [("claim", "claim")] (by decide +kernel)) (dki_cons (de_var h 0) (dki_nil))) (di_cons (de_lam h l g.phi 2) (di_cons (de_frz (df_lst (di_cons (de_var h 0) (di_nil)))) (di_nil))))))) (db_cons (ds_app h 1 (de_tup (di_cons (de_exc h (g.exk "BadClaims" [("claims", "claims")] (by decide +kernel)) (di_cons (de_var h 0) (di_nil))) (di_cons (de_excK h (g.exk "BadClaims" [("claims", "claims")] (by decide +kernel)) (dki_cons (de_var h 0) (dki_nil))) (di_cons (de_lam h l g.phi 3) (di_cons (de_frz (df_lst (di_cons (de_var h 0) (di_nil)))) (di_nil))))))) (db_cons (ds_app h 1 (de_tup (di_cons (de_exc h (g.exk "BadCode" [("code", "code")] (by decide +kernel)) (di_cons (de_var h 0) (di_nil))) (di_cons (de_excK h (g.exk "BadCode" [("code", "code")] (by decide +kernel)) (dki_cons (de_var h 0) (dki_nil))) (di_cons (de_lam h l g.phi 4) (di_cons (de_frz (df_lst (di_cons (de_var h 0) (di_nil)))) (di_nil))))))) (db_cons (ds_app h 1 (de_tup (di_cons (de_exc h (g.exk "BadClasses" [("classes", "classes")] (by decide +kernel)) (di_cons (de_var h 0) (di_nil))) (di_cons (de_excK h (g.exk "BadClasses" [("classes", "classes")] (by decide +kernel)) (dki_cons (de_var h 0) (dki_nil))) (di_cons (de_lam h l g.phi 5) (di_cons (de_frz (df_lst (di_cons (de_var h 0) (di_nil)))) (di_nil))))))) (db_cons (ds_app h 1 (de_tup (di_cons (de_exc h (g.exk "NoCover" [("classes", "classes")] (by decide +kernel)) (di_cons (de_var h 0) (di_nil))) (di_cons (de_excK h (g.exk "NoCover" [("classes", "classes")] (by decide +kernel)) (dki_cons (de_var h 0) (dki_nil))) (di_cons (de_lam h l g.phi 6) (di_cons (de_frz (df_lst (di_cons (de_var h 0) (di_nil)))) (di_nil))))))) (db_cons (ds_app h 1 (de_tup (di_cons (de_exc h (g.exk "BadBook" [("book", "book")] (by decide +kernel)) (di_cons (de_var h 0) (di_nil))) (di_cons (de_excK h (g.exk "BadBook" [("book", "book")] (by decide +kernel)) (dki_cons (de_var h 0) (dki_nil))) (di_cons (de_lam h l g.phi 7) (di_cons (de_frz (df_lst (di_cons (de_var h 0) (di_nil)))) (di_nil))))))) (db_cons (ds_app h 1 (de_tup (di_cons (de_exc h (g.exk "BadLetter" [("letter", "letter")] (by decide +kernel)) (di_cons (de_var h 0) (di_nil))) (di_cons (de_excK h (g.exk "BadLetter" [("letter", "letter")] (by decide +kernel)) (dki_cons (de_var h 0) (dki_nil))) (di_cons (de_lam h l g.phi 8) (di_cons (de_frz (df_lst (di_cons (de_var h 0) (di_nil)))) (di_nil))))))) (db_cons (ds_app h 1 (de_tup (di_cons (de_exc h (g.exk "BadNumber" [("number", "number")] (by decide +kernel)) (di_cons (de_var h 0) (di_nil))) (di_cons (de_excK h (g.exk "BadNumber" [("number", "number")] (by decide +kernel)) (dki_cons (de_var h 0) (dki_nil))) (di_cons (de_lam h l g.phi 9) (di_cons (de_frz (df_lst (di_cons (de_var h 0) (di_nil)))) (di_nil))))))) (db_cons (ds_app h 1 (de_tup (di_cons (de_exc h (g.exk "BadPath" [("path", "path")] (by decide +kernel)) (di_cons (de_var h 0) (di_nil))) (di_cons (de_excK h (g.exk "BadPath" [("path", "path")] (by decide +kernel)) (dki_cons (de_var h 0) (dki_nil))) (di_cons (de_lam h l g.phi 10) (di_cons (de_frz (df_lst (di_cons (de_var h 0) (di_nil)))) (di_nil))))))) (db_cons (ds_app h 1 (de_tup (di_cons (de_exc h (g.exk "BadPlace" [("place", "place")] (by decide +kernel)) (di_cons (de_var h 0) (di_nil))) (di_cons (de_excK h (g.exk "BadPlace" [("place", "place")] (by decide +kernel)) (dki_cons (de_var h 0) (dki_nil))) (di_cons (de_lam h l g.phi 11) (di_cons (de_frz (df_lst (di_cons (de_var h 0) (di_nil)))) (di_nil))))))) (db_cons (ds_app h 1 (de_tup (di_cons (de_exc h (g.exk "BadTree" [("tree", "tree")] (by decide +kernel)) (di_cons (de_var h 0) (di_nil))) (di_cons (de_excK h (g.exk "BadTree" [("tree", "tree")] (by decide +kernel)) (dki_cons (de_var h 0) (dki_nil))) (di_cons (de_lam h l g.phi 12) (di_cons (de_frz (df_lst (di_cons (de_var h 0) (di_nil)))) (di_nil))))))) (db_cons (ds_app h 1 (de_tup (di_cons (de_exc h (g.exk "NoName" [("named", "named")] (by decide +kernel)) (di_cons (de_var h 0) (di_nil))) (di_cons (de_excK h (g.exk "NoName" [("named", "named")] (by decide +kernel)) (dki_cons (de_var h 0) (dki_nil))) (di_cons (de_lam h l g.phi 13) (di_cons (de_frz (df_lst (di_cons (de_var h 0) (di_nil)))) (di_nil))))))) (db_one (ds_retF (df_move h 1)))))))))))))))))
/-! ### _law_e_second -/
def b__law_e_second (k : Nat) : MS := mSeq (mSetO 1 (mLst (mNil))) (mSeq (mApp 1 (mTup (mCons (mExc "Refused" ["path"] (mCons (mVar 0) (mNil))) (mCons (mExc "Refused" ["path"] (mCons (mVar 0) (mNil))) (mCons (mLam 14) (mCons (mFrz (mLst (mCons (mVar 0) (mNil)))) (mNil))))))) (mSeq (mApp 1 (mTup (mCons (mExc "TooGreat" ["most"] (mCons (mVar 0) (mNil))) (mCons (mExc "TooGreat" ["most"] (mCons (mVar 0) (mNil))) (mCons (mLam 15) (mCons (mFrz (mLst (mCons (mVar 0) (mNil)))) (mNil))))))) (mSeq (mApp 1 (mTup (mCons (mExc "BadBase" ["base"] (mCons (mVar 0) (mNil))) (mCons (mExc "BadBase" ["base"] (mCons (mVar 0) (mNil))) (mCons (mLam 16) (mCons (mFrz (mLst (mCons (mVar 0) (mNil)))) (mNil))))))) (mSeq (mApp 1 (mTup (mCons (mExc "BadBases" ["bases"] (mCons (mVar 0) (mNil))) (mCons (mExc "BadBases" ["bases"] (mCons (mVar 0) (mNil))) (mCons (mLam 17) (mCons (mFrz (mLst (mCons (mVar 0) (mNil)))) (mNil))))))) (mSeq (mApp 1 (mTup (mCons (mExc "BadFigures" ["figures"] (mCons (mVar 0) (mNil))) (mCons (mExc "BadFigures" ["figures"] (mCons (mVar 0) (mNil))) (mCons (mLam 18) (mCons (mFrz (mLst (mCons (mVar 0) (mNil)))) (mNil))))))) (mSeq (mApp 1 (mTup (mCons (mExc "BadParts" ["parts"] (mCons (mVar 0) (mNil))) (mCons (mExc "BadParts" ["parts"] (mCons (mVar 0) (mNil))) (mCons (mLam 19) (mCons (mFrz (mLst (mCons (mVar 0) (mNil)))) (mNil))))))) (mSeq (mApp 1 (mTup (mCons (mExc "BadForm" ["form"] (mCons (mVar 0) (mNil))) (mCons (mExc "BadForm" ["form"] (mCons (mVar 0) (mNil))) (mCons (mLam 20) (mCons (mFrz (mLst (mCons (mVar 0) (mNil)))) (mNil))))))) (mSeq (mApp 1 (mTup (mCons (mExc "BadImage" ["image"] (mCons (mVar 0) (mNil))) (mCons (mExc "BadImage" ["image"] (mCons (mVar 0) (mNil))) (mCons (mLam 21) (mCons (mFrz (mLst (mCons (mVar 0) (mNil)))) (mNil))))))) (mSeq (mApp 1 (mTup (mCons (mExc "BadWord" ["word"] (mCons (mVar 0) (mNil))) (mCons (mExc "BadWord" ["word"] (mCons (mVar 0) (mNil))) (mCons (mLam 22) (mCons (mFrz (mLst (mCons (mVar 0) (mNil)))) (mNil))))))) (mSeq (mApp 1 (mTup (mCons (mExc "BadJournal" ["journal"] (mCons (mVar 0) (mNil))) (mCons (mExc "BadJournal" ["journal"] (mCons (mVar 0) (mNil))) (mCons (mLam 23) (mCons (mFrz (mLst (mCons (mVar 0) (mNil)))) (mNil))))))) (mSeq (mApp 1 (mTup (mCons (mExc "Wrong" ["index"] (mCons (mVar 0) (mNil))) (mCons (mExc "Wrong" ["index"] (mCons (mVar 0) (mNil))) (mCons (mLam 24) (mCons (mFrz (mLst (mCons (mVar 0) (mNil)))) (mNil))))))) (mSeq (mApp 1 (mTup (mCons (mExc "BadWhich" ["word"] (mCons (mVar 0) (mNil))) (mCons (mExc "BadWhich" ["word"] (mCons (mVar 0) (mNil))) (mCons (mLam 25) (mCons (mFrz (mLst (mCons (mVar 0) (mNil)))) (mNil))))))) (mSeq (mApp 1 (mTup (mCons (mExc "BadChain" ["chain"] (mCons (mVar 0) (mNil))) (mCons (mExc "BadChain" ["chain"] (mCons (mVar 0) (mNil))) (mCons (mLam 26) (mCons (mFrz (mLst (mCons (mVar 0) (mNil)))) (mNil))))))) (mSeq (mApp 1 (mTup (mCons (mExc "BadMove" ["move"] (mCons (mVar 0) (mNil))) (mCons (mExc "BadMove" ["move"] (mCons (mVar 0) (mNil))) (mCons (mLam 27) (mCons (mFrz (mLst (mCons (mVar 0) (mNil)))) (mNil))))))) (mRetF (mMove 1))))))))))))))))
def m__law_e_second : Nat → MS
  | 0 => mNever
  | k + 1 => b__law_e_second k
theorem sc__law_e_second : FnScope ["x", "found"] ["x"] (defScope (top 74)) := ⟨rfl, rfl, rfl, by decide +kernel, rfl, by decide +kernel, by decide +kernel⟩
theorem bd__law_e_second (kV doc pm : Value) (an : Option Addr) (cdv ct : Value) (us : List Value) (hl : us.length = 1) : bindArgs (PySem.W.fnOf "_law_e_second" "_law_e_second" (defArgs (top 74)) (defBody (top 74)) (defScope (top 74)) .none kV doc pm an cdv ct) ⟨us, []⟩ = pure ((["x"] : List Str).zip us) := match us, hl with
  | [_], _ => rfl
theorem fn__law_e_second (g : G s a fd) : ∀ k, Fun s k "_law_e_second" (a "_law_e_second") (fd "_law_e_second") ["x"] 2 (m__law_e_second k)
  | 0 => g.toGs.zero (ps := ["x"]) 74 "_law_e_second" (by decide +kernel) bd__law_e_second 0
  | k + 1 => g.toGr.succL (N := ["x", "found"]) (ps := ["x"]) (m := b__law_e_second k) 74 "_law_e_second" (by decide +kernel) (by decide +kernel) bd__law_e_second sc__law_e_second fun _ _ h l => db_cons (ds_setO h 1 (df_lst (di_nil))) (db_cons (ds_app h 1 (de_tup (di_cons (de_exc h (g.exk "Refused" [("path", "path")] (by decide +kernel)) (di_cons (de_var h 0) (di_nil))) (di_cons (de_excK h (g.exk "Refused" [("path", "path")] (by decide +kernel)) (dki_cons (de_var h 0) (dki_nil))) (di_cons (de_lam h l g.phi 14) (di_cons (de_frz (df_lst (di_cons (de_var h 0) (di_nil)))) (di_nil))))))) (db_cons (ds_app h 1 (de_tup (di_cons (de_exc h (g.exk "TooGreat" [("most", "most")] (by decide +kernel)) (di_cons (de_var h 0) (di_nil))) (di_cons (de_excK h (g.exk "TooGreat" [("most", "most")] (by decide +kernel)) (dki_cons (de_var h 0) (dki_nil))) (di_cons (de_lam h l g.phi 15) (di_cons (de_frz (df_lst (di_cons (de_var h 0) (di_nil)))) (di_nil))))))) (db_cons (ds_app h 1 (de_tup (di_cons (de_exc h (g.exk "BadBase" [("base", "base")] (by decide +kernel)) (di_cons (de_var h 0) (di_nil))) (di_cons (de_excK h (g.exk "BadBase" [("base", "base")] (by decide +kernel)) (dki_cons (de_var h 0) (dki_nil))) (di_cons (de_lam h l g.phi 16) (di_cons (de_frz (df_lst (di_cons (de_var h 0) (di_nil)))) (di_nil))))))) (db_cons (ds_app h 1 (de_tup (di_cons (de_exc h (g.exk "BadBases" [("bases", "bases")] (by decide +kernel)) (di_cons (de_var h 0) (di_nil))) (di_cons (de_excK h (g.exk "BadBases" [("bases", "bases")] (by decide +kernel)) (dki_cons (de_var h 0) (dki_nil))) (di_cons (de_lam h l g.phi 17) (di_cons (de_frz (df_lst (di_cons (de_var h 0) (di_nil)))) (di_nil))))))) (db_cons (ds_app h 1 (de_tup (di_cons (de_exc h (g.exk "BadFigures" [("figures", "figures")] (by decide +kernel)) (di_cons (de_var h 0) (di_nil))) (di_cons (de_excK h (g.exk "BadFigures" [("figures", "figures")] (by decide +kernel)) (dki_cons (de_var h 0) (dki_nil))) (di_cons (de_lam h l g.phi 18) (di_cons (de_frz (df_lst (di_cons (de_var h 0) (di_nil)))) (di_nil))))))) (db_cons (ds_app h 1 (de_tup (di_cons (de_exc h (g.exk "BadParts" [("parts", "parts")] (by decide +kernel)) (di_cons (de_var h 0) (di_nil))) (di_cons (de_excK h (g.exk "BadParts" [("parts", "parts")] (by decide +kernel)) (dki_cons (de_var h 0) (dki_nil))) (di_cons (de_lam h l g.phi 19) (di_cons (de_frz (df_lst (di_cons (de_var h 0) (di_nil)))) (di_nil))))))) (db_cons (ds_app h 1 (de_tup (di_cons (de_exc h (g.exk "BadForm" [("form", "form")] (by decide +kernel)) (di_cons (de_var h 0) (di_nil))) (di_cons (de_excK h (g.exk "BadForm" [("form", "form")] (by decide +kernel)) (dki_cons (de_var h 0) (dki_nil))) (di_cons (de_lam h l g.phi 20) (di_cons (de_frz (df_lst (di_cons (de_var h 0) (di_nil)))) (di_nil))))))) (db_cons (ds_app h 1 (de_tup (di_cons (de_exc h (g.exk "BadImage" [("image", "image")] (by decide +kernel)) (di_cons (de_var h 0) (di_nil))) (di_cons (de_excK h (g.exk "BadImage" [("image", "image")] (by decide +kernel)) (dki_cons (de_var h 0) (dki_nil))) (di_cons (de_lam h l g.phi 21) (di_cons (de_frz (df_lst (di_cons (de_var h 0) (di_nil)))) (di_nil))))))) (db_cons (ds_app h 1 (de_tup (di_cons (de_exc h (g.exk "BadWord" [("word", "word")] (by decide +kernel)) (di_cons (de_var h 0) (di_nil))) (di_cons (de_excK h (g.exk "BadWord" [("word", "word")] (by decide +kernel)) (dki_cons (de_var h 0) (dki_nil))) (di_cons (de_lam h l g.phi 22) (di_cons (de_frz (df_lst (di_cons (de_var h 0) (di_nil)))) (di_nil))))))) (db_cons (ds_app h 1 (de_tup (di_cons (de_exc h (g.exk "BadJournal" [("journal", "journal")] (by decide +kernel)) (di_cons (de_var h 0) (di_nil))) (di_cons (de_excK h (g.exk "BadJournal" [("journal", "journal")] (by decide +kernel)) (dki_cons (de_var h 0) (dki_nil))) (di_cons (de_lam h l g.phi 23) (di_cons (de_frz (df_lst (di_cons (de_var h 0) (di_nil)))) (di_nil))))))) (db_cons (ds_app h 1 (de_tup (di_cons (de_exc h (g.exk "Wrong" [("index", "index")] (by decide +kernel)) (di_cons (de_var h 0) (di_nil))) (di_cons (de_excK h (g.exk "Wrong" [("index", "index")] (by decide +kernel)) (dki_cons (de_var h 0) (dki_nil))) (di_cons (de_lam h l g.phi 24) (di_cons (de_frz (df_lst (di_cons (de_var h 0) (di_nil)))) (di_nil))))))) (db_cons (ds_app h 1 (de_tup (di_cons (de_exc h (g.exk "BadWhich" [("word", "word")] (by decide +kernel)) (di_cons (de_var h 0) (di_nil))) (di_cons (de_excK h (g.exk "BadWhich" [("word", "word")] (by decide +kernel)) (dki_cons (de_var h 0) (dki_nil))) (di_cons (de_lam h l g.phi 25) (di_cons (de_frz (df_lst (di_cons (de_var h 0) (di_nil)))) (di_nil))))))) (db_cons (ds_app h 1 (de_tup (di_cons (de_exc h (g.exk "BadChain" [("chain", "chain")] (by decide +kernel)) (di_cons (de_var h 0) (di_nil))) (di_cons (de_excK h (g.exk "BadChain" [("chain", "chain")] (by decide +kernel)) (dki_cons (de_var h 0) (dki_nil))) (di_cons (de_lam h l g.phi 26) (di_cons (de_frz (df_lst (di_cons (de_var h 0) (di_nil)))) (di_nil))))))) (db_cons (ds_app h 1 (de_tup (di_cons (de_exc h (g.exk "BadMove" [("move", "move")] (by decide +kernel)) (di_cons (de_var h 0) (di_nil))) (di_cons (de_excK h (g.exk "BadMove" [("move", "move")] (by decide +kernel)) (dki_cons (de_var h 0) (dki_nil))) (di_cons (de_lam h l g.phi 27) (di_cons (de_frz (df_lst (di_cons (de_var h 0) (di_nil)))) (di_nil))))))) (db_one (ds_retF (df_move h 1)))))))))))))))))
/-! ### _law_e_third -/
def b__law_e_third (k : Nat) : MS := mSeq (mSetO 1 (mLst (mNil))) (mSeq (mApp 1 (mTup (mCons (mExc "Unfit" ["move"] (mCons (mVar 0) (mNil))) (mCons (mExc "Unfit" ["move"] (mCons (mVar 0) (mNil))) (mCons (mLam 28) (mCons (mFrz (mLst (mCons (mVar 0) (mNil)))) (mNil))))))) (mSeq (mApp 1 (mTup (mCons (mExc "BadMoment" ["moment"] (mCons (mVar 0) (mNil))) (mCons (mExc "BadMoment" ["moment"] (mCons (mVar 0) (mNil))) (mCons (mLam 29) (mCons (mFrz (mLst (mCons (mVar 0) (mNil)))) (mNil))))))) (mSeq (mApp 1 (mTup (mCons (mExc "BadStep" ["step"] (mCons (mVar 0) (mNil))) (mCons (mExc "BadStep" ["step"] (mCons (mVar 0) (mNil))) (mCons (mLam 30) (mCons (mFrz (mLst (mCons (mVar 0) (mNil)))) (mNil))))))) (mSeq (mApp 1 (mTup (mCons (mExc "BadSteps" ["steps"] (mCons (mVar 0) (mNil))) (mCons (mExc "BadSteps" ["steps"] (mCons (mVar 0) (mNil))) (mCons (mLam 31) (mCons (mFrz (mLst (mCons (mVar 0) (mNil)))) (mNil))))))) (mSeq (mApp 1 (mTup (mCons (mExc "Barred" ["fault"] (mCons (mVar 0) (mNil))) (mCons (mExc "Barred" ["fault"] (mCons (mVar 0) (mNil))) (mCons (mLam 32) (mCons (mFrz (mLst (mCons (mVar 0) (mNil)))) (mNil))))))) (mSeq (mApp 1 (mTup (mCons (mExc "BadReport" ["report"] (mCons (mVar 0) (mNil))) (mCons (mExc "BadReport" ["report"] (mCons (mVar 0) (mNil))) (mCons (mLam 33) (mCons (mFrz (mLst (mCons (mVar 0) (mNil)))) (mNil))))))) (mSeq (mApp 1 (mTup (mCons (mExc "BadSet" ["some"] (mCons (mVar 0) (mNil))) (mCons (mExc "BadSet" ["some"] (mCons (mVar 0) (mNil))) (mCons (mLam 34) (mCons (mFrz (mLst (mCons (mVar 0) (mNil)))) (mNil))))))) (mSeq (mApp 1 (mTup (mCons (mExc "NotOne" ["letters"] (mCons (mVar 0) (mNil))) (mCons (mExc "NotOne" ["letters"] (mCons (mVar 0) (mNil))) (mCons (mLam 35) (mCons (mFrz (mLst (mCons (mVar 0) (mNil)))) (mNil))))))) (mSeq (mApp 1 (mTup (mCons (mExc "BadForms" ["forms"] (mCons (mVar 0) (mNil))) (mCons (mExc "BadForms" ["forms"] (mCons (mVar 0) (mNil))) (mCons (mLam 36) (mCons (mFrz (mLst (mCons (mVar 0) (mNil)))) (mNil))))))) (mSeq (mApp 1 (mTup (mCons (mExc "BadPeriods" ["periods"] (mCons (mVar 0) (mNil))) (mCons (mExc "BadPeriods" ["periods"] (mCons (mVar 0) (mNil))) (mCons (mLam 37) (mCons (mFrz (mLst (mCons (mVar 0) (mNil)))) (mNil))))))) (mSeq (mApp 1 (mTup (mCons (mExc "BadPowers" ["powers"] (mCons (mVar 0) (mNil))) (mCons (mExc "BadPowers" ["powers"] (mCons (mVar 0) (mNil))) (mCons (mLam 38) (mCons (mFrz (mLst (mCons (mVar 0) (mNil)))) (mNil))))))) (mSeq (mApp 1 (mTup (mCons (mExc "BadRow" ["row"] (mCons (mVar 0) (mNil))) (mCons (mExc "BadRow" ["row"] (mCons (mVar 0) (mNil))) (mCons (mLam 39) (mCons (mFrz (mLst (mCons (mVar 0) (mNil)))) (mNil))))))) (mSeq (mApp 1 (mTup (mCons (mExc "BadLine" ["form"] (mCons (mVar 0) (mNil))) (mCons (mExc "BadLine" ["form"] (mCons (mVar 0) (mNil))) (mCons (mLam 40) (mCons (mFrz (mLst (mCons (mVar 0) (mNil)))) (mNil))))))) (mSeq (mApp 1 (mTup (mCons (mExc "NoTurn" ["line"] (mCons (mVar 0) (mNil))) (mCons (mExc "NoTurn" ["line"] (mCons (mVar 0) (mNil))) (mCons (mLam 41) (mCons (mFrz (mLst (mCons (mVar 0) (mNil)))) (mNil))))))) (mRetF (mMove 1))))))))))))))))
def m__law_e_third : Nat → MS
  | 0 => mNever
  | k + 1 => b__law_e_third k
theorem sc__law_e_third : FnScope ["x", "found"] ["x"] (defScope (top 75)) := ⟨rfl, rfl, rfl, by decide +kernel, rfl, by decide +kernel, by decide +kernel⟩
theorem bd__law_e_third (kV doc pm : Value) (an : Option Addr) (cdv ct : Value) (us : List Value) (hl : us.length = 1) : bindArgs (PySem.W.fnOf "_law_e_third" "_law_e_third" (defArgs (top 75)) (defBody (top 75)) (defScope (top 75)) .none kV doc pm an cdv ct) ⟨us, []⟩ = pure ((["x"] : List Str).zip us) := match us, hl with
  | [_], _ => rfl
theorem fn__law_e_third (g : G s a fd) : ∀ k, Fun s k "_law_e_third" (a "_law_e_third") (fd "_law_e_third") ["x"] 2 (m__law_e_third k)
  | 0 => g.toGs.zero (ps := ["x"]) 75 "_law_e_third" (by decide +kernel) bd__law_e_third 0
  | k + 1 => g.toGr.succL (N := ["x", "found"]) (ps := ["x"]) (m := b__law_e_third k) 75 "_law_e_third" (by decide +kernel) (by decide +kernel) bd__law_e_third sc__law_e_third fun _ _ h l => db_cons (ds_setO h 1 (df_lst (di_nil))) (db_cons (ds_app h 1 (de_tup (di_cons (de_exc h (g.exk "Unfit" [("move", "move")] (by decide +kernel)) (di_cons (de_var h 0) (di_nil))) (di_cons (de_excK h (g.exk "Unfit" [("move", "move")] (by decide +kernel)) (dki_cons (de_var h 0) (dki_nil))) (di_cons (de_lam h l g.phi 28) (di_cons (de_frz (df_lst (di_cons (de_var h 0) (di_nil)))) (di_nil))))))) (db_cons (ds_app h 1 (de_tup (di_cons (de_exc h (g.exk "BadMoment" [("moment", "moment")] (by decide +kernel)) (di_cons (de_var h 0) (di_nil))) (di_cons (de_excK h (g.exk "BadMoment" [("moment", "moment")] (by decide +kernel)) (dki_cons (de_var h 0) (dki_nil))) (di_cons (de_lam h l g.phi 29) (di_cons (de_frz (df_lst (di_cons (de_var h 0) (di_nil)))) (di_nil))))))) (db_cons (ds_app h 1 (de_tup (di_cons (de_exc h (g.exk "BadStep" [("step", "step")] (by decide +kernel)) (di_cons (de_var h 0) (di_nil))) (di_cons (de_excK h (g.exk "BadStep" [("step", "step")] (by decide +kernel)) (dki_cons (de_var h 0) (dki_nil))) (di_cons (de_lam h l g.phi 30) (di_cons (de_frz (df_lst (di_cons (de_var h 0) (di_nil)))) (di_nil))))))) (db_cons (ds_app h 1 (de_tup (di_cons (de_exc h (g.exk "BadSteps" [("steps", "steps")] (by decide +kernel)) (di_cons (de_var h 0) (di_nil))) (di_cons (de_excK h (g.exk "BadSteps" [("steps", "steps")] (by decide +kernel)) (dki_cons (de_var h 0) (dki_nil))) (di_cons (de_lam h l g.phi 31) (di_cons (de_frz (df_lst (di_cons (de_var h 0) (di_nil)))) (di_nil))))))) (db_cons (ds_app h 1 (de_tup (di_cons (de_exc h (g.exk "Barred" [("fault", "fault")] (by decide +kernel)) (di_cons (de_var h 0) (di_nil))) (di_cons (de_excK h (g.exk "Barred" [("fault", "fault")] (by decide +kernel)) (dki_cons (de_var h 0) (dki_nil))) (di_cons (de_lam h l g.phi 32) (di_cons (de_frz (df_lst (di_cons (de_var h 0) (di_nil)))) (di_nil))))))) (db_cons (ds_app h 1 (de_tup (di_cons (de_exc h (g.exk "BadReport" [("report", "report")] (by decide +kernel)) (di_cons (de_var h 0) (di_nil))) (di_cons (de_excK h (g.exk "BadReport" [("report", "report")] (by decide +kernel)) (dki_cons (de_var h 0) (dki_nil))) (di_cons (de_lam h l g.phi 33) (di_cons (de_frz (df_lst (di_cons (de_var h 0) (di_nil)))) (di_nil))))))) (db_cons (ds_app h 1 (de_tup (di_cons (de_exc h (g.exk "BadSet" [("some", "some")] (by decide +kernel)) (di_cons (de_var h 0) (di_nil))) (di_cons (de_excK h (g.exk "BadSet" [("some", "some")] (by decide +kernel)) (dki_cons (de_var h 0) (dki_nil))) (di_cons (de_lam h l g.phi 34) (di_cons (de_frz (df_lst (di_cons (de_var h 0) (di_nil)))) (di_nil))))))) (db_cons (ds_app h 1 (de_tup (di_cons (de_exc h (g.exk "NotOne" [("letters", "letters")] (by decide +kernel)) (di_cons (de_var h 0) (di_nil))) (di_cons (de_excK h (g.exk "NotOne" [("letters", "letters")] (by decide +kernel)) (dki_cons (de_var h 0) (dki_nil))) (di_cons (de_lam h l g.phi 35) (di_cons (de_frz (df_lst (di_cons (de_var h 0) (di_nil)))) (di_nil))))))) (db_cons (ds_app h 1 (de_tup (di_cons (de_exc h (g.exk "BadForms" [("forms", "forms")] (by decide +kernel)) (di_cons (de_var h 0) (di_nil))) (di_cons (de_excK h (g.exk "BadForms" [("forms", "forms")] (by decide +kernel)) (dki_cons (de_var h 0) (dki_nil))) (di_cons (de_lam h l g.phi 36) (di_cons (de_frz (df_lst (di_cons (de_var h 0) (di_nil)))) (di_nil))))))) (db_cons (ds_app h 1 (de_tup (di_cons (de_exc h (g.exk "BadPeriods" [("periods", "periods")] (by decide +kernel)) (di_cons (de_var h 0) (di_nil))) (di_cons (de_excK h (g.exk "BadPeriods" [("periods", "periods")] (by decide +kernel)) (dki_cons (de_var h 0) (dki_nil))) (di_cons (de_lam h l g.phi 37) (di_cons (de_frz (df_lst (di_cons (de_var h 0) (di_nil)))) (di_nil))))))) (db_cons (ds_app h 1 (de_tup (di_cons (de_exc h (g.exk "BadPowers" [("powers", "powers")] (by decide +kernel)) (di_cons (de_var h 0) (di_nil))) (di_cons (de_excK h (g.exk "BadPowers" [("powers", "powers")] (by decide +kernel)) (dki_cons (de_var h 0) (dki_nil))) (di_cons (de_lam h l g.phi 38) (di_cons (de_frz (df_lst (di_cons (de_var h 0) (di_nil)))) (di_nil))))))) (db_cons (ds_app h 1 (de_tup (di_cons (de_exc h (g.exk "BadRow" [("row", "row")] (by decide +kernel)) (di_cons (de_var h 0) (di_nil))) (di_cons (de_excK h (g.exk "BadRow" [("row", "row")] (by decide +kernel)) (dki_cons (de_var h 0) (dki_nil))) (di_cons (de_lam h l g.phi 39) (di_cons (de_frz (df_lst (di_cons (de_var h 0) (di_nil)))) (di_nil))))))) (db_cons (ds_app h 1 (de_tup (di_cons (de_exc h (g.exk "BadLine" [("form", "form")] (by decide +kernel)) (di_cons (de_var h 0) (di_nil))) (di_cons (de_excK h (g.exk "BadLine" [("form", "form")] (by decide +kernel)) (dki_cons (de_var h 0) (dki_nil))) (di_cons (de_lam h l g.phi 40) (di_cons (de_frz (df_lst (di_cons (de_var h 0) (di_nil)))) (di_nil))))))) (db_cons (ds_app h 1 (de_tup (di_cons (de_exc h (g.exk "NoTurn" [("line", "line")] (by decide +kernel)) (di_cons (de_var h 0) (di_nil))) (di_cons (de_excK h (g.exk "NoTurn" [("line", "line")] (by decide +kernel)) (dki_cons (de_var h 0) (dki_nil))) (di_cons (de_lam h l g.phi 41) (di_cons (de_frz (df_lst (di_cons (de_var h 0) (di_nil)))) (di_nil))))))) (db_one (ds_retF (df_move h 1)))))))))))))))))
/-! ### _law_e_fourth -/
def b__law_e_fourth (k : Nat) : MS := mSeq (mSetO 2 (mLst (mNil))) (mSeq (mApp 2 (mTup (mCons (mExc "Stopped" ["index", "fault"] (mCons (mVar 0) (mCons (mVar 1) (mNil)))) (mCons (mExc "Stopped" ["index", "fault"] (mCons (mVar 0) (mCons (mVar 1) (mNil)))) (mCons (mLam 42) (mCons (mFrz (mLst (mCons (mVar 0) (mCons (mVar 1) (mNil))))) (mNil))))))) (mSeq (mApp 2 (mTup (mCons (mExc "Unread" ["text", "place"] (mCons (mVar 0) (mCons (mVar 1) (mNil)))) (mCons (mExc "Unread" ["text", "place"] (mCons (mVar 0) (mCons (mVar 1) (mNil)))) (mCons (mLam 43) (mCons (mFrz (mLst (mCons (mVar 0) (mCons (mVar 1) (mNil))))) (mNil))))))) (mSeq (mApp 2 (mTup (mCons (mExc "BadText" ["text", "index"] (mCons (mVar 0) (mCons (mVar 1) (mNil)))) (mCons (mExc "BadText" ["text", "index"] (mCons (mVar 0) (mCons (mVar 1) (mNil)))) (mCons (mLam 44) (mCons (mFrz (mLst (mCons (mVar 0) (mCons (mVar 1) (mNil))))) (mNil))))))) (mRetF (mMove 2)))))
def m__law_e_fourth : Nat → MS
  | 0 => mNever
  | k + 1 => b__law_e_fourth k
theorem sc__law_e_fourth : FnScope ["x", "y", "found"] ["x", "y"] (defScope (top 76)) := ⟨rfl, rfl, rfl, by decide +kernel, rfl, by decide +kernel, by decide +kernel⟩
theorem bd__law_e_fourth (kV doc pm : Value) (an : Option Addr) (cdv ct : Value) (us : List Value) (hl : us.length = 2) : bindArgs (PySem.W.fnOf "_law_e_fourth" "_law_e_fourth" (defArgs (top 76)) (defBody (top 76)) (defScope (top 76)) .none kV doc pm an cdv ct) ⟨us, []⟩ = pure ((["x", "y"] : List Str).zip us) := match us, hl with
  | [_, _], _ => rfl
theorem fn__law_e_fourth (g : G s a fd) : ∀ k, Fun s k "_law_e_fourth" (a "_law_e_fourth") (fd "_law_e_fourth") ["x", "y"] 3 (m__law_e_fourth k)
  | 0 => g.toGs.zero (ps := ["x", "y"]) 76 "_law_e_fourth" (by decide +kernel) bd__law_e_fourth 0
  | k + 1 => g.toGr.succL (N := ["x", "y", "found"]) (ps := ["x", "y"]) (m := b__law_e_fourth k) 76 "_law_e_fourth" (by decide +kernel) (by decide +kernel) bd__law_e_fourth sc__law_e_fourth fun _ _ h l => db_cons (ds_setO h 2 (df_lst (di_nil))) (db_cons (ds_app h 2 (de_tup (di_cons (de_exc h (g.exk "Stopped" [("index", "index"), ("fault", "fault")] (by decide +kernel)) (di_cons (de_var h 0) (di_cons (de_var h 1) (di_nil)))) (di_cons (de_excK h (g.exk "Stopped" [("index", "index"), ("fault", "fault")] (by decide +kernel)) (dki_cons (de_var h 0) (dki_cons (de_var h 1) (dki_nil)))) (di_cons (de_lam h l g.phi 42) (di_cons (de_frz (df_lst (di_cons (de_var h 0) (di_cons (de_var h 1) (di_nil))))) (di_nil))))))) (db_cons (ds_app h 2 (de_tup (di_cons (de_exc h (g.exk "Unread" [("text", "text"), ("place", "place")] (by decide +kernel)) (di_cons (de_var h 0) (di_cons (de_var h 1) (di_nil)))) (di_cons (de_excK h (g.exk "Unread" [("text", "text"), ("place", "place")] (by decide +kernel)) (dki_cons (de_var h 0) (dki_cons (de_var h 1) (dki_nil)))) (di_cons (de_lam h l g.phi 43) (di_cons (de_frz (df_lst (di_cons (de_var h 0) (di_cons (de_var h 1) (di_nil))))) (di_nil))))))) (db_cons (ds_app h 2 (de_tup (di_cons (de_exc h (g.exk "BadText" [("text", "text"), ("index", "index")] (by decide +kernel)) (di_cons (de_var h 0) (di_cons (de_var h 1) (di_nil)))) (di_cons (de_excK h (g.exk "BadText" [("text", "text"), ("index", "index")] (by decide +kernel)) (dki_cons (de_var h 0) (dki_cons (de_var h 1) (dki_nil)))) (di_cons (de_lam h l g.phi 44) (di_cons (de_frz (df_lst (di_cons (de_var h 0) (di_cons (de_var h 1) (di_nil))))) (di_nil))))))) (db_one (ds_retF (df_move h 2))))))
/-! ### _law_e_kinds -/
def b__law_e_kinds (k : Nat) : MS := mRetF (mLst (mCons (mIsE xs (fun x => rel x "BadQuestion") (mVar 0)) (mCons (mIsE xs (fun x => rel x "BadChange") (mVar 0)) (mCons (mIsE xs (fun x => rel x "BadClaim") (mVar 0)) (mCons (mIsE xs (fun x => rel x "BadClaims") (mVar 0)) (mCons (mIsE xs (fun x => rel x "BadCode") (mVar 0)) (mCons (mIsE xs (fun x => rel x "BadClasses") (mVar 0)) (mCons (mIsE xs (fun x => rel x "NoCover") (mVar 0)) (mCons (mIsE xs (fun x => rel x "BadBook") (mVar 0)) (mCons (mIsE xs (fun x => rel x "BadLetter") (mVar 0)) (mCons (mIsE xs (fun x => rel x "BadNumber") (mVar 0)) (mCons (mIsE xs (fun x => rel x "BadPath") (mVar 0)) (mCons (mIsE xs (fun x => rel x "BadPlace") (mVar 0)) (mCons (mIsE xs (fun x => rel x "BadTree") (mVar 0)) (mCons (mIsE xs (fun x => rel x "NoName") (mVar 0)) (mCons (mIsE xs (fun x => rel x "Refused") (mVar 0)) (mCons (mIsE xs (fun x => rel x "TooGreat") (mVar 0)) (mCons (mIsE xs (fun x => rel x "BadBase") (mVar 0)) (mCons (mIsE xs (fun x => rel x "BadBases") (mVar 0)) (mCons (mIsE xs (fun x => rel x "BadFigures") (mVar 0)) (mCons (mIsE xs (fun x => rel x "BadParts") (mVar 0)) (mCons (mIsE xs (fun x => rel x "BadForm") (mVar 0)) (mCons (mIsE xs (fun x => rel x "BadImage") (mVar 0)) (mCons (mIsE xs (fun x => rel x "BadWord") (mVar 0)) (mCons (mIsE xs (fun x => rel x "BadJournal") (mVar 0)) (mCons (mIsE xs (fun x => rel x "Wrong") (mVar 0)) (mCons (mIsE xs (fun x => rel x "BadWhich") (mVar 0)) (mCons (mIsE xs (fun x => rel x "BadChain") (mVar 0)) (mCons (mIsE xs (fun x => rel x "BadMove") (mVar 0)) (mCons (mIsE xs (fun x => rel x "Unfit") (mVar 0)) (mCons (mIsE xs (fun x => rel x "BadMoment") (mVar 0)) (mCons (mIsE xs (fun x => rel x "BadStep") (mVar 0)) (mCons (mIsE xs (fun x => rel x "BadSteps") (mVar 0)) (mCons (mIsE xs (fun x => rel x "Barred") (mVar 0)) (mCons (mIsE xs (fun x => rel x "BadReport") (mVar 0)) (mCons (mIsE xs (fun x => rel x "BadSet") (mVar 0)) (mCons (mIsE xs (fun x => rel x "NotOne") (mVar 0)) (mCons (mIsE xs (fun x => rel x "BadForms") (mVar 0)) (mCons (mIsE xs (fun x => rel x "BadPeriods") (mVar 0)) (mCons (mIsE xs (fun x => rel x "BadPowers") (mVar 0)) (mCons (mIsE xs (fun x => rel x "BadRow") (mVar 0)) (mCons (mIsE xs (fun x => rel x "BadLine") (mVar 0)) (mCons (mIsE xs (fun x => rel x "NoTurn") (mVar 0)) (mCons (mIsE xs (fun x => rel x "Stopped") (mVar 0)) (mCons (mIsE xs (fun x => rel x "Unread") (mVar 0)) (mCons (mIsE xs (fun x => rel x "BadText") (mVar 0)) (mCons (mIsE xs (fun x => rel x "NothingDone") (mVar 0)) (mCons (mIsE xs (fun x => rel x "NothingUndone") (mVar 0)) (mNil)))))))))))))))))))))))))))))))))))))))))))))))))
def m__law_e_kinds : Nat → MS
  | 0 => mNever
  | k + 1 => b__law_e_kinds k
theorem sc__law_e_kinds : FnScope ["e"] ["e"] (defScope (top 77)) := ⟨rfl, rfl, rfl, by decide +kernel, rfl, by decide +kernel, by decide +kernel⟩
theorem bd__law_e_kinds (kV doc pm : Value) (an : Option Addr) (cdv ct : Value) (us : List Value) (hl : us.length = 1) : bindArgs (PySem.W.fnOf "_law_e_kinds" "_law_e_kinds" (defArgs (top 77)) (defBody (top 77)) (defScope (top 77)) .none kV doc pm an cdv ct) ⟨us, []⟩ = pure ((["e"] : List Str).zip us) := match us, hl with
  | [_], _ => rfl
theorem fn__law_e_kinds (g : G s a fd) : ∀ k, Fun s k "_law_e_kinds" (a "_law_e_kinds") (fd "_law_e_kinds") ["e"] 1 (m__law_e_kinds k)
  | 0 => g.toGs.zero (ps := ["e"]) 77 "_law_e_kinds" (by decide +kernel) bd__law_e_kinds 0
  | k + 1 => g.toGs.succ (N := ["e"]) (ps := ["e"]) (m := b__law_e_kinds k) 77 "_law_e_kinds" (by decide +kernel) bd__law_e_kinds sc__law_e_kinds fun _ _ h => db_one (ds_retF (df_lst (di_cons (de_isE h g.ef (g.toGs.no "isinstance") (de_var h 0) (by decide +kernel : (.ofString "BadQuestion" : Str) ∈ ys)) (di_cons (de_isE h g.ef (g.toGs.no "isinstance") (de_var h 0) (by decide +kernel : (.ofString "BadChange" : Str) ∈ ys)) (di_cons (de_isE h g.ef (g.toGs.no "isinstance") (de_var h 0) (by decide +kernel : (.ofString "BadClaim" : Str) ∈ ys)) (di_cons (de_isE h g.ef (g.toGs.no "isinstance") (de_var h 0) (by decide +kernel : (.ofString "BadClaims" : Str) ∈ ys)) (di_cons (de_isE h g.ef (g.toGs.no "isinstance") (de_var h 0) (by decide +kernel : (.ofString "BadCode" : Str) ∈ ys)) (di_cons (de_isE h g.ef (g.toGs.no "isinstance") (de_var h 0) (by decide +kernel : (.ofString "BadClasses" : Str) ∈ ys)) (di_cons (de_isE h g.ef (g.toGs.no "isinstance") (de_var h 0) (by decide +kernel : (.ofString "NoCover" : Str) ∈ ys)) (di_cons (de_isE h g.ef (g.toGs.no "isinstance") (de_var h 0) (by decide +kernel : (.ofString "BadBook" : Str) ∈ ys)) (di_cons (de_isE h g.ef (g.toGs.no "isinstance") (de_var h 0) (by decide +kernel : (.ofString "BadLetter" : Str) ∈ ys)) (di_cons (de_isE h g.ef (g.toGs.no "isinstance") (de_var h 0) (by decide +kernel : (.ofString "BadNumber" : Str) ∈ ys)) (di_cons (de_isE h g.ef (g.toGs.no "isinstance") (de_var h 0) (by decide +kernel : (.ofString "BadPath" : Str) ∈ ys)) (di_cons (de_isE h g.ef (g.toGs.no "isinstance") (de_var h 0) (by decide +kernel : (.ofString "BadPlace" : Str) ∈ ys)) (di_cons (de_isE h g.ef (g.toGs.no "isinstance") (de_var h 0) (by decide +kernel : (.ofString "BadTree" : Str) ∈ ys)) (di_cons (de_isE h g.ef (g.toGs.no "isinstance") (de_var h 0) (by decide +kernel : (.ofString "NoName" : Str) ∈ ys)) (di_cons (de_isE h g.ef (g.toGs.no "isinstance") (de_var h 0) (by decide +kernel : (.ofString "Refused" : Str) ∈ ys)) (di_cons (de_isE h g.ef (g.toGs.no "isinstance") (de_var h 0) (by decide +kernel : (.ofString "TooGreat" : Str) ∈ ys)) (di_cons (de_isE h g.ef (g.toGs.no "isinstance") (de_var h 0) (by decide +kernel : (.ofString "BadBase" : Str) ∈ ys)) (di_cons (de_isE h g.ef (g.toGs.no "isinstance") (de_var h 0) (by decide +kernel : (.ofString "BadBases" : Str) ∈ ys)) (di_cons (de_isE h g.ef (g.toGs.no "isinstance") (de_var h 0) (by decide +kernel : (.ofString "BadFigures" : Str) ∈ ys)) (di_cons (de_isE h g.ef (g.toGs.no "isinstance") (de_var h 0) (by decide +kernel : (.ofString "BadParts" : Str) ∈ ys)) (di_cons (de_isE h g.ef (g.toGs.no "isinstance") (de_var h 0) (by decide +kernel : (.ofString "BadForm" : Str) ∈ ys)) (di_cons (de_isE h g.ef (g.toGs.no "isinstance") (de_var h 0) (by decide +kernel : (.ofString "BadImage" : Str) ∈ ys)) (di_cons (de_isE h g.ef (g.toGs.no "isinstance") (de_var h 0) (by decide +kernel : (.ofString "BadWord" : Str) ∈ ys)) (di_cons (de_isE h g.ef (g.toGs.no "isinstance") (de_var h 0) (by decide +kernel : (.ofString "BadJournal" : Str) ∈ ys)) (di_cons (de_isE h g.ef (g.toGs.no "isinstance") (de_var h 0) (by decide +kernel : (.ofString "Wrong" : Str) ∈ ys)) (di_cons (de_isE h g.ef (g.toGs.no "isinstance") (de_var h 0) (by decide +kernel : (.ofString "BadWhich" : Str) ∈ ys)) (di_cons (de_isE h g.ef (g.toGs.no "isinstance") (de_var h 0) (by decide +kernel : (.ofString "BadChain" : Str) ∈ ys)) (di_cons (de_isE h g.ef (g.toGs.no "isinstance") (de_var h 0) (by decide +kernel : (.ofString "BadMove" : Str) ∈ ys)) (di_cons (de_isE h g.ef (g.toGs.no "isinstance") (de_var h 0) (by decide +kernel : (.ofString "Unfit" : Str) ∈ ys)) (di_cons (de_isE h g.ef (g.toGs.no "isinstance") (de_var h 0) (by decide +kernel : (.ofString "BadMoment" : Str) ∈ ys)) (di_cons (de_isE h g.ef (g.toGs.no "isinstance") (de_var h 0) (by decide +kernel : (.ofString "BadStep" : Str) ∈ ys)) (di_cons (de_isE h g.ef (g.toGs.no "isinstance") (de_var h 0) (by decide +kernel : (.ofString "BadSteps" : Str) ∈ ys)) (di_cons (de_isE h g.ef (g.toGs.no "isinstance") (de_var h 0) (by decide +kernel : (.ofString "Barred" : Str) ∈ ys)) (di_cons (de_isE h g.ef (g.toGs.no "isinstance") (de_var h 0) (by decide +kernel : (.ofString "BadReport" : Str) ∈ ys)) (di_cons (de_isE h g.ef (g.toGs.no "isinstance") (de_var h 0) (by decide +kernel : (.ofString "BadSet" : Str) ∈ ys)) (di_cons (de_isE h g.ef (g.toGs.no "isinstance") (de_var h 0) (by decide +kernel : (.ofString "NotOne" : Str) ∈ ys)) (di_cons (de_isE h g.ef (g.toGs.no "isinstance") (de_var h 0) (by decide +kernel : (.ofString "BadForms" : Str) ∈ ys)) (di_cons (de_isE h g.ef (g.toGs.no "isinstance") (de_var h 0) (by decide +kernel : (.ofString "BadPeriods" : Str) ∈ ys)) (di_cons (de_isE h g.ef (g.toGs.no "isinstance") (de_var h 0) (by decide +kernel : (.ofString "BadPowers" : Str) ∈ ys)) (di_cons (de_isE h g.ef (g.toGs.no "isinstance") (de_var h 0) (by decide +kernel : (.ofString "BadRow" : Str) ∈ ys)) (di_cons (de_isE h g.ef (g.toGs.no "isinstance") (de_var h 0) (by decide +kernel : (.ofString "BadLine" : Str) ∈ ys)) (di_cons (de_isE h g.ef (g.toGs.no "isinstance") (de_var h 0) (by decide +kernel : (.ofString "NoTurn" : Str) ∈ ys)) (di_cons (de_isE h g.ef (g.toGs.no "isinstance") (de_var h 0) (by decide +kernel : (.ofString "Stopped" : Str) ∈ ys)) (di_cons (de_isE h g.ef (g.toGs.no "isinstance") (de_var h 0) (by decide +kernel : (.ofString "Unread" : Str) ∈ ys)) (di_cons (de_isE h g.ef (g.toGs.no "isinstance") (de_var h 0) (by decide +kernel : (.ofString "BadText" : Str) ∈ ys)) (di_cons (de_isE h g.ef (g.toGs.no "isinstance") (de_var h 0) (by decide +kernel : (.ofString "NothingDone" : Str) ∈ ys)) (di_cons (de_isE h g.ef (g.toGs.no "isinstance") (de_var h 0) (by decide +kernel : (.ofString "NothingUndone" : Str) ∈ ys)) (di_nil))))))))))))))))))))))))))))))))))))))))))))))))))
/-! ### _law_e_drawn -/
def b__law_e_drawn (k : Nat) : MS := mSeq (mSet (mFn (m__law_draw k) 4 (mAOwn 0 (mAIm (mC (.int 9)) (mANil)))) (mgName 1)) (mSeq (mIfS (mTst (mBin (mEq false) (mVar 1) (mC (.int 0)))) (mRet (mBin subD (mFn (m__law_draw k) 4 (mAOwn 0 (mAIm (mBin powD (mC (.int 10)) (mC (.int 30))) (mANil)))) (mBin powD (mC (.int 10)) (mC (.int 29))))) (mNext)) (mSeq (mIfS (mTst (mBin (mEq false) (mVar 1) (mC (.int 1)))) (mRet (mFn (m__law_pick k) 2 (mAOwn 0 (mAIm (mFrz (mLst (mCons (mC (.str "")) (mCons (mC (.str "a")) (mCons (mC (.str "late")) (mCons (mC (.str "two words")) (mCons (mC (.str "x9")) (mNil)))))))) (mANil))))) (mNext)) (mSeq (mIfS (mTst (mBin (mEq false) (mVar 1) (mC (.int 2)))) (mRet (mFn (m__law_pick k) 2 (mAOwn 0 (mAIm (mFrz (mLst (mCons (mC .non) (mCons (mC (.bl true)) (mCons (mC (.bl false)) (mCons (mC (.int 0)) (mCons (mC (.int 1)) (mNil)))))))) (mANil))))) (mNext)) (mSeq (mIfS (mTst (mBin (inD false) (mVar 1) (mFrz (mLst (mCons (mC (.int 3)) (mCons (mC (.int 4)) (mNil))))))) (mRetF (mComp (mRng1 (mCons (mFn (m__law_draw k) 4 (mAOwn 0 (mAIm (mC (.int 4)) (mANil)))) (mNil))) (mgName 2) (mYes) (mFn (m__law_draw k) 4 (mAOwn 0 (mAIm (mC (.int 9)) (mANil)))) [2])) (mNext)) (mSeq (mIfS (mTst (mBin (mEq false) (mVar 1) (mC (.int 5)))) (mRet (mCall tupleD (mCons (mFrz (mComp (mRng1 (mCons (mFn (m__law_draw k) 4 (mAOwn 0 (mAIm (mC (.int 4)) (mANil)))) (mNil))) (mgName 2) (mYes) (mFn (m__law_draw k) 4 (mAOwn 0 (mAIm (mC (.int 9)) (mANil)))) [2])) (mNil)))) (mNext)) (mRet (mCall dictD (mCons (mFrz (mComp (mRng1 (mCons (mFn (m__law_draw k) 4 (mAOwn 0 (mAIm (mC (.int 4)) (mANil)))) (mNil))) (mgName 2) (mYes) (mTup (mCons (mFn (m__law_draw k) 4 (mAOwn 0 (mAIm (mC (.int 9)) (mANil)))) (mCons (mC (.str "v")) (mNil)))) [2])) (mNil)))))))))
def m__law_e_drawn : Nat → MS
  | 0 => mNever
  | k + 1 => b__law_e_drawn k
theorem sc__law_e_drawn : FnScope ["spring", "way", "k"] ["spring"] (defScope (top 78)) := ⟨rfl, rfl, rfl, by decide +kernel, rfl, by decide +kernel, by decide +kernel⟩
theorem bd__law_e_drawn (kV doc pm : Value) (an : Option Addr) (cdv ct : Value) (us : List Value) (hl : us.length = 1) : bindArgs (PySem.W.fnOf "_law_e_drawn" "_law_e_drawn" (defArgs (top 78)) (defBody (top 78)) (defScope (top 78)) .none kV doc pm an cdv ct) ⟨us, []⟩ = pure ((["spring"] : List Str).zip us) := match us, hl with
  | [_], _ => rfl
theorem fn__law_e_drawn (g : G s a fd) : ∀ k, Fun s k "_law_e_drawn" (a "_law_e_drawn") (fd "_law_e_drawn") ["spring"] 3 (m__law_e_drawn k)
  | 0 => g.toGs.zero (ps := ["spring"]) 78 "_law_e_drawn" (by decide +kernel) bd__law_e_drawn 0
  | k + 1 => g.toGs.succ (N := ["spring", "way", "k"]) (ps := ["spring"]) (m := b__law_e_drawn k) 78 "_law_e_drawn" (by decide +kernel) bd__law_e_drawn sc__law_e_drawn fun _ _ h => db_cons (ds_set h 1 (de_fn h (fn__law_draw g k) (da_own h 0 (da_im (de_int) (da_nil))) (na_own (na_im (na_nil))))) (db_cons (ds_if (dt_cmp (ck_eq h) (de_var h 1) (de_int)) (db_one (ds_ret (de_sub (de_fn h (fn__law_draw g k) (da_own h 0 (da_im (de_pow (de_int) (de_int)) (da_nil))) (na_own (na_im (na_nil)))) (de_pow (de_int) (de_int))))) (db_nil)) (db_cons (ds_if (dt_cmp (ck_eq h) (de_var h 1) (de_int)) (db_one (ds_ret (de_fn h (fn__law_pick g k) (da_own h 0 (da_im (de_frz (df_lst (di_cons (de_str) (di_cons (de_str) (di_cons (de_str) (di_cons (de_str) (di_cons (de_str) (di_nil)))))))) (da_nil))) (na_own (na_im (na_nil)))))) (db_nil)) (db_cons (ds_if (dt_cmp (ck_eq h) (de_var h 1) (de_int)) (db_one (ds_ret (de_fn h (fn__law_pick g k) (da_own h 0 (da_im (de_frz (df_lst (di_cons (de_non) (di_cons (de_bl) (di_cons (de_bl) (di_cons (de_int) (di_cons (de_int) (di_nil)))))))) (da_nil))) (na_own (na_im (na_nil)))))) (db_nil)) (db_cons (ds_if (dt_cmp (ck_in h) (de_var h 1) (de_frz (df_lst (di_cons (de_int) (di_cons (de_int) (di_nil)))))) (db_one (ds_retF (df_comp h [("k", 2)] (dn_rng1 h (g.toGs.no "range") (di_cons (de_fn h (fn__law_draw g k) (da_own h 0 (da_im (de_int) (da_nil))) (na_own (na_im (na_nil)))) (di_nil))) (fun _ q1 => dgb_name q1.1 2) (fun _ q1 => dts_nil) (fun _ q1 => de_fn q1.1 (fn__law_draw g k) (da_own q1.1 0 (da_im (de_int) (da_nil))) (na_own (na_im (na_nil))))))) (db_nil)) (db_cons (ds_if (dt_cmp (ck_eq h) (de_var h 1) (de_int)) (db_one (ds_ret (de_callT h call_tuple_of (h.K ▸ cd_tuple) (g.toGs.no "tuple") PyProof.Rows.boot_tuple (di_cons (de_frz (df_comp h [("k", 2)] (dn_rng1 h (g.toGs.no "range") (di_cons (de_fn h (fn__law_draw g k) (da_own h 0 (da_im (de_int) (da_nil))) (na_own (na_im (na_nil)))) (di_nil))) (fun _ q2 => dgb_name q2.1 2) (fun _ q2 => dts_nil) (fun _ q2 => de_fn q2.1 (fn__law_draw g k) (da_own q2.1 0 (da_im (de_int) (da_nil))) (na_own (na_im (na_nil)))))) (di_nil))))) (db_nil)) (db_one (ds_ret (de_dict h (g.toGs.no "dict") rfl (di_cons (de_frz (df_comp h [("k", 2)] (dn_rng1 h (g.toGs.no "range") (di_cons (de_fn h (fn__law_draw g k) (da_own h 0 (da_im (de_int) (da_nil))) (na_own (na_im (na_nil)))) (di_nil))) (fun _ q3 => dgb_name q3.1 2) (fun _ q3 => dts_nil) (fun _ q3 => de_tup (di_cons (de_fn q3.1 (fn__law_draw g k) (da_own q3.1 0 (da_im (de_int) (da_nil))) (na_own (na_im (na_nil)))) (di_cons (de_str) (di_nil)))))) (di_nil))))))))))
/-! ### _law_e_right -/
def b__law_e_right (k : Nat) : MS := mSeq (mSet (mVar 0) (mgTup 4 (mgCons (mgName 2) (mgCons (mgName 3) (mgCons (mgName 4) (mgCons (mgName 5) (mgNil))))))) (mSeq (mFor (mItems (mFrz (mLst (mCons (mVar 2) (mCons (mVar 3) (mNil)))))) (mgName 6) (mSeq (mIfS (mOrT (mNotT (mTru (mIsE xs (fun x => rel x "FloorError") (mVar 6)))) (mNotT (mTru (mIsE xs (fun _ => true) (mVar 6))))) (mRet (mC (.bl false))) (mNext)) (mSeq (mIfS (mTst (mBin (mEq true) (mFrz (mComp (mEnum (mCons (mFn (m__law_e_kinds (k + 1)) 1 (mAIm (mVar 6) (mANil))) (mNil))) (mgTup 2 (mgCons (mgName 8) (mgCons (mgName 9) (mgNil)))) (mTru (mVar 9)) (mVar 8) [8, 9])) (mFrz (mLst (mCons (mVar 1) (mNil)))))) (mRet (mC (.bl false))) (mNext)) (mSeq (mSet (mFrz (mLook 4 nL 1 1 mL (mCons (mVar 6) (mNil)))) (mgName 7)) (mIfS (mOrT (mTst (mBin (mEq true) (mCall lenD (mCons (mVar 7) (mNil))) (mCall lenD (mCons (mVar 5) (mNil))))) (mNotT (mTru (mCall allD (mCons (mFrz (mComp (mZip (mCons (mVar 7) (mCons (mVar 5) (mNil)))) (mgTup 2 (mgCons (mgName 10) (mgCons (mgName 11) (mgNil)))) (mYes) (mFn (m__law_very (k + 1)) 3 (mAIm (mVar 10) (mAIm (mVar 11) (mANil)))) [10, 11])) (mNil)))))) (mRet (mC (.bl false))) (mNext)))))) (mRet (mC (.bl true))))
def m__law_e_right : Nat → MS
  | 0 => mNever
  | 1 => mNever
  | k + 2 => b__law_e_right k
theorem sc__law_e_right : FnScope ["row", "at", "placed", "named", "look", "due", "e", "kept", "k", "is_one", "one", "other"] ["row", "at"] (defScope (top 79)) := ⟨rfl, rfl, rfl, by decide +kernel, rfl, by decide +kernel, by decide +kernel⟩
theorem bd__law_e_right (kV doc pm : Value) (an : Option Addr) (cdv ct : Value) (us : List Value) (hl : us.length = 2) : bindArgs (PySem.W.fnOf "_law_e_right" "_law_e_right" (defArgs (top 79)) (defBody (top 79)) (defScope (top 79)) .none kV doc pm an cdv ct) ⟨us, []⟩ = pure ((["row", "at"] : List Str).zip us) := match us, hl with
  | [_, _], _ => rfl
theorem fn__law_e_right (g : G s a fd) : ∀ k, Fun s k "_law_e_right" (a "_law_e_right") (fd "_law_e_right") ["row", "at"] 12 (m__law_e_right k)
  | 0 => g.toGs.zero (ps := ["row", "at"]) 79 "_law_e_right" (by decide +kernel) bd__law_e_right 0
  | 1 => g.toGs.zero (ps := ["row", "at"]) 79 "_law_e_right" (by decide +kernel) bd__law_e_right 1
  | k + 2 => g.toGs.succ (N := ["row", "at", "placed", "named", "look", "due", "e", "kept", "k", "is_one", "one", "other"]) (ps := ["row", "at"]) (m := b__law_e_right k) 79 "_law_e_right" (by decide +kernel) bd__law_e_right sc__law_e_right fun _ _ h => db_cons (ds_asg h (de_var h 0) (dg_tup h 4 (dgs_cons (dg_name h 2) (dgs_cons (dg_name h 3) (dgs_cons (dg_name h 4) (dgs_cons (dg_name h 5) (dgs_nil))))))) (db_cons (ds_for h (dn_any h (de_frz (df_lst (di_cons (de_var h 2) (di_cons (de_var h 3) (di_nil)))))) (dg_name h 6) (db_cons (ds_if (dt_w (dw_or (dt_not (dt_tru h (de_isE h g.ef (g.toGs.no "isinstance") (de_var h 6) (by decide +kernel : (.ofString "FloorError" : Str) ∈ ys)))) (dw_or1 (dt_not (dt_tru h (de_isEV h g.ef (g.toGs.no "isinstance") (g.toGs.no "ValueError") rfl (de_var h 6))))))) (db_one (ds_ret (de_bl))) (db_nil)) (db_cons (ds_if (dt_cmp (ck_ne h) (de_frz (df_comp h [("k", 8), ("is_one", 9)] (dn_enum h (g.toGs.no "enumerate") (di_cons (de_fn h (fn__law_e_kinds g (k + 1)) (da_im (de_var h 6) (da_nil)) (na_im (na_nil))) (di_nil))) (fun _ q1 => dgb_tup q1.1 2 (dgbs_cons (dgb_name q1.1 8) (dgbs_cons (dgb_name q1.1 9) (dgbs_nil)))) (fun _ q1 => dts_one (dt_tru q1.1 (de_var q1.1 9))) (fun _ q1 => de_var q1.1 8))) (de_frz (df_lst (di_cons (de_var h 1) (di_nil))))) (db_one (ds_ret (de_bl))) (db_nil)) (db_cons (ds_set h 7 (de_frz (df_look h g.phi lamT (fun j hj _ _ hY => lf g j hj hY) 4 (di_cons (de_var h 6) (di_nil))))) (db_one (ds_if (dt_w (dw_or (dt_cmp (ck_ne h) (de_callB h call_len (h.K ▸ cd_len) (g.toGs.no "len") PySem.boot_len (di_cons (de_var h 7) (di_nil))) (de_callB h call_len (h.K ▸ cd_len) (g.toGs.no "len") PySem.boot_len (di_cons (de_var h 5) (di_nil)))) (dw_or1 (dt_not (dt_tru h (de_callB h (cr_all h.calm) (h.K ▸ cd_all) (g.toGs.no "all") PyProof.Rows.boot_all (di_cons (de_frz (df_comp h [("one", 10), ("other", 11)] (dn_zip h (g.toGs.no "zip") (di_cons (de_var h 7) (di_cons (de_var h 5) (di_nil)))) (fun _ q2 => dgb_tup q2.1 2 (dgbs_cons (dgb_name q2.1 10) (dgbs_cons (dgb_name q2.1 11) (dgbs_nil)))) (fun _ q2 => dts_nil) (fun _ q2 => de_fn q2.1 (fn__law_very g (k + 1)) (da_im (de_var q2.1 10) (da_im (de_var q2.1 11) (da_nil))) (na_im (na_im (na_nil)))))) (di_nil)))))))) (db_one (ds_ret (de_bl))) (db_nil))))))) (db_one (ds_ret (de_bl))))
/-! ### law -/
def m_pin (k : Nat) : MS := mSeq (mSet (mBin addD (mBin addD (mBin addD (mFn (m__law_e_first k) 2 (mAIm (mVar 5) (mANil))) (mFn (m__law_e_second k) 2 (mAIm (mVar 5) (mANil)))) (mFn (m__law_e_third k) 2 (mAIm (mVar 5) (mANil)))) (mFn (m__law_e_fourth k) 3 (mAIm (mVar 5) (mAIm (mVar 6) (mANil))))) (mgName 3)) (mSeq (mFor (mEnum (mCons (mVar 3) (mNil))) (mgTup 2 (mgCons (mgName 7) (mgCons (mgName 8) (mgNil)))) (mIfS (mNotT (mTru (mFn (m__law_e_right k) 12 (mAIm (mVar 8) (mAIm (mVar 7) (mANil)))))) (mRet (mC (.bl false))) (mNext))) (mSeq (mSet (mBin addD (mBin addD (mBin addD (mFn (m__law_e_first k) 2 (mAIm (mVar 6) (mANil))) (mFn (m__law_e_second k) 2 (mAIm (mVar 6) (mANil)))) (mFn (m__law_e_third k) 2 (mAIm (mVar 6) (mANil)))) (mFn (m__law_e_fourth k) 3 (mAIm (mVar 6) (mAIm (mVar 5) (mANil))))) (mgName 4)) (mFor (mEnum (mCons (mVar 4) (mNil))) (mgTup 2 (mgCons (mgName 7) (mgCons (mgName 8) (mgNil)))) (mIfS (mOrT (mNotT (mTru (mFn (m__law_e_right k) 12 (mAIm (mVar 8) (mAIm (mVar 7) (mANil)))))) (mNotT (mTru (mFn (m__law_e_right k) 12 (mAIm (mBin ixD (mVar 3) (mVar 7)) (mAIm (mVar 7) (mANil))))))) (mRet (mC (.bl false))) (mNext)))))
def keep (i : Nat) : Bool := i == 0
def b_law (k : Nat) : MS := mSeq (mFor (mRng1 (mCons (mC (.int 3)) (mNil))) (mgName 1) (mSeq (mSetO 2 (mFnF (m__law_spring k) 6 (mAIm (mVar 0) (mAIm (mVar 1) (mANil))))) (mSeq (mPar 5 6 (mXi (mFn (m__law_e_drawn k) 3 (mAOwn 2 (mANil)))) (mXi (mFn (m__law_e_drawn k) 3 (mAOwn 2 (mANil))))) (mPin 5 6 keep (m_pin k))))) (mSeq (mSet (mC (.int 45)) (mgName 9)) (mSeq (mIfS (mTst (mBin (mEq true) (mFrz (mComp (mEnum (mCons (mFn (m__law_e_kinds k) 1 (mAIm (mExc "NothingDone" [] mNil) (mANil))) (mNil))) (mgTup 2 (mgCons (mgName 10) (mgCons (mgName 11) (mgNil)))) (mTru (mVar 11)) (mVar 10) [10, 11])) (mFrz (mLst (mCons (mVar 9) (mNil)))))) (mRet (mC (.bl false))) (mNext)) (mSeq (mIfS (mTst (mBin (mEq true) (mFrz (mComp (mEnum (mCons (mFn (m__law_e_kinds k) 1 (mAIm (mExc "NothingUndone" [] mNil) (mANil))) (mNil))) (mgTup 2 (mgCons (mgName 10) (mgCons (mgName 11) (mgNil)))) (mTru (mVar 11)) (mVar 10) [10, 11])) (mFrz (mLst (mCons (mBin addD (mVar 9) (mC (.int 1))) (mNil)))))) (mRet (mC (.bl false))) (mNext)) (mRet (mAndV (mIsE xs (fun x => rel x "FloorError") (mExc "NothingDone" [] mNil)) (mIsE xs (fun x => rel x "FloorError") (mExc "NothingUndone" [] mNil)))))))
def m_law : Nat → MS
  | 0 => mNever
  | k + 1 => b_law k
theorem sc_law : FnScope ["script", "turn", "spring", "found", "other", "x", "y", "at", "row", "many", "k", "is_one"] ["script"] (defScope (top 80)) := ⟨rfl, rfl, rfl, by decide +kernel, rfl, by decide +kernel, by decide +kernel⟩
theorem bd_law (kV doc pm : Value) (an : Option Addr) (cdv ct : Value) (us : List Value) (hl : us.length = 1) : bindArgs (PySem.W.fnOf "law" "law" (defArgs (top 80)) (defBody (top 80)) (defScope (top 80)) .none kV doc pm an cdv ct) ⟨us, []⟩ = pure ((["script"] : List Str).zip us) := match us, hl with
  | [_], _ => rfl
theorem fn_law (g : G s a fd) : ∀ k, Fun s k "law" (a "law") (fd "law") ["script"] 12 (m_law k)
  | 0 => g.toGs.zero (ps := ["script"]) 80 "law" (by decide +kernel) bd_law 0
  | k + 1 => g.toGs.succ (N := ["script", "turn", "spring", "found", "other", "x", "y", "at", "row", "many", "k", "is_one"]) (ps := ["script"]) (m := b_law k) 80 "law" (by decide +kernel) bd_law sc_law fun _ _ h => db_cons (ds_for h (dn_rng1 h (g.toGs.no "range") (di_cons (de_int) (di_nil))) (dg_name h 1) (db_cons (ds_setO h 2 (df_fn h (fn__law_spring g k) (da_im (de_var h 0) (da_im (de_var h 1) (da_nil))) (na_im (na_im (na_nil))))) (db_cons (ds_par h 5 6 (dx_i (de_fn h (fn__law_e_drawn g k) (da_own h 2 (da_nil)) (na_own (na_nil)))) (dx_i (de_fn h (fn__law_e_drawn g k) (da_own h 2 (da_nil)) (na_own (na_nil))))) (db_pin (by decide) (db_cons (ds_set h 3 (de_add h (de_add h (de_add h (de_fn h (fn__law_e_first g k) (da_im (de_var h 5) (da_nil)) (na_im (na_nil))) (de_fn h (fn__law_e_second g k) (da_im (de_var h 5) (da_nil)) (na_im (na_nil)))) (de_fn h (fn__law_e_third g k) (da_im (de_var h 5) (da_nil)) (na_im (na_nil)))) (de_fn h (fn__law_e_fourth g k) (da_im (de_var h 5) (da_im (de_var h 6) (da_nil))) (na_im (na_im (na_nil)))))) (db_cons (ds_for h (dn_enum h (g.toGs.no "enumerate") (di_cons (de_var h 3) (di_nil))) (dg_tup h 2 (dgs_cons (dg_name h 7) (dgs_cons (dg_name h 8) (dgs_nil)))) (db_one (ds_if (dt_not (dt_tru h (de_fn h (fn__law_e_right g k) (da_im (de_var h 8) (da_im (de_var h 7) (da_nil))) (na_im (na_im (na_nil)))))) (db_one (ds_ret (de_bl))) (db_nil)))) (db_cons (ds_set h 4 (de_add h (de_add h (de_add h (de_fn h (fn__law_e_first g k) (da_im (de_var h 6) (da_nil)) (na_im (na_nil))) (de_fn h (fn__law_e_second g k) (da_im (de_var h 6) (da_nil)) (na_im (na_nil)))) (de_fn h (fn__law_e_third g k) (da_im (de_var h 6) (da_nil)) (na_im (na_nil)))) (de_fn h (fn__law_e_fourth g k) (da_im (de_var h 6) (da_im (de_var h 5) (da_nil))) (na_im (na_im (na_nil)))))) (db_one (ds_for h (dn_enum h (g.toGs.no "enumerate") (di_cons (de_var h 4) (di_nil))) (dg_tup h 2 (dgs_cons (dg_name h 7) (dgs_cons (dg_name h 8) (dgs_nil)))) (db_one (ds_if (dt_w (dw_or (dt_not (dt_tru h (de_fn h (fn__law_e_right g k) (da_im (de_var h 8) (da_im (de_var h 7) (da_nil))) (na_im (na_im (na_nil)))))) (dw_or1 (dt_not (dt_tru h (de_fn h (fn__law_e_right g k) (da_im (de_ix h (de_var h 3) (de_var h 7)) (da_im (de_var h 7) (da_nil))) (na_im (na_im (na_nil))))))))) (db_one (ds_ret (de_bl))) (db_nil)))))))))))) (db_cons (ds_set h 9 (de_int)) (db_cons (ds_if (dt_cmp (ck_ne h) (de_frz (df_comp h [("k", 10), ("is_one", 11)] (dn_enum h (g.toGs.no "enumerate") (di_cons (de_fn h (fn__law_e_kinds g k) (da_im (de_exc0 h (g.exk "NothingDone" [] (by decide +kernel))) (da_nil)) (na_im (na_nil))) (di_nil))) (fun _ q1 => dgb_tup q1.1 2 (dgbs_cons (dgb_name q1.1 10) (dgbs_cons (dgb_name q1.1 11) (dgbs_nil)))) (fun _ q1 => dts_one (dt_tru q1.1 (de_var q1.1 11))) (fun _ q1 => de_var q1.1 10))) (de_frz (df_lst (di_cons (de_var h 9) (di_nil))))) (db_one (ds_ret (de_bl))) (db_nil)) (db_cons (ds_if (dt_cmp (ck_ne h) (de_frz (df_comp h [("k", 10), ("is_one", 11)] (dn_enum h (g.toGs.no "enumerate") (di_cons (de_fn h (fn__law_e_kinds g k) (da_im (de_exc0 h (g.exk "NothingUndone" [] (by decide +kernel))) (da_nil)) (na_im (na_nil))) (di_nil))) (fun _ q2 => dgb_tup q2.1 2 (dgbs_cons (dgb_name q2.1 10) (dgbs_cons (dgb_name q2.1 11) (dgbs_nil)))) (fun _ q2 => dts_one (dt_tru q2.1 (de_var q2.1 11))) (fun _ q2 => de_var q2.1 10))) (de_frz (df_lst (di_cons (de_add h (de_var h 9) (de_int)) (di_nil))))) (db_one (ds_ret (de_bl))) (db_nil)) (db_one (ds_ret (de_and (de_isE h g.ef (g.toGs.no "isinstance") (de_exc0 h (g.exk "NothingDone" [] (by decide +kernel))) (by decide +kernel : (.ofString "FloorError" : Str) ∈ ys)) (de_one (de_isE h g.ef (g.toGs.no "isinstance") (de_exc0 h (g.exk "NothingUndone" [] (by decide +kernel))) (by decide +kernel : (.ofString "FloorError" : Str) ∈ ys)))))))))
end
end K00
end Dy

set_option Elab.async false
set_option linter.all false
set_option maxRecDepth 100000
set_option maxHeartbeats 4000000
/-! the head's facts: what the written part must say, as one Bool -/
namespace Dy
open PySem PySem.Spec PySem.W PyProof.Rows L2 He
/-- what is looked at -/
def kidsA (o : Obj) : List Addr := match o.data with
  | .cls cd => [cd.ns]
  | .func fd => refV fd.code ++ fd.closure.map (·.2)
  | .dict es _ => es.toList.flatMap fun e => refV e.val
  | _ => []
def kids (g : Addr → Option Obj) (as : List Addr) : List Addr := as.flatMap fun a => match g a with
  | some o => kidsA o
  | none => []
def asK (g : Addr → Option Obj) (l1 l2 l3 : List Addr) : List Addr := mainGlobals :: cStatics :: (l1 ++ (l2 ++ (l3 ++ kids g l3)))
def asY (g : Addr → Option Obj) : List Addr := asK g (kids g [mainGlobals]) (kids g (kids g [mainGlobals])) (kids g (kids g (kids g [mainGlobals])))
def frY (g : Addr → Option Obj) : Frag := frT g (asY g)
/-! ### own exceptions -/
abbrev FnI : Type := Option (Str × Str × Arguments × FuncBody × Scope × Addr × List Str × Addr)
def iAd (K : Frag) (x : Str) : Addr := ma K (ga K x) "__init__"
def fnI (K : Frag) (x : Str) : FnI := match K.lookup (iAd K x) with
  | some ⟨_, _, .func fd, _⟩ => some (fd.name, fd.qualname, fd.params, fd.body, fd.scope, fd.globals, fd.closure.map (·.1), fd.builtins)
  | _ => none
def exVal (x : Str) (st : Stmt) : FnI := some ("__init__", x ++ ".__init__", defArgs st, .stmts (defBody st), defScope st, mainGlobals, ["__class__"], builtinsNs)
def fileB (K : Frag) (file : Str) (c : Addr) : Bool := match K.lookup c with
  | some ⟨_, _, .fields vs, _⟩ => (match (vs[2]? : Option Value) with
    | some (.str f _) => file == f
    | _ => false)
  | _ => false
def cellB (K : Frag) (c C : Addr) : Bool := match K.lookup c with
  | some ⟨_, _, .cell (some (.ref D)), _⟩ => D == C
  | _ => false
def initB (file : Str) (K : Frag) (x : Str) : Bool := match K.lookup (iAd K x) with
  | some ⟨_, _, .func fd, _⟩ => (match fd.defaults, fd.kwdefaults, fd.code, fd.closure with
    | .none, .none, .ref c, [(_, b)] => codeIn K (.ref c) (x ++ ".__init__") && (fileB K file c && cellB K b (ga K x))
    | _, _, _, _ => false)
  | _ => false
theorem fileB_ok {K : Frag} {file : Str} {c : Addr} (h : fileB K file c = true) : ∃ (ccl : Value) (cdd : Option Addr) (vs : Array Value) (ccs : Array (Option Value)) (f : Str) (tf : PySem.Tok), K.lookup c = some ⟨ccl, cdd, .fields vs, ccs⟩ ∧ vs[2]? = some (.str f tf) ∧ (file == f) = true := by
  unfold fileB at h
  split at h
  · rename_i ccl cdd vs ccs e
    split at h
    · rename_i f tf e2
      exact ⟨_, _, vs, _, f, tf, e, e2, h⟩
    · cases h
  · cases h
theorem cellB_ok {K : Frag} {c C : Addr} (h : cellB K c C = true) : ∃ (cl : Value) (cd : Option Addr) (cs : Array (Option Value)), K.lookup c = some ⟨cl, cd, .cell (some (.ref C)), cs⟩ := by
  unfold cellB at h
  split at h
  · rename_i a b D d e
    rw [beq_iff_eq.mp h] at e
    exact ⟨_, _, _, e⟩
  · cases h
theorem init_ok {K : Frag} {x file : Str} {st : Stmt} (e : fnI K x = exVal x st) (h : initB file K x = true) : ∃ (oc : Value) (od : Option Addr) (doc pm : Value) (an : Option Addr) (ct : Value) (osl : Array (Option Value)) (cc cda : Addr) (ccl cl : Value) (cdd cld : Option Addr) (ccs csl : Array (Option Value)) (vs : Array Value) (f : Str) (tf : PySem.Tok),
    K.lookup (iAd K x) = some ⟨oc, od, .func (fnX "__init__" (x ++ ".__init__") (defArgs st) (defBody st) (defScope st) [("__class__", cc)] .none .none doc pm an (.ref cda) ct), osl⟩ ∧ codeIn K (.ref cda) (x ++ ".__init__") = true ∧ K.lookup cda = some ⟨ccl, cdd, .fields vs, ccs⟩ ∧ vs[2]? = some (.str f tf) ∧ (file == f) = true ∧
    K.lookup cc = some ⟨cl, cld, .cell (some (.ref (ga K x))), csl⟩ := by
  unfold initB at h
  unfold fnI at e
  split at h
  · rename_i oc od fd osl q
    rw [q] at e
    split at h
    · rename_i n1 b z1 z2 z3 z4
      obtain ⟨fn1, fn2, fn3, fn4, fn5, fn6, fn7, fn8, fn9, fn10, fn11, fn12, fn13, fn14, fn15⟩ := fd
      dsimp only at z1 z2 z3 z4 e
      subst z1 z2 z3 z4
      unfold exVal at e
      simp only [Option.some.injEq, Prod.mk.injEq, List.map_cons, List.map_nil, List.cons.injEq, and_true] at e
      obtain ⟨e1, e2, e3, e4, e5, e6, e7, e8⟩ := e
      subst e1 e2 e3 e4 e5 e6 e7 e8
      obtain ⟨h1, h2⟩ := ba h
      obtain ⟨h3, h4⟩ := ba h2
      obtain ⟨ccl, cdd, vs, ccs, f, tf, f1, f2, f3⟩ := fileB_ok h3
      obtain ⟨cl, cld, csl, g1⟩ := cellB_ok h4
      exact ⟨oc, od, _, _, _, _, osl, b, _, ccl, cl, cdd, cld, ccs, csl, vs, f, tf, q, h1, f1, f2, f3, g1⟩
    · cases h
  · cases h
/-- the mro that such a class has -/
def mroV (K : Frag) (x : Str) : List Value := [.ref (ga K x), .ref (ga K "FloorError"), .type "ValueError", .type "Exception", .type "BaseException", .type "object"]
/-- the class object is an own exception's over FloorError -/
def clsOb (K : Frag) (x : Str) : Bool := match K.lookup (ga K x) with
  | some ⟨.type "type", _, .cls cd, sl⟩ => (match cd.mro, sl.toList with
    | .ref C :: bm, [_, _, _, _, some (.builtin n), _] => (C == ga K x && (n == "ValueError.__new__" && (!cd.hasDel && (cd.hasDict && HandSPX.refsVE bm)))) && (cd.name == x && decide (cd.mro = mroV K x))
    | _, _ => false)
  | _ => false
theorem clsOb_ok {K : Frag} {x : Str} (h : clsOb K x = true) : (∃ nm q N bs bm sn sub ab col dd k0 k1 k2 k3 k5, K.lookup (ga K x) = some (excClassObj nm q (ga K x) N bs bm true sn sub ab col dd k0 k1 k2 k3 k5 "ValueError.__new__") ∧ HandSPX.refsVE bm = true) ∧ ∃ cd, clsIn K (ga K x) = some cd ∧ cd.name = x ∧ cd.mro = mroV K x ∧ typeIn K (.ref (ga K x)) = some (.type "type") := by
  unfold clsOb at h
  split at h
  · rename_i dd cd sl ho
    split at h
    · rename_i C bm k0 k1 k2 k3 n k5 hm hs
      obtain ⟨h0, h9⟩ := ba h
      obtain ⟨h1, h0⟩ := ba h0
      obtain ⟨h2, h0⟩ := ba h0
      obtain ⟨h3, h0⟩ := ba h0
      obtain ⟨h4, h5⟩ := ba h0
      obtain ⟨h6, h7⟩ := ba h9
      have e1 : C = ga K x := beq_iff_eq.mp h1
      have e2 : n = "ValueError.__new__" := beq_iff_eq.mp h2
      have e6 : cd.name = x := beq_iff_eq.mp h6
      have e7 : cd.mro = mroV K x := of_decide_eq_true h7
      refine ⟨?_, cd, by unfold clsIn; rw [ho], e6, e7, by show (K.lookup (ga K x)).map (·.cls) = _; rw [ho] <;> rfl⟩
      obtain ⟨nm, bs, mro, ns, qn, hd, sn, sub, ab, col, del⟩ := cd
      dsimp only at hm h3 h4
      have hsl : sl = #[k0, k1, k2, k3, some (.builtin n), k5] := by
        obtain ⟨l⟩ := sl
        simp only at hs
        rw [hs]
      have e3 : del = false := by
        cases del with
        | false => rfl
        | true => cases h3
      subst h4 e3 e2 hsl hm
      rw [e1] at ho
      exact ⟨nm, qn, ns, bs, bm, sn, sub, ab, col, dd, k0, k1, k2, k3, k5, ho, h5⟩
    · cases h
  · cases h
def optB (a b : Option (Option Value)) : Bool := decide (a = b)
/-- the own names of the class: none of these, and its __init__ -/
def ownB (K : Frag) (x : Str) (fs : List Str) : Bool := match K.lookup (ga K x) with
  | some ⟨_, _, .cls cd, _⟩ => (match K.lookup cd.ns with
    | some ⟨_, _, .dict es _, _⟩ => !es.toList.any (·.refKey) && ((("__setattr__" :: "__getattribute__" :: "__getattr__" :: "__class__" :: fs : List Str).all fun f => (es.toList.find? (·.key.isStr f)).isNone) && (match es.toList.find? (·.key.isStr "__init__") with
      | some e => e.val == .ref (iAd K x)
      | none => false))
    | _ => false)
  | _ => false
def tailV (K : Frag) : List Value := [.ref (ga K "FloorError"), .type "ValueError", .type "Exception", .type "BaseException", .type "object"]
/-- all that is asked of one class, its fields fs -/
def excB (K : Frag) (x : Str) (fs : List Str) : Bool := clsOb K x && (ownB K x fs && decide (typeIn K (.ref (iAd K x)) = some (.type "function")))
/-- what is asked once; fs: all fields -/
def onceB (K : Frag) (fs : List Str) : Bool := optB (nsIn K cStatics "thirdparty.any") (some none) && (optB (alongIn K "__setattr__" (tailV K)) (some (some (.builtin "object.__setattr__"))) && (optB (alongIn K "__getattribute__" (tailV K)) (some (some (.builtin "BaseException.__getattribute__"))) && (optB (alongIn K "__getattr__" (tailV K)) (some none) &&
  (optB (alongIn K "__class__" (tailV K)) (some (some (.builtin "object.__class__"))) && (optB (alongIn K "__init__" (tailV K)) (some (some (.builtin "ValueError.__init__"))) && fs.all fun f => optB (alongIn K f (tailV K)) (some none))))))
theorem special_class {K : Frag} : specialIn K (.builtin "object.__class__") "__get__" = some (some (.builtin "getset_descriptor.__get__")) := by
  show (pureOf (fastBuiltinType "object.__class__")).bind (fun t => findIn K t "__get__") = _
  rw [show pureOf (fastBuiltinType "object.__class__") = some (.type "getset_descriptor") by decide +kernel]
  show fastLookup "getset_descriptor" "__get__" = _
  decide +kernel
theorem takes_class {K : Frag} : takesIn K (.builtin "object.__class__") = some true := by
  unfold takesIn
  rw [show specialIn K (.builtin "object.__class__") "__set__" = some (some (.builtin "getset_descriptor.__set__")) by
    show (pureOf (fastBuiltinType "object.__class__")).bind (fun t => findIn K t "__set__") = _
    rw [show pureOf (fastBuiltinType "object.__class__") = some (.type "getset_descriptor") by decide +kernel]
    show fastLookup "getset_descriptor" "__set__" = _
    decide +kernel]
theorem call_type : fastLookup "type" "__call__" = some (some (.builtin "type.__call__")) := by decide +kernel
theorem meta_ve : kitMeta "ValueError" = true := by decide +kernel
theorem optB_ok {a b : Option (Option Value)} (h : optB a b = true) : a = b := of_decide_eq_true h
section
variable {K : Frag} {mg : Str → Option Value} {P : Program} {x : Str}
theorem sub_mro {cd : ClassData} (hc : clsIn K (ga K x) = some cd) (hm : cd.mro = mroV K x) {b : Value} {r : Bool} (e : (mroV K x).contains b = r) : mroIn K (ga K x) b = some r := by
  unfold mroIn
  rw [hc, Option.bind_some, hm, e]
  rfl
theorem excB_ok {fps : List (Str × Str)} {fs : List Str} (h : excB K x (fps.map (·.2)) = true) (o : onceB K fs = true) (hf : ∀ q ∈ fps, q.2 ∈ fs) (hg : mg x = some (.ref (ga K x))) (hs : mg "super" = none) (ht : (P.main.scope.names.lookup ("super" : Str)).isSome = false) : ExC K mg P (ga K x) (iAd K x) x fps ∧ ExcC K (ga K x) ∧ kitOne K (.ref (ga K x)) (.type "ValueError") = some true := by
  obtain ⟨h1, h⟩ := ba h
  obtain ⟨h2, h5⟩ := ba h
  obtain ⟨o1, o⟩ := ba o
  obtain ⟨o2, o⟩ := ba o
  obtain ⟨o3, o⟩ := ba o
  obtain ⟨o4, o⟩ := ba o
  obtain ⟨o5, o⟩ := ba o
  obtain ⟨o6, o7⟩ := ba o
  obtain ⟨c1, cd, c2, c3, c4, c5⟩ := clsOb_ok h1
  have sb : subIn K (.ref (ga K x)) (.type "BaseException") = some true := sub_mro c2 c4 (by unfold mroV; simp [List.contains_cons])
  have sv : subIn K (.ref (ga K x)) (.type "ValueError") = some true := sub_mro c2 c4 (by unfold mroV; simp [List.contains_cons])
  have so : mroIn K (ga K x) (.type "object") = some true := sub_mro c2 c4 (by unfold mroV; simp [List.contains_cons])
  have mr : mroV K x = .ref (ga K x) :: tailV K := rfl
  obtain ⟨oc, od, sl, lk⟩ : ∃ oc od sl, K.lookup (ga K x) = some ⟨oc, od, .cls cd, sl⟩ := by
    unfold clsIn at c2
    split at c2
    · rename_i a b c d e
      cases c2
      exact ⟨_, _, _, e⟩
    · cases c2
  unfold ownB at h2
  rw [lk] at h2
  dsimp only at h2
  split at h2
  · rename_i a b es n sl2 ln
    obtain ⟨r1, r2⟩ := ba h2
    obtain ⟨r2, r3⟩ := ba r2
    have hr : es.toList.any (·.refKey) = false := by simpa using r1
    have own : ∀ f : Str, (es.toList.find? (·.key.isStr f)).isNone = true → ownIn K f (.ref (ga K x)) = some none := fun f hf => by
      show (match K.lookup (ga K x) with
        | some ⟨_, _, .cls cd, _⟩ => nsIn K cd.ns f
        | _ => none) = _
      rw [lk]
      show nsIn K cd.ns f = _
      unfold nsIn
      rw [ln]
      dsimp only
      rw [Option.isNone_iff_eq_none.mp hf, hr] <;> rfl
    have fnd : ∀ f : Str, findIn K (.ref (ga K x)) f = alongIn K f cd.mro := fun f => by
      show (match K.lookup (ga K x) with
        | some ⟨_, _, .cls cd, _⟩ => alongIn K f cd.mro
        | _ => none) = _
      rw [lk]
    have past : ∀ f : Str, (es.toList.find? (·.key.isStr f)).isNone = true → findIn K (.ref (ga K x)) f = alongIn K f (tailV K) := fun f hf => by
      rw [fnd, c4, mr]
      show (match ownIn K f (.ref (ga K x)) with
        | some (some v) => some (some v)
        | some none => alongIn K f (tailV K)
        | none => none) = _
      rw [own f hf]
    have nn : ∀ f ∈ ("__setattr__" :: "__getattribute__" :: "__getattr__" :: "__class__" :: fps.map (·.2) : List Str), (es.toList.find? (·.key.isStr f)).isNone = true := fun f hf => List.all_eq_true.mp r2 f hf
    have ini : findIn K (.ref (ga K x)) "__init__" = some (some (.ref (iAd K x))) := by
      rw [fnd, c4, mr]
      cases q : es.toList.find? (·.key.isStr "__init__") with
      | none => rw [q] at r3; cases r3
      | some e =>
        rw [q] at r3
        have ev : e.val = .ref (iAd K x) := beq_iff_eq.mp r3
        have e1 : ownIn K "__init__" (.ref (ga K x)) = some (some (.ref (iAd K x))) := by
          show (match K.lookup (ga K x) with
            | some ⟨_, _, .cls cd, _⟩ => nsIn K cd.ns "__init__"
            | _ => none) = _
          rw [lk]
          show nsIn K cd.ns "__init__" = _
          unfold nsIn
          rw [ln]
          dsimp only
          rw [q, ← ev]
        show (match ownIn K "__init__" (.ref (ga K x)) with
          | some (some v) => some (some v)
          | some none => alongIn K "__init__" (tailV K)
          | none => none) = _
        rw [e1]
    have kp : keepIn K (.ref (ga K x)) = true := by
      show (match K.lookup (ga K x) with
        | some ⟨_, _, .func _, _⟩ => true
        | some ⟨_, _, .cls _, _⟩ => specialIn K (.ref (ga K x)) "__call__" == some (some (.builtin "type.__call__"))
        | _ => false) = true
      rw [lk]
      show (specialIn K (.ref (ga K x)) "__call__" == some (some (.builtin "type.__call__"))) = true
      unfold specialIn
      rw [c5, Option.bind_some, show findIn K (.type "type") "__call__" = fastLookup "type" "__call__" from rfl, call_type]
      exact beq_self_eq_true _
    have hdd : hasDictIn K (ga K x) = true := by
      obtain ⟨nm, q, N, bs, bm, sn, sub, ab, col, dd, k0, k1, k2, k3, k5, l2, _⟩ := c1
      unfold hasDictIn clsIn
      rw [l2] <;> rfl
    have sup : ks_superIn K (ga K x) (ga K x) "__init__" = some (some (.builtin "ValueError.__init__")) := by
      unfold ks_superIn
      rw [c2, Option.bind_some, c4, mr, show ((.ref (ga K x) :: tailV K).dropWhile (· != .ref (ga K x))).drop 1 = tailV K by
        rw [List.dropWhile_cons_of_neg (by simp)] <;> rfl]
      exact optB_ok o6
    refine ⟨⟨hg, c1, (past _ (nn _ (by simp))).trans (optB_ok o2), fun q hq => (past _ (nn _ (by simp only [List.mem_cons]; exact .inr (.inr (.inr (.inr (List.mem_map.mpr ⟨q, hq, rfl⟩))))))).trans (optB_ok (List.all_eq_true.mp o7 q.2 (hf q hq))), ini, of_decide_eq_true h5, kp, sb, sv, c5, sup, optB_ok o1, hs, ht⟩,
      ⟨(past _ (nn _ (by simp))).trans (optB_ok o3), (past _ (nn _ (by simp))).trans (optB_ok o4), sb, hdd, (past _ (nn _ (by simp))).trans (optB_ok o5), special_class, takes_class, so⟩, ?_⟩
    unfold kitOne
    rw [if_neg (by intro z; exact absurd (beq_iff_eq.mp z) (by intro y; cases y))]
    show (if kitMeta "ValueError" = true then subIn K (.ref (ga K x)) (.type "ValueError") else none) = _
    rw [if_pos meta_ve]
    exact sv
  · cases h2
end
end Dy

set_option Elab.async false
set_option linter.all false
set_option maxRecDepth 100000
set_option maxHeartbeats 4000000
/-! the head's Hook; the facts Gx from it; the law's promise from its mirror -/
namespace Dy
open PySem PySem.Spec PySem.W PyProof.Rows L2 He
/-- what the text says of an __init__ -/
structure InitT (st : Stmt) (fps : List (Str × Str)) : Prop where
  few : fps.length ≤ 900
  dbg : ∀ q ∈ fps, (q.1 == ("__debug__" : Str)) = false
  nd : ("self" :: fps.map (·.1) : List Str).Nodup
  tx : ∃ (kk : Nat) (msg : Str) (a1 a2 a3 a4 a5 a6 : Pos) (a0 : Arg) (ss : List Stmt), ((defArgs st).posonlyargs ++ (defArgs st).args).head? = some a0 ∧ a0.arg = "self" ∧ EiSc (defScope st) fps ∧ AsB ss fps ∧ defBody st = supS msg kk a1 a2 a3 a4 a5 a6 :: ss ∧ (a3.endLine == a5.line) = true
  bd : ∀ (qual : Str) (cc cda : Addr) (doc pm : Value) (an : Option Addr) (ct u : Value) (us : List Value), us.length = fps.length → bindArgs (fnX "__init__" qual (defArgs st) (defBody st) (defScope st) [("__class__", cc)] .none .none doc pm an (.ref cda) ct) ⟨u :: us, []⟩ = pure ((PySem.Str.ofString "self", u) :: (fps.map (·.1)).zip us) ∧
    bindArgs (fnX "__init__" qual (defArgs st) (defBody st) (defScope st) [("__class__", cc)] .none .none doc pm an (.ref cda) ct) ⟨[u], (fps.map (·.1)).zip us⟩ = pure ((PySem.Str.ofString "self", u) :: (fps.map (·.1)).zip us)
/-- the data of a law's head -/
structure Hd where
  top : Nat → Stmt
  tab : List (Nat × Str)
  bl : List Str
  lt : List Str
  exx : List (Str × List (Str × Str))
  exs : List (Str × Stmt)
  ys : List Str
  file : Str
section
variable (D : Hd)
def Hd.fa : List Fa := (D.tab.map fun p => Fa.glo p.2) ++ (D.bl.map Fa.free ++ (D.ys.map Fa.glo ++ [.free "super"]))
def Hd.fn : List DefD := D.tab.map fun p => ⟨(p.2, none), p.2, p.2, defArgs (D.top p.1), defBody (D.top p.1), defScope (D.top p.1), [], []⟩
def Hd.tf : List Defn := D.lt.map fun x => (x, none)
def clsY (K : Frag) (y : Str) : Bool := match K.lookup (ga K y) with
  | some ⟨.type "type", _, .cls cd, _⟩ => cd.name == y
  | _ => false
def Hd.fs : List Str := (D.exx.flatMap fun x => x.2.map (·.2)).eraseDups
def Hd.exB (K : Frag) : Bool := onceB K D.fs && ((D.exx.all fun x => excB K x.1 (x.2.map (·.2)) && initB D.file K x.1) && ((D.ys.all fun y => clsY K y) && (D.lt.all fun x => D.lt.all fun y => x == y || (cT K (x, none)).2 != (cT K (y, none)).2)))
def Hd.T (K : Frag) : List (Addr × Str) := D.lt.map fun x => ((cT K (x, none)).2, x ++ ".<locals>." ++ "<lambda>")
/-- what is told -/
structure SaysY (h : Heap) (K : Frag) : Prop where
  d : SaysD D.fa D.fn K
  more : D.exB K = true
  hd : ∀ p ∈ D.tf, codeHdIn K (cT K p).1 (cT K p).2 = true
  out : ∀ p ∈ D.tf, K.lookup (cT K p).2 = none
  empty : ∀ p ∈ D.tf, h.get? (cT K p).2 = some { cls := .none, data := .fields #[] }
  ini : (D.exs.map fun x => fnI K x.1) = D.exs.map fun x => exVal x.1 x.2
abbrev AlY : Type := (AlD × Bool) × List FnI
def obsY (g : Addr → Option Obj) : AlY := ((obsD D.fa D.fn (frY g), D.exB (frY g) && tabsB g D.tf (frY g)), D.exs.map fun x => fnI (frY g) x.1)
def valY : AlY := ((valD D.fn, true), D.exs.map fun x => exVal x.1 x.2)
variable {D}
theorem saysY_of {h : Heap} (e : obsY D h.get? = valY D) : SaysY D h (frY h.get?) := by
  have e1 : obsD D.fa D.fn (frY h.get?) = valD D.fn := congrArg (fun z : AlY => z.1.1) e
  have e2 : (D.exB (frY h.get?) && tabsB h.get? D.tf (frY h.get?)) = true := congrArg (fun z : AlY => z.1.2) e
  have e3 := congrArg (fun z : AlY => z.2) e
  obtain ⟨h1, h2⟩ := ba e2
  have at_ : ∀ p ∈ D.tf, codeHdIn (frY h.get?) (cT (frY h.get?) p).1 (cT (frY h.get?) p).2 = true ∧ ∃ o, h.get? (cT (frY h.get?) p).2 = some o ∧ emptyTab o = true := fun p hp => by
    obtain ⟨y1, y2⟩ := ba (List.all_eq_true.mp h2 p hp)
    refine ⟨y1, ?_⟩
    cases z : h.get? (cT (frY h.get?) p).2 with
    | none => rw [z] at y2; cases y2
    | some o => rw [z] at y2; exact ⟨o, rfl, y2⟩
  exact ⟨e1, h1, fun p hp => (at_ p hp).1, fun p hp => (at_ p hp).2.elim fun o y => frT_none y.1 y.2, fun p hp => (at_ p hp).2.elim fun o y => by rw [y.1, emptyTab_eq y.2], e3⟩
variable (D) in
def hookY : PySem.W.Hook where
  α := AlY
  obs := fun s => obsY D s.heap.get?
  val := fun _ => valY D
  says := fun _ h => ∃ K : Frag, K.In h ∧ SaysY D h K
  of := fun _ _ e => ⟨_, frT_in, saysY_of e⟩
  keeps := fun _ _ _ ⟨K, hK, c⟩ k => ⟨K, Frag.In.keeps hK k, ⟨c.d, c.more, c.hd, c.out, fun p hp => k _ _ (c.empty p hp), c.ini⟩⟩
theorem obsY_eq {g : Addr → Option Obj} {s : Shared} (h : ∀ a, g a = s.heap.get? a) : obsY D g = (hookY D).obs s := by
  have e : g = s.heap.get? := funext h
  rw [e] <;> rfl
end
/-! ### the facts -/
def fdOf (K : Frag) (x : Str) : FuncData := match K.lookup (ga K x) with
  | some ⟨_, _, .func fd, _⟩ => fd
  | _ => fnOf "" "" (defArgs (.Pass ⟨0, 0, 0, 0⟩)) [] (defScope (.Pass ⟨0, 0, 0, 0⟩)) .none .none .none .none none .none .none
theorem fdOf_eq {K : Frag} {x : Str} {oc : Value} {od : Option Addr} {osl : Array (Option Value)} {fd : FuncData} (lk : K.lookup (ga K x) = some ⟨oc, od, .func fd, osl⟩) : fdOf K x = fd := by
  unfold fdOf
  rw [lk]
theorem clsY_ok {K : Frag} {y : Str} (h : clsY K y = true) : ∃ cd, clsIn K (ga K y) = some cd ∧ cd.name = y ∧ typeIn K (.ref (ga K y)) = some (.type "type") := by
  unfold clsY at h
  split at h
  · rename_i dd cd sl e
    exact ⟨cd, by unfold clsIn; rw [e], beq_iff_eq.mp h, by show (K.lookup (ga K y)).map (·.cls) = _; rw [e] <;> rfl⟩
  · cases h
def relF (x y : Str) : Bool := x == y || y == "FloorError"
section
variable {D : Hd} {K : Frag} {h base : Heap} {mg : Str → Option Value} {P : Program} {w : World} {tabL : Nat → LamD}
def wOf (D : Hd) (tabL : Nat → LamD) (K : Frag) (mg : Str → Option Value) : Wx := ⟨K, mg, LamV tabL, D.T K, lamV_mono⟩
theorem SaysY.fun_ (c : SaysY D h K) {i : Nat} {x : Str} (hm : (i, x) ∈ D.tab) : FunD K x x (defArgs (D.top i)) (defBody (D.top i)) (defScope (D.top i)) [] [] (ga K x) (fdOf K x) := by
  obtain ⟨fd, F⟩ := c.d.defs (d := ⟨(x, none), x, x, defArgs (D.top i), defBody (D.top i), defScope (D.top i), [], []⟩) (List.mem_map.mpr ⟨(i, x), hm, rfl⟩)
  have e : fdOf K x = fd := by
    obtain ⟨oc, od, dV, kV, doc, pm, an, cdv, ct, osl, _, lk, _⟩ := F.ex
    exact fdOf_eq lk
  rw [e]
  exact F
theorem SaysY.glo (c : SaysY D h K) (X : K.In h) (G : h.Ns mainGlobals mg) {x : Str} (hm : (∃ i, (i, x) ∈ D.tab) ∨ x ∈ D.ys) : mg x = some (.ref (ga K x)) := by
  refine glo_ok X G (c.d.facts ?_)
  unfold Hd.fa
  rcases hm with ⟨i, hm⟩ | hm
  · exact List.mem_append_left _ (List.mem_map.mpr ⟨(i, x), hm, rfl⟩)
  · exact List.mem_append_right _ (List.mem_append_right _ (List.mem_append_left _ (List.mem_map.mpr ⟨x, hm, rfl⟩)))
theorem gx_of (c : SaysY D h K) (X : K.In h) (G : h.Ns mainGlobals mg) (TB : ∀ p ∈ D.tf.map (cT K), LamX.TabB base mg p.1 p.2) (hlt : ∀ x ∈ D.lt, ∃ i, (i, x) ∈ D.tab) (hys : ∀ x ∈ D.exx, x.1 ∈ D.ys) (hfe : ("FloorError" : Str) ∈ D.ys)
    (hex : ∀ x ∈ D.exx, ∃ st, (x.1, st) ∈ D.exs ∧ InitT st x.2) (hfile : D.file = P.main.file) (ht : (P.main.scope.names.lookup ("super" : Str)).isSome = false) :
    Gx ⟨wOf D tabL K mg, P, w, base⟩ D.top D.tab D.bl [] D.lt D.exx (D.exx.map (·.1)) (D.exx.flatMap fun x => x.2.map fun y => (x.1, y.2)) D.ys relF tabL (ga K) (fdOf K) := by
  obtain ⟨m1, m2⟩ := ba c.more
  obtain ⟨m2, m3⟩ := ba m2
  obtain ⟨m3, m4⟩ := ba m3
  have free : ∀ x, x ∈ D.bl ∨ x = "super" → mg x = none := fun x hx => by
    refine free_ok X G (c.d.facts ?_)
    unfold Hd.fa
    rcases hx with hx | rfl
    · exact List.mem_append_right _ (List.mem_append_left _ (List.mem_map.mpr ⟨x, hx, rfl⟩))
    · exact List.mem_append_right _ (List.mem_append_right _ (List.mem_append_right _ List.mem_cons_self))
  have glx : ∀ x ∈ D.exx, mg x.1 = some (.ref (ga K x.1)) := fun x hx => c.glo X G (.inr (hys x hx))
  have ex1 : ∀ x ∈ D.exx, (ExC K mg P (ga K x.1) (iAd K x.1) x.1 x.2 ∧ ExcC K (ga K x.1)) ∧ initB D.file K x.1 = true ∧ kitOne K (.ref (ga K x.1)) (.type "ValueError") = some true ∧ clsOb K x.1 = true := fun x hx => by
    obtain ⟨z1, z2⟩ := ba (List.all_eq_true.mp m2 x hx)
    obtain ⟨y1, y2, y3⟩ := excB_ok z1 m1 (fun q hq => by
      unfold Hd.fs
      rw [List.mem_eraseDups]
      exact List.mem_flatMap.mpr ⟨x, hx, List.mem_map.mpr ⟨q, hq, rfl⟩⟩) (glx x hx) (free _ (.inr rfl)) ht
    exact ⟨⟨y1, y2⟩, z2, y3, (ba z1).1⟩
  have here : ∀ {x : Str} {C : Addr}, mg x = some (.ref C) → mg x = some (.ref (ga K x)) → C = ga K x := fun e1 e2 => by
    rw [e1] at e2
    injection e2 with e3
    injection e3
  have same : ∀ {x y : Str}, clsY K x = true → clsY K y = true → ga K x = ga K y → x = y := fun {x y} hx hy e => by
    obtain ⟨cd, a1, a2, _⟩ := clsY_ok hx
    obtain ⟨cd2, b1, b2, _⟩ := clsY_ok hy
    rw [e, b1] at a1
    cases a1
    rw [← a2, b2]
  have cy : ∀ y ∈ D.ys, clsY K y = true := fun y hy => List.all_eq_true.mp m3 y hy
  refine { fn := fun i x hm => c.fun_ hm, at_ := fun i x hm => c.glo X G (.inl ⟨i, hm⟩), nog := fun x hx => free x (.inl hx), int := fun x i hm => absurd hm (by simp), exc := fun x q p f hm => absurd hm (by simp), lam := fun x hx cc hc => ?_, exn := ⟨fun x f hm => absurd hm (by simp), fun x f y f2 hm => absurd hm (by simp)⟩, ef := ⟨?_, ?_, ?_, ?_, ?_⟩, exk := fun x fps hm => ?_, phi := fun k cl G v => Iff.rfl }
  · obtain ⟨i, hi⟩ := hlt x hx
    obtain ⟨oc, od, dV, kV, doc, pm, an, cdv, ct, osl, _, lk, _⟩ := (c.fun_ hi).ex
    have e1 : codeOf K (x, none) = cc := codeOf_eq (K := K) (p := (x, none)) lk hc
    have e2 : cT K (x, none) = (cc, tabOf K cc) := by unfold cT; rw [e1]
    have tb := TB (cT K (x, none)) (List.mem_map.mpr ⟨(x, none), List.mem_map.mpr ⟨x, hx, rfl⟩, rfl⟩)
    rw [e2] at tb
    refine ⟨tabOf K cc, tb, List.mem_map.mpr ⟨x, hx, by rw [e2]⟩, fun p hp e => ?_⟩
    obtain ⟨y, hy, rfl⟩ := List.mem_map.mp hp
    have z := List.all_eq_true.mp (List.all_eq_true.mp m4 x hx) y hy
    have e3 : (cT K (x, none)).2 = (cT K (y, none)).2 := by rw [e2]; exact e.symm
    rw [e3, bne_self_eq_false, Bool.or_false] at z
    have e4 : x = y := beq_iff_eq.mp z
    rw [e4]
  · intro x hx C hC
    obtain ⟨q, hq, rfl⟩ := List.mem_map.mp hx
    rw [here hC (glx q hq)]
    exact (ex1 q hq).1.2
  · intro x f hx
    obtain ⟨q, hq, hx⟩ := List.mem_flatMap.mp hx
    obtain ⟨r, hr, e⟩ := List.mem_map.mp hx
    cases e
    refine ⟨List.mem_map.mpr ⟨q, hq, rfl⟩, fun C hC => ?_⟩
    rw [here hC (glx q hq)]
    exact (ex1 q hq).1.1.noF r hr
  · exact fun y hy => ⟨_, c.glo X G (.inr hy)⟩
  · intro x hx y hy A B hA hB
    obtain ⟨q, hq, rfl⟩ := List.mem_map.mp hx
    rw [here hA (glx q hq), here hB (c.glo X G (.inr hy))]
    obtain ⟨cd, c1, c2, c3⟩ := clsY_ok (cy y hy)
    obtain ⟨_, cdx, d1, d2, d3, d4⟩ := clsOb_ok (ex1 q hq).2.2.2
    show kitOne K (.ref (ga K q.1)) (.ref (ga K y)) = some (relF q.1 y)
    unfold kitOne
    split
    · rename_i z
      have e : ga K q.1 = ga K y := by
        have z2 : Value.ref (ga K q.1) = .ref (ga K y) := beq_iff_eq.mp z
        injection z2
      have e2 := same (cy q.1 (hys q hq)) (cy y hy) e
      unfold relF
      rw [e2, beq_self_eq_true, Bool.true_or]
    · rename_i z
      have ne : ga K q.1 ≠ ga K y := fun e => z (by rw [e]; exact beq_self_eq_true _)
      show (if ((clsIn K (ga K y)).isSome && typeIn K (.ref (ga K y)) == some (.type "type")) = true then subIn K (.ref (ga K q.1)) (.ref (ga K y)) else none) = _
      rw [if_pos (by rw [c1, c3]; rfl)]
      refine sub_mro d1 d3 ?_
      have nx : q.1 ≠ y := fun e => ne (by rw [e])
      unfold relF mroV
      rw [show (q.1 == y) = false from beq_eq_false_iff_ne.mpr nx, Bool.false_or]
      by_cases hF : y = "FloorError"
      · subst hF
        rw [beq_self_eq_true]
        simp [List.contains_cons]
      · rw [show (y == ("FloorError" : Str)) = false from beq_eq_false_iff_ne.mpr hF]
        have n2 : ga K y ≠ ga K "FloorError" := fun e => hF (same (cy y hy) (cy _ hfe) e)
        simp [List.contains_cons, Ne.symm ne, n2]
  · intro x hx A hA
    obtain ⟨q, hq, rfl⟩ := List.mem_map.mp hx
    rw [here hA (glx q hq)]
    exact (ex1 q hq).2.2.1
  · obtain ⟨⟨z1, _⟩, z2, _⟩ := ex1 (x, fps) hm
    obtain ⟨st, hst, IT⟩ := hex (x, fps) hm
    have e : fnI K x = exVal x st := by
      have y := c.ini
      obtain ⟨j, hj, ej⟩ := List.mem_iff_getElem.mp hst
      have y2 : (D.exs.map fun x => fnI K x.1)[j]? = (D.exs.map fun x => exVal x.1 x.2)[j]? := by rw [y]
      rw [List.getElem?_map, List.getElem?_map, List.getElem?_eq_getElem hj, ej] at y2
      exact Option.some.inj y2
    obtain ⟨oc, od, doc, pm, an, ct, osl, cc, cda, ccl, cl, cdd, cld, ccs, csl, vs, f, tf, l1, l2, l3, l4, l5, l6⟩ := init_ok e z2
    obtain ⟨kk, msg, a1, a2, a3, a4, a5, a6, a0, ss, t1, t2, t3, t4, t5, t6⟩ := IT.tx
    refine ⟨ga K x, iAd K x, z1, IT.few, IT.dbg, IT.nd, oc, od, doc, pm, an, ct, osl, kk, x ++ ".__init__", msg, a1, a2, a3, a4, a5, a6, defArgs st, a0, defScope st, ss, cc, cda, ccl, cl, cdd, cld, ccs, csl, vs, f, tf, t1, t2, t3, t4, ?_, l2, t6, l3, l4, ?_, l6, fun u us hl => ?_⟩
    · rw [← t5]; exact l1
    · rw [← hfile]; exact l5
    · rw [← t5]; exact IT.bd _ _ _ _ _ _ _ u us hl
end
end Dy

set_option Elab.async false
set_option linter.all false
set_option maxRecDepth 100000
set_option maxHeartbeats 4000000
/-! the law's call -/
namespace Dy
open PySem PySem.Spec PySem.W PyProof.Rows L2 He
theorem get_no {i n : Nat} {x y : LV} (h : (y :: List.replicate n .no)[i]? = some x) : (i = 0 ∧ x = y) ∨ x = .no := by
  cases i with
  | zero => exact .inl ⟨rfl, (Option.some.inj h).symm⟩
  | succ i =>
    rw [List.getElem?_cons_succ, List.getElem?_replicate] at h
    split at h
    · exact .inr (Option.some.inj h).symm
    · cases h
open Classical in
theorem start_ok {W : Wx} {H : Hp} {a : Addr} {ns : List Int} {nN : Nat} (hn : 1 ≤ nN) (hT : ∀ p ∈ W.T, H p.1 = some (.tbl #[])) (hS : SqL W.K H a (ns.map V.int)) : ∃ G, StOk W ⟨H, G, [], [.ref a], []⟩ [] (start0 nN [.ref a]) H G (.im (.scr ns) true :: List.replicate (nN - 1) .no) := by
  obtain ⟨G, hG⟩ : ∃ G : Hp, G = fun b => if b = a ∧ ∀ ps, H a ≠ some (.tbl ps) then H a else none := ⟨_, rfl⟩
  have le : ∀ b u, G b = some u → H b = some u := fun b u e => by
    rw [hG] at e
    dsimp only at e
    split at e
    · rename_i z; rw [z.1]; exact e
    · cases e
  have at_ : ∀ {u : HO}, H a = some u → (∀ ps, u ≠ .tbl ps) → G a = some u := fun {u} e n => by
    rw [hG]
    dsimp only
    rw [if_pos ⟨rfl, fun ps z => n ps (by rw [e] at z; exact Option.some.inj z)⟩, e]
  have gt : ∀ b ps, G b ≠ some (HO.tbl ps) := fun b ps e => by
    rw [hG] at e
    dsimp only at e
    split at e
    · rename_i z; exact z.2 ps e
    · cases e
  have sq : SqL W.K G a (ns.map V.int) := by
    rcases hS with (e | ⟨o, e⟩) | e
    · exact .inl (.inl (at_ e fun ps z => by cases z))
    · exact .inl (.inr ⟨o, at_ e fun ps z => by cases z⟩)
    · exact .inr e
  have noO : ∀ i b, ¬ Owns (start0 nN [.ref a]) (.im (.scr ns) true :: List.replicate (nN - 1) .no) i b := fun i b o => by
    obtain ⟨_, ⟨ds, p, q⟩ | ⟨ks, ds, p, q⟩⟩ := o
    · rcases get_no q with ⟨_, z⟩ | z <;> cases z
    · rcases get_no q with ⟨_, z⟩ | z <;> cases z
  refine ⟨G, ⟨fun b u e => .inl (le b u e), GLe.rfl, fun b u e => .inl e, fun b u e _ _ => .inl e, fun b u e => ⟨u, e⟩, fun i d o e => ?_, fun i ds p e => ?_, fun i ks ds p e => ?_, fun i j b o => absurd o (noO i b), fun p hp => (by cases hp), List.nodup_nil, ?_, fun p hp => LamX.TabS.nil (hT p hp), gt, fun b q e => e, fun p hp ps e pos b z => ?_⟩⟩
  · rcases get_no e with ⟨rfl, z⟩ | z
    · cases z
      exact ⟨.ref a, rfl, by rw [Rep]; exact ⟨a, rfl, sq⟩, fun _ => rfl⟩
    · cases z
  · rcases get_no e with ⟨_, z⟩ | z <;> cases z
  · rcases get_no e with ⟨_, z⟩ | z <;> cases z
  · unfold start0
    simp
  · rw [hT p hp] at e
    cases e
    cases z
theorem lawAtS_of {l : OpenLaw} {D : Hd} {tabL : Nat → LamD} {nN k i : Nat} {mk : MS} {w : World} {K : Frag} {mg : Str → Option Value} {fa : Addr} {h : Heap} (KX : K.In h) (c : SaysY D h K) (G : h.Ns mainGlobals mg) (hmg : mg "law" = some (.ref fa)) (hi : (i, ("law" : Str)) ∈ D.tab) (hn : 1 ≤ nN)
    (hlt : ∀ x ∈ D.lt, ∃ i, (i, x) ∈ D.tab) (hys : ∀ x ∈ D.exx, x.1 ∈ D.ys) (hfe : ("FloorError" : Str) ∈ D.ys) (hex : ∀ x ∈ D.exx, ∃ st, (x.1, st) ∈ D.exs ∧ InitT st x.2) (hfile : D.file = l.prog.main.file) (ht : (l.prog.main.scope.names.lookup ("super" : Str)).isSome = false)
    (hbd : ∀ (kV doc pm : Value) (an : Option Addr) (cdv ct : Value) (us : List Value), us.length = 1 → bindArgs (fnOf "law" "law" (defArgs (D.top i)) (defBody (D.top i)) (defScope (D.top i)) .none kV doc pm an cdv ct) ⟨us, []⟩ = pure ((["script"] : List Str).zip us))
    (hfn : ∀ (s : Sx) (a : Str → Addr) (fd : Str → FuncData), Gx s D.top D.tab D.bl [] D.lt D.exx (D.exx.map (·.1)) (D.exx.flatMap fun x => x.2.map fun y => (x.1, y.2)) D.ys relF tabL a fd → Fun s k "law" (a "law") (fd "law") ["script"] nN mk)
    (hlaw : ∀ ns : List Int, ns.length ≤ 63 → ∃ S, mk (.im (.scr ns) true :: List.replicate (nN - 1) .no) = .rt (.bl true) S) :
    LamX.LawAtS l w K (L2.CX l.prog w) k 63 "script" mg fa h := by
  have F := c.fun_ hi
  have e : fa = ga K "law" := by
    have z := c.glo KX G (x := "law") (.inl ⟨i, hi⟩)
    rw [hmg] at z
    injection z with z
    injection z
  subst e
  refine ⟨fdOf K "law", D.tf.map (cT K), spD (wOf D tabL K mg) 1 nN mk, fun p hp => ?_, fun p hp => ?_, fun p hp => ?_, fun s u => ?_, fun H a ns hl hbits hT hS => ?_, fun base bK bG TB => ?_⟩
  · obtain ⟨q, hq, rfl⟩ := List.mem_map.mp hp
    exact c.empty q hq
  · obtain ⟨q, hq, rfl⟩ := List.mem_map.mp hp
    exact c.out q hq
  · obtain ⟨q, hq, rfl⟩ := List.mem_map.mp hp
    exact codeHd_of_K KX (c.hd q hq)
  · exact FunD.bindsA (ps := ["script"]) F hbd s [u] rfl
  · obtain ⟨G0, I⟩ := start_ok (W := wOf D tabL K mg) (nN := nN) hn (fun p hp => by
      obtain ⟨x, hx, rfl⟩ := List.mem_map.mp hp
      exact hT (cT K (x, none)) (List.mem_map.mpr ⟨(x, none), List.mem_map.mpr ⟨x, hx, rfl⟩, rfl⟩)) hS
    obtain ⟨S, eS⟩ := hlaw ns hl
    refine ⟨rfl, G0, [], _, I, ?_⟩
    rw [eS]
    intro σ' v H' G' g J r
    rw [rep_bl] at r
    exact r
  · exact (hfn ⟨wOf D tabL K mg, l.prog, w, base⟩ _ _ (gx_of c KX G TB hlt hys hfe hex hfile ht)).ok
theorem lt_ok {D : Hd} (h : (D.lt.all fun x => D.tab.any fun p => p.2 == x) = true) : ∀ x ∈ D.lt, ∃ i, (i, x) ∈ D.tab := fun x hx => by
  obtain ⟨⟨i, y⟩, hp, e⟩ := List.any_eq_true.mp (List.all_eq_true.mp h x hx)
  have e2 : y = x := beq_iff_eq.mp e
  subst e2
  exact ⟨i, hp⟩
end Dy

set_option Elab.async false
set_option linter.all false
set_option maxRecDepth 100000
set_option maxHeartbeats 4000000
/-! the run told in parts -/
namespace Dy
open PySem PySem.W PySem.Calls PyProof.Rows HandSHeadRun
/-- the state behind the top -/
noncomputable def topS (r : OpenRow) (M : Nat) (w : World) (os : OsState) : Option SharedT := endF (stepQ (denQ tabQ) r.prog w) M r.prog w os
theorem run_of {r : OpenRow} {q : Program} {M : Nat} {loose : List PySem.Str} {w : World} {D : Hd} (A : RunEq r q Hook.none (fun _ => ()) M loose w) (h1 : ∀ os, (topS r M w os).map (fun s => He.obsD D.fa D.fn (frY (getT s))) = some (He.valD D.fn))
    (h2 : ∀ os, (topS r M w os).map (fun s => D.exB (frY (getT s)) && He.tabsB (getT s) D.tf (frY (getT s))) = some true) (h3 : ∀ os, (topS r M w os).map (fun s => D.exs.map fun x => fnI (frY (getT s)) x.1) = some (D.exs.map fun x => exVal x.1 x.2)) :
    RunEq r q (hookY D) (fun s => obsY D (getT s)) M loose w := by
  intro os
  have a := A os
  have b := h1 os
  have c := h2 os
  have d := h3 os
  unfold topS at b c d
  cases e : endF (stepQ (denQ tabQ) r.prog w) M r.prog w os with
  | none => rw [e] at a; cases a
  | some s =>
    rw [e, Option.map_some] at a b c d
    rw [Option.map_some]
    have a1 := congrArg (fun z : Bool × _ × Unit => z.1) (Option.some.inj a)
    have a2 := congrArg (fun z : Bool × _ × Unit => z.2.1) (Option.some.inj a)
    have b1 := Option.some.inj b
    have c1 := Option.some.inj c
    have d1 := Option.some.inj d
    refine congrArg some (Prod.ext a1 (Prod.ext a2 ?_))
    show ((He.obsD D.fa D.fn (frY (getT s)), D.exB (frY (getT s)) && He.tabsB (getT s) D.tf (frY (getT s))), D.exs.map fun x => fnI (frY (getT s)) x.1) = ((He.valD D.fn, true), D.exs.map fun x => exVal x.1 x.2)
    rw [b1, c1, d1]
end Dy

set_option Elab.async false
set_option linter.all false
set_option maxRecDepth 100000
set_option maxHeartbeats 4000000
namespace Dy
namespace K00
open PySem PySem.Spec L2 Dy LamX
/-- a spring, n draws on -/
def Sp (n : Nat) (l : List D) : Prop := ∃ a b c : Int, l = [.int a, .int b, .int c] ∧ 0 ≤ a ∧ 0 ≤ b ∧ b < 2147483648 ∧ 0 ≤ c ∧ c ≤ n
theorem Sp.up {n m : Nat} {l : List D} (h : Sp n l) (e : n ≤ m) : Sp m l := by
  obtain ⟨a, b, c, e1, h1, h2, h3, h4, h5⟩ := h
  exact ⟨a, b, c, e1, h1, h2, h3, h4, by omega⟩
theorem pow_ok {i : Int} (h0 : 0 ≤ i) (h1 : i < 18446744073709551616) : powB i 3 = true := by
  unfold powB
  simp only [Bool.and_eq_true, decide_eq_true_eq]
  refine ⟨⟨by omega, by omega⟩, ?_⟩
  have z : i.natAbs < 18446744073709551616 := by omega
  exact z
theorem mul_ok {i j : Int} (h0 : 0 ≤ j) (h1 : j < 18446744073709551616) : mulB i j = true := by
  unfold mulB
  have z : j.natAbs < 2 ^ 64 := by
    have y : j.natAbs < 18446744073709551616 := by omega
    exact y
  simp [z]
theorem div_ok {i j : Int} (h0 : 0 < j) (h1 : j ≤ 10 ^ 30) : divB i j = true := by
  unfold divB
  simp only [Bool.and_eq_true, decide_eq_true_eq]
  refine ⟨h0, ?_⟩
  have hn : j.natAbs ≠ 0 := by omega
  rw [Nat.log2_lt hn]
  have h2 : j.natAbs ≤ 10 ^ 30 := by omega
  exact Nat.lt_of_le_of_lt h2 (by decide +kernel)
theorem draw_core {n : Nat} {l : List D} {m : Int} {k : Nat} (hl : Sp n l) (hn : n ≤ 1000) (h1 : 1 ≤ m) (h2 : m ≤ 10 ^ 30) : ∃ r l' x1 x2 x3, 0 ≤ r ∧ r < m ∧ Sp (n + 1) l' ∧ b__law_draw k [.ow l true, .im (.int m) true, .no, .no] = .rt (.int r) [.ow l' true, x1, x2, x3] := by
  obtain ⟨a, b, c, rfl, ha, hb, hb2, hc, hc2⟩ := hl
  have hm : (0 : Int) < m := by omega
  by_cases h : 0 < a
  · refine ⟨a % m, [.int (a / m), .int b, .int c], .im (.int m) true, .im (.int (a % m)) false, .no, Int.emod_nonneg _ (by omega), Int.emod_lt_of_pos _ hm, ⟨a / m, b, c, rfl, Int.ediv_nonneg ha (by omega), hb, hb2, hc, by omega⟩, ?_⟩
    have hd := div_ok (i := a) hm h2
    simp [b__law_draw, mSeq, mIfS, mTst, mBin, mIxO, mC, cmpI, atI, ixN, asB, mSet, mCall, mCons, mNil, intD, mVar, mgName, modD, intOp, divD, mgSub, mRet, h, hm, hd, Res.of, Res.bind, Res.sb]
  · have h0 : decide (0 < a) = false := decide_eq_false h
    obtain ⟨q, hq⟩ : ∃ q : Int, q = (b + 6364137 * (c + 1) + 1442695) ^ 3 % 2147483647 := ⟨_, rfl⟩
    have q0 : 0 ≤ q := by rw [hq]; exact Int.emod_nonneg _ (by decide)
    have q1 : q < 2147483647 := by rw [hq]; exact Int.emod_lt_of_pos _ (by decide)
    refine ⟨(q * 48271 + 11 * (c + 1)) ^ 3 % 2147483629 / 8 % m, [.int a, .int b, .int (c + 1)], .im (.int m) true, .no, .im (.int q) false, Int.emod_nonneg _ (by omega), Int.emod_lt_of_pos _ hm, ⟨a, b, c + 1, rfl, ha, hb, hb2, by omega, by omega⟩, ?_⟩
    have p1 : powB (b + 6364137 * (c + 1) + 1442695) 3 = true := pow_ok (by omega) (by omega)
    have p2 : powB (q * 48271 + 11 * (c + 1)) 3 = true := pow_ok (by omega) (by omega)
    have m1 : mulB 6364137 (c + 1) = true := mul_ok (by omega) (by omega)
    have m2 : mulB q 48271 = true := mul_ok (by decide) (by decide)
    have m3 : mulB 11 (c + 1) = true := mul_ok (by omega) (by omega)
    have d1 : ∀ i, divB i 8 = true := fun i => div_ok (by decide) (by decide)
    simp [b__law_draw, mSeq, mIfS, mTst, mBin, mIxO, mC, cmpI, atI, ixN, asB, mSet, mCall, mCons, mNil, intD, mVar, mgName, modD, intOp, divD, mgSub, mRet, h, hm, Res.of, Res.bind, Res.sb, mNext, addD, addI, mulI, powD, p1, p2, m1, m2, m3, d1, ← hq]
theorem fm_im {d : D} {t : Option Nat} : List.filterMap ownAt [AV.im d t] = [] := rfl
theorem fm_nil : List.filterMap ownAt [] = [] := rfl
/-- a call of it -/
theorem draw_call {S : List LV} {j n : Nat} {l : List D} {p : Bool} {m : Int} {t : Option Nat} {k : Nat} {me : ME} (hj : S[j]? = some (.ow l p)) (hl : Sp n l) (hn : n ≤ 1000) (h1 : 1 ≤ m) (h2 : m ≤ 10 ^ 30) (he : me S = .ok (.int m, t) S) :
    ∃ r l', 0 ≤ r ∧ r < m ∧ Sp (n + 1) l' ∧ mFn (m__law_draw (k + 1)) 4 (mAOwn j (mAIm me mANil)) S = .ok (.int r, none) (S.set j (.ow l' p)) := by
  obtain ⟨r, l', x1, x2, x3, r0, r1, sp, e⟩ := draw_core (k := k) hl hn h1 h2
  refine ⟨r, l', r0, r1, sp, ?_⟩
  have e2 : m__law_draw (k + 1) [.ow l true, .im (.int m) true, .no, .no] = .rt (.int r) [.ow l' true, x1, x2, x3] := e
  simp [mFn, mAOwn, mAIm, mANil, hj, he, Res.bind, mCallC, ownAt, parsOf, parOf, e2, back, fm_im]
/-- two words of a test -/
theorem seq_nx {a b : MS} {S S1 : List LV} (h : a S = .nx S1) : mSeq a b S = b S1 := by unfold mSeq; rw [h]
theorem seq_rt {a b : MS} {S S1 : List LV} {d : D} (h : a S = .rt d S1) : mSeq a b S = .rt d S1 := by unfold mSeq; rw [h]
theorem seq_rf {a b : MS} {S S1 : List LV} {d : List D} (h : a S = .rf d S1) : mSeq a b S = .rf d S1 := by unfold mSeq; rw [h]
theorem pick_core {n : Nat} {l xs : List D} {k : Nat} (hl : Sp n l) (hn : n ≤ 1000) (hx : 1 ≤ xs.length) (hx2 : xs.length ≤ 100) : ∃ d l' x1, d ∈ xs ∧ Sp (n + 1) l' ∧ b__law_pick (k + 1) [.ow l true, .im (.lst xs) true] = .rt d [.ow l' true, x1] := by
  have hq : ∀ S : List LV, S[1]? = some (.im (.lst xs) true) → mCall lenD (mCons (mVar 1) mNil) S = .ok (.int xs.length, none) S := fun S h => by
    simp [mCall, mCons, mNil, mVar, h, Res.bind, lenD, Res.of]
  obtain ⟨r, l', r0, r1, sp, e⟩ := draw_call (S := [.ow l true, .im (.lst xs) true]) (j := 0) (p := true) (k := k) (me := mCall lenD (mCons (mVar 1) mNil)) (m := xs.length) rfl hl hn (by omega) (by
    have z : (xs.length : Int) ≤ 100 := by omega
    exact Int.le_trans z (by decide)) (hq _ rfl)
  obtain ⟨i, rfl⟩ : ∃ i : Nat, r = i := ⟨r.toNat, by omega⟩
  have hi : i < xs.length := by omega
  refine ⟨xs[i], l', .im (.lst xs) true, List.getElem_mem hi, sp, ?_⟩
  have ha : atI xs (i : Int) = some xs[i] := by
    unfold atI ixN
    rw [if_pos (by omega)]
    simp [hi]
  simp [b__law_pick, mRet, mBin, mVar, Res.bind, e, ixD, ha, Res.of, Res.sb]
theorem pick_call {S : List LV} {j n : Nat} {l xs : List D} {p : Bool} {t : Option Nat} {k : Nat} {me : ME} (hj : S[j]? = some (.ow l p)) (hl : Sp n l) (hn : n ≤ 1000) (hx : 1 ≤ xs.length) (hx2 : xs.length ≤ 100) (he : me S = .ok (.lst xs, t) S) :
    ∃ d l', d ∈ xs ∧ Sp (n + 1) l' ∧ mFn (m__law_pick (k + 2)) 2 (mAOwn j (mAIm me mANil)) S = .ok (d, none) (S.set j (.ow l' p)) := by
  obtain ⟨d, l', x1, hd, sp, e⟩ := pick_core (k := k) hl hn hx hx2
  refine ⟨d, l', hd, sp, ?_⟩
  have e2 : m__law_pick (k + 2) [.ow l true, .im (.lst xs) true] = .rt d [.ow l' true, x1] := e
  simp [mFn, mAOwn, mAIm, mANil, hj, he, Res.bind, mCallC, ownAt, parsOf, parOf, e2, back, fm_im]
/-! ### the drawn objects -/
/-- ints -/
def Ints (ds : List D) : Prop := ∀ d ∈ ds, ∃ i : Int, d = .int i
inductive Good : D → Prop
  | non : Good .non
  | bl (b : Bool) : Good (.bl b)
  | int (i : Int) : Good (.int i)
  | str (x : Str) : Good (.str x)
  | lst (ds : List D) (h : Ints ds) (l : ds.length ≤ 3) : Good (.lst ds)
  | tup (ds : List D) (h : Ints ds) (l : ds.length ≤ 3) : Good (.tup ds)
  | dct (ks : List Key) (ds : List D) (h : ∀ k ∈ ks, ∃ i : Int, k = .inl i) (l : ks.length ≤ 3) : Good (.dct ks ds)
/-- [f(spring) for k in range(r)] -/
theorem comp_draws {Q : D → Prop} {me : ME} {S0 : List LV} {x : LV} (step : ∀ n l y, Sp n l → n ≤ 1000 → ∃ d l' t y2, Q d ∧ Sp (n + 1) l' ∧ me [.ow l true, x, y] = .ok (d, t) [.ow l' true, x, y2]) (h0 : S0 = [.no, .no, .no] ∨ True) :
    ∀ (r : Nat) (lo : Nat) (ds acc : List D) n l y, ds = (List.range' lo r).map (fun i : Nat => D.int (0 + (i : Int))) → Sp n l → n + r ≤ 1000 → acc.length + r ≤ 1000 → ∃ es l' y2, es.length = r ∧ (∀ d ∈ es, Q d) ∧ Sp (n + r) l' ∧
      mCompL (mgName 2) mYes me [2] S0 ds acc [.ow l true, x, y] = .ok (acc ++ es) (unwipe S0 [.ow l' true, x, y2] [2])
  | 0, lo, ds, acc, n, l, y, hd, hl, _, _ => by
    subst hd
    exact ⟨[], l, y, rfl, fun d hd => absurd hd (by simp), hl, by simp [mCompL]⟩
  | r + 1, lo, ds, acc, n, l, y, hd, hl, hn, ha => by
    subst hd
    obtain ⟨d, l', t, y2, qd, sp, e⟩ := step n l (.im (.int (0 + (lo : Int))) false) hl (by omega)
    obtain ⟨es, l2, y3, h1, h2, h3, h4⟩ := comp_draws step h0 r (lo + 1) _ (acc ++ [d]) (n + 1) l' .no rfl sp (by omega) (by simp; omega)
    refine ⟨d :: es, l2, y3, by simp [h1], fun z hz => ?_, h3.up (by omega), ?_⟩
    · rcases List.mem_cons.mp hz with rfl | hz
      · exact qd
      · exact h2 z hz
    · rw [List.range'_succ, List.map_cons]
      have hlt : acc.length < LIM := Nat.lt_of_lt_of_le (show acc.length < 1001 by omega) (by decide)
      have e3 : wipeS [LV.ow l' true, x, y2] [2] = [.ow l' true, x, .no] := rfl
      unfold mCompL
      simp only [mgName, List.set, Res.bindN, mYes, if_true, e, hlt, e3]
      rw [h4]
      simp
end K00
end Dy

set_option Elab.async false
set_option linter.all false
set_option maxRecDepth 100000
set_option maxHeartbeats 4000000
namespace Dy
namespace K00
open PySem PySem.Spec L2 Dy LamX
theorem mEq_int {i j : Int} : mEq false (.int i) (.int j) = some (.bl (decide (i = j))) := by
  have e : eqS (.int i) (.int j) = some (decide (V.int i = V.int j)) := rfl
  unfold mEq
  rw [e]
  simp
theorem if_eq {r c : Int} {a b : MS} {S : List LV} (h : S[1]? = some (.im (.int r) false)) : mIfS (mTst (mBin (mEq false) (mVar 1) (mC (.int c)))) a b S = if r = c then a S else b S := by
  by_cases e : r = c
  · simp [mIfS, mTst, mBin, mVar, mC, h, Res.bind, Res.sb, mEq_int, Res.of, asB, e]
  · simp [mIfS, mTst, mBin, mVar, mC, h, Res.bind, Res.sb, mEq_int, Res.of, asB, e]
theorem in_34 {r : Int} {a b : MS} {S : List LV} (h : S[1]? = some (.im (.int r) false)) : mIfS (mTst (mBin (inD false) (mVar 1) (mFrz (mLst (mCons (mC (.int 3)) (mCons (mC (.int 4)) (mNil))))))) a b S = if r = 3 ∨ r = 4 then a S else b S := by
  have e : inD false (.int r) (.lst [.int 3, .int 4]) = some (.bl (decide (r = 3 ∨ r = 4))) := by
    have e1 : inD false (.int r) (.lst [.int 3, .int 4]) = some (.bl (([D.int 3, .int 4] : List D).any (eqF (.int r)))) := rfl
    rw [e1]
    have f : ∀ c : Int, eqF (V.int r) (.int c) = decide (r = c) := fun c => by
      show (c == r) = _
      by_cases z : r = c
      · subst z
        rw [beq_self_eq_true, decide_eq_true rfl]
      · rw [decide_eq_false z]
        exact beq_eq_false_iff_ne.mpr fun y => z y.symm
    simp [f]
  have l2 : (2 : Nat) ≤ LIM := by decide
  by_cases z : r = 3 ∨ r = 4
  · simp [mIfS, mTst, mBin, mVar, mC, h, Res.bind, Res.sb, e, Res.of, asB, z, mFrz, mLst, mCons, mNil, l2]
  · simp [mIfS, mTst, mBin, mVar, mC, h, Res.bind, Res.sb, e, Res.of, asB, z, mFrz, mLst, mCons, mNil, l2]
theorem call_frz {f : List D → Option D} {m : MF} {S S1 : List LV} {ds : List D} {d : D} (h : m S = .ok ds S1) (hf : f [.lst ds] = some d) : mCall f (mCons (mFrz m) mNil) S = .ok (d, none) S1 := by
  simp [mCall, mCons, mFrz, mNil, h, hf, Res.bind, Res.of]
theorem range_draw {n : Nat} {l : List D} {x y : LV} {k : Nat} (hl : Sp n l) (hn : n ≤ 900) : ∃ r l', r ≤ 3 ∧ Sp (n + 1) l' ∧ mRng1 (mCons (mFn (m__law_draw (k + 1)) 4 (mAOwn 0 (mAIm (mC (.int 4)) (mANil)))) (mNil)) [.ow l true, x, y] = .ok ((List.range' 0 r).map (fun i : Nat => D.int (0 + (i : Int)))) [.ow l' true, x, y] := by
  obtain ⟨r, l', r0, r1, sp, e⟩ := draw_call (S := [.ow l true, x, y]) (j := 0) (p := true) (k := k) (me := mC (.int 4)) (m := 4) (t := none) rfl hl (by omega) (by decide) (by decide) rfl
  obtain ⟨i, rfl⟩ : ∃ i : Nat, r = i := ⟨r.toNat, by omega⟩
  refine ⟨i, l', by omega, sp, ?_⟩
  have h1 : -RLIM ≤ (i : Int) ∧ (i : Int) ≤ RLIM := by unfold RLIM; omega
  simp [mRng1, mCons, mNil, e, Res.bind, h1, rangeD, List.range_eq_range']
theorem step_draw {n : Nat} {l : List D} {x y : LV} {k : Nat} (hl : Sp n l) (hn : n ≤ 1000) : ∃ d l' t y2, (∃ i : Int, d = .int i) ∧ Sp (n + 1) l' ∧ mFn (m__law_draw (k + 1)) 4 (mAOwn 0 (mAIm (mC (.int 9)) (mANil))) [.ow l true, x, y] = .ok (d, t) [.ow l' true, x, y2] := by
  obtain ⟨r, l', r0, r1, sp, e⟩ := draw_call (S := [.ow l true, x, y]) (j := 0) (p := true) (k := k) (me := mC (.int 9)) (m := 9) (t := none) rfl hl hn (by decide) (by decide) rfl
  exact ⟨.int r, l', none, y, ⟨r, rfl⟩, sp, e⟩
theorem comp_ints {n : Nat} {l : List D} {x : LV} {k : Nat} (hl : Sp n l) (hn : n ≤ 900) : ∃ es l' y2, es.length ≤ 3 ∧ Ints es ∧ Sp (n + 4) l' ∧ mComp (mRng1 (mCons (mFn (m__law_draw (k + 1)) 4 (mAOwn 0 (mAIm (mC (.int 4)) (mANil)))) (mNil))) (mgName 2) (mYes) (mFn (m__law_draw (k + 1)) 4 (mAOwn 0 (mAIm (mC (.int 9)) (mANil)))) [2] [.ow l true, x, .no] = .ok es [.ow l' true, x, y2] := by
  obtain ⟨r, l1, hr, sp, e⟩ := range_draw (x := x) (y := .no) (k := k) hl hn
  obtain ⟨es, l', y2, h1, h2, h3, h4⟩ := comp_draws (S0 := [.ow l1 true, x, .no]) (x := x) (Q := fun d => ∃ i : Int, d = .int i) (me := mFn (m__law_draw (k + 1)) 4 (mAOwn 0 (mAIm (mC (.int 9)) (mANil)))) (fun n l y h hn => step_draw h hn) (.inr trivial) r 0 _ [] (n + 1) l1 .no rfl sp (by omega) (by simp; omega)
  refine ⟨es, l', .no, by omega, h2, h3.up (by omega), ?_⟩
  unfold mComp
  rw [e]
  exact h4
theorem comp_pairs {n : Nat} {l : List D} {x : LV} {k : Nat} (hl : Sp n l) (hn : n ≤ 900) : ∃ es l' y2, es.length ≤ 3 ∧ (∀ d ∈ es, ∃ i : Int, d = .tup [.int i, .str "v"]) ∧ Sp (n + 4) l' ∧ mComp (mRng1 (mCons (mFn (m__law_draw (k + 1)) 4 (mAOwn 0 (mAIm (mC (.int 4)) (mANil)))) (mNil))) (mgName 2) (mYes) (mTup (mCons (mFn (m__law_draw (k + 1)) 4 (mAOwn 0 (mAIm (mC (.int 9)) (mANil)))) (mCons (mC (.str "v")) (mNil)))) [2] [.ow l true, x, .no] = .ok es [.ow l' true, x, y2] := by
  obtain ⟨r, l1, hr, sp, e⟩ := range_draw (x := x) (y := .no) (k := k) hl hn
  obtain ⟨es, l', y2, h1, h2, h3, h4⟩ := comp_draws (S0 := [.ow l1 true, x, .no]) (x := x) (Q := fun d => ∃ i : Int, d = .tup [.int i, .str "v"]) (me := mTup (mCons (mFn (m__law_draw (k + 1)) 4 (mAOwn 0 (mAIm (mC (.int 9)) (mANil)))) (mCons (mC (.str "v")) (mNil)))) (fun n l y h hn => by
    obtain ⟨d, l', t, y2, ⟨i, rfl⟩, sp, e⟩ := step_draw (x := x) (y := y) (k := k) h hn
    refine ⟨.tup [.int i, .str "v"], l', none, y2, ⟨i, rfl⟩, sp, ?_⟩
    simp [mTup, mCons, mNil, mC, e, Res.bind]
    exact (by decide : (2 : Nat) ≤ LIM)) (.inr trivial) r 0 _ [] (n + 1) l1 .no rfl sp (by omega) (by simp; omega)
  refine ⟨es, l', .no, by omega, h2, h3.up (by omega), ?_⟩
  unfold mComp
  rw [e]
  exact h4
theorem dict_good : ∀ {es : List D}, (∀ d ∈ es, ∃ i : Int, d = .tup [.int i, .str "v"]) → ∃ kds : List (Key × D), pairsD es = some kds ∧ kds.length = es.length ∧ ∀ kd ∈ kds, ∃ i : Int, kd.1 = .inl i
  | [], _ => ⟨[], rfl, rfl, fun kd h => absurd h (by simp)⟩
  | d :: es, h => by
    obtain ⟨i, rfl⟩ := h d List.mem_cons_self
    obtain ⟨kds, e, hl, hk⟩ := dict_good (es := es) fun d hd => h d (List.mem_cons_of_mem _ hd)
    refine ⟨(.inl i, .str "v") :: kds, ?_, by simp [hl], fun kd hkd => ?_⟩
    · unfold pairsD pairD
      rw [e]
    · rcases List.mem_cons.mp hkd with rfl | hkd
      · exact ⟨i, rfl⟩
      · exact hk kd hkd
theorem put_len {kds : List (Key × D)} {k : Key} {d : D} : (putD kds k d).length ≤ kds.length + 1 := by
  unfold putD
  split <;> simp
theorem put_key {kds : List (Key × D)} {k : Key} {d : D} {i : Int} (hk : k = .inl i) (h : ∀ kd ∈ kds, ∃ i : Int, kd.1 = .inl i) : ∀ kd ∈ putD kds k d, ∃ i : Int, kd.1 = .inl i := fun kd hkd => by
  unfold putD at hkd
  split at hkd
  · obtain ⟨y, hy, e⟩ := List.mem_map.mp hkd
    obtain ⟨j, hj⟩ := h y hy
    rw [← e]
    split
    · exact ⟨j, hj⟩
    · exact ⟨j, hj⟩
  · rcases List.mem_append.mp hkd with z | z
    · exact h kd z
    · simp at z
      rw [z]
      exact ⟨i, hk⟩
theorem merge_good : ∀ {more kds : List (Key × D)}, (∀ kd ∈ more, ∃ i : Int, kd.1 = .inl i) → (∀ kd ∈ kds, ∃ i : Int, kd.1 = .inl i) → (mergeD kds more).length ≤ kds.length + more.length ∧ ∀ kd ∈ mergeD kds more, ∃ i : Int, kd.1 = .inl i
  | [], kds, _, h => ⟨by simp [mergeD], h⟩
  | (k, d) :: r, kds, h1, h2 => by
    obtain ⟨i, hi⟩ := h1 (k, d) List.mem_cons_self
    obtain ⟨z1, z2⟩ := merge_good (more := r) (kds := putD kds k d) (fun kd hkd => h1 kd (List.mem_cons_of_mem _ hkd)) (put_key hi h2)
    have z3 := put_len (kds := kds) (k := k) (d := d)
    refine ⟨?_, z2⟩
    show (mergeD (putD kds k d) r).length ≤ _
    simp
    omega
theorem drawn_core {n : Nat} {l : List D} {k : Nat} (hl : Sp n l) (hn : n ≤ 800) : ∃ d l' x1 x2, Good d ∧ Sp (n + 6) l' ∧ (b__law_e_drawn (k + 2) [.ow l true, .no, .no] = .rt d [.ow l' true, x1, x2] ∨ ∃ ds, d = .lst ds ∧ b__law_e_drawn (k + 2) [.ow l true, .no, .no] = .rf ds [.ow l' true, x1, x2]) := by
  obtain ⟨r, l1, r0, r1, sp, e⟩ := draw_call (S := [.ow l true, .no, .no]) (j := 0) (p := true) (k := k + 1) (me := mC (.int 9)) (m := 9) (t := none) rfl hl (by omega) (by decide) (by decide) rfl
  have e1 : mSet (mFn (m__law_draw (k + 2)) 4 (mAOwn 0 (mAIm (mC (.int 9)) (mANil)))) (mgName 1) [.ow l true, .no, .no] = .nx [.ow l1 true, .im (.int r) false, .no] := by
    unfold mSet
    rw [e]
    rfl
  unfold b__law_e_drawn
  rw [seq_nx e1]
  have w : ([.ow l1 true, .im (.int r) false, .no] : List LV)[1]? = some (.im (.int r) false) := rfl
  by_cases c0 : r = 0
  · obtain ⟨z, l2, z0, z1, sp2, e2⟩ := draw_call (S := [.ow l1 true, .im (.int r) false, .no]) (j := 0) (p := true) (k := k + 1) (me := mBin powD (mC (.int 10)) (mC (.int 30))) (m := 10 ^ 30) (t := none) rfl sp (by omega) (by decide) (by decide) (by
      have p : powB 10 30 = true := by decide
      simp [mBin, mC, Res.bind, powD, intOp, p, Res.of])
    refine ⟨.int (z - 10 ^ 29), l2, .im (.int r) false, .no, .int _, sp2.up (by omega), .inl ?_⟩
    have p : powB 10 29 = true := by decide
    refine seq_rt ?_
    rw [if_eq w, if_pos c0]
    unfold mRet
    simp only [mBin, e2, Res.bind]
    simp [mC, powD, intOp, p, Res.of, subD, Res.sb, Res.bind]
  rw [seq_nx (by rw [if_eq w, if_neg c0]; rfl)]
  by_cases c1 : r = 1
  · obtain ⟨d, l2, hd, sp2, e2⟩ := pick_call (S := [.ow l1 true, .im (.int r) false, .no]) (j := 0) (p := true) (k := k) (t := none) (xs := [.str "", .str "a", .str "late", .str "two words", .str "x9"]) (me := mFrz (mLst (mCons (mC (.str "")) (mCons (mC (.str "a")) (mCons (mC (.str "late")) (mCons (mC (.str "two words")) (mCons (mC (.str "x9")) (mNil)))))))) rfl sp (by omega) (by decide) (by decide) rfl
    refine ⟨d, l2, .im (.int r) false, .no, ?_, sp2.up (by omega), .inl ?_⟩
    · simp only [List.mem_cons, List.not_mem_nil, or_false] at hd
      rcases hd with rfl | rfl | rfl | rfl | rfl <;> exact .str _
    refine seq_rt ?_
    rw [if_eq w, if_pos c1]
    unfold mRet
    rw [e2]
    rfl
  rw [seq_nx (by rw [if_eq w, if_neg c1]; rfl)]
  by_cases c2 : r = 2
  · obtain ⟨d, l2, hd, sp2, e2⟩ := pick_call (S := [.ow l1 true, .im (.int r) false, .no]) (j := 0) (p := true) (k := k) (t := none) (xs := [.non, .bl true, .bl false, .int 0, .int 1]) (me := mFrz (mLst (mCons (mC .non) (mCons (mC (.bl true)) (mCons (mC (.bl false)) (mCons (mC (.int 0)) (mCons (mC (.int 1)) (mNil)))))))) rfl sp (by omega) (by decide) (by decide) rfl
    refine ⟨d, l2, .im (.int r) false, .no, ?_, sp2.up (by omega), .inl ?_⟩
    · simp only [List.mem_cons, List.not_mem_nil, or_false] at hd
      rcases hd with rfl | rfl | rfl | rfl | rfl
      · exact .non
      · exact .bl _
      · exact .bl _
      · exact .int _
      · exact .int _
    refine seq_rt ?_
    rw [if_eq w, if_pos c2]
    unfold mRet
    rw [e2]
    rfl
  rw [seq_nx (by rw [if_eq w, if_neg c2]; rfl)]
  by_cases c3 : r = 3 ∨ r = 4
  · obtain ⟨es, l2, y2, h1, h2, sp2, e2⟩ := comp_ints (x := .im (.int r) false) (k := k + 1) sp (by omega)
    refine ⟨.lst es, l2, .im (.int r) false, y2, .lst es h2 h1, sp2.up (by omega), .inr ⟨es, rfl, ?_⟩⟩
    refine seq_rf ?_
    rw [in_34 w, if_pos c3]
    unfold mRetF
    rw [e2]
    rfl
  rw [seq_nx (by rw [in_34 w, if_neg c3]; rfl)]
  by_cases c5 : r = 5
  · obtain ⟨es, l2, y2, h1, h2, sp2, e2⟩ := comp_ints (x := .im (.int r) false) (k := k + 1) sp (by omega)
    refine ⟨.tup es, l2, .im (.int r) false, y2, .tup es h2 h1, sp2.up (by omega), .inl ?_⟩
    refine seq_rt ?_
    rw [if_eq w, if_pos c5]
    unfold mRet
    rw [call_frz e2 rfl]
    rfl
  rw [seq_nx (by rw [if_eq w, if_neg c5]; rfl)]
  obtain ⟨es, l2, y2, h1, h2, sp2, e2⟩ := comp_pairs (x := .im (.int r) false) (k := k + 1) sp (by omega)
  obtain ⟨kds, hk1, hk2, hk3⟩ := dict_good h2
  obtain ⟨g1, g2⟩ := merge_good (kds := []) hk3 (fun kd h => absurd h (by simp))
  refine ⟨.dct ((mergeD [] kds).map (·.1)) ((mergeD [] kds).map (·.2)), l2, .im (.int r) false, y2, .dct _ _ (fun q hq => ?_) (by simp at g1 ⊢; omega), sp2.up (by omega), .inl ?_⟩
  · obtain ⟨kd, hkd, rfl⟩ := List.mem_map.mp hq
    exact g2 kd hkd
  unfold mRet
  rw [call_frz e2 (by show Option.map _ (pairsD es) = _; rw [hk1] <;> rfl)]
  rfl
/-- a call of it -/
theorem drawn_call {S : List LV} {j n : Nat} {l : List D} {p : Bool} {k : Nat} (hj : S[j]? = some (.ow l p)) (hl : Sp n l) (hn : n ≤ 800) :
    ∃ d l', Good d ∧ Sp (n + 6) l' ∧ mFn (m__law_e_drawn (k + 3)) 3 (mAOwn j mANil) S = .ok (d, none) (S.set j (.ow l' p)) := by
  obtain ⟨d, l', x1, x2, g, sp, e⟩ := drawn_core (k := k) hl hn
  refine ⟨d, l', g, sp, ?_⟩
  rcases e with e | ⟨ds, rfl, e⟩
  · have e2 : m__law_e_drawn (k + 3) [.ow l true, .no, .no] = .rt d [.ow l' true, x1, x2] := e
    simp [mFn, mAOwn, mANil, hj, Res.bind, mCallC, ownAt, parsOf, parOf, e2, back, fm_nil]
  · have e2 : m__law_e_drawn (k + 3) [.ow l true, .no, .no] = .rf ds [.ow l' true, x1, x2] := e
    simp [mFn, mAOwn, mANil, hj, Res.bind, mCallC, ownAt, parsOf, parOf, e2, back, fm_nil]
end K00
end Dy

set_option Elab.async false
set_option linter.all false
set_option maxRecDepth 100000
set_option maxHeartbeats 4000000
namespace Dy
namespace K00
open PySem PySem.Spec L2 Dy LamX
theorem forL_inv {P : List LV → Prop} {Q : D → Prop} {mg : D → List LV → Res Unit} {mb : MS} (step : ∀ d S, Q d → P S → ∃ S1 S2, mg d S = .ok () S1 ∧ mb S1 = .nx S2 ∧ P S2) : ∀ (ds : List D), (∀ d ∈ ds, Q d) → ∀ S, P S → ∃ S', mForL mg mb ds S = .nx S' ∧ P S'
  | [], _, S, h => ⟨S, rfl, h⟩
  | d :: ds, hq, S, h => by
    obtain ⟨S1, S2, e1, e2, p2⟩ := step d S (hq d List.mem_cons_self) h
    obtain ⟨S', e3, p3⟩ := forL_inv step ds (fun d hd => hq d (List.mem_cons_of_mem _ hd)) S2 p2
    refine ⟨S', ?_, p3⟩
    unfold mForL
    rw [e1]
    show (match mb S1 with
      | .nx S2 => mForL mg mb ds S2
      | .ct S2 => mForL mg mb ds S2
      | .bk S2 => .nx S2
      | r => r) = _
    rw [e2]
    exact e3
theorem enum_all {Q : D → Prop} : ∀ {ds : List D} {n : Nat}, (∀ d ∈ ds, ∀ i : Int, Q (.tup [.int i, d])) → ∀ d ∈ enumFrom n ds, Q d
  | [], _, _ => fun d hd => absurd hd (by simp [enumFrom])
  | d :: ds, n, h => fun e he => by
    unfold enumFrom at he
    rcases List.mem_cons.mp he with rfl | he
    · exact h d List.mem_cons_self _
    · exact enum_all (fun d hd => h d (List.mem_cons_of_mem _ hd)) e he
theorem cut_int {ns : List Int} {lo hi : Option Int} : ∀ d ∈ cutD (ns.map D.int) lo hi, ∃ i : Int, d = .int i := fun d hd => by
  unfold cutD at hd
  obtain ⟨i, _, e⟩ := List.mem_map.mp (List.mem_of_mem_drop (List.mem_of_mem_take hd))
  exact ⟨i, e.symm⟩
theorem spring_core {ns : List Int} {t : Nat} (ht : t < 3) {k : Nat} : ∃ l S', Sp 0 l ∧ b__law_spring k [.im (.scr ns) true, .im (.int t) true, .no, .no, .no, .no] = .rf l S' := by
  obtain ⟨cell, hc⟩ : ∃ cell : Int, mPar 2 3 (mXi (mIf (mTst (mBin (cmpI fun i j => decide (i < j)) (mVar 1) (mCall lenD (mCons (mVar 0) (mNil))))) (mBin ixD (mVar 0) (mVar 1)) (mBin addD (mBin mulI (mC (.int 7)) (mVar 1)) (mCall lenD (mCons (mVar 0) (mNil)))))) (mXi (mBin addD (mC (.int 1009)) (mBin mulI (mC (.int 97)) (mVar 1)))) [.im (.scr ns) true, .im (.int t) true, .no, .no, .no, .no] =
      .nx [.im (.scr ns) true, .im (.int t) true, .im (.int cell) false, .im (.int (1009 + 97 * t)) false, .no, .no] := by
    have m1 : mulB 7 (t : Int) = true := mul_ok (by omega) (by omega)
    have m2 : mulB 97 (t : Int) = true := mul_ok (by omega) (by omega)
    by_cases h : (t : Int) < (ns.length : Int)
    · have hi : t < ns.length := by omega
      have ha : atI ns (t : Int) = some ns[t] := by
        unfold atI ixN
        rw [if_pos (by omega)]
        simp [hi]
      refine ⟨ns[t], ?_⟩
      simp [mPar, mXi, mIf, mTst, mBin, mVar, mCall, mCons, mNil, lenD, cmpI, h, Res.bind, Res.of, asB, ixD, ha, mC, mulI, intOp, m2, addD, addI, Res.sb, XV.lv]
    · refine ⟨7 * t + ns.length, ?_⟩
      simp [mPar, mXi, mIf, mTst, mBin, mVar, mCall, mCons, mNil, lenD, cmpI, h, Res.bind, Res.of, asB, ixD, mC, mulI, intOp, m1, m2, addD, addI, Res.sb, XV.lv]
  unfold b__law_spring
  rw [seq_nx hc]
  obtain ⟨S1, e1, mix, a4, a5, h0, h1, rfl⟩ := forL_inv (P := fun S => ∃ (mix : Int) (a4 a5 : LV), 0 ≤ mix ∧ mix ≤ 2147483648 ∧ S = [.im (.scr ns) true, .im (.int t) true, .im (.int cell) false, .im (.int mix) false, a4, a5]) (Q := fun d => ∃ i z : Int, d = .tup [.int i, .int z])
    (mg := mgTup 2 (mgCons (mgName 4) (mgCons (mgName 5) (mgNil)))) (mb := mSet (mBin modD (mCall intD (mCons (mBin addD (mBin addD (mBin addD (mBin mulI (mVar 3) (mC (.int 69069))) (mVar 5)) (mBin mulI (mC (.int 5)) (mVar 4))) (mC (.int 1))) (mNil))) (mC (.int 2147483629))) (mgName 3))
    (fun d S hd hS => by
      obtain ⟨i, z, rfl⟩ := hd
      obtain ⟨mix, a4, a5, h0, h1, rfl⟩ := hS
      have m1 : mulB mix 69069 = true := mul_ok (by decide) (by decide)
      have m2 : mulB 5 i = true := by simp [mulB]
      refine ⟨[.im (.scr ns) true, .im (.int t) true, .im (.int cell) false, .im (.int mix) false, .im (.int i) false, .im (.int z) false], [.im (.scr ns) true, .im (.int t) true, .im (.int cell) false, .im (.int ((mix * 69069 + z + 5 * i + 1) % 2147483629)) false, .im (.int i) false, .im (.int z) false], ?_, ?_, _, _, _, Int.emod_nonneg _ (by decide), ?_, rfl⟩
      · simp [mgTup, mgCons, mgName, mgNil, Res.bind]
      · simp [mSet, mBin, mCall, mCons, mNil, mVar, mC, mulI, intOp, m1, m2, addD, addI, intD, modD, Res.bind, Res.of, Res.sb, mgName]
      · exact Int.le_of_lt (Int.lt_trans (Int.emod_lt_of_pos _ (by decide)) (by decide)))
    (enumFrom 0 (cutD (ns.map D.int) none (some 63))) (enum_all fun d hd i => by
      obtain ⟨z, rfl⟩ := cut_int d hd
      exact ⟨i, z, rfl⟩) [.im (.scr ns) true, .im (.int t) true, .im (.int cell) false, .im (.int (1009 + 97 * t)) false, .no, .no] ⟨_, _, _, by omega, by omega, rfl⟩
  rw [seq_nx (S1 := [.im (.scr ns) true, .im (.int t) true, .im (.int cell) false, .im (.int mix) false, a4, a5]) (by
    unfold mFor
    rw [show mEnum (mCons (mFrz (mSl (mVar 0) (mNo) (mSome (mC (.int 63))))) (mNil)) [.im (.scr ns) true, .im (.int t) true, .im (.int cell) false, .im (.int (1009 + 97 * t)) false, .no, .no] = .ok (enumFrom 0 (cutD (ns.map D.int) none (some 63))) [.im (.scr ns) true, .im (.int t) true, .im (.int cell) false, .im (.int (1009 + 97 * t)) false, .no, .no] by
      simp [mEnum, mCons, mFrz, mSl, mVar, mNo, mSome, mC, mNil, Res.bind]]
    exact e1)]
  have p : powB 10 18 = true := by decide
  have p2 : (10 : Int) ^ (18 : Int).toNat = 1000000000000000000 := by decide
  have m3 : mulB cell 31 = true := mul_ok (by decide) (by decide)
  have l3 : (3 : Nat) ≤ LIM := by decide
  by_cases h : (1000000000000000000 : Int) ≤ cell
  · refine ⟨[.int cell, .int ((mix + cell * 31) % 2147483647), .int 0], [.im (.scr ns) true, .im (.int t) true, .im (.int cell) false, .im (.int mix) false, a4, a5], ⟨cell, _, 0, rfl, by omega, Int.emod_nonneg _ (by decide), Int.lt_trans (Int.emod_lt_of_pos _ (by decide)) (by decide), by decide, by decide⟩, ?_⟩
    simp [mRetF, mLst, mCons, mIf, mTst, mBin, mVar, mC, cmpI, powD, intOp, p, p2, h, m3, l3, mulI, addD, addI, mCall, intD, modD, mNil, Res.bind, Res.of, Res.sb, asB]
  · refine ⟨[.int 0, .int ((mix + cell * 31) % 2147483647), .int 0], [.im (.scr ns) true, .im (.int t) true, .im (.int cell) false, .im (.int mix) false, a4, a5], ⟨0, _, 0, rfl, by decide, Int.emod_nonneg _ (by decide), Int.lt_trans (Int.emod_lt_of_pos _ (by decide)) (by decide), by decide, by decide⟩, ?_⟩
    simp [mRetF, mLst, mCons, mIf, mTst, mBin, mVar, mC, cmpI, powD, intOp, p, p2, h, m3, l3, mulI, addD, addI, mCall, intD, modD, mNil, Res.bind, Res.of, Res.sb, asB]
end K00
end Dy

set_option Elab.async false
set_option linter.all false
set_option maxRecDepth 100000
set_option maxHeartbeats 4000000
namespace Dy
namespace K00
open PySem PySem.Spec L2 Dy LamX
theorem comp_inv {P : List LV → Prop} {Q R : D → Prop} {mg : D → List LV → Res Unit} {mt : MT} {me : ME} {vs : List Nat} {S0 : List LV} (step : ∀ d S, Q d → P S → ∃ S1 S2 S3 y, mg d S = .ok () S1 ∧ mt S1 = .ok true S2 ∧ me S2 = .ok y S3 ∧ R y.1 ∧ P (wipeS S3 vs)) :
    ∀ (ds acc : List D) (S : List LV), (∀ d ∈ ds, Q d) → acc.length + ds.length ≤ 1000 → P S → ∃ es S', es.length = ds.length ∧ (∀ e ∈ es, R e) ∧ P S' ∧ mCompL mg mt me vs S0 ds acc S = .ok (acc ++ es) (unwipe S0 S' vs)
  | [], acc, S, _, _, h => ⟨[], S, rfl, fun e he => absurd he (by simp), h, by simp [mCompL]⟩
  | d :: ds, acc, S, hq, hl, h => by
    obtain ⟨S1, S2, S3, y, e1, e2, e3, hy, hp⟩ := step d S (hq d List.mem_cons_self) h
    obtain ⟨es, S', h1, h2, h3, h4⟩ := comp_inv step ds (acc ++ [y.1]) (wipeS S3 vs) (fun d hd => hq d (List.mem_cons_of_mem _ hd)) (by simp at hl ⊢; omega) hp
    refine ⟨y.1 :: es, S', by simp [h1], fun e he => ?_, h3, ?_⟩
    · rcases List.mem_cons.mp he with rfl | he
      · exact hy
      · exact h2 e he
    · have hlt : acc.length < LIM := Nat.lt_of_lt_of_le (show acc.length < 1001 by simp at hl; omega) (by decide)
      unfold mCompL
      simp only [e1, Res.bindN, e2, if_true, e3, hlt]
      rw [h4]
      simp
theorem all_true : ∀ {es : List D}, (∀ e ∈ es, e = .bl true) → allD [.lst es] = some (.bl true)
  | es, h => by
    have z : ∀ es : List D, (∀ e ∈ es, e = .bl true) → ∃ bs, blsOf es = some bs ∧ bs.all id = true := fun es => by
      induction es with
      | nil => exact fun _ => ⟨[], rfl, rfl⟩
      | cons e es ih =>
        intro h
        obtain ⟨bs, h1, h2⟩ := ih fun e he => h e (List.mem_cons_of_mem _ he)
        refine ⟨true :: bs, ?_, by simp [h2]⟩
        rw [h e List.mem_cons_self]
        unfold blsOf
        rw [h1] <;> rfl
    obtain ⟨bs, h1, h2⟩ := z es h
    show (blsOf es).map _ = _
    rw [h1, Option.map_some, h2]
inductive Sc : D → Prop
  | non : Sc .non
  | bl (b : Bool) : Sc (.bl b)
  | int (i : Int) : Sc (.int i)
  | str (x : Str) : Sc (.str x)
theorem mEq_sc {d : D} (h : Sc d) : mEq false d d = some (.bl true) := by
  cases h with
  | non => rfl
  | bl b =>
    have e : eqS (.bl b) (.bl b) = some (decide (V.bl b = V.bl b)) := rfl
    unfold mEq
    rw [e]
    simp
  | int i => rw [mEq_int, decide_eq_true rfl]
  | str x =>
    have e : eqS (.str x) (.str x) = some (decide (V.str x = V.str x)) := rfl
    unfold mEq
    rw [e]
    simp
theorem mEq_bl {a b : Bool} {n : Bool} : mEq n (.bl a) (.bl b) = some (.bl (if n then !(a == b) else (a == b))) := by
  cases a <;> cases b <;> cases n <;> rfl
theorem same_sc {d : D} (h : Sc d) {k : Nat} : ∃ S, m__law_same (k + 1) [.im d true, .im d true, .no, .no, .no] = .rt (.bl true) S := by
  refine ⟨[.im d true, .im d true, .no, .no, .im (.bl true) false], ?_⟩
  show b__law_same k (m__law_same k) _ = _
  cases h with
  | non => rfl
  | bl b => simp [b__law_same, mSeq, mIfS, mTru, mIsi, mVar, tyN, subN, truD, mNext, Res.bind, Res.of, Res.sb, mSet, mAndV, mBin, mEq_bl, mgName, mOrT, mNotT, mTst, asB, mRet, mIf, isN, isNonB, mC, mEq_sc (.bl b)]
  | int i => simp [b__law_same, mSeq, mIfS, mTru, mIsi, mVar, tyN, subN, truD, mNext, Res.bind, Res.of, Res.sb, mSet, mAndV, mBin, mEq_bl, mgName, mOrT, mNotT, mTst, asB, mRet, mIf, isN, isNonB, mC, mEq_sc (.int i)]
  | str x => simp [b__law_same, mSeq, mIfS, mTru, mIsi, mVar, tyN, subN, truD, mNext, Res.bind, Res.of, Res.sb, mSet, mAndV, mBin, mEq_bl, mgName, mOrT, mNotT, mTst, asB, mRet, mIf, isN, isNonB, mC, mEq_sc (.str x)]
/-- a call of a def whose arguments are data -/
theorem fn_2 {mb : MS} {nN : Nat} {a b : ME} {S S1 S2 : List LV} {x y : EV} {d : D} (ha : a S = .ok x S1) (hb : b S1 = .ok y S2) (h : ∃ Z, mb ([.im x.1 true, .im y.1 true] ++ List.replicate (nN - 2) .no) = .rt d Z) : mFn mb nN (mAIm a (mAIm b mANil)) S = .ok (d, none) S2 := by
  obtain ⟨Z, h⟩ := h
  have f : List.filterMap ownAt [AV.im x.1 x.2, AV.im y.1 y.2] = [] := rfl
  have p : parsOf S2 [AV.im x.1 x.2, AV.im y.1 y.2] = some [.im x.1 true, .im y.1 true] := rfl
  simp only [mFn, mAIm, mANil, ha, hb, Res.bind, mCallC, f, p, List.nodup_nil, if_true]
  rw [show ([LV.im x.1 true, .im y.1 true] : List LV).length = 2 from rfl, h]
  rfl
theorem same_tup {ds : List D} (hs : Ints ds) (hl : ds.length ≤ 3) {k : Nat} : ∃ S, m__law_same (k + 2) [.im (.tup ds) true, .im (.tup ds) true, .no, .no, .no] = .rt (.bl true) S := by
  obtain ⟨es, S', h1, h2, hP, h4⟩ := comp_inv (P := fun S => S = [.im (.tup ds) true, .im (.tup ds) true, .no, .no, .no]) (Q := fun d => ∃ i : Int, d = .tup [.int i, .int i]) (R := fun d => d = .bl true) (mg := mgTup 2 (mgCons (mgName 2) (mgCons (mgName 3) (mgNil)))) (mt := mYes) (me := mFn (m__law_same (k + 1)) 5 (mAIm (mVar 2) (mAIm (mVar 3) (mANil)))) (vs := [2, 3]) (S0 := [.im (.tup ds) true, .im (.tup ds) true, .no, .no, .no])
    (fun d S hd hS => by
      obtain ⟨i, rfl⟩ := hd
      subst hS
      refine ⟨[.im (.tup ds) true, .im (.tup ds) true, .im (.int i) false, .im (.int i) false, .no], _, [.im (.tup ds) true, .im (.tup ds) true, .im (.int i) false, .im (.int i) false, .no], (.bl true, none), rfl, rfl, ?_, rfl, rfl⟩
      exact fn_2 (x := (.int i, some 2)) (y := (.int i, some 3)) rfl rfl (same_sc (.int i)))
    (zipD ds ds) [] [.im (.tup ds) true, .im (.tup ds) true, .no, .no, .no] (by
      have z : ∀ ds : List D, Ints ds → ∀ d ∈ zipD ds ds, ∃ i : Int, d = .tup [.int i, .int i] := fun ds => by
        induction ds with
        | nil => exact fun _ d hd => absurd hd (by simp [zipD])
        | cons e ds ih =>
          intro h d hd
          unfold zipD at hd
          rcases List.mem_cons.mp hd with rfl | hd
          · obtain ⟨i, rfl⟩ := h e List.mem_cons_self
            exact ⟨i, rfl⟩
          · exact ih (fun d hd => h d (List.mem_cons_of_mem _ hd)) d hd
      exact z ds hs) (by
      have z : ∀ ds : List D, (zipD ds ds).length = ds.length := fun ds => by
        induction ds with
        | nil => rfl
        | cons e ds ih => unfold zipD; simp [ih]
      rw [z]; simp; omega) rfl
  subst hP
  refine ⟨[.im (.tup ds) true, .im (.tup ds) true, .no, .no, .no], ?_⟩
  have hc : mComp (mZip (mCons (mVar 0) (mCons (mVar 1) (mNil)))) (mgTup 2 (mgCons (mgName 2) (mgCons (mgName 3) (mgNil)))) (mYes) (mFn (m__law_same (k + 1)) 5 (mAIm (mVar 2) (mAIm (mVar 3) (mANil)))) [2, 3] [.im (.tup ds) true, .im (.tup ds) true, .no, .no, .no] = .ok es [.im (.tup ds) true, .im (.tup ds) true, .no, .no, .no] := by
    unfold mComp
    rw [show mZip (mCons (mVar 0) (mCons (mVar 1) (mNil))) [.im (.tup ds) true, .im (.tup ds) true, .no, .no, .no] = .ok (zipD ds ds) [.im (.tup ds) true, .im (.tup ds) true, .no, .no, .no] from rfl]
    exact h4
  have ha := call_frz (f := allD) hc (all_true h2)
  show b__law_same (k + 1) (m__law_same (k + 1)) _ = _
  have l0 : mCall lenD (mCons (mVar 0) (mNil)) [.im (.tup ds) true, .im (.tup ds) true, .no, .no, .no] = .ok (.int ds.length, none) [.im (.tup ds) true, .im (.tup ds) true, .no, .no, .no] := rfl
  have l1 : mCall lenD (mCons (mVar 1) (mNil)) [.im (.tup ds) true, .im (.tup ds) true, .no, .no, .no] = .ok (.int ds.length, none) [.im (.tup ds) true, .im (.tup ds) true, .no, .no, .no] := rfl
  have i0 : ∀ Ts j, j < 2 → mIsi Ts (mVar j) [.im (.tup ds) true, .im (.tup ds) true, .no, .no, .no] = .ok (.bl (Ts.any fun b => subN "tuple" b), none) [.im (.tup ds) true, .im (.tup ds) true, .no, .no, .no] := fun Ts j hj => by
    match j, hj with
    | 0, _ => rfl
    | 1, _ => rfl
  simp [b__law_same, mSeq, mIfS, mTru, i0, subN, truD, mNext, Res.bind, Res.of, Res.sb, mAndV, mBin, mEq_bl, mOrT, mTst, asB, mRet, mEq_int, l0, l1, ha]
theorem very_ok {v : V} {x : D} (g : Good x) {k : Nat} : ∃ S, m__law_very (k + 3) [.im (.is v x) true, .im (.is v x) true, .no] = .rt (.bl true) S := by
  show ∃ S, mVery (b__law_very (k + 2)) [.im (.is v x) true, .im (.is v x) true, .no] = .rt (.bl true) S
  have sc : ∀ d : D, Sc d → ∃ S, b__law_very (k + 2) [.im d true, .im d true, .no] = .rt (.bl true) S := fun d h => by
    refine ⟨[.im d true, .im d true, .no], ?_⟩
    have e := fn_2 (mb := m__law_same (k + 2)) (nN := 5) (a := mVar 0) (b := mVar 1) (S := [.im d true, .im d true, .no]) (x := (d, some 0)) (y := (d, some 1)) rfl rfl (same_sc (k := k + 1) h)
    cases h with
    | non => simp [b__law_very, mSeq, mIfS, mTru, mIsi, mVar, tyN, subN, truD, mNext, Res.bind, Res.of, Res.sb, mOrT, mTst, asB, mBin, isN, isNonB, mC, mRet, e]
    | bl b => simp [b__law_very, mSeq, mIfS, mTru, mIsi, mVar, tyN, subN, truD, mNext, Res.bind, Res.of, Res.sb, mOrT, mTst, asB, mBin, isN, isNonB, mC, mRet, e]
    | int i => simp [b__law_very, mSeq, mIfS, mTru, mIsi, mVar, tyN, subN, truD, mNext, Res.bind, Res.of, Res.sb, mOrT, mTst, asB, mBin, isN, isNonB, mC, mRet, e]
    | str z => simp [b__law_very, mSeq, mIfS, mTru, mIsi, mVar, tyN, subN, truD, mNext, Res.bind, Res.of, Res.sb, mOrT, mTst, asB, mBin, isN, isNonB, mC, mRet, e]
  cases g with
  | non => simpa [mVery] using sc _ .non
  | bl b => simpa [mVery] using sc _ (.bl b)
  | int i => simpa [mVery] using sc _ (.int i)
  | str z => simpa [mVery] using sc _ (.str z)
  | lst ds h l =>
    have l2 : ds.length ≤ 1000 := by omega
    simp [mVery, l2]
  | tup ds h l =>
    have e := fn_2 (mb := m__law_same (k + 2)) (nN := 5) (a := mVar 0) (b := mVar 1) (S := [.im (.tup ds) true, .im (.tup ds) true, .no]) (x := (.tup ds, some 0)) (y := (.tup ds, some 1)) rfl rfl (same_tup (k := k) h l)
    simp [mVery, b__law_very, mSeq, mIfS, mTru, mIsi, mVar, tyN, subN, truD, mNext, Res.bind, Res.of, Res.sb, mOrT, mTst, asB, mBin, isN, isNonB, mC, mRet, e]
  | dct ks ds h l =>
    have l2 : ks.length ≤ 1000 := by omega
    have l3 : ∀ q ∈ ks, ¬ q = .inr " late " := fun q hq z => by
      obtain ⟨i, e⟩ := h q hq
      rw [e] at z
      cases z
    simp [mVery, l2]
    exact ⟨_, if_pos l3⟩
end K00
end Dy

set_option Elab.async false
set_option linter.all false
set_option maxRecDepth 100000
set_option maxHeartbeats 4000000
namespace Dy
namespace K00
open PySem PySem.Spec L2 Dy LamX
def rowT : List (Str × List Str) := [(.ofString "BadQuestion", [.ofString "question"]), (.ofString "BadChange", [.ofString "change"]), (.ofString "BadClaim", [.ofString "claim"]), (.ofString "BadClaims", [.ofString "claims"]), (.ofString "BadCode", [.ofString "code"]), (.ofString "BadClasses", [.ofString "classes"]), (.ofString "NoCover", [.ofString "classes"]), (.ofString "BadBook", [.ofString "book"]), (.ofString "BadLetter", [.ofString "letter"]), (.ofString "BadNumber", [.ofString "number"]), (.ofString "BadPath", [.ofString "path"]), (.ofString "BadPlace", [.ofString "place"]), (.ofString "BadTree", [.ofString "tree"]), (.ofString "NoName", [.ofString "named"]), (.ofString "Refused", [.ofString "path"]), (.ofString "TooGreat", [.ofString "most"]), (.ofString "BadBase", [.ofString "base"]), (.ofString "BadBases", [.ofString "bases"]), (.ofString "BadFigures", [.ofString "figures"]), (.ofString "BadParts", [.ofString "parts"]), (.ofString "BadForm", [.ofString "form"]), (.ofString "BadImage", [.ofString "image"]), (.ofString "BadWord", [.ofString "word"]), (.ofString "BadJournal", [.ofString "journal"]), (.ofString "Wrong", [.ofString "index"]), (.ofString "BadWhich", [.ofString "word"]), (.ofString "BadChain", [.ofString "chain"]), (.ofString "BadMove", [.ofString "move"]), (.ofString "Unfit", [.ofString "move"]), (.ofString "BadMoment", [.ofString "moment"]), (.ofString "BadStep", [.ofString "step"]), (.ofString "BadSteps", [.ofString "steps"]), (.ofString "Barred", [.ofString "fault"]), (.ofString "BadReport", [.ofString "report"]), (.ofString "BadSet", [.ofString "some"]), (.ofString "NotOne", [.ofString "letters"]), (.ofString "BadForms", [.ofString "forms"]), (.ofString "BadPeriods", [.ofString "periods"]), (.ofString "BadPowers", [.ofString "powers"]), (.ofString "BadRow", [.ofString "row"]), (.ofString "BadLine", [.ofString "form"]), (.ofString "NoTurn", [.ofString "line"]), (.ofString "Stopped", [.ofString "index", .ofString "fault"]), (.ofString "Unread", [.ofString "text", .ofString "place"]), (.ofString "BadText", [.ofString "text", .ofString "index"])]
def dsJ (x y : D) (j : Nat) : List D := if (rowT.getD j (.ofString "", [])).2.length = 1 then [x] else [x, y]
def exJ (x y : D) (j : Nat) : D := .exc (rowT.getD j (.ofString "", [])).1 (rowT.getD j (.ofString "", [])).2 (dsJ x y j)
def rowD (x y : D) (j : Nat) : D := .tup [exJ x y j, exJ x y j, .fn j [], .lst (dsJ x y j)]
def rows (x y : D) : List D := (List.range 45).map (rowD x y)
noncomputable def bodyR (k : Nat) (d : MS) : MS := mSeq (mIfS (mOrT (mNotT (mTru (mIsE xs (fun x => rel x "FloorError") (mVar 6)))) (mNotT (mTru (mIsE xs (fun _ => true) (mVar 6))))) (mRet (mC (.bl false))) (mNext)) (mSeq (mIfS (mTst (mBin (mEq true) (mFrz (mComp (mEnum (mCons (mFn (m__law_e_kinds (k + 3)) 1 (mAIm (mVar 6) (mANil))) (mNil))) (mgTup 2 (mgCons (mgName 8) (mgCons (mgName 9) (mgNil)))) (mTru (mVar 9)) (mVar 8) [8, 9])) (mFrz (mLst (mCons (mVar 1) (mNil)))))) (mRet (mC (.bl false))) (mNext)) (mSeq (mSet (mFrz (mLook 4 nL 1 1 mL (mCons (mVar 6) (mNil)))) (mgName 7)) d))
noncomputable def lastR (k : Nat) : MS := mIfS (mOrT (mTst (mBin (mEq true) (mCall lenD (mCons (mVar 7) (mNil))) (mCall lenD (mCons (mVar 5) (mNil))))) (mNotT (mTru (mCall allD (mCons (mFrz (mComp (mZip (mCons (mVar 7) (mCons (mVar 5) (mNil)))) (mgTup 2 (mgCons (mgName 10) (mgCons (mgName 11) (mgNil)))) (mYes) (mFn (m__law_very (k + 3)) 3 (mAIm (mVar 10) (mAIm (mVar 11) (mANil)))) [10, 11])) (mNil)))))) (mRet (mC (.bl false))) (mNext)
theorem t_0 (k : Nat) (d : MS) (x y : D) (r0 e2 e3 s7 : LV) : bodyR k d [r0, .im (.int ((0 : Nat) : Int)) true, e2, e3, .im (.fn 0 []) false, .im (.lst (dsJ x y 0)) false, .im (exJ x y 0) false, s7, .no, .no, .no, .no] = d [r0, .im (.int ((0 : Nat) : Int)) true, e2, e3, .im (.fn 0 []) false, .im (.lst (dsJ x y 0)) false, .im (exJ x y 0) false, .im (.lst (dsJ x y 0)) false, .no, .no, .no, .no] := by kernel_rfl
theorem t_1 (k : Nat) (d : MS) (x y : D) (r0 e2 e3 s7 : LV) : bodyR k d [r0, .im (.int ((1 : Nat) : Int)) true, e2, e3, .im (.fn 1 []) false, .im (.lst (dsJ x y 1)) false, .im (exJ x y 1) false, s7, .no, .no, .no, .no] = d [r0, .im (.int ((1 : Nat) : Int)) true, e2, e3, .im (.fn 1 []) false, .im (.lst (dsJ x y 1)) false, .im (exJ x y 1) false, .im (.lst (dsJ x y 1)) false, .no, .no, .no, .no] := by kernel_rfl
theorem t_2 (k : Nat) (d : MS) (x y : D) (r0 e2 e3 s7 : LV) : bodyR k d [r0, .im (.int ((2 : Nat) : Int)) true, e2, e3, .im (.fn 2 []) false, .im (.lst (dsJ x y 2)) false, .im (exJ x y 2) false, s7, .no, .no, .no, .no] = d [r0, .im (.int ((2 : Nat) : Int)) true, e2, e3, .im (.fn 2 []) false, .im (.lst (dsJ x y 2)) false, .im (exJ x y 2) false, .im (.lst (dsJ x y 2)) false, .no, .no, .no, .no] := by kernel_rfl
theorem t_3 (k : Nat) (d : MS) (x y : D) (r0 e2 e3 s7 : LV) : bodyR k d [r0, .im (.int ((3 : Nat) : Int)) true, e2, e3, .im (.fn 3 []) false, .im (.lst (dsJ x y 3)) false, .im (exJ x y 3) false, s7, .no, .no, .no, .no] = d [r0, .im (.int ((3 : Nat) : Int)) true, e2, e3, .im (.fn 3 []) false, .im (.lst (dsJ x y 3)) false, .im (exJ x y 3) false, .im (.lst (dsJ x y 3)) false, .no, .no, .no, .no] := by kernel_rfl
theorem t_4 (k : Nat) (d : MS) (x y : D) (r0 e2 e3 s7 : LV) : bodyR k d [r0, .im (.int ((4 : Nat) : Int)) true, e2, e3, .im (.fn 4 []) false, .im (.lst (dsJ x y 4)) false, .im (exJ x y 4) false, s7, .no, .no, .no, .no] = d [r0, .im (.int ((4 : Nat) : Int)) true, e2, e3, .im (.fn 4 []) false, .im (.lst (dsJ x y 4)) false, .im (exJ x y 4) false, .im (.lst (dsJ x y 4)) false, .no, .no, .no, .no] := by kernel_rfl
theorem t_5 (k : Nat) (d : MS) (x y : D) (r0 e2 e3 s7 : LV) : bodyR k d [r0, .im (.int ((5 : Nat) : Int)) true, e2, e3, .im (.fn 5 []) false, .im (.lst (dsJ x y 5)) false, .im (exJ x y 5) false, s7, .no, .no, .no, .no] = d [r0, .im (.int ((5 : Nat) : Int)) true, e2, e3, .im (.fn 5 []) false, .im (.lst (dsJ x y 5)) false, .im (exJ x y 5) false, .im (.lst (dsJ x y 5)) false, .no, .no, .no, .no] := by kernel_rfl
theorem t_6 (k : Nat) (d : MS) (x y : D) (r0 e2 e3 s7 : LV) : bodyR k d [r0, .im (.int ((6 : Nat) : Int)) true, e2, e3, .im (.fn 6 []) false, .im (.lst (dsJ x y 6)) false, .im (exJ x y 6) false, s7, .no, .no, .no, .no] = d [r0, .im (.int ((6 : Nat) : Int)) true, e2, e3, .im (.fn 6 []) false, .im (.lst (dsJ x y 6)) false, .im (exJ x y 6) false, .im (.lst (dsJ x y 6)) false, .no, .no, .no, .no] := by kernel_rfl
theorem t_7 (k : Nat) (d : MS) (x y : D) (r0 e2 e3 s7 : LV) : bodyR k d [r0, .im (.int ((7 : Nat) : Int)) true, e2, e3, .im (.fn 7 []) false, .im (.lst (dsJ x y 7)) false, .im (exJ x y 7) false, s7, .no, .no, .no, .no] = d [r0, .im (.int ((7 : Nat) : Int)) true, e2, e3, .im (.fn 7 []) false, .im (.lst (dsJ x y 7)) false, .im (exJ x y 7) false, .im (.lst (dsJ x y 7)) false, .no, .no, .no, .no] := by kernel_rfl
theorem t_8 (k : Nat) (d : MS) (x y : D) (r0 e2 e3 s7 : LV) : bodyR k d [r0, .im (.int ((8 : Nat) : Int)) true, e2, e3, .im (.fn 8 []) false, .im (.lst (dsJ x y 8)) false, .im (exJ x y 8) false, s7, .no, .no, .no, .no] = d [r0, .im (.int ((8 : Nat) : Int)) true, e2, e3, .im (.fn 8 []) false, .im (.lst (dsJ x y 8)) false, .im (exJ x y 8) false, .im (.lst (dsJ x y 8)) false, .no, .no, .no, .no] := by kernel_rfl
theorem t_9 (k : Nat) (d : MS) (x y : D) (r0 e2 e3 s7 : LV) : bodyR k d [r0, .im (.int ((9 : Nat) : Int)) true, e2, e3, .im (.fn 9 []) false, .im (.lst (dsJ x y 9)) false, .im (exJ x y 9) false, s7, .no, .no, .no, .no] = d [r0, .im (.int ((9 : Nat) : Int)) true, e2, e3, .im (.fn 9 []) false, .im (.lst (dsJ x y 9)) false, .im (exJ x y 9) false, .im (.lst (dsJ x y 9)) false, .no, .no, .no, .no] := by kernel_rfl
theorem t_10 (k : Nat) (d : MS) (x y : D) (r0 e2 e3 s7 : LV) : bodyR k d [r0, .im (.int ((10 : Nat) : Int)) true, e2, e3, .im (.fn 10 []) false, .im (.lst (dsJ x y 10)) false, .im (exJ x y 10) false, s7, .no, .no, .no, .no] = d [r0, .im (.int ((10 : Nat) : Int)) true, e2, e3, .im (.fn 10 []) false, .im (.lst (dsJ x y 10)) false, .im (exJ x y 10) false, .im (.lst (dsJ x y 10)) false, .no, .no, .no, .no] := by kernel_rfl
theorem t_11 (k : Nat) (d : MS) (x y : D) (r0 e2 e3 s7 : LV) : bodyR k d [r0, .im (.int ((11 : Nat) : Int)) true, e2, e3, .im (.fn 11 []) false, .im (.lst (dsJ x y 11)) false, .im (exJ x y 11) false, s7, .no, .no, .no, .no] = d [r0, .im (.int ((11 : Nat) : Int)) true, e2, e3, .im (.fn 11 []) false, .im (.lst (dsJ x y 11)) false, .im (exJ x y 11) false, .im (.lst (dsJ x y 11)) false, .no, .no, .no, .no] := by kernel_rfl
theorem t_12 (k : Nat) (d : MS) (x y : D) (r0 e2 e3 s7 : LV) : bodyR k d [r0, .im (.int ((12 : Nat) : Int)) true, e2, e3, .im (.fn 12 []) false, .im (.lst (dsJ x y 12)) false, .im (exJ x y 12) false, s7, .no, .no, .no, .no] = d [r0, .im (.int ((12 : Nat) : Int)) true, e2, e3, .im (.fn 12 []) false, .im (.lst (dsJ x y 12)) false, .im (exJ x y 12) false, .im (.lst (dsJ x y 12)) false, .no, .no, .no, .no] := by kernel_rfl
theorem t_13 (k : Nat) (d : MS) (x y : D) (r0 e2 e3 s7 : LV) : bodyR k d [r0, .im (.int ((13 : Nat) : Int)) true, e2, e3, .im (.fn 13 []) false, .im (.lst (dsJ x y 13)) false, .im (exJ x y 13) false, s7, .no, .no, .no, .no] = d [r0, .im (.int ((13 : Nat) : Int)) true, e2, e3, .im (.fn 13 []) false, .im (.lst (dsJ x y 13)) false, .im (exJ x y 13) false, .im (.lst (dsJ x y 13)) false, .no, .no, .no, .no] := by kernel_rfl
theorem t_14 (k : Nat) (d : MS) (x y : D) (r0 e2 e3 s7 : LV) : bodyR k d [r0, .im (.int ((14 : Nat) : Int)) true, e2, e3, .im (.fn 14 []) false, .im (.lst (dsJ x y 14)) false, .im (exJ x y 14) false, s7, .no, .no, .no, .no] = d [r0, .im (.int ((14 : Nat) : Int)) true, e2, e3, .im (.fn 14 []) false, .im (.lst (dsJ x y 14)) false, .im (exJ x y 14) false, .im (.lst (dsJ x y 14)) false, .no, .no, .no, .no] := by kernel_rfl
theorem t_15 (k : Nat) (d : MS) (x y : D) (r0 e2 e3 s7 : LV) : bodyR k d [r0, .im (.int ((15 : Nat) : Int)) true, e2, e3, .im (.fn 15 []) false, .im (.lst (dsJ x y 15)) false, .im (exJ x y 15) false, s7, .no, .no, .no, .no] = d [r0, .im (.int ((15 : Nat) : Int)) true, e2, e3, .im (.fn 15 []) false, .im (.lst (dsJ x y 15)) false, .im (exJ x y 15) false, .im (.lst (dsJ x y 15)) false, .no, .no, .no, .no] := by kernel_rfl
theorem t_16 (k : Nat) (d : MS) (x y : D) (r0 e2 e3 s7 : LV) : bodyR k d [r0, .im (.int ((16 : Nat) : Int)) true, e2, e3, .im (.fn 16 []) false, .im (.lst (dsJ x y 16)) false, .im (exJ x y 16) false, s7, .no, .no, .no, .no] = d [r0, .im (.int ((16 : Nat) : Int)) true, e2, e3, .im (.fn 16 []) false, .im (.lst (dsJ x y 16)) false, .im (exJ x y 16) false, .im (.lst (dsJ x y 16)) false, .no, .no, .no, .no] := by kernel_rfl
theorem t_17 (k : Nat) (d : MS) (x y : D) (r0 e2 e3 s7 : LV) : bodyR k d [r0, .im (.int ((17 : Nat) : Int)) true, e2, e3, .im (.fn 17 []) false, .im (.lst (dsJ x y 17)) false, .im (exJ x y 17) false, s7, .no, .no, .no, .no] = d [r0, .im (.int ((17 : Nat) : Int)) true, e2, e3, .im (.fn 17 []) false, .im (.lst (dsJ x y 17)) false, .im (exJ x y 17) false, .im (.lst (dsJ x y 17)) false, .no, .no, .no, .no] := by kernel_rfl
theorem t_18 (k : Nat) (d : MS) (x y : D) (r0 e2 e3 s7 : LV) : bodyR k d [r0, .im (.int ((18 : Nat) : Int)) true, e2, e3, .im (.fn 18 []) false, .im (.lst (dsJ x y 18)) false, .im (exJ x y 18) false, s7, .no, .no, .no, .no] = d [r0, .im (.int ((18 : Nat) : Int)) true, e2, e3, .im (.fn 18 []) false, .im (.lst (dsJ x y 18)) false, .im (exJ x y 18) false, .im (.lst (dsJ x y 18)) false, .no, .no, .no, .no] := by kernel_rfl
theorem t_19 (k : Nat) (d : MS) (x y : D) (r0 e2 e3 s7 : LV) : bodyR k d [r0, .im (.int ((19 : Nat) : Int)) true, e2, e3, .im (.fn 19 []) false, .im (.lst (dsJ x y 19)) false, .im (exJ x y 19) false, s7, .no, .no, .no, .no] = d [r0, .im (.int ((19 : Nat) : Int)) true, e2, e3, .im (.fn 19 []) false, .im (.lst (dsJ x y 19)) false, .im (exJ x y 19) false, .im (.lst (dsJ x y 19)) false, .no, .no, .no, .no] := by kernel_rfl
theorem t_20 (k : Nat) (d : MS) (x y : D) (r0 e2 e3 s7 : LV) : bodyR k d [r0, .im (.int ((20 : Nat) : Int)) true, e2, e3, .im (.fn 20 []) false, .im (.lst (dsJ x y 20)) false, .im (exJ x y 20) false, s7, .no, .no, .no, .no] = d [r0, .im (.int ((20 : Nat) : Int)) true, e2, e3, .im (.fn 20 []) false, .im (.lst (dsJ x y 20)) false, .im (exJ x y 20) false, .im (.lst (dsJ x y 20)) false, .no, .no, .no, .no] := by kernel_rfl
theorem t_21 (k : Nat) (d : MS) (x y : D) (r0 e2 e3 s7 : LV) : bodyR k d [r0, .im (.int ((21 : Nat) : Int)) true, e2, e3, .im (.fn 21 []) false, .im (.lst (dsJ x y 21)) false, .im (exJ x y 21) false, s7, .no, .no, .no, .no] = d [r0, .im (.int ((21 : Nat) : Int)) true, e2, e3, .im (.fn 21 []) false, .im (.lst (dsJ x y 21)) false, .im (exJ x y 21) false, .im (.lst (dsJ x y 21)) false, .no, .no, .no, .no] := by kernel_rfl
theorem t_22 (k : Nat) (d : MS) (x y : D) (r0 e2 e3 s7 : LV) : bodyR k d [r0, .im (.int ((22 : Nat) : Int)) true, e2, e3, .im (.fn 22 []) false, .im (.lst (dsJ x y 22)) false, .im (exJ x y 22) false, s7, .no, .no, .no, .no] = d [r0, .im (.int ((22 : Nat) : Int)) true, e2, e3, .im (.fn 22 []) false, .im (.lst (dsJ x y 22)) false, .im (exJ x y 22) false, .im (.lst (dsJ x y 22)) false, .no, .no, .no, .no] := by kernel_rfl
theorem t_23 (k : Nat) (d : MS) (x y : D) (r0 e2 e3 s7 : LV) : bodyR k d [r0, .im (.int ((23 : Nat) : Int)) true, e2, e3, .im (.fn 23 []) false, .im (.lst (dsJ x y 23)) false, .im (exJ x y 23) false, s7, .no, .no, .no, .no] = d [r0, .im (.int ((23 : Nat) : Int)) true, e2, e3, .im (.fn 23 []) false, .im (.lst (dsJ x y 23)) false, .im (exJ x y 23) false, .im (.lst (dsJ x y 23)) false, .no, .no, .no, .no] := by kernel_rfl
theorem t_24 (k : Nat) (d : MS) (x y : D) (r0 e2 e3 s7 : LV) : bodyR k d [r0, .im (.int ((24 : Nat) : Int)) true, e2, e3, .im (.fn 24 []) false, .im (.lst (dsJ x y 24)) false, .im (exJ x y 24) false, s7, .no, .no, .no, .no] = d [r0, .im (.int ((24 : Nat) : Int)) true, e2, e3, .im (.fn 24 []) false, .im (.lst (dsJ x y 24)) false, .im (exJ x y 24) false, .im (.lst (dsJ x y 24)) false, .no, .no, .no, .no] := by kernel_rfl
theorem t_25 (k : Nat) (d : MS) (x y : D) (r0 e2 e3 s7 : LV) : bodyR k d [r0, .im (.int ((25 : Nat) : Int)) true, e2, e3, .im (.fn 25 []) false, .im (.lst (dsJ x y 25)) false, .im (exJ x y 25) false, s7, .no, .no, .no, .no] = d [r0, .im (.int ((25 : Nat) : Int)) true, e2, e3, .im (.fn 25 []) false, .im (.lst (dsJ x y 25)) false, .im (exJ x y 25) false, .im (.lst (dsJ x y 25)) false, .no, .no, .no, .no] := by kernel_rfl
theorem t_26 (k : Nat) (d : MS) (x y : D) (r0 e2 e3 s7 : LV) : bodyR k d [r0, .im (.int ((26 : Nat) : Int)) true, e2, e3, .im (.fn 26 []) false, .im (.lst (dsJ x y 26)) false, .im (exJ x y 26) false, s7, .no, .no, .no, .no] = d [r0, .im (.int ((26 : Nat) : Int)) true, e2, e3, .im (.fn 26 []) false, .im (.lst (dsJ x y 26)) false, .im (exJ x y 26) false, .im (.lst (dsJ x y 26)) false, .no, .no, .no, .no] := by kernel_rfl
theorem t_27 (k : Nat) (d : MS) (x y : D) (r0 e2 e3 s7 : LV) : bodyR k d [r0, .im (.int ((27 : Nat) : Int)) true, e2, e3, .im (.fn 27 []) false, .im (.lst (dsJ x y 27)) false, .im (exJ x y 27) false, s7, .no, .no, .no, .no] = d [r0, .im (.int ((27 : Nat) : Int)) true, e2, e3, .im (.fn 27 []) false, .im (.lst (dsJ x y 27)) false, .im (exJ x y 27) false, .im (.lst (dsJ x y 27)) false, .no, .no, .no, .no] := by kernel_rfl
theorem t_28 (k : Nat) (d : MS) (x y : D) (r0 e2 e3 s7 : LV) : bodyR k d [r0, .im (.int ((28 : Nat) : Int)) true, e2, e3, .im (.fn 28 []) false, .im (.lst (dsJ x y 28)) false, .im (exJ x y 28) false, s7, .no, .no, .no, .no] = d [r0, .im (.int ((28 : Nat) : Int)) true, e2, e3, .im (.fn 28 []) false, .im (.lst (dsJ x y 28)) false, .im (exJ x y 28) false, .im (.lst (dsJ x y 28)) false, .no, .no, .no, .no] := by kernel_rfl
theorem t_29 (k : Nat) (d : MS) (x y : D) (r0 e2 e3 s7 : LV) : bodyR k d [r0, .im (.int ((29 : Nat) : Int)) true, e2, e3, .im (.fn 29 []) false, .im (.lst (dsJ x y 29)) false, .im (exJ x y 29) false, s7, .no, .no, .no, .no] = d [r0, .im (.int ((29 : Nat) : Int)) true, e2, e3, .im (.fn 29 []) false, .im (.lst (dsJ x y 29)) false, .im (exJ x y 29) false, .im (.lst (dsJ x y 29)) false, .no, .no, .no, .no] := by kernel_rfl
theorem t_30 (k : Nat) (d : MS) (x y : D) (r0 e2 e3 s7 : LV) : bodyR k d [r0, .im (.int ((30 : Nat) : Int)) true, e2, e3, .im (.fn 30 []) false, .im (.lst (dsJ x y 30)) false, .im (exJ x y 30) false, s7, .no, .no, .no, .no] = d [r0, .im (.int ((30 : Nat) : Int)) true, e2, e3, .im (.fn 30 []) false, .im (.lst (dsJ x y 30)) false, .im (exJ x y 30) false, .im (.lst (dsJ x y 30)) false, .no, .no, .no, .no] := by kernel_rfl
theorem t_31 (k : Nat) (d : MS) (x y : D) (r0 e2 e3 s7 : LV) : bodyR k d [r0, .im (.int ((31 : Nat) : Int)) true, e2, e3, .im (.fn 31 []) false, .im (.lst (dsJ x y 31)) false, .im (exJ x y 31) false, s7, .no, .no, .no, .no] = d [r0, .im (.int ((31 : Nat) : Int)) true, e2, e3, .im (.fn 31 []) false, .im (.lst (dsJ x y 31)) false, .im (exJ x y 31) false, .im (.lst (dsJ x y 31)) false, .no, .no, .no, .no] := by kernel_rfl
theorem t_32 (k : Nat) (d : MS) (x y : D) (r0 e2 e3 s7 : LV) : bodyR k d [r0, .im (.int ((32 : Nat) : Int)) true, e2, e3, .im (.fn 32 []) false, .im (.lst (dsJ x y 32)) false, .im (exJ x y 32) false, s7, .no, .no, .no, .no] = d [r0, .im (.int ((32 : Nat) : Int)) true, e2, e3, .im (.fn 32 []) false, .im (.lst (dsJ x y 32)) false, .im (exJ x y 32) false, .im (.lst (dsJ x y 32)) false, .no, .no, .no, .no] := by kernel_rfl
theorem t_33 (k : Nat) (d : MS) (x y : D) (r0 e2 e3 s7 : LV) : bodyR k d [r0, .im (.int ((33 : Nat) : Int)) true, e2, e3, .im (.fn 33 []) false, .im (.lst (dsJ x y 33)) false, .im (exJ x y 33) false, s7, .no, .no, .no, .no] = d [r0, .im (.int ((33 : Nat) : Int)) true, e2, e3, .im (.fn 33 []) false, .im (.lst (dsJ x y 33)) false, .im (exJ x y 33) false, .im (.lst (dsJ x y 33)) false, .no, .no, .no, .no] := by kernel_rfl
theorem t_34 (k : Nat) (d : MS) (x y : D) (r0 e2 e3 s7 : LV) : bodyR k d [r0, .im (.int ((34 : Nat) : Int)) true, e2, e3, .im (.fn 34 []) false, .im (.lst (dsJ x y 34)) false, .im (exJ x y 34) false, s7, .no, .no, .no, .no] = d [r0, .im (.int ((34 : Nat) : Int)) true, e2, e3, .im (.fn 34 []) false, .im (.lst (dsJ x y 34)) false, .im (exJ x y 34) false, .im (.lst (dsJ x y 34)) false, .no, .no, .no, .no] := by kernel_rfl
theorem t_35 (k : Nat) (d : MS) (x y : D) (r0 e2 e3 s7 : LV) : bodyR k d [r0, .im (.int ((35 : Nat) : Int)) true, e2, e3, .im (.fn 35 []) false, .im (.lst (dsJ x y 35)) false, .im (exJ x y 35) false, s7, .no, .no, .no, .no] = d [r0, .im (.int ((35 : Nat) : Int)) true, e2, e3, .im (.fn 35 []) false, .im (.lst (dsJ x y 35)) false, .im (exJ x y 35) false, .im (.lst (dsJ x y 35)) false, .no, .no, .no, .no] := by kernel_rfl
theorem t_36 (k : Nat) (d : MS) (x y : D) (r0 e2 e3 s7 : LV) : bodyR k d [r0, .im (.int ((36 : Nat) : Int)) true, e2, e3, .im (.fn 36 []) false, .im (.lst (dsJ x y 36)) false, .im (exJ x y 36) false, s7, .no, .no, .no, .no] = d [r0, .im (.int ((36 : Nat) : Int)) true, e2, e3, .im (.fn 36 []) false, .im (.lst (dsJ x y 36)) false, .im (exJ x y 36) false, .im (.lst (dsJ x y 36)) false, .no, .no, .no, .no] := by kernel_rfl
theorem t_37 (k : Nat) (d : MS) (x y : D) (r0 e2 e3 s7 : LV) : bodyR k d [r0, .im (.int ((37 : Nat) : Int)) true, e2, e3, .im (.fn 37 []) false, .im (.lst (dsJ x y 37)) false, .im (exJ x y 37) false, s7, .no, .no, .no, .no] = d [r0, .im (.int ((37 : Nat) : Int)) true, e2, e3, .im (.fn 37 []) false, .im (.lst (dsJ x y 37)) false, .im (exJ x y 37) false, .im (.lst (dsJ x y 37)) false, .no, .no, .no, .no] := by kernel_rfl
theorem t_38 (k : Nat) (d : MS) (x y : D) (r0 e2 e3 s7 : LV) : bodyR k d [r0, .im (.int ((38 : Nat) : Int)) true, e2, e3, .im (.fn 38 []) false, .im (.lst (dsJ x y 38)) false, .im (exJ x y 38) false, s7, .no, .no, .no, .no] = d [r0, .im (.int ((38 : Nat) : Int)) true, e2, e3, .im (.fn 38 []) false, .im (.lst (dsJ x y 38)) false, .im (exJ x y 38) false, .im (.lst (dsJ x y 38)) false, .no, .no, .no, .no] := by kernel_rfl
theorem t_39 (k : Nat) (d : MS) (x y : D) (r0 e2 e3 s7 : LV) : bodyR k d [r0, .im (.int ((39 : Nat) : Int)) true, e2, e3, .im (.fn 39 []) false, .im (.lst (dsJ x y 39)) false, .im (exJ x y 39) false, s7, .no, .no, .no, .no] = d [r0, .im (.int ((39 : Nat) : Int)) true, e2, e3, .im (.fn 39 []) false, .im (.lst (dsJ x y 39)) false, .im (exJ x y 39) false, .im (.lst (dsJ x y 39)) false, .no, .no, .no, .no] := by kernel_rfl
theorem t_40 (k : Nat) (d : MS) (x y : D) (r0 e2 e3 s7 : LV) : bodyR k d [r0, .im (.int ((40 : Nat) : Int)) true, e2, e3, .im (.fn 40 []) false, .im (.lst (dsJ x y 40)) false, .im (exJ x y 40) false, s7, .no, .no, .no, .no] = d [r0, .im (.int ((40 : Nat) : Int)) true, e2, e3, .im (.fn 40 []) false, .im (.lst (dsJ x y 40)) false, .im (exJ x y 40) false, .im (.lst (dsJ x y 40)) false, .no, .no, .no, .no] := by kernel_rfl
theorem t_41 (k : Nat) (d : MS) (x y : D) (r0 e2 e3 s7 : LV) : bodyR k d [r0, .im (.int ((41 : Nat) : Int)) true, e2, e3, .im (.fn 41 []) false, .im (.lst (dsJ x y 41)) false, .im (exJ x y 41) false, s7, .no, .no, .no, .no] = d [r0, .im (.int ((41 : Nat) : Int)) true, e2, e3, .im (.fn 41 []) false, .im (.lst (dsJ x y 41)) false, .im (exJ x y 41) false, .im (.lst (dsJ x y 41)) false, .no, .no, .no, .no] := by kernel_rfl
theorem t_42 (k : Nat) (d : MS) (x y : D) (r0 e2 e3 s7 : LV) : bodyR k d [r0, .im (.int ((42 : Nat) : Int)) true, e2, e3, .im (.fn 42 []) false, .im (.lst (dsJ x y 42)) false, .im (exJ x y 42) false, s7, .no, .no, .no, .no] = d [r0, .im (.int ((42 : Nat) : Int)) true, e2, e3, .im (.fn 42 []) false, .im (.lst (dsJ x y 42)) false, .im (exJ x y 42) false, .im (.lst (dsJ x y 42)) false, .no, .no, .no, .no] := by kernel_rfl
theorem t_43 (k : Nat) (d : MS) (x y : D) (r0 e2 e3 s7 : LV) : bodyR k d [r0, .im (.int ((43 : Nat) : Int)) true, e2, e3, .im (.fn 43 []) false, .im (.lst (dsJ x y 43)) false, .im (exJ x y 43) false, s7, .no, .no, .no, .no] = d [r0, .im (.int ((43 : Nat) : Int)) true, e2, e3, .im (.fn 43 []) false, .im (.lst (dsJ x y 43)) false, .im (exJ x y 43) false, .im (.lst (dsJ x y 43)) false, .no, .no, .no, .no] := by kernel_rfl
theorem t_44 (k : Nat) (d : MS) (x y : D) (r0 e2 e3 s7 : LV) : bodyR k d [r0, .im (.int ((44 : Nat) : Int)) true, e2, e3, .im (.fn 44 []) false, .im (.lst (dsJ x y 44)) false, .im (exJ x y 44) false, s7, .no, .no, .no, .no] = d [r0, .im (.int ((44 : Nat) : Int)) true, e2, e3, .im (.fn 44 []) false, .im (.lst (dsJ x y 44)) false, .im (exJ x y 44) false, .im (.lst (dsJ x y 44)) false, .no, .no, .no, .no] := by kernel_rfl
theorem t_all {j : Nat} (hj : j < 45) (k : Nat) (d : MS) (x y : D) (r0 e2 e3 s7 : LV) : bodyR k d [r0, .im (.int ((j : Nat) : Int)) true, e2, e3, .im (.fn j []) false, .im (.lst (dsJ x y j)) false, .im (exJ x y j) false, s7, .no, .no, .no, .no] = d [r0, .im (.int ((j : Nat) : Int)) true, e2, e3, .im (.fn j []) false, .im (.lst (dsJ x y j)) false, .im (exJ x y j) false, .im (.lst (dsJ x y j)) false, .no, .no, .no, .no] := match j, hj with
  | 0, _ => t_0 k d x y r0 e2 e3 s7
  | 1, _ => t_1 k d x y r0 e2 e3 s7
  | 2, _ => t_2 k d x y r0 e2 e3 s7
  | 3, _ => t_3 k d x y r0 e2 e3 s7
  | 4, _ => t_4 k d x y r0 e2 e3 s7
  | 5, _ => t_5 k d x y r0 e2 e3 s7
  | 6, _ => t_6 k d x y r0 e2 e3 s7
  | 7, _ => t_7 k d x y r0 e2 e3 s7
  | 8, _ => t_8 k d x y r0 e2 e3 s7
  | 9, _ => t_9 k d x y r0 e2 e3 s7
  | 10, _ => t_10 k d x y r0 e2 e3 s7
  | 11, _ => t_11 k d x y r0 e2 e3 s7
  | 12, _ => t_12 k d x y r0 e2 e3 s7
  | 13, _ => t_13 k d x y r0 e2 e3 s7
  | 14, _ => t_14 k d x y r0 e2 e3 s7
  | 15, _ => t_15 k d x y r0 e2 e3 s7
  | 16, _ => t_16 k d x y r0 e2 e3 s7
  | 17, _ => t_17 k d x y r0 e2 e3 s7
  | 18, _ => t_18 k d x y r0 e2 e3 s7
  | 19, _ => t_19 k d x y r0 e2 e3 s7
  | 20, _ => t_20 k d x y r0 e2 e3 s7
  | 21, _ => t_21 k d x y r0 e2 e3 s7
  | 22, _ => t_22 k d x y r0 e2 e3 s7
  | 23, _ => t_23 k d x y r0 e2 e3 s7
  | 24, _ => t_24 k d x y r0 e2 e3 s7
  | 25, _ => t_25 k d x y r0 e2 e3 s7
  | 26, _ => t_26 k d x y r0 e2 e3 s7
  | 27, _ => t_27 k d x y r0 e2 e3 s7
  | 28, _ => t_28 k d x y r0 e2 e3 s7
  | 29, _ => t_29 k d x y r0 e2 e3 s7
  | 30, _ => t_30 k d x y r0 e2 e3 s7
  | 31, _ => t_31 k d x y r0 e2 e3 s7
  | 32, _ => t_32 k d x y r0 e2 e3 s7
  | 33, _ => t_33 k d x y r0 e2 e3 s7
  | 34, _ => t_34 k d x y r0 e2 e3 s7
  | 35, _ => t_35 k d x y r0 e2 e3 s7
  | 36, _ => t_36 k d x y r0 e2 e3 s7
  | 37, _ => t_37 k d x y r0 e2 e3 s7
  | 38, _ => t_38 k d x y r0 e2 e3 s7
  | 39, _ => t_39 k d x y r0 e2 e3 s7
  | 40, _ => t_40 k d x y r0 e2 e3 s7
  | 41, _ => t_41 k d x y r0 e2 e3 s7
  | 42, _ => t_42 k d x y r0 e2 e3 s7
  | 43, _ => t_43 k d x y r0 e2 e3 s7
  | 44, _ => t_44 k d x y r0 e2 e3 s7
  | n + 45, z => absurd z (by omega)
end K00
end Dy

set_option Elab.async false
set_option linter.all false
set_option maxRecDepth 100000
set_option maxHeartbeats 4000000
namespace Dy
namespace K00
open PySem PySem.Spec L2 Dy LamX
theorem mEq_intN {i : Int} : mEq true (.int i) (.int i) = some (.bl false) := by
  have e : eqS (.int i) (.int i) = some (decide (V.int i = V.int i)) := rfl
  unfold mEq
  rw [e]
  simp
/-- data that are the very values -/
def Iss (ds : List D) : Prop := ∀ d ∈ ds, ∃ v x, d = .is v x ∧ Good x
theorem zip_same {ds : List D} (h : Iss ds) : (zipD ds ds).length = ds.length ∧ ∀ d ∈ zipD ds ds, ∃ v x, Good x ∧ d = .tup [.is v x, .is v x] := by
  induction ds with
  | nil => exact ⟨rfl, fun d hd => absurd hd (by simp [zipD])⟩
  | cons e ds ih =>
    obtain ⟨h1, h2⟩ := ih fun d hd => h d (List.mem_cons_of_mem _ hd)
    unfold zipD
    refine ⟨by simp [h1], fun d hd => ?_⟩
    rcases List.mem_cons.mp hd with rfl | hd
    · obtain ⟨v, x, rfl, g⟩ := h e List.mem_cons_self
      exact ⟨v, x, g, rfl⟩
    · exact h2 d hd
theorem dsJ_is {v u : V} {x y : D} (gx : Good x) (gy : Good y) (j : Nat) : Iss (dsJ (.is v x) (.is u y) j) ∧ (dsJ (.is v x) (.is u y) j).length ≤ 2 := by
  unfold dsJ
  split
  · refine ⟨fun d hd => ?_, by simp⟩
    simp at hd
    exact ⟨v, x, hd, gx⟩
  · refine ⟨fun d hd => ?_, by simp⟩
    simp at hd
    rcases hd with rfl | rfl
    · exact ⟨v, x, rfl, gx⟩
    · exact ⟨u, y, rfl, gy⟩
theorem last_ok {k : Nat} {ds : List D} (h : Iss ds) (hl : ds.length ≤ 2) {s0 s1 s2 s3 s4 s6 : LV} : lastR k [s0, s1, s2, s3, s4, .im (.lst ds) false, s6, .im (.lst ds) false, .no, .no, .no, .no] = .nx [s0, s1, s2, s3, s4, .im (.lst ds) false, s6, .im (.lst ds) false, .no, .no, .no, .no] := by
  obtain ⟨z1, z2⟩ := zip_same h
  obtain ⟨es, S', h1, h2, hP, h4⟩ := comp_inv (P := fun S => S = [s0, s1, s2, s3, s4, .im (.lst ds) false, s6, .im (.lst ds) false, .no, .no, .no, .no]) (Q := fun d => ∃ v x, Good x ∧ d = .tup [.is v x, .is v x]) (R := fun d => d = .bl true) (mg := mgTup 2 (mgCons (mgName 10) (mgCons (mgName 11) (mgNil)))) (mt := mYes) (me := mFn (m__law_very (k + 3)) 3 (mAIm (mVar 10) (mAIm (mVar 11) (mANil)))) (vs := [10, 11]) (S0 := [s0, s1, s2, s3, s4, .im (.lst ds) false, s6, .im (.lst ds) false, .no, .no, .no, .no])
    (fun d S hd hS => by
      obtain ⟨v, x, g, rfl⟩ := hd
      subst hS
      refine ⟨[s0, s1, s2, s3, s4, .im (.lst ds) false, s6, .im (.lst ds) false, .no, .no, .im (.is v x) false, .im (.is v x) false], _, [s0, s1, s2, s3, s4, .im (.lst ds) false, s6, .im (.lst ds) false, .no, .no, .im (.is v x) false, .im (.is v x) false], (.bl true, none), rfl, rfl, ?_, rfl, rfl⟩
      exact fn_2 (x := (.is v x, some 10)) (y := (.is v x, some 11)) rfl rfl (very_ok g))
    (zipD ds ds) [] [s0, s1, s2, s3, s4, .im (.lst ds) false, s6, .im (.lst ds) false, .no, .no, .no, .no] z2 (by simp; omega) rfl
  subst hP
  have hc : mComp (mZip (mCons (mVar 7) (mCons (mVar 5) (mNil)))) (mgTup 2 (mgCons (mgName 10) (mgCons (mgName 11) (mgNil)))) (mYes) (mFn (m__law_very (k + 3)) 3 (mAIm (mVar 10) (mAIm (mVar 11) (mANil)))) [10, 11] [s0, s1, s2, s3, s4, .im (.lst ds) false, s6, .im (.lst ds) false, .no, .no, .no, .no] = .ok es [s0, s1, s2, s3, s4, .im (.lst ds) false, s6, .im (.lst ds) false, .no, .no, .no, .no] := by
    unfold mComp
    rw [show mZip (mCons (mVar 7) (mCons (mVar 5) (mNil))) [s0, s1, s2, s3, s4, .im (.lst ds) false, s6, .im (.lst ds) false, .no, .no, .no, .no] = .ok (zipD ds ds) [s0, s1, s2, s3, s4, .im (.lst ds) false, s6, .im (.lst ds) false, .no, .no, .no, .no] from rfl]
    exact h4
  have ha := call_frz (f := allD) hc (all_true h2)
  have l0 : mCall lenD (mCons (mVar 7) (mNil)) [s0, s1, s2, s3, s4, .im (.lst ds) false, s6, .im (.lst ds) false, .no, .no, .no, .no] = .ok (.int ds.length, none) [s0, s1, s2, s3, s4, .im (.lst ds) false, s6, .im (.lst ds) false, .no, .no, .no, .no] := rfl
  have l1 : mCall lenD (mCons (mVar 5) (mNil)) [s0, s1, s2, s3, s4, .im (.lst ds) false, s6, .im (.lst ds) false, .no, .no, .no, .no] = .ok (.int ds.length, none) [s0, s1, s2, s3, s4, .im (.lst ds) false, s6, .im (.lst ds) false, .no, .no, .no, .no] := rfl
  simp [lastR, mIfS, mOrT, mTst, mBin, l0, l1, mEq_intN, ha, Res.bind, Res.of, Res.sb, asB, mNotT, mTru, truD, mNext]
theorem right_ok {k j : Nat} (hj : j < 45) {v u : V} {x y : D} (gx : Good x) (gy : Good y) : ∃ S, m__law_e_right (k + 4) [.im (rowD (.is v x) (.is u y) j) true, .im (.int j) true, .no, .no, .no, .no, .no, .no, .no, .no, .no, .no] = .rt (.bl true) S := by
  obtain ⟨hi, hl⟩ := dsJ_is (v := v) (u := u) gx gy j
  obtain ⟨S', e1, a6, a7, rfl⟩ := forL_inv (P := fun S => ∃ a6 a7, S = [.im (rowD (.is v x) (.is u y) j) true, .im (.int j) true, .im (exJ (.is v x) (.is u y) j) false, .im (exJ (.is v x) (.is u y) j) false, .im (.fn j []) false, .im (.lst (dsJ (.is v x) (.is u y) j)) false, a6, a7, .no, .no, .no, .no]) (Q := fun d => d = exJ (.is v x) (.is u y) j) (mg := mgName 6) (mb := bodyR k (lastR k))
    (fun d S hd hS => by
      obtain ⟨a6, a7, rfl⟩ := hS
      subst hd
      refine ⟨_, [.im (rowD (.is v x) (.is u y) j) true, .im (.int j) true, .im (exJ (.is v x) (.is u y) j) false, .im (exJ (.is v x) (.is u y) j) false, .im (.fn j []) false, .im (.lst (dsJ (.is v x) (.is u y) j)) false, .im (exJ (.is v x) (.is u y) j) false, .im (.lst (dsJ (.is v x) (.is u y) j)) false, .no, .no, .no, .no], rfl, ?_, _, _, rfl⟩
      exact (t_all hj k (lastR k) (.is v x) (.is u y) _ _ _ a7).trans (last_ok hi hl))
    [exJ (.is v x) (.is u y) j, exJ (.is v x) (.is u y) j] (fun d hd => by simpa using hd) [.im (rowD (.is v x) (.is u y) j) true, .im (.int j) true, .im (exJ (.is v x) (.is u y) j) false, .im (exJ (.is v x) (.is u y) j) false, .im (.fn j []) false, .im (.lst (dsJ (.is v x) (.is u y) j)) false, .no, .no, .no, .no, .no, .no] ⟨_, _, rfl⟩
  refine ⟨[.im (rowD (.is v x) (.is u y) j) true, .im (.int j) true, .im (exJ (.is v x) (.is u y) j) false, .im (exJ (.is v x) (.is u y) j) false, .im (.fn j []) false, .im (.lst (dsJ (.is v x) (.is u y) j)) false, a6, a7, .no, .no, .no, .no], ?_⟩
  show b__law_e_right (k + 2) _ = _
  have e2 : b__law_e_right (k + 2) = mSeq (mSet (mVar 0) (mgTup 4 (mgCons (mgName 2) (mgCons (mgName 3) (mgCons (mgName 4) (mgCons (mgName 5) (mgNil))))))) (mSeq (mFor (mItems (mFrz (mLst (mCons (mVar 2) (mCons (mVar 3) (mNil)))))) (mgName 6) (bodyR k (lastR k))) (mRet (mC (.bl true)))) := rfl
  rw [e2]
  refine (seq_nx (S1 := [.im (rowD (.is v x) (.is u y) j) true, .im (.int j) true, .im (exJ (.is v x) (.is u y) j) false, .im (exJ (.is v x) (.is u y) j) false, .im (.fn j []) false, .im (.lst (dsJ (.is v x) (.is u y) j)) false, .no, .no, .no, .no, .no, .no]) ?_).trans ?_
  · rfl
  refine (seq_nx (S1 := [.im (rowD (.is v x) (.is u y) j) true, .im (.int j) true, .im (exJ (.is v x) (.is u y) j) false, .im (exJ (.is v x) (.is u y) j) false, .im (.fn j []) false, .im (.lst (dsJ (.is v x) (.is u y) j)) false, a6, a7, .no, .no, .no, .no]) ?_).trans ?_
  · unfold mFor
    rw [show mItems (mFrz (mLst (mCons (mVar 2) (mCons (mVar 3) (mNil))))) [.im (rowD (.is v x) (.is u y) j) true, .im (.int j) true, .im (exJ (.is v x) (.is u y) j) false, .im (exJ (.is v x) (.is u y) j) false, .im (.fn j []) false, .im (.lst (dsJ (.is v x) (.is u y) j)) false, .no, .no, .no, .no, .no, .no] = .ok [exJ (.is v x) (.is u y) j, exJ (.is v x) (.is u y) j] [.im (rowD (.is v x) (.is u y) j) true, .im (.int j) true, .im (exJ (.is v x) (.is u y) j) false, .im (exJ (.is v x) (.is u y) j) false, .im (.fn j []) false, .im (.lst (dsJ (.is v x) (.is u y) j)) false, .no, .no, .no, .no, .no, .no] from rfl]
    exact e1
  rfl
end K00
end Dy

set_option Elab.async false
set_option linter.all false
set_option maxRecDepth 100000
set_option maxHeartbeats 4000000
namespace Dy
namespace K00
open PySem PySem.Spec L2 Dy LamX

theorem found_eq (k : Nat) (x y : D) (s0 s1 s2 s3 s4 s7 s8 s9 s10 s11 : LV) : (mBin addD (mBin addD (mBin addD (mFn (m__law_e_first (k + 4)) 2 (mAIm (mVar 5) (mANil))) (mFn (m__law_e_second (k + 4)) 2 (mAIm (mVar 5) (mANil)))) (mFn (m__law_e_third (k + 4)) 2 (mAIm (mVar 5) (mANil)))) (mFn (m__law_e_fourth (k + 4)) 3 (mAIm (mVar 5) (mAIm (mVar 6) (mANil))))) [s0, s1, s2, s3, s4, .im x false, .im y false, s7, s8, s9, s10, s11] = .ok (.lst (rows x y), none) [s0, s1, s2, s3, s4, .im x false, .im y false, s7, s8, s9, s10, s11] := by kernel_rfl
theorem other_eq (k : Nat) (x y : D) (s0 s1 s2 s3 s4 s7 s8 s9 s10 s11 : LV) : (mBin addD (mBin addD (mBin addD (mFn (m__law_e_first (k + 4)) 2 (mAIm (mVar 6) (mANil))) (mFn (m__law_e_second (k + 4)) 2 (mAIm (mVar 6) (mANil)))) (mFn (m__law_e_third (k + 4)) 2 (mAIm (mVar 6) (mANil)))) (mFn (m__law_e_fourth (k + 4)) 3 (mAIm (mVar 6) (mAIm (mVar 5) (mANil))))) [s0, s1, s2, s3, s4, .im x false, .im y false, s7, s8, s9, s10, s11] = .ok (.lst (rows y x), none) [s0, s1, s2, s3, s4, .im x false, .im y false, s7, s8, s9, s10, s11] := by kernel_rfl
theorem enum_range {f : Nat → D} : ∀ m n : Nat, enumFrom n ((List.range' n m).map f) = (List.range' n m).map fun i => .tup [.int i, f i]
  | 0, _ => rfl
  | m + 1, n => by
    rw [List.range'_succ, List.map_cons, List.map_cons, ← enum_range m (n + 1)]
    rfl
theorem enum_rows {x y : D} : ∀ d ∈ enumFrom 0 (rows x y), ∃ j : Nat, j < 45 ∧ d = .tup [.int j, rowD x y j] := fun d hd => by
  unfold rows at hd
  rw [List.range_eq_range', enum_range] at hd
  obtain ⟨j, hj, e⟩ := List.mem_map.mp hd
  rw [List.mem_range'_1] at hj
  exact ⟨j, by omega, e.symm⟩
theorem rows_at {x y : D} {j : Nat} (hj : j < 45) : atI (rows x y) (j : Int) = some (rowD x y j) := by
  unfold atI ixN
  have hl : (rows x y).length = 45 := by unfold rows; simp
  rw [if_pos (by omega), hl]
  have h2 : (rows x y)[j]? = some (rowD x y j) := by
    unfold rows
    rw [List.getElem?_map, List.getElem?_range hj] <;> rfl
  have h3 : (j : Int) < 45 := by omega
  simp [h3, h2]
theorem en3 {R : List D} {s0 s1 s2 s4 s5 s6 s7 s8 s9 s10 s11 : LV} : mEnum (mCons (mVar 3) (mNil)) [s0, s1, s2, .im (.lst R) false, s4, s5, s6, s7, s8, s9, s10, s11] = .ok (enumFrom 0 R) [s0, s1, s2, .im (.lst R) false, s4, s5, s6, s7, s8, s9, s10, s11] := rfl
theorem en4 {R : List D} {s0 s1 s2 s3 s5 s6 s7 s8 s9 s10 s11 : LV} : mEnum (mCons (mVar 4) (mNil)) [s0, s1, s2, s3, .im (.lst R) false, s5, s6, s7, s8, s9, s10, s11] = .ok (enumFrom 0 R) [s0, s1, s2, s3, .im (.lst R) false, s5, s6, s7, s8, s9, s10, s11] := rfl
theorem loop1 {k : Nat} {v u : V} {x y : D} (gx : Good x) (gy : Good y) {s0 s1 s2 s3 s4 s9 s10 s11 : LV} (s7 s8 : LV) : ∃ a7 a8, mFor (mEnum (mCons (mVar 3) (mNil))) (mgTup 2 (mgCons (mgName 7) (mgCons (mgName 8) (mgNil)))) (mIfS (mNotT (mTru (mFn (m__law_e_right (k + 4)) 12 (mAIm (mVar 8) (mAIm (mVar 7) (mANil)))))) (mRet (mC (.bl false))) (mNext)) [s0, s1, s2, .im (.lst (rows (.is v x) (.is u y))) false, s4, .im (.is v x) false, .im (.is u y) false, s7, s8, s9, s10, s11] = .nx [s0, s1, s2, .im (.lst (rows (.is v x) (.is u y))) false, s4, .im (.is v x) false, .im (.is u y) false, a7, a8, s9, s10, s11] := by
  obtain ⟨S', e1, a7, a8, rfl⟩ := forL_inv (P := fun S => ∃ a7 a8, S = [s0, s1, s2, .im (.lst (rows (.is v x) (.is u y))) false, s4, .im (.is v x) false, .im (.is u y) false, a7, a8, s9, s10, s11]) (Q := fun d => ∃ j : Nat, j < 45 ∧ d = .tup [.int j, rowD (.is v x) (.is u y) j]) (mg := mgTup 2 (mgCons (mgName 7) (mgCons (mgName 8) (mgNil)))) (mb := mIfS (mNotT (mTru (mFn (m__law_e_right (k + 4)) 12 (mAIm (mVar 8) (mAIm (mVar 7) (mANil)))))) (mRet (mC (.bl false))) (mNext))
    (fun d S hd hS => by
      obtain ⟨j, hj, rfl⟩ := hd
      obtain ⟨a7, a8, rfl⟩ := hS
      refine ⟨[s0, s1, s2, .im (.lst (rows (.is v x) (.is u y))) false, s4, .im (.is v x) false, .im (.is u y) false, .im (.int j) false, .im (rowD (.is v x) (.is u y) j) false, s9, s10, s11], [s0, s1, s2, .im (.lst (rows (.is v x) (.is u y))) false, s4, .im (.is v x) false, .im (.is u y) false, .im (.int j) false, .im (rowD (.is v x) (.is u y) j) false, s9, s10, s11], rfl, ?_, _, _, rfl⟩
      have e := fn_2 (mb := m__law_e_right (k + 4)) (nN := 12) (a := mVar 8) (b := mVar 7) (S := [s0, s1, s2, .im (.lst (rows (.is v x) (.is u y))) false, s4, .im (.is v x) false, .im (.is u y) false, .im (.int j) false, .im (rowD (.is v x) (.is u y) j) false, s9, s10, s11]) (x := (rowD (.is v x) (.is u y) j, some 8)) (y := (.int j, some 7)) rfl rfl (right_ok (k := k) hj gx gy)
      simp [mIfS, mNotT, mTru, e, Res.bind, Res.of, Res.sb, truD, mNext])
    (enumFrom 0 (rows (.is v x) (.is u y))) enum_rows [s0, s1, s2, .im (.lst (rows (.is v x) (.is u y))) false, s4, .im (.is v x) false, .im (.is u y) false, s7, s8, s9, s10, s11] ⟨_, _, rfl⟩
  refine ⟨a7, a8, ?_⟩
  unfold mFor
  rw [en3, Res.sb_ok]
  exact e1
theorem loop2 {k : Nat} {v u : V} {x y : D} (gx : Good x) (gy : Good y) {s0 s1 s2 s9 s10 s11 : LV} (s7 s8 : LV) : ∃ a7 a8, mFor (mEnum (mCons (mVar 4) (mNil))) (mgTup 2 (mgCons (mgName 7) (mgCons (mgName 8) (mgNil)))) (mIfS (mOrT (mNotT (mTru (mFn (m__law_e_right (k + 4)) 12 (mAIm (mVar 8) (mAIm (mVar 7) (mANil)))))) (mNotT (mTru (mFn (m__law_e_right (k + 4)) 12 (mAIm (mBin ixD (mVar 3) (mVar 7)) (mAIm (mVar 7) (mANil))))))) (mRet (mC (.bl false))) (mNext)) [s0, s1, s2, .im (.lst (rows (.is v x) (.is u y))) false, .im (.lst (rows (.is u y) (.is v x))) false, .im (.is v x) false, .im (.is u y) false, s7, s8, s9, s10, s11] = .nx [s0, s1, s2, .im (.lst (rows (.is v x) (.is u y))) false, .im (.lst (rows (.is u y) (.is v x))) false, .im (.is v x) false, .im (.is u y) false, a7, a8, s9, s10, s11] := by
  obtain ⟨S', e1, a7, a8, rfl⟩ := forL_inv (P := fun S => ∃ a7 a8, S = [s0, s1, s2, .im (.lst (rows (.is v x) (.is u y))) false, .im (.lst (rows (.is u y) (.is v x))) false, .im (.is v x) false, .im (.is u y) false, a7, a8, s9, s10, s11]) (Q := fun d => ∃ j : Nat, j < 45 ∧ d = .tup [.int j, rowD (.is u y) (.is v x) j]) (mg := mgTup 2 (mgCons (mgName 7) (mgCons (mgName 8) (mgNil)))) (mb := mIfS (mOrT (mNotT (mTru (mFn (m__law_e_right (k + 4)) 12 (mAIm (mVar 8) (mAIm (mVar 7) (mANil)))))) (mNotT (mTru (mFn (m__law_e_right (k + 4)) 12 (mAIm (mBin ixD (mVar 3) (mVar 7)) (mAIm (mVar 7) (mANil))))))) (mRet (mC (.bl false))) (mNext))
    (fun d S hd hS => by
      obtain ⟨j, hj, rfl⟩ := hd
      obtain ⟨a7, a8, rfl⟩ := hS
      refine ⟨[s0, s1, s2, .im (.lst (rows (.is v x) (.is u y))) false, .im (.lst (rows (.is u y) (.is v x))) false, .im (.is v x) false, .im (.is u y) false, .im (.int j) false, .im (rowD (.is u y) (.is v x) j) false, s9, s10, s11], [s0, s1, s2, .im (.lst (rows (.is v x) (.is u y))) false, .im (.lst (rows (.is u y) (.is v x))) false, .im (.is v x) false, .im (.is u y) false, .im (.int j) false, .im (rowD (.is u y) (.is v x) j) false, s9, s10, s11], rfl, ?_, _, _, rfl⟩
      have e := fn_2 (mb := m__law_e_right (k + 4)) (nN := 12) (a := mVar 8) (b := mVar 7) (S := [s0, s1, s2, .im (.lst (rows (.is v x) (.is u y))) false, .im (.lst (rows (.is u y) (.is v x))) false, .im (.is v x) false, .im (.is u y) false, .im (.int j) false, .im (rowD (.is u y) (.is v x) j) false, s9, s10, s11]) (x := (rowD (.is u y) (.is v x) j, some 8)) (y := (.int j, some 7)) rfl rfl (right_ok (k := k) hj gy gx)
      have e2 := fn_2 (mb := m__law_e_right (k + 4)) (nN := 12) (a := mBin ixD (mVar 3) (mVar 7)) (b := mVar 7) (S := [s0, s1, s2, .im (.lst (rows (.is v x) (.is u y))) false, .im (.lst (rows (.is u y) (.is v x))) false, .im (.is v x) false, .im (.is u y) false, .im (.int j) false, .im (rowD (.is u y) (.is v x) j) false, s9, s10, s11]) (x := (rowD (.is v x) (.is u y) j, none)) (y := (.int j, some 7)) (by
        show Res.of ((atI (rows (.is v x) (.is u y)) (j : Int)).map fun d => (d, none)) _ = _
        rw [rows_at hj] <;> rfl) rfl (right_ok (k := k) hj gx gy)
      simp [mIfS, mOrT, mNotT, mTru, e, e2, Res.bind, Res.of, Res.sb, truD, mNext])
    (enumFrom 0 (rows (.is u y) (.is v x))) enum_rows [s0, s1, s2, .im (.lst (rows (.is v x) (.is u y))) false, .im (.lst (rows (.is u y) (.is v x))) false, .im (.is v x) false, .im (.is u y) false, s7, s8, s9, s10, s11] ⟨_, _, rfl⟩
  refine ⟨a7, a8, ?_⟩
  unfold mFor
  rw [en4, Res.sb_ok]
  exact e1
theorem pin_ok {k : Nat} {v u : V} {x y : D} (gx : Good x) (gy : Good y) {s0 s1 s2 s3 s4 s7 s8 s9 s10 s11 : LV} : fgt keep (m_pin (k + 4) [s0, s1, s2, s3, s4, .im (.is v x) false, .im (.is u y) false, s7, s8, s9, s10, s11]) = .nx [s0, .no, .no, .no, .no, .no, .no, .no, .no, .no, .no, .no] := by
  obtain ⟨a7, a8, e1⟩ := loop1 (k := k) (v := v) (u := u) gx gy (s0 := s0) (s1 := s1) (s2 := s2) (s3 := s3) (s4 := s4) (s9 := s9) (s10 := s10) (s11 := s11) s7 s8
  obtain ⟨c7, c8, e2⟩ := loop2 (k := k) (v := v) (u := u) gx gy (s0 := s0) (s1 := s1) (s2 := s2) (s9 := s9) (s10 := s10) (s11 := s11) a7 a8
  unfold m_pin
  rw [seq_nx (show (mSet (mBin addD (mBin addD (mBin addD (mFn (m__law_e_first (k + 4)) 2 (mAIm (mVar 5) (mANil))) (mFn (m__law_e_second (k + 4)) 2 (mAIm (mVar 5) (mANil)))) (mFn (m__law_e_third (k + 4)) 2 (mAIm (mVar 5) (mANil)))) (mFn (m__law_e_fourth (k + 4)) 3 (mAIm (mVar 5) (mAIm (mVar 6) (mANil))))) (mgName 3)) [s0, s1, s2, s3, s4, .im (.is v x) false, .im (.is u y) false, s7, s8, s9, s10, s11] = .nx [s0, s1, s2, .im (.lst (rows (.is v x) (.is u y))) false, s4, .im (.is v x) false, .im (.is u y) false, s7, s8, s9, s10, s11] by
    unfold mSet
    rw [found_eq]
    rfl), seq_nx e1, seq_nx (show (mSet (mBin addD (mBin addD (mBin addD (mFn (m__law_e_first (k + 4)) 2 (mAIm (mVar 6) (mANil))) (mFn (m__law_e_second (k + 4)) 2 (mAIm (mVar 6) (mANil)))) (mFn (m__law_e_third (k + 4)) 2 (mAIm (mVar 6) (mANil)))) (mFn (m__law_e_fourth (k + 4)) 3 (mAIm (mVar 6) (mAIm (mVar 5) (mANil))))) (mgName 4)) [s0, s1, s2, .im (.lst (rows (.is v x) (.is u y))) false, s4, .im (.is v x) false, .im (.is u y) false, a7, a8, s9, s10, s11] = .nx [s0, s1, s2, .im (.lst (rows (.is v x) (.is u y))) false, .im (.lst (rows (.is u y) (.is v x))) false, .im (.is v x) false, .im (.is u y) false, a7, a8, s9, s10, s11] by
    unfold mSet
    rw [other_eq]
    rfl), e2]
  rfl
theorem fnF_2 {mb : MS} {nN : Nat} {a b : ME} {S S1 S2 : List LV} {x y : EV} {l : List D} (ha : a S = .ok x S1) (hb : b S1 = .ok y S2) (h : ∃ Z, mb ([.im x.1 true, .im y.1 true] ++ List.replicate (nN - 2) .no) = .rf l Z) : mFnF mb nN (mAIm a (mAIm b mANil)) S = .ok l S2 := by
  obtain ⟨Z, h⟩ := h
  have f : List.filterMap ownAt [AV.im x.1 x.2, AV.im y.1 y.2] = [] := rfl
  have p : parsOf S2 [AV.im x.1 x.2, AV.im y.1 y.2] = some [.im x.1 true, .im y.1 true] := rfl
  simp only [mFnF, mAIm, mANil, ha, hb, Res.bind, mCallC, f, p, List.nodup_nil, if_true]
  rw [show ([LV.im x.1 true, .im y.1 true] : List LV).length = 2 from rfl, h]
  rfl
abbrev ZS (ns : List Int) : List LV := [.im (.scr ns) true, .no, .no, .no, .no, .no, .no, .no, .no, .no, .no, .no]
theorem turn_ok {k t : Nat} (ht : t < 3) {ns : List Int} : (mSeq (mSetO 2 (mFnF (m__law_spring (k + 4)) 6 (mAIm (mVar 0) (mAIm (mVar 1) (mANil))))) (mSeq (mPar 5 6 (mXi (mFn (m__law_e_drawn (k + 4)) 3 (mAOwn 2 (mANil)))) (mXi (mFn (m__law_e_drawn (k + 4)) 3 (mAOwn 2 (mANil))))) (mPin 5 6 keep (m_pin (k + 4))))) [.im (.scr ns) true, .im (.int t) false, .no, .no, .no, .no, .no, .no, .no, .no, .no, .no] = .nx (ZS ns) := by
  obtain ⟨l, Z, sp, e⟩ := spring_core (ns := ns) ht (k := k + 3)
  have e1 := fnF_2 (mb := m__law_spring (k + 4)) (nN := 6) (a := mVar 0) (b := mVar 1) (S := [.im (.scr ns) true, .im (.int t) false, .no, .no, .no, .no, .no, .no, .no, .no, .no, .no]) (x := (.scr ns, some 0)) (y := (.int t, some 1)) rfl rfl ⟨Z, e⟩
  refine (seq_nx (S1 := [.im (.scr ns) true, .im (.int t) false, .ow l false, .no, .no, .no, .no, .no, .no, .no, .no, .no]) ?_).trans ?_
  · unfold mSetO
    rw [e1]
    rfl
  obtain ⟨x, l1, gx, sp1, e2⟩ := drawn_call (S := [.im (.scr ns) true, .im (.int t) false, .ow l false, .no, .no, .no, .no, .no, .no, .no, .no, .no]) (j := 2) (p := false) (k := k + 1) rfl sp (by decide)
  obtain ⟨y, l2, gy, sp2, e3⟩ := drawn_call (S := [.im (.scr ns) true, .im (.int t) false, .ow l1 false, .no, .no, .no, .no, .no, .no, .no, .no, .no]) (j := 2) (p := false) (k := k + 1) rfl sp1 (by decide)
  refine (seq_nx (S1 := [.im (.scr ns) true, .im (.int t) false, .ow l2 false, .no, .no, .im x false, .im y false, .no, .no, .no, .no, .no]) ?_).trans ?_
  · have e2 : mFn (m__law_e_drawn (k + 4)) 3 (mAOwn 2 mANil) [.im (.scr ns) true, .im (.int t) false, .ow l false, .no, .no, .no, .no, .no, .no, .no, .no, .no] = .ok (x, none) [.im (.scr ns) true, .im (.int t) false, .ow l1 false, .no, .no, .no, .no, .no, .no, .no, .no, .no] := e2
    have e3 : mFn (m__law_e_drawn (k + 4)) 3 (mAOwn 2 mANil) [.im (.scr ns) true, .im (.int t) false, .ow l1 false, .no, .no, .no, .no, .no, .no, .no, .no, .no] = .ok (y, none) [.im (.scr ns) true, .im (.int t) false, .ow l2 false, .no, .no, .no, .no, .no, .no, .no, .no, .no] := e3
    simp [mPar, mXi, e2, e3, Res.bind, Res.sb, XV.lv]
  exact mPin_eq rfl rfl fun v u => pin_ok gx gy
theorem tail_ok {k : Nat} {ns : List Int} : (mSeq (mSet (mC (.int 45)) (mgName 9)) (mSeq (mIfS (mTst (mBin (mEq true) (mFrz (mComp (mEnum (mCons (mFn (m__law_e_kinds (k + 4)) 1 (mAIm (mExc "NothingDone" [] mNil) (mANil))) (mNil))) (mgTup 2 (mgCons (mgName 10) (mgCons (mgName 11) (mgNil)))) (mTru (mVar 11)) (mVar 10) [10, 11])) (mFrz (mLst (mCons (mVar 9) (mNil)))))) (mRet (mC (.bl false))) (mNext)) (mSeq (mIfS (mTst (mBin (mEq true) (mFrz (mComp (mEnum (mCons (mFn (m__law_e_kinds (k + 4)) 1 (mAIm (mExc "NothingUndone" [] mNil) (mANil))) (mNil))) (mgTup 2 (mgCons (mgName 10) (mgCons (mgName 11) (mgNil)))) (mTru (mVar 11)) (mVar 10) [10, 11])) (mFrz (mLst (mCons (mBin addD (mVar 9) (mC (.int 1))) (mNil)))))) (mRet (mC (.bl false))) (mNext)) (mRet (mAndV (mIsE xs (fun x => rel x "FloorError") (mExc "NothingDone" [] mNil)) (mIsE xs (fun x => rel x "FloorError") (mExc "NothingUndone" [] mNil))))))) (ZS ns) = .rt (.bl true) [.im (.scr ns) true, .no, .no, .no, .no, .no, .no, .no, .no, .im (.int 45) false, .no, .no] := by kernel_rfl
theorem law_true (ns : List Int) (hn : ns.length ≤ 63) : ∃ S, m_law 10 (.im (.scr ns) true :: List.replicate (12 - 1) .no) = .rt (.bl true) S := by
  obtain ⟨S', e1, hS⟩ := forL_inv (P := fun S => S = ZS ns) (Q := fun d => ∃ t : Nat, t < 3 ∧ d = .int t) (mg := mgName 1) (mb := mSeq (mSetO 2 (mFnF (m__law_spring 9) 6 (mAIm (mVar 0) (mAIm (mVar 1) (mANil))))) (mSeq (mPar 5 6 (mXi (mFn (m__law_e_drawn 9) 3 (mAOwn 2 (mANil)))) (mXi (mFn (m__law_e_drawn 9) 3 (mAOwn 2 (mANil))))) (mPin 5 6 keep (m_pin 9))))
    (fun d S hd hS => by
      obtain ⟨t, ht, rfl⟩ := hd
      subst hS
      exact ⟨_, _, rfl, turn_ok (k := 5) ht, rfl⟩) (rangeD 0 3) (fun d hd => by
      unfold rangeD at hd
      obtain ⟨i, hi, e⟩ := List.mem_map.mp hd
      exact ⟨i, by simpa using hi, by rw [← e, Int.zero_add]⟩) (ZS ns) rfl
  subst hS
  refine ⟨[.im (.scr ns) true, .no, .no, .no, .no, .no, .no, .no, .no, .im (.int 45) false, .no, .no], ?_⟩
  show b_law 9 (ZS ns) = _
  unfold b_law
  refine (seq_nx (S1 := ZS ns) ?_).trans (tail_ok (k := 5))
  unfold mFor
  rw [show mRng1 (mCons (mC (.int 3)) (mNil)) (ZS ns) = .ok (rangeD 0 3) (ZS ns) from rfl]
  exact e1

end K00
end Dy

set_option Elab.async false
set_option linter.all false
set_option maxRecDepth 100000
set_option maxHeartbeats 0
namespace Dy
namespace K00
open PySem PySem.Spec L2 Dy LamX
noncomputable section
def clsInit (i : Nat) : Stmt := match top i with
  | .ClassDef _ _ _ b _ _ _ _ _ _ _ => b.getD 0 (.Pass ⟨0, 0, 0, 0⟩)
  | _ => .Pass ⟨0, 0, 0, 0⟩
theorem it_BadQuestion : InitT (clsInit 12) [("question", "question")] := ⟨by decide, by decide +kernel, by decide +kernel, ⟨_, _, _, _, _, _, _, _, _, (defBody (clsInit 12)).tail, rfl, rfl, ⟨by decide +kernel, by decide +kernel, by decide +kernel, by decide +kernel, by decide +kernel, rfl, rfl, rfl⟩, (.cons (.nil) : AsB _ _), rfl, rfl⟩, fun _ _ _ _ _ _ _ u us hl => match us, hl with
  | [_], _ => ⟨rfl, rfl⟩⟩
theorem it_BadChange : InitT (clsInit 14) [("change", "change")] := ⟨by decide, by decide +kernel, by decide +kernel, ⟨_, _, _, _, _, _, _, _, _, (defBody (clsInit 14)).tail, rfl, rfl, ⟨by decide +kernel, by decide +kernel, by decide +kernel, by decide +kernel, by decide +kernel, rfl, rfl, rfl⟩, (.cons (.nil) : AsB _ _), rfl, rfl⟩, fun _ _ _ _ _ _ _ u us hl => match us, hl with
  | [_], _ => ⟨rfl, rfl⟩⟩
theorem it_BadClaim : InitT (clsInit 16) [("claim", "claim")] := ⟨by decide, by decide +kernel, by decide +kernel, ⟨_, _, _, _, _, _, _, _, _, (defBody (clsInit 16)).tail, rfl, rfl, ⟨by decide +kernel, by decide +kernel, by decide +kernel, by decide +kernel, by decide +kernel, rfl, rfl, rfl⟩, (.cons (.nil) : AsB _ _), rfl, rfl⟩, fun _ _ _ _ _ _ _ u us hl => match us, hl with
  | [_], _ => ⟨rfl, rfl⟩⟩
theorem it_BadClaims : InitT (clsInit 17) [("claims", "claims")] := ⟨by decide, by decide +kernel, by decide +kernel, ⟨_, _, _, _, _, _, _, _, _, (defBody (clsInit 17)).tail, rfl, rfl, ⟨by decide +kernel, by decide +kernel, by decide +kernel, by decide +kernel, by decide +kernel, rfl, rfl, rfl⟩, (.cons (.nil) : AsB _ _), rfl, rfl⟩, fun _ _ _ _ _ _ _ u us hl => match us, hl with
  | [_], _ => ⟨rfl, rfl⟩⟩
theorem it_BadCode : InitT (clsInit 19) [("code", "code")] := ⟨by decide, by decide +kernel, by decide +kernel, ⟨_, _, _, _, _, _, _, _, _, (defBody (clsInit 19)).tail, rfl, rfl, ⟨by decide +kernel, by decide +kernel, by decide +kernel, by decide +kernel, by decide +kernel, rfl, rfl, rfl⟩, (.cons (.nil) : AsB _ _), rfl, rfl⟩, fun _ _ _ _ _ _ _ u us hl => match us, hl with
  | [_], _ => ⟨rfl, rfl⟩⟩
theorem it_BadClasses : InitT (clsInit 21) [("classes", "classes")] := ⟨by decide, by decide +kernel, by decide +kernel, ⟨_, _, _, _, _, _, _, _, _, (defBody (clsInit 21)).tail, rfl, rfl, ⟨by decide +kernel, by decide +kernel, by decide +kernel, by decide +kernel, by decide +kernel, rfl, rfl, rfl⟩, (.cons (.nil) : AsB _ _), rfl, rfl⟩, fun _ _ _ _ _ _ _ u us hl => match us, hl with
  | [_], _ => ⟨rfl, rfl⟩⟩
theorem it_NoCover : InitT (clsInit 22) [("classes", "classes")] := ⟨by decide, by decide +kernel, by decide +kernel, ⟨_, _, _, _, _, _, _, _, _, (defBody (clsInit 22)).tail, rfl, rfl, ⟨by decide +kernel, by decide +kernel, by decide +kernel, by decide +kernel, by decide +kernel, rfl, rfl, rfl⟩, (.cons (.nil) : AsB _ _), rfl, rfl⟩, fun _ _ _ _ _ _ _ u us hl => match us, hl with
  | [_], _ => ⟨rfl, rfl⟩⟩
theorem it_BadBook : InitT (clsInit 2) [("book", "book")] := ⟨by decide, by decide +kernel, by decide +kernel, ⟨_, _, _, _, _, _, _, _, _, (defBody (clsInit 2)).tail, rfl, rfl, ⟨by decide +kernel, by decide +kernel, by decide +kernel, by decide +kernel, by decide +kernel, rfl, rfl, rfl⟩, (.cons (.nil) : AsB _ _), rfl, rfl⟩, fun _ _ _ _ _ _ _ u us hl => match us, hl with
  | [_], _ => ⟨rfl, rfl⟩⟩
theorem it_BadLetter : InitT (clsInit 3) [("letter", "letter")] := ⟨by decide, by decide +kernel, by decide +kernel, ⟨_, _, _, _, _, _, _, _, _, (defBody (clsInit 3)).tail, rfl, rfl, ⟨by decide +kernel, by decide +kernel, by decide +kernel, by decide +kernel, by decide +kernel, rfl, rfl, rfl⟩, (.cons (.nil) : AsB _ _), rfl, rfl⟩, fun _ _ _ _ _ _ _ u us hl => match us, hl with
  | [_], _ => ⟨rfl, rfl⟩⟩
theorem it_BadNumber : InitT (clsInit 4) [("number", "number")] := ⟨by decide, by decide +kernel, by decide +kernel, ⟨_, _, _, _, _, _, _, _, _, (defBody (clsInit 4)).tail, rfl, rfl, ⟨by decide +kernel, by decide +kernel, by decide +kernel, by decide +kernel, by decide +kernel, rfl, rfl, rfl⟩, (.cons (.nil) : AsB _ _), rfl, rfl⟩, fun _ _ _ _ _ _ _ u us hl => match us, hl with
  | [_], _ => ⟨rfl, rfl⟩⟩
theorem it_BadPath : InitT (clsInit 5) [("path", "path")] := ⟨by decide, by decide +kernel, by decide +kernel, ⟨_, _, _, _, _, _, _, _, _, (defBody (clsInit 5)).tail, rfl, rfl, ⟨by decide +kernel, by decide +kernel, by decide +kernel, by decide +kernel, by decide +kernel, rfl, rfl, rfl⟩, (.cons (.nil) : AsB _ _), rfl, rfl⟩, fun _ _ _ _ _ _ _ u us hl => match us, hl with
  | [_], _ => ⟨rfl, rfl⟩⟩
theorem it_BadPlace : InitT (clsInit 6) [("place", "place")] := ⟨by decide, by decide +kernel, by decide +kernel, ⟨_, _, _, _, _, _, _, _, _, (defBody (clsInit 6)).tail, rfl, rfl, ⟨by decide +kernel, by decide +kernel, by decide +kernel, by decide +kernel, by decide +kernel, rfl, rfl, rfl⟩, (.cons (.nil) : AsB _ _), rfl, rfl⟩, fun _ _ _ _ _ _ _ u us hl => match us, hl with
  | [_], _ => ⟨rfl, rfl⟩⟩
theorem it_BadTree : InitT (clsInit 7) [("tree", "tree")] := ⟨by decide, by decide +kernel, by decide +kernel, ⟨_, _, _, _, _, _, _, _, _, (defBody (clsInit 7)).tail, rfl, rfl, ⟨by decide +kernel, by decide +kernel, by decide +kernel, by decide +kernel, by decide +kernel, rfl, rfl, rfl⟩, (.cons (.nil) : AsB _ _), rfl, rfl⟩, fun _ _ _ _ _ _ _ u us hl => match us, hl with
  | [_], _ => ⟨rfl, rfl⟩⟩
theorem it_NoName : InitT (clsInit 8) [("named", "named")] := ⟨by decide, by decide +kernel, by decide +kernel, ⟨_, _, _, _, _, _, _, _, _, (defBody (clsInit 8)).tail, rfl, rfl, ⟨by decide +kernel, by decide +kernel, by decide +kernel, by decide +kernel, by decide +kernel, rfl, rfl, rfl⟩, (.cons (.nil) : AsB _ _), rfl, rfl⟩, fun _ _ _ _ _ _ _ u us hl => match us, hl with
  | [_], _ => ⟨rfl, rfl⟩⟩
theorem it_Refused : InitT (clsInit 9) [("path", "path")] := ⟨by decide, by decide +kernel, by decide +kernel, ⟨_, _, _, _, _, _, _, _, _, (defBody (clsInit 9)).tail, rfl, rfl, ⟨by decide +kernel, by decide +kernel, by decide +kernel, by decide +kernel, by decide +kernel, rfl, rfl, rfl⟩, (.cons (.nil) : AsB _ _), rfl, rfl⟩, fun _ _ _ _ _ _ _ u us hl => match us, hl with
  | [_], _ => ⟨rfl, rfl⟩⟩
theorem it_TooGreat : InitT (clsInit 10) [("most", "most")] := ⟨by decide, by decide +kernel, by decide +kernel, ⟨_, _, _, _, _, _, _, _, _, (defBody (clsInit 10)).tail, rfl, rfl, ⟨by decide +kernel, by decide +kernel, by decide +kernel, by decide +kernel, by decide +kernel, rfl, rfl, rfl⟩, (.cons (.nil) : AsB _ _), rfl, rfl⟩, fun _ _ _ _ _ _ _ u us hl => match us, hl with
  | [_], _ => ⟨rfl, rfl⟩⟩
theorem it_BadBase : InitT (clsInit 24) [("base", "base")] := ⟨by decide, by decide +kernel, by decide +kernel, ⟨_, _, _, _, _, _, _, _, _, (defBody (clsInit 24)).tail, rfl, rfl, ⟨by decide +kernel, by decide +kernel, by decide +kernel, by decide +kernel, by decide +kernel, rfl, rfl, rfl⟩, (.cons (.nil) : AsB _ _), rfl, rfl⟩, fun _ _ _ _ _ _ _ u us hl => match us, hl with
  | [_], _ => ⟨rfl, rfl⟩⟩
theorem it_BadBases : InitT (clsInit 25) [("bases", "bases")] := ⟨by decide, by decide +kernel, by decide +kernel, ⟨_, _, _, _, _, _, _, _, _, (defBody (clsInit 25)).tail, rfl, rfl, ⟨by decide +kernel, by decide +kernel, by decide +kernel, by decide +kernel, by decide +kernel, rfl, rfl, rfl⟩, (.cons (.nil) : AsB _ _), rfl, rfl⟩, fun _ _ _ _ _ _ _ u us hl => match us, hl with
  | [_], _ => ⟨rfl, rfl⟩⟩
theorem it_BadFigures : InitT (clsInit 26) [("figures", "figures")] := ⟨by decide, by decide +kernel, by decide +kernel, ⟨_, _, _, _, _, _, _, _, _, (defBody (clsInit 26)).tail, rfl, rfl, ⟨by decide +kernel, by decide +kernel, by decide +kernel, by decide +kernel, by decide +kernel, rfl, rfl, rfl⟩, (.cons (.nil) : AsB _ _), rfl, rfl⟩, fun _ _ _ _ _ _ _ u us hl => match us, hl with
  | [_], _ => ⟨rfl, rfl⟩⟩
theorem it_BadParts : InitT (clsInit 27) [("parts", "parts")] := ⟨by decide, by decide +kernel, by decide +kernel, ⟨_, _, _, _, _, _, _, _, _, (defBody (clsInit 27)).tail, rfl, rfl, ⟨by decide +kernel, by decide +kernel, by decide +kernel, by decide +kernel, by decide +kernel, rfl, rfl, rfl⟩, (.cons (.nil) : AsB _ _), rfl, rfl⟩, fun _ _ _ _ _ _ _ u us hl => match us, hl with
  | [_], _ => ⟨rfl, rfl⟩⟩
theorem it_BadForm : InitT (clsInit 29) [("form", "form")] := ⟨by decide, by decide +kernel, by decide +kernel, ⟨_, _, _, _, _, _, _, _, _, (defBody (clsInit 29)).tail, rfl, rfl, ⟨by decide +kernel, by decide +kernel, by decide +kernel, by decide +kernel, by decide +kernel, rfl, rfl, rfl⟩, (.cons (.nil) : AsB _ _), rfl, rfl⟩, fun _ _ _ _ _ _ _ u us hl => match us, hl with
  | [_], _ => ⟨rfl, rfl⟩⟩
theorem it_BadImage : InitT (clsInit 30) [("image", "image")] := ⟨by decide, by decide +kernel, by decide +kernel, ⟨_, _, _, _, _, _, _, _, _, (defBody (clsInit 30)).tail, rfl, rfl, ⟨by decide +kernel, by decide +kernel, by decide +kernel, by decide +kernel, by decide +kernel, rfl, rfl, rfl⟩, (.cons (.nil) : AsB _ _), rfl, rfl⟩, fun _ _ _ _ _ _ _ u us hl => match us, hl with
  | [_], _ => ⟨rfl, rfl⟩⟩
theorem it_BadWord : InitT (clsInit 31) [("word", "word")] := ⟨by decide, by decide +kernel, by decide +kernel, ⟨_, _, _, _, _, _, _, _, _, (defBody (clsInit 31)).tail, rfl, rfl, ⟨by decide +kernel, by decide +kernel, by decide +kernel, by decide +kernel, by decide +kernel, rfl, rfl, rfl⟩, (.cons (.nil) : AsB _ _), rfl, rfl⟩, fun _ _ _ _ _ _ _ u us hl => match us, hl with
  | [_], _ => ⟨rfl, rfl⟩⟩
theorem it_BadJournal : InitT (clsInit 33) [("journal", "journal")] := ⟨by decide, by decide +kernel, by decide +kernel, ⟨_, _, _, _, _, _, _, _, _, (defBody (clsInit 33)).tail, rfl, rfl, ⟨by decide +kernel, by decide +kernel, by decide +kernel, by decide +kernel, by decide +kernel, rfl, rfl, rfl⟩, (.cons (.nil) : AsB _ _), rfl, rfl⟩, fun _ _ _ _ _ _ _ u us hl => match us, hl with
  | [_], _ => ⟨rfl, rfl⟩⟩
theorem it_Wrong : InitT (clsInit 34) [("index", "index")] := ⟨by decide, by decide +kernel, by decide +kernel, ⟨_, _, _, _, _, _, _, _, _, (defBody (clsInit 34)).tail, rfl, rfl, ⟨by decide +kernel, by decide +kernel, by decide +kernel, by decide +kernel, by decide +kernel, rfl, rfl, rfl⟩, (.cons (.nil) : AsB _ _), rfl, rfl⟩, fun _ _ _ _ _ _ _ u us hl => match us, hl with
  | [_], _ => ⟨rfl, rfl⟩⟩
theorem it_BadWhich : InitT (clsInit 36) [("word", "word")] := ⟨by decide, by decide +kernel, by decide +kernel, ⟨_, _, _, _, _, _, _, _, _, (defBody (clsInit 36)).tail, rfl, rfl, ⟨by decide +kernel, by decide +kernel, by decide +kernel, by decide +kernel, by decide +kernel, rfl, rfl, rfl⟩, (.cons (.nil) : AsB _ _), rfl, rfl⟩, fun _ _ _ _ _ _ _ u us hl => match us, hl with
  | [_], _ => ⟨rfl, rfl⟩⟩
theorem it_BadChain : InitT (clsInit 38) [("chain", "chain")] := ⟨by decide, by decide +kernel, by decide +kernel, ⟨_, _, _, _, _, _, _, _, _, (defBody (clsInit 38)).tail, rfl, rfl, ⟨by decide +kernel, by decide +kernel, by decide +kernel, by decide +kernel, by decide +kernel, rfl, rfl, rfl⟩, (.cons (.nil) : AsB _ _), rfl, rfl⟩, fun _ _ _ _ _ _ _ u us hl => match us, hl with
  | [_], _ => ⟨rfl, rfl⟩⟩
theorem it_BadMove : InitT (clsInit 39) [("move", "move")] := ⟨by decide, by decide +kernel, by decide +kernel, ⟨_, _, _, _, _, _, _, _, _, (defBody (clsInit 39)).tail, rfl, rfl, ⟨by decide +kernel, by decide +kernel, by decide +kernel, by decide +kernel, by decide +kernel, rfl, rfl, rfl⟩, (.cons (.nil) : AsB _ _), rfl, rfl⟩, fun _ _ _ _ _ _ _ u us hl => match us, hl with
  | [_], _ => ⟨rfl, rfl⟩⟩
theorem it_Unfit : InitT (clsInit 40) [("move", "move")] := ⟨by decide, by decide +kernel, by decide +kernel, ⟨_, _, _, _, _, _, _, _, _, (defBody (clsInit 40)).tail, rfl, rfl, ⟨by decide +kernel, by decide +kernel, by decide +kernel, by decide +kernel, by decide +kernel, rfl, rfl, rfl⟩, (.cons (.nil) : AsB _ _), rfl, rfl⟩, fun _ _ _ _ _ _ _ u us hl => match us, hl with
  | [_], _ => ⟨rfl, rfl⟩⟩
theorem it_BadMoment : InitT (clsInit 42) [("moment", "moment")] := ⟨by decide, by decide +kernel, by decide +kernel, ⟨_, _, _, _, _, _, _, _, _, (defBody (clsInit 42)).tail, rfl, rfl, ⟨by decide +kernel, by decide +kernel, by decide +kernel, by decide +kernel, by decide +kernel, rfl, rfl, rfl⟩, (.cons (.nil) : AsB _ _), rfl, rfl⟩, fun _ _ _ _ _ _ _ u us hl => match us, hl with
  | [_], _ => ⟨rfl, rfl⟩⟩
theorem it_BadStep : InitT (clsInit 43) [("step", "step")] := ⟨by decide, by decide +kernel, by decide +kernel, ⟨_, _, _, _, _, _, _, _, _, (defBody (clsInit 43)).tail, rfl, rfl, ⟨by decide +kernel, by decide +kernel, by decide +kernel, by decide +kernel, by decide +kernel, rfl, rfl, rfl⟩, (.cons (.nil) : AsB _ _), rfl, rfl⟩, fun _ _ _ _ _ _ _ u us hl => match us, hl with
  | [_], _ => ⟨rfl, rfl⟩⟩
theorem it_BadSteps : InitT (clsInit 44) [("steps", "steps")] := ⟨by decide, by decide +kernel, by decide +kernel, ⟨_, _, _, _, _, _, _, _, _, (defBody (clsInit 44)).tail, rfl, rfl, ⟨by decide +kernel, by decide +kernel, by decide +kernel, by decide +kernel, by decide +kernel, rfl, rfl, rfl⟩, (.cons (.nil) : AsB _ _), rfl, rfl⟩, fun _ _ _ _ _ _ _ u us hl => match us, hl with
  | [_], _ => ⟨rfl, rfl⟩⟩
theorem it_Barred : InitT (clsInit 45) [("fault", "fault")] := ⟨by decide, by decide +kernel, by decide +kernel, ⟨_, _, _, _, _, _, _, _, _, (defBody (clsInit 45)).tail, rfl, rfl, ⟨by decide +kernel, by decide +kernel, by decide +kernel, by decide +kernel, by decide +kernel, rfl, rfl, rfl⟩, (.cons (.nil) : AsB _ _), rfl, rfl⟩, fun _ _ _ _ _ _ _ u us hl => match us, hl with
  | [_], _ => ⟨rfl, rfl⟩⟩
theorem it_BadReport : InitT (clsInit 52) [("report", "report")] := ⟨by decide, by decide +kernel, by decide +kernel, ⟨_, _, _, _, _, _, _, _, _, (defBody (clsInit 52)).tail, rfl, rfl, ⟨by decide +kernel, by decide +kernel, by decide +kernel, by decide +kernel, by decide +kernel, rfl, rfl, rfl⟩, (.cons (.nil) : AsB _ _), rfl, rfl⟩, fun _ _ _ _ _ _ _ u us hl => match us, hl with
  | [_], _ => ⟨rfl, rfl⟩⟩
theorem it_BadSet : InitT (clsInit 54) [("some", "some")] := ⟨by decide, by decide +kernel, by decide +kernel, ⟨_, _, _, _, _, _, _, _, _, (defBody (clsInit 54)).tail, rfl, rfl, ⟨by decide +kernel, by decide +kernel, by decide +kernel, by decide +kernel, by decide +kernel, rfl, rfl, rfl⟩, (.cons (.nil) : AsB _ _), rfl, rfl⟩, fun _ _ _ _ _ _ _ u us hl => match us, hl with
  | [_], _ => ⟨rfl, rfl⟩⟩
theorem it_NotOne : InitT (clsInit 55) [("letters", "letters")] := ⟨by decide, by decide +kernel, by decide +kernel, ⟨_, _, _, _, _, _, _, _, _, (defBody (clsInit 55)).tail, rfl, rfl, ⟨by decide +kernel, by decide +kernel, by decide +kernel, by decide +kernel, by decide +kernel, rfl, rfl, rfl⟩, (.cons (.nil) : AsB _ _), rfl, rfl⟩, fun _ _ _ _ _ _ _ u us hl => match us, hl with
  | [_], _ => ⟨rfl, rfl⟩⟩
theorem it_BadForms : InitT (clsInit 57) [("forms", "forms")] := ⟨by decide, by decide +kernel, by decide +kernel, ⟨_, _, _, _, _, _, _, _, _, (defBody (clsInit 57)).tail, rfl, rfl, ⟨by decide +kernel, by decide +kernel, by decide +kernel, by decide +kernel, by decide +kernel, rfl, rfl, rfl⟩, (.cons (.nil) : AsB _ _), rfl, rfl⟩, fun _ _ _ _ _ _ _ u us hl => match us, hl with
  | [_], _ => ⟨rfl, rfl⟩⟩
theorem it_BadPeriods : InitT (clsInit 58) [("periods", "periods")] := ⟨by decide, by decide +kernel, by decide +kernel, ⟨_, _, _, _, _, _, _, _, _, (defBody (clsInit 58)).tail, rfl, rfl, ⟨by decide +kernel, by decide +kernel, by decide +kernel, by decide +kernel, by decide +kernel, rfl, rfl, rfl⟩, (.cons (.nil) : AsB _ _), rfl, rfl⟩, fun _ _ _ _ _ _ _ u us hl => match us, hl with
  | [_], _ => ⟨rfl, rfl⟩⟩
theorem it_BadPowers : InitT (clsInit 59) [("powers", "powers")] := ⟨by decide, by decide +kernel, by decide +kernel, ⟨_, _, _, _, _, _, _, _, _, (defBody (clsInit 59)).tail, rfl, rfl, ⟨by decide +kernel, by decide +kernel, by decide +kernel, by decide +kernel, by decide +kernel, rfl, rfl, rfl⟩, (.cons (.nil) : AsB _ _), rfl, rfl⟩, fun _ _ _ _ _ _ _ u us hl => match us, hl with
  | [_], _ => ⟨rfl, rfl⟩⟩
theorem it_BadRow : InitT (clsInit 60) [("row", "row")] := ⟨by decide, by decide +kernel, by decide +kernel, ⟨_, _, _, _, _, _, _, _, _, (defBody (clsInit 60)).tail, rfl, rfl, ⟨by decide +kernel, by decide +kernel, by decide +kernel, by decide +kernel, by decide +kernel, rfl, rfl, rfl⟩, (.cons (.nil) : AsB _ _), rfl, rfl⟩, fun _ _ _ _ _ _ _ u us hl => match us, hl with
  | [_], _ => ⟨rfl, rfl⟩⟩
theorem it_BadLine : InitT (clsInit 64) [("form", "form")] := ⟨by decide, by decide +kernel, by decide +kernel, ⟨_, _, _, _, _, _, _, _, _, (defBody (clsInit 64)).tail, rfl, rfl, ⟨by decide +kernel, by decide +kernel, by decide +kernel, by decide +kernel, by decide +kernel, rfl, rfl, rfl⟩, (.cons (.nil) : AsB _ _), rfl, rfl⟩, fun _ _ _ _ _ _ _ u us hl => match us, hl with
  | [_], _ => ⟨rfl, rfl⟩⟩
theorem it_NoTurn : InitT (clsInit 65) [("line", "line")] := ⟨by decide, by decide +kernel, by decide +kernel, ⟨_, _, _, _, _, _, _, _, _, (defBody (clsInit 65)).tail, rfl, rfl, ⟨by decide +kernel, by decide +kernel, by decide +kernel, by decide +kernel, by decide +kernel, rfl, rfl, rfl⟩, (.cons (.nil) : AsB _ _), rfl, rfl⟩, fun _ _ _ _ _ _ _ u us hl => match us, hl with
  | [_], _ => ⟨rfl, rfl⟩⟩
theorem it_Stopped : InitT (clsInit 46) [("index", "index"), ("fault", "fault")] := ⟨by decide, by decide +kernel, by decide +kernel, ⟨_, _, _, _, _, _, _, _, _, (defBody (clsInit 46)).tail, rfl, rfl, ⟨by decide +kernel, by decide +kernel, by decide +kernel, by decide +kernel, by decide +kernel, rfl, rfl, rfl⟩, (.cons (.cons (.nil)) : AsB _ _), rfl, rfl⟩, fun _ _ _ _ _ _ _ u us hl => match us, hl with
  | [_, _], _ => ⟨rfl, rfl⟩⟩
theorem it_Unread : InitT (clsInit 50) [("text", "text"), ("place", "place")] := ⟨by decide, by decide +kernel, by decide +kernel, ⟨_, _, _, _, _, _, _, _, _, (defBody (clsInit 50)).tail, rfl, rfl, ⟨by decide +kernel, by decide +kernel, by decide +kernel, by decide +kernel, by decide +kernel, rfl, rfl, rfl⟩, (.cons (.cons (.nil)) : AsB _ _), rfl, rfl⟩, fun _ _ _ _ _ _ _ u us hl => match us, hl with
  | [_, _], _ => ⟨rfl, rfl⟩⟩
theorem it_BadText : InitT (clsInit 62) [("text", "text"), ("index", "index")] := ⟨by decide, by decide +kernel, by decide +kernel, ⟨_, _, _, _, _, _, _, _, _, (defBody (clsInit 62)).tail, rfl, rfl, ⟨by decide +kernel, by decide +kernel, by decide +kernel, by decide +kernel, by decide +kernel, rfl, rfl, rfl⟩, (.cons (.cons (.nil)) : AsB _ _), rfl, rfl⟩, fun _ _ _ _ _ _ _ u us hl => match us, hl with
  | [_, _], _ => ⟨rfl, rfl⟩⟩
theorem it_NothingDone : InitT (clsInit 47) [] := ⟨by decide, by decide +kernel, by decide +kernel, ⟨_, _, _, _, _, _, _, _, _, (defBody (clsInit 47)).tail, rfl, rfl, ⟨by decide +kernel, by decide +kernel, by decide +kernel, by decide +kernel, by decide +kernel, rfl, rfl, rfl⟩, (.nil : AsB _ _), rfl, rfl⟩, fun _ _ _ _ _ _ _ u us hl => match us, hl with
  | [], _ => ⟨rfl, rfl⟩⟩
theorem it_NothingUndone : InitT (clsInit 48) [] := ⟨by decide, by decide +kernel, by decide +kernel, ⟨_, _, _, _, _, _, _, _, _, (defBody (clsInit 48)).tail, rfl, rfl, ⟨by decide +kernel, by decide +kernel, by decide +kernel, by decide +kernel, by decide +kernel, rfl, rfl, rfl⟩, (.nil : AsB _ _), rfl, rfl⟩, fun _ _ _ _ _ _ _ u us hl => match us, hl with
  | [], _ => ⟨rfl, rfl⟩⟩
def exs : List (Str × Stmt) := [(.ofString "BadQuestion", clsInit 12), (.ofString "BadChange", clsInit 14), (.ofString "BadClaim", clsInit 16), (.ofString "BadClaims", clsInit 17), (.ofString "BadCode", clsInit 19), (.ofString "BadClasses", clsInit 21), (.ofString "NoCover", clsInit 22), (.ofString "BadBook", clsInit 2), (.ofString "BadLetter", clsInit 3), (.ofString "BadNumber", clsInit 4), (.ofString "BadPath", clsInit 5), (.ofString "BadPlace", clsInit 6), (.ofString "BadTree", clsInit 7), (.ofString "NoName", clsInit 8), (.ofString "Refused", clsInit 9), (.ofString "TooGreat", clsInit 10), (.ofString "BadBase", clsInit 24), (.ofString "BadBases", clsInit 25), (.ofString "BadFigures", clsInit 26), (.ofString "BadParts", clsInit 27), (.ofString "BadForm", clsInit 29), (.ofString "BadImage", clsInit 30), (.ofString "BadWord", clsInit 31), (.ofString "BadJournal", clsInit 33), (.ofString "Wrong", clsInit 34), (.ofString "BadWhich", clsInit 36), (.ofString "BadChain", clsInit 38), (.ofString "BadMove", clsInit 39), (.ofString "Unfit", clsInit 40), (.ofString "BadMoment", clsInit 42), (.ofString "BadStep", clsInit 43), (.ofString "BadSteps", clsInit 44), (.ofString "Barred", clsInit 45), (.ofString "BadReport", clsInit 52), (.ofString "BadSet", clsInit 54), (.ofString "NotOne", clsInit 55), (.ofString "BadForms", clsInit 57), (.ofString "BadPeriods", clsInit 58), (.ofString "BadPowers", clsInit 59), (.ofString "BadRow", clsInit 60), (.ofString "BadLine", clsInit 64), (.ofString "NoTurn", clsInit 65), (.ofString "Stopped", clsInit 46), (.ofString "Unread", clsInit 50), (.ofString "BadText", clsInit 62), (.ofString "NothingDone", clsInit 47), (.ofString "NothingUndone", clsInit 48)]
theorem hex : ∀ x ∈ exx, ∃ st, (x.1, st) ∈ exs ∧ InitT st x.2 := by
  unfold exx exs
  simp only [List.forall_mem_cons]
  exact ⟨⟨_, List.mem_cons_self, it_BadQuestion⟩, ⟨_, List.mem_cons_of_mem _ (List.mem_cons_self), it_BadChange⟩, ⟨_, List.mem_cons_of_mem _ (List.mem_cons_of_mem _ (List.mem_cons_self)), it_BadClaim⟩, ⟨_, List.mem_cons_of_mem _ (List.mem_cons_of_mem _ (List.mem_cons_of_mem _ (List.mem_cons_self))), it_BadClaims⟩, ⟨_, List.mem_cons_of_mem _ (List.mem_cons_of_mem _ (List.mem_cons_of_mem _ (List.mem_cons_of_mem _ (List.mem_cons_self)))), it_BadCode⟩, ⟨_, List.mem_cons_of_mem _ (List.mem_cons_of_mem _ (List.mem_cons_of_mem _ (List.mem_cons_of_mem _ (List.mem_cons_of_mem _ (List.mem_cons_self))))), it_BadClasses⟩, ⟨_, List.mem_cons_of_mem _ (List.mem_cons_of_mem _ (List.mem_cons_of_mem _ (List.mem_cons_of_mem _ (List.mem_cons_of_mem _ (List.mem_cons_of_mem _ (List.mem_cons_self)))))), it_NoCover⟩, ⟨_, List.mem_cons_of_mem _ (List.mem_cons_of_mem _ (List.mem_cons_of_mem _ (List.mem_cons_of_mem _ (List.mem_cons_of_mem _ (List.mem_cons_of_mem _ (List.mem_cons_of_mem _ (List.mem_cons_self))))))), it_BadBook⟩, ⟨_, List.mem_cons_of_mem _ (List.mem_cons_of_mem _ (List.mem_cons_of_mem _ (List.mem_cons_of_mem _ (List.mem_cons_of_mem _ (List.mem_cons_of_mem _ (List.mem_cons_of_mem _ (List.mem_cons_of_mem _ (List.mem_cons_self)))))))), it_BadLetter⟩, ⟨_, List.mem_cons_of_mem _ (List.mem_cons_of_mem _ (List.mem_cons_of_mem _ (List.mem_cons_of_mem _ (List.mem_cons_of_mem _ (List.mem_cons_of_mem _ (List.mem_cons_of_mem _ (List.mem_cons_of_mem _ (List.mem_cons_of_mem _ (List.mem_cons_self))))))))), it_BadNumber⟩, ⟨_, List.mem_cons_of_mem _ (List.mem_cons_of_mem _ (List.mem_cons_of_mem _ (List.mem_cons_of_mem _ (List.mem_cons_of_mem _ (List.mem_cons_of_mem _ (List.mem_cons_of_mem _ (List.mem_cons_of_mem _ (List.mem_cons_of_mem _ (List.mem_cons_of_mem _ (List.mem_cons_self)))))))))), it_BadPath⟩, ⟨_, List.mem_cons_of_mem _ (List.mem_cons_of_mem _ (List.mem_cons_of_mem _ (List.mem_cons_of_mem _ (List.mem_cons_of_mem _ (List.mem_cons_of_mem _ (List.mem_cons_of_mem _ (List.mem_cons_of_mem _ (List.mem_cons_of_mem _ (List.mem_cons_of_mem _ (List.mem_cons_of_mem _ (List.mem_cons_self))))))))))), it_BadPlace⟩, ⟨_, List.mem_cons_of_mem _ (List.mem_cons_of_mem _ (List.mem_cons_of_mem _ (List.mem_cons_of_mem _ (List.mem_cons_of_mem _ (List.mem_cons_of_mem _ (List.mem_cons_of_mem _ (List.mem_cons_of_mem _ (List.mem_cons_of_mem _ (List.mem_cons_of_mem _ (List.mem_cons_of_mem _ (List.mem_cons_of_mem _ (List.mem_cons_self)))))))))))), it_BadTree⟩, ⟨_, List.mem_cons_of_mem _ (List.mem_cons_of_mem _ (List.mem_cons_of_mem _ (List.mem_cons_of_mem _ (List.mem_cons_of_mem _ (List.mem_cons_of_mem _ (List.mem_cons_of_mem _ (List.mem_cons_of_mem _ (List.mem_cons_of_mem _ (List.mem_cons_of_mem _ (List.mem_cons_of_mem _ (List.mem_cons_of_mem _ (List.mem_cons_of_mem _ (List.mem_cons_self))))))))))))), it_NoName⟩, ⟨_, List.mem_cons_of_mem _ (List.mem_cons_of_mem _ (List.mem_cons_of_mem _ (List.mem_cons_of_mem _ (List.mem_cons_of_mem _ (List.mem_cons_of_mem _ (List.mem_cons_of_mem _ (List.mem_cons_of_mem _ (List.mem_cons_of_mem _ (List.mem_cons_of_mem _ (List.mem_cons_of_mem _ (List.mem_cons_of_mem _ (List.mem_cons_of_mem _ (List.mem_cons_of_mem _ (List.mem_cons_self)))))))))))))), it_Refused⟩, ⟨_, List.mem_cons_of_mem _ (List.mem_cons_of_mem _ (List.mem_cons_of_mem _ (List.mem_cons_of_mem _ (List.mem_cons_of_mem _ (List.mem_cons_of_mem _ (List.mem_cons_of_mem _ (List.mem_cons_of_mem _ (List.mem_cons_of_mem _ (List.mem_cons_of_mem _ (List.mem_cons_of_mem _ (List.mem_cons_of_mem _ (List.mem_cons_of_mem _ (List.mem_cons_of_mem _ (List.mem_cons_of_mem _ (List.mem_cons_self))))))))))))))), it_TooGreat⟩, ⟨_, List.mem_cons_of_mem _ (List.mem_cons_of_mem _ (List.mem_cons_of_mem _ (List.mem_cons_of_mem _ (List.mem_cons_of_mem _ (List.mem_cons_of_mem _ (List.mem_cons_of_mem _ (List.mem_cons_of_mem _ (List.mem_cons_of_mem _ (List.mem_cons_of_mem _ (List.mem_cons_of_mem _ (List.mem_cons_of_mem _ (List.mem_cons_of_mem _ (List.mem_cons_of_mem _ (List.mem_cons_of_mem _ (List.mem_cons_of_mem _ (List.mem_cons_self)))))))))))))))), it_BadBase⟩, ⟨_, List.mem_cons_of_mem _ (List.mem_cons_of_mem _ (List.mem_cons_of_mem _ (List.mem_cons_of_mem _ (List.mem_cons_of_mem _ (List.mem_cons_of_mem _ (List.mem_cons_of_mem _ (List.mem_cons_of_mem _ (List.mem_cons_of_mem _ (List.mem_cons_of_mem _ (List.mem_cons_of_mem _ (List.mem_cons_of_mem _ (List.mem_cons_of_mem _ (List.mem_cons_of_mem _ (List.mem_cons_of_mem _ (List.mem_cons_of_mem _ (List.mem_cons_of_mem _ (List.mem_cons_self))))))))))))))))), it_BadBases⟩, ⟨_, List.mem_cons_of_mem _ (List.mem_cons_of_mem _ (List.mem_cons_of_mem _ (List.mem_cons_of_mem _ (List.mem_cons_of_mem _ (List.mem_cons_of_mem _ (List.mem_cons_of_mem _ (List.mem_cons_of_mem _ (List.mem_cons_of_mem _ (List.mem_cons_of_mem _ (List.mem_cons_of_mem _ (List.mem_cons_of_mem _ (List.mem_cons_of_mem _ (List.mem_cons_of_mem _ (List.mem_cons_of_mem _ (List.mem_cons_of_mem _ (List.mem_cons_of_mem _ (List.mem_cons_of_mem _ (List.mem_cons_self)))))))))))))))))), it_BadFigures⟩, ⟨_, List.mem_cons_of_mem _ (List.mem_cons_of_mem _ (List.mem_cons_of_mem _ (List.mem_cons_of_mem _ (List.mem_cons_of_mem _ (List.mem_cons_of_mem _ (List.mem_cons_of_mem _ (List.mem_cons_of_mem _ (List.mem_cons_of_mem _ (List.mem_cons_of_mem _ (List.mem_cons_of_mem _ (List.mem_cons_of_mem _ (List.mem_cons_of_mem _ (List.mem_cons_of_mem _ (List.mem_cons_of_mem _ (List.mem_cons_of_mem _ (List.mem_cons_of_mem _ (List.mem_cons_of_mem _ (List.mem_cons_of_mem _ (List.mem_cons_self))))))))))))))))))), it_BadParts⟩, ⟨_, List.mem_cons_of_mem _ (List.mem_cons_of_mem _ (List.mem_cons_of_mem _ (List.mem_cons_of_mem _ (List.mem_cons_of_mem _ (List.mem_cons_of_mem _ (List.mem_cons_of_mem _ (List.mem_cons_of_mem _ (List.mem_cons_of_mem _ (List.mem_cons_of_mem _ (List.mem_cons_of_mem _ (List.mem_cons_of_mem _ (List.mem_cons_of_mem _ (List.mem_cons_of_mem _ (List.mem_cons_of_mem _ (List.mem_cons_of_mem _ (List.mem_cons_of_mem _ (List.mem_cons_of_mem _ (List.mem_cons_of_mem _ (List.mem_cons_of_mem _ (List.mem_cons_self)))))))))))))))))))), it_BadForm⟩, ⟨_, List.mem_cons_of_mem _ (List.mem_cons_of_mem _ (List.mem_cons_of_mem _ (List.mem_cons_of_mem _ (List.mem_cons_of_mem _ (List.mem_cons_of_mem _ (List.mem_cons_of_mem _ (List.mem_cons_of_mem _ (List.mem_cons_of_mem _ (List.mem_cons_of_mem _ (List.mem_cons_of_mem _ (List.mem_cons_of_mem _ (List.mem_cons_of_mem _ (List.mem_cons_of_mem _ (List.mem_cons_of_mem _ (List.mem_cons_of_mem _ (List.mem_cons_of_mem _ (List.mem_cons_of_mem _ (List.mem_cons_of_mem _ (List.mem_cons_of_mem _ (List.mem_cons_of_mem _ (List.mem_cons_self))))))))))))))))))))), it_BadImage⟩, ⟨_, List.mem_cons_of_mem _ (List.mem_cons_of_mem _ (List.mem_cons_of_mem _ (List.mem_cons_of_mem _ (List.mem_cons_of_mem _ (List.mem_cons_of_mem _ (List.mem_cons_of_mem _ (List.mem_cons_of_mem _ (List.mem_cons_of_mem _ (List.mem_cons_of_mem _ (List.mem_cons_of_mem _ (List.mem_cons_of_mem _ (List.mem_cons_of_mem _ (List.mem_cons_of_mem _ (List.mem_cons_of_mem _ (List.mem_cons_of_mem _ (List.mem_cons_of_mem _ (List.mem_cons_of_mem _ (List.mem_cons_of_mem _ (List.mem_cons_of_mem _ (List.mem_cons_of_mem _ (List.mem_cons_of_mem _ (List.mem_cons_self)))))))))))))))))))))), it_BadWord⟩, ⟨_, List.mem_cons_of_mem _ (List.mem_cons_of_mem _ (List.mem_cons_of_mem _ (List.mem_cons_of_mem _ (List.mem_cons_of_mem _ (List.mem_cons_of_mem _ (List.mem_cons_of_mem _ (List.mem_cons_of_mem _ (List.mem_cons_of_mem _ (List.mem_cons_of_mem _ (List.mem_cons_of_mem _ (List.mem_cons_of_mem _ (List.mem_cons_of_mem _ (List.mem_cons_of_mem _ (List.mem_cons_of_mem _ (List.mem_cons_of_mem _ (List.mem_cons_of_mem _ (List.mem_cons_of_mem _ (List.mem_cons_of_mem _ (List.mem_cons_of_mem _ (List.mem_cons_of_mem _ (List.mem_cons_of_mem _ (List.mem_cons_of_mem _ (List.mem_cons_self))))))))))))))))))))))), it_BadJournal⟩, ⟨_, List.mem_cons_of_mem _ (List.mem_cons_of_mem _ (List.mem_cons_of_mem _ (List.mem_cons_of_mem _ (List.mem_cons_of_mem _ (List.mem_cons_of_mem _ (List.mem_cons_of_mem _ (List.mem_cons_of_mem _ (List.mem_cons_of_mem _ (List.mem_cons_of_mem _ (List.mem_cons_of_mem _ (List.mem_cons_of_mem _ (List.mem_cons_of_mem _ (List.mem_cons_of_mem _ (List.mem_cons_of_mem _ (List.mem_cons_of_mem _ (List.mem_cons_of_mem _ (List.mem_cons_of_mem _ (List.mem_cons_of_mem _ (List.mem_cons_of_mem _ (List.mem_cons_of_mem _ (List.mem_cons_of_mem _ (List.mem_cons_of_mem _ (List.mem_cons_of_mem _ (List.mem_cons_self)))))))))))))))))))))))), it_Wrong⟩, ⟨_, List.mem_cons_of_mem _ (List.mem_cons_of_mem _ (List.mem_cons_of_mem _ (List.mem_cons_of_mem _ (List.mem_cons_of_mem _ (List.mem_cons_of_mem _ (List.mem_cons_of_mem _ (List.mem_cons_of_mem _ (List.mem_cons_of_mem _ (List.mem_cons_of_mem _ (List.mem_cons_of_mem _ (List.mem_cons_of_mem _ (List.mem_cons_of_mem _ (List.mem_cons_of_mem _ (List.mem_cons_of_mem _ (List.mem_cons_of_mem _ (List.mem_cons_of_mem _ (List.mem_cons_of_mem _ (List.mem_cons_of_mem _ (List.mem_cons_of_mem _ (List.mem_cons_of_mem _ (List.mem_cons_of_mem _ (List.mem_cons_of_mem _ (List.mem_cons_of_mem _ (List.mem_cons_of_mem _ (List.mem_cons_self))))))))))))))))))))))))), it_BadWhich⟩, ⟨_, List.mem_cons_of_mem _ (List.mem_cons_of_mem _ (List.mem_cons_of_mem _ (List.mem_cons_of_mem _ (List.mem_cons_of_mem _ (List.mem_cons_of_mem _ (List.mem_cons_of_mem _ (List.mem_cons_of_mem _ (List.mem_cons_of_mem _ (List.mem_cons_of_mem _ (List.mem_cons_of_mem _ (List.mem_cons_of_mem _ (List.mem_cons_of_mem _ (List.mem_cons_of_mem _ (List.mem_cons_of_mem _ (List.mem_cons_of_mem _ (List.mem_cons_of_mem _ (List.mem_cons_of_mem _ (List.mem_cons_of_mem _ (List.mem_cons_of_mem _ (List.mem_cons_of_mem _ (List.mem_cons_of_mem _ (List.mem_cons_of_mem _ (List.mem_cons_of_mem _ (List.mem_cons_of_mem _ (List.mem_cons_of_mem _ (List.mem_cons_self)))))))))))))))))))))))))), it_BadChain⟩, ⟨_, List.mem_cons_of_mem _ (List.mem_cons_of_mem _ (List.mem_cons_of_mem _ (List.mem_cons_of_mem _ (List.mem_cons_of_mem _ (List.mem_cons_of_mem _ (List.mem_cons_of_mem _ (List.mem_cons_of_mem _ (List.mem_cons_of_mem _ (List.mem_cons_of_mem _ (List.mem_cons_of_mem _ (List.mem_cons_of_mem _ (List.mem_cons_of_mem _ (List.mem_cons_of_mem _ (List.mem_cons_of_mem _ (List.mem_cons_of_mem _ (List.mem_cons_of_mem _ (List.mem_cons_of_mem _ (List.mem_cons_of_mem _ (List.mem_cons_of_mem _ (List.mem_cons_of_mem _ (List.mem_cons_of_mem _ (List.mem_cons_of_mem _ (List.mem_cons_of_mem _ (List.mem_cons_of_mem _ (List.mem_cons_of_mem _ (List.mem_cons_of_mem _ (List.mem_cons_self))))))))))))))))))))))))))), it_BadMove⟩, ⟨_, List.mem_cons_of_mem _ (List.mem_cons_of_mem _ (List.mem_cons_of_mem _ (List.mem_cons_of_mem _ (List.mem_cons_of_mem _ (List.mem_cons_of_mem _ (List.mem_cons_of_mem _ (List.mem_cons_of_mem _ (List.mem_cons_of_mem _ (List.mem_cons_of_mem _ (List.mem_cons_of_mem _ (List.mem_cons_of_mem _ (List.mem_cons_of_mem _ (List.mem_cons_of_mem _ (List.mem_cons_of_mem _ (List.mem_cons_of_mem _ (List.mem_cons_of_mem _ (List.mem_cons_of_mem _ (List.mem_cons_of_mem _ (List.mem_cons_of_mem _ (List.mem_cons_of_mem _ (List.mem_cons_of_mem _ (List.mem_cons_of_mem _ (List.mem_cons_of_mem _ (List.mem_cons_of_mem _ (List.mem_cons_of_mem _ (List.mem_cons_of_mem _ (List.mem_cons_of_mem _ (List.mem_cons_self)))))))))))))))))))))))))))), it_Unfit⟩, ⟨_, List.mem_cons_of_mem _ (List.mem_cons_of_mem _ (List.mem_cons_of_mem _ (List.mem_cons_of_mem _ (List.mem_cons_of_mem _ (List.mem_cons_of_mem _ (List.mem_cons_of_mem _ (List.mem_cons_of_mem _ (List.mem_cons_of_mem _ (List.mem_cons_of_mem _ (List.mem_cons_of_mem _ (List.mem_cons_of_mem _ (List.mem_cons_of_mem _ (List.mem_cons_of_mem _ (List.mem_cons_of_mem _ (List.mem_cons_of_mem _ (List.mem_cons_of_mem _ (List.mem_cons_of_mem _ (List.mem_cons_of_mem _ (List.mem_cons_of_mem _ (List.mem_cons_of_mem _ (List.mem_cons_of_mem _ (List.mem_cons_of_mem _ (List.mem_cons_of_mem _ (List.mem_cons_of_mem _ (List.mem_cons_of_mem _ (List.mem_cons_of_mem _ (List.mem_cons_of_mem _ (List.mem_cons_of_mem _ (List.mem_cons_self))))))))))))))))))))))))))))), it_BadMoment⟩, ⟨_, List.mem_cons_of_mem _ (List.mem_cons_of_mem _ (List.mem_cons_of_mem _ (List.mem_cons_of_mem _ (List.mem_cons_of_mem _ (List.mem_cons_of_mem _ (List.mem_cons_of_mem _ (List.mem_cons_of_mem _ (List.mem_cons_of_mem _ (List.mem_cons_of_mem _ (List.mem_cons_of_mem _ (List.mem_cons_of_mem _ (List.mem_cons_of_mem _ (List.mem_cons_of_mem _ (List.mem_cons_of_mem _ (List.mem_cons_of_mem _ (List.mem_cons_of_mem _ (List.mem_cons_of_mem _ (List.mem_cons_of_mem _ (List.mem_cons_of_mem _ (List.mem_cons_of_mem _ (List.mem_cons_of_mem _ (List.mem_cons_of_mem _ (List.mem_cons_of_mem _ (List.mem_cons_of_mem _ (List.mem_cons_of_mem _ (List.mem_cons_of_mem _ (List.mem_cons_of_mem _ (List.mem_cons_of_mem _ (List.mem_cons_of_mem _ (List.mem_cons_self)))))))))))))))))))))))))))))), it_BadStep⟩, ⟨_, List.mem_cons_of_mem _ (List.mem_cons_of_mem _ (List.mem_cons_of_mem _ (List.mem_cons_of_mem _ (List.mem_cons_of_mem _ (List.mem_cons_of_mem _ (List.mem_cons_of_mem _ (List.mem_cons_of_mem _ (List.mem_cons_of_mem _ (List.mem_cons_of_mem _ (List.mem_cons_of_mem _ (List.mem_cons_of_mem _ (List.mem_cons_of_mem _ (List.mem_cons_of_mem _ (List.mem_cons_of_mem _ (List.mem_cons_of_mem _ (List.mem_cons_of_mem _ (List.mem_cons_of_mem _ (List.mem_cons_of_mem _ (List.mem_cons_of_mem _ (List.mem_cons_of_mem _ (List.mem_cons_of_mem _ (List.mem_cons_of_mem _ (List.mem_cons_of_mem _ (List.mem_cons_of_mem _ (List.mem_cons_of_mem _ (List.mem_cons_of_mem _ (List.mem_cons_of_mem _ (List.mem_cons_of_mem _ (List.mem_cons_of_mem _ (List.mem_cons_of_mem _ (List.mem_cons_self))))))))))))))))))))))))))))))), it_BadSteps⟩, ⟨_, List.mem_cons_of_mem _ (List.mem_cons_of_mem _ (List.mem_cons_of_mem _ (List.mem_cons_of_mem _ (List.mem_cons_of_mem _ (List.mem_cons_of_mem _ (List.mem_cons_of_mem _ (List.mem_cons_of_mem _ (List.mem_cons_of_mem _ (List.mem_cons_of_mem _ (List.mem_cons_of_mem _ (List.mem_cons_of_mem _ (List.mem_cons_of_mem _ (List.mem_cons_of_mem _ (List.mem_cons_of_mem _ (List.mem_cons_of_mem _ (List.mem_cons_of_mem _ (List.mem_cons_of_mem _ (List.mem_cons_of_mem _ (List.mem_cons_of_mem _ (List.mem_cons_of_mem _ (List.mem_cons_of_mem _ (List.mem_cons_of_mem _ (List.mem_cons_of_mem _ (List.mem_cons_of_mem _ (List.mem_cons_of_mem _ (List.mem_cons_of_mem _ (List.mem_cons_of_mem _ (List.mem_cons_of_mem _ (List.mem_cons_of_mem _ (List.mem_cons_of_mem _ (List.mem_cons_of_mem _ (List.mem_cons_self)))))))))))))))))))))))))))))))), it_Barred⟩, ⟨_, List.mem_cons_of_mem _ (List.mem_cons_of_mem _ (List.mem_cons_of_mem _ (List.mem_cons_of_mem _ (List.mem_cons_of_mem _ (List.mem_cons_of_mem _ (List.mem_cons_of_mem _ (List.mem_cons_of_mem _ (List.mem_cons_of_mem _ (List.mem_cons_of_mem _ (List.mem_cons_of_mem _ (List.mem_cons_of_mem _ (List.mem_cons_of_mem _ (List.mem_cons_of_mem _ (List.mem_cons_of_mem _ (List.mem_cons_of_mem _ (List.mem_cons_of_mem _ (List.mem_cons_of_mem _ (List.mem_cons_of_mem _ (List.mem_cons_of_mem _ (List.mem_cons_of_mem _ (List.mem_cons_of_mem _ (List.mem_cons_of_mem _ (List.mem_cons_of_mem _ (List.mem_cons_of_mem _ (List.mem_cons_of_mem _ (List.mem_cons_of_mem _ (List.mem_cons_of_mem _ (List.mem_cons_of_mem _ (List.mem_cons_of_mem _ (List.mem_cons_of_mem _ (List.mem_cons_of_mem _ (List.mem_cons_of_mem _ (List.mem_cons_self))))))))))))))))))))))))))))))))), it_BadReport⟩, ⟨_, List.mem_cons_of_mem _ (List.mem_cons_of_mem _ (List.mem_cons_of_mem _ (List.mem_cons_of_mem _ (List.mem_cons_of_mem _ (List.mem_cons_of_mem _ (List.mem_cons_of_mem _ (List.mem_cons_of_mem _ (List.mem_cons_of_mem _ (List.mem_cons_of_mem _ (List.mem_cons_of_mem _ (List.mem_cons_of_mem _ (List.mem_cons_of_mem _ (List.mem_cons_of_mem _ (List.mem_cons_of_mem _ (List.mem_cons_of_mem _ (List.mem_cons_of_mem _ (List.mem_cons_of_mem _ (List.mem_cons_of_mem _ (List.mem_cons_of_mem _ (List.mem_cons_of_mem _ (List.mem_cons_of_mem _ (List.mem_cons_of_mem _ (List.mem_cons_of_mem _ (List.mem_cons_of_mem _ (List.mem_cons_of_mem _ (List.mem_cons_of_mem _ (List.mem_cons_of_mem _ (List.mem_cons_of_mem _ (List.mem_cons_of_mem _ (List.mem_cons_of_mem _ (List.mem_cons_of_mem _ (List.mem_cons_of_mem _ (List.mem_cons_of_mem _ (List.mem_cons_self)))))))))))))))))))))))))))))))))), it_BadSet⟩, ⟨_, List.mem_cons_of_mem _ (List.mem_cons_of_mem _ (List.mem_cons_of_mem _ (List.mem_cons_of_mem _ (List.mem_cons_of_mem _ (List.mem_cons_of_mem _ (List.mem_cons_of_mem _ (List.mem_cons_of_mem _ (List.mem_cons_of_mem _ (List.mem_cons_of_mem _ (List.mem_cons_of_mem _ (List.mem_cons_of_mem _ (List.mem_cons_of_mem _ (List.mem_cons_of_mem _ (List.mem_cons_of_mem _ (List.mem_cons_of_mem _ (List.mem_cons_of_mem _ (List.mem_cons_of_mem _ (List.mem_cons_of_mem _ (List.mem_cons_of_mem _ (List.mem_cons_of_mem _ (List.mem_cons_of_mem _ (List.mem_cons_of_mem _ (List.mem_cons_of_mem _ (List.mem_cons_of_mem _ (List.mem_cons_of_mem _ (List.mem_cons_of_mem _ (List.mem_cons_of_mem _ (List.mem_cons_of_mem _ (List.mem_cons_of_mem _ (List.mem_cons_of_mem _ (List.mem_cons_of_mem _ (List.mem_cons_of_mem _ (List.mem_cons_of_mem _ (List.mem_cons_of_mem _ (List.mem_cons_self))))))))))))))))))))))))))))))))))), it_NotOne⟩, ⟨_, List.mem_cons_of_mem _ (List.mem_cons_of_mem _ (List.mem_cons_of_mem _ (List.mem_cons_of_mem _ (List.mem_cons_of_mem _ (List.mem_cons_of_mem _ (List.mem_cons_of_mem _ (List.mem_cons_of_mem _ (List.mem_cons_of_mem _ (List.mem_cons_of_mem _ (List.mem_cons_of_mem _ (List.mem_cons_of_mem _ (List.mem_cons_of_mem _ (List.mem_cons_of_mem _ (List.mem_cons_of_mem _ (List.mem_cons_of_mem _ (List.mem_cons_of_mem _ (List.mem_cons_of_mem _ (List.mem_cons_of_mem _ (List.mem_cons_of_mem _ (List.mem_cons_of_mem _ (List.mem_cons_of_mem _ (List.mem_cons_of_mem _ (List.mem_cons_of_mem _ (List.mem_cons_of_mem _ (List.mem_cons_of_mem _ (List.mem_cons_of_mem _ (List.mem_cons_of_mem _ (List.mem_cons_of_mem _ (List.mem_cons_of_mem _ (List.mem_cons_of_mem _ (List.mem_cons_of_mem _ (List.mem_cons_of_mem _ (List.mem_cons_of_mem _ (List.mem_cons_of_mem _ (List.mem_cons_of_mem _ (List.mem_cons_self)))))))))))))))))))))))))))))))))))), it_BadForms⟩, ⟨_, List.mem_cons_of_mem _ (List.mem_cons_of_mem _ (List.mem_cons_of_mem _ (List.mem_cons_of_mem _ (List.mem_cons_of_mem _ (List.mem_cons_of_mem _ (List.mem_cons_of_mem _ (List.mem_cons_of_mem _ (List.mem_cons_of_mem _ (List.mem_cons_of_mem _ (List.mem_cons_of_mem _ (List.mem_cons_of_mem _ (List.mem_cons_of_mem _ (List.mem_cons_of_mem _ (List.mem_cons_of_mem _ (List.mem_cons_of_mem _ (List.mem_cons_of_mem _ (List.mem_cons_of_mem _ (List.mem_cons_of_mem _ (List.mem_cons_of_mem _ (List.mem_cons_of_mem _ (List.mem_cons_of_mem _ (List.mem_cons_of_mem _ (List.mem_cons_of_mem _ (List.mem_cons_of_mem _ (List.mem_cons_of_mem _ (List.mem_cons_of_mem _ (List.mem_cons_of_mem _ (List.mem_cons_of_mem _ (List.mem_cons_of_mem _ (List.mem_cons_of_mem _ (List.mem_cons_of_mem _ (List.mem_cons_of_mem _ (List.mem_cons_of_mem _ (List.mem_cons_of_mem _ (List.mem_cons_of_mem _ (List.mem_cons_of_mem _ (List.mem_cons_self))))))))))))))))))))))))))))))))))))), it_BadPeriods⟩, ⟨_, List.mem_cons_of_mem _ (List.mem_cons_of_mem _ (List.mem_cons_of_mem _ (List.mem_cons_of_mem _ (List.mem_cons_of_mem _ (List.mem_cons_of_mem _ (List.mem_cons_of_mem _ (List.mem_cons_of_mem _ (List.mem_cons_of_mem _ (List.mem_cons_of_mem _ (List.mem_cons_of_mem _ (List.mem_cons_of_mem _ (List.mem_cons_of_mem _ (List.mem_cons_of_mem _ (List.mem_cons_of_mem _ (List.mem_cons_of_mem _ (List.mem_cons_of_mem _ (List.mem_cons_of_mem _ (List.mem_cons_of_mem _ (List.mem_cons_of_mem _ (List.mem_cons_of_mem _ (List.mem_cons_of_mem _ (List.mem_cons_of_mem _ (List.mem_cons_of_mem _ (List.mem_cons_of_mem _ (List.mem_cons_of_mem _ (List.mem_cons_of_mem _ (List.mem_cons_of_mem _ (List.mem_cons_of_mem _ (List.mem_cons_of_mem _ (List.mem_cons_of_mem _ (List.mem_cons_of_mem _ (List.mem_cons_of_mem _ (List.mem_cons_of_mem _ (List.mem_cons_of_mem _ (List.mem_cons_of_mem _ (List.mem_cons_of_mem _ (List.mem_cons_of_mem _ (List.mem_cons_self)))))))))))))))))))))))))))))))))))))), it_BadPowers⟩, ⟨_, List.mem_cons_of_mem _ (List.mem_cons_of_mem _ (List.mem_cons_of_mem _ (List.mem_cons_of_mem _ (List.mem_cons_of_mem _ (List.mem_cons_of_mem _ (List.mem_cons_of_mem _ (List.mem_cons_of_mem _ (List.mem_cons_of_mem _ (List.mem_cons_of_mem _ (List.mem_cons_of_mem _ (List.mem_cons_of_mem _ (List.mem_cons_of_mem _ (List.mem_cons_of_mem _ (List.mem_cons_of_mem _ (List.mem_cons_of_mem _ (List.mem_cons_of_mem _ (List.mem_cons_of_mem _ (List.mem_cons_of_mem _ (List.mem_cons_of_mem _ (List.mem_cons_of_mem _ (List.mem_cons_of_mem _ (List.mem_cons_of_mem _ (List.mem_cons_of_mem _ (List.mem_cons_of_mem _ (List.mem_cons_of_mem _ (List.mem_cons_of_mem _ (List.mem_cons_of_mem _ (List.mem_cons_of_mem _ (List.mem_cons_of_mem _ (List.mem_cons_of_mem _ (List.mem_cons_of_mem _ (List.mem_cons_of_mem _ (List.mem_cons_of_mem _ (List.mem_cons_of_mem _ (List.mem_cons_of_mem _ (List.mem_cons_of_mem _ (List.mem_cons_of_mem _ (List.mem_cons_of_mem _ (List.mem_cons_self))))))))))))))))))))))))))))))))))))))), it_BadRow⟩, ⟨_, List.mem_cons_of_mem _ (List.mem_cons_of_mem _ (List.mem_cons_of_mem _ (List.mem_cons_of_mem _ (List.mem_cons_of_mem _ (List.mem_cons_of_mem _ (List.mem_cons_of_mem _ (List.mem_cons_of_mem _ (List.mem_cons_of_mem _ (List.mem_cons_of_mem _ (List.mem_cons_of_mem _ (List.mem_cons_of_mem _ (List.mem_cons_of_mem _ (List.mem_cons_of_mem _ (List.mem_cons_of_mem _ (List.mem_cons_of_mem _ (List.mem_cons_of_mem _ (List.mem_cons_of_mem _ (List.mem_cons_of_mem _ (List.mem_cons_of_mem _ (List.mem_cons_of_mem _ (List.mem_cons_of_mem _ (List.mem_cons_of_mem _ (List.mem_cons_of_mem _ (List.mem_cons_of_mem _ (List.mem_cons_of_mem _ (List.mem_cons_of_mem _ (List.mem_cons_of_mem _ (List.mem_cons_of_mem _ (List.mem_cons_of_mem _ (List.mem_cons_of_mem _ (List.mem_cons_of_mem _ (List.mem_cons_of_mem _ (List.mem_cons_of_mem _ (List.mem_cons_of_mem _ (List.mem_cons_of_mem _ (List.mem_cons_of_mem _ (List.mem_cons_of_mem _ (List.mem_cons_of_mem _ (List.mem_cons_of_mem _ (List.mem_cons_self)))))))))))))))))))))))))))))))))))))))), it_BadLine⟩, ⟨_, List.mem_cons_of_mem _ (List.mem_cons_of_mem _ (List.mem_cons_of_mem _ (List.mem_cons_of_mem _ (List.mem_cons_of_mem _ (List.mem_cons_of_mem _ (List.mem_cons_of_mem _ (List.mem_cons_of_mem _ (List.mem_cons_of_mem _ (List.mem_cons_of_mem _ (List.mem_cons_of_mem _ (List.mem_cons_of_mem _ (List.mem_cons_of_mem _ (List.mem_cons_of_mem _ (List.mem_cons_of_mem _ (List.mem_cons_of_mem _ (List.mem_cons_of_mem _ (List.mem_cons_of_mem _ (List.mem_cons_of_mem _ (List.mem_cons_of_mem _ (List.mem_cons_of_mem _ (List.mem_cons_of_mem _ (List.mem_cons_of_mem _ (List.mem_cons_of_mem _ (List.mem_cons_of_mem _ (List.mem_cons_of_mem _ (List.mem_cons_of_mem _ (List.mem_cons_of_mem _ (List.mem_cons_of_mem _ (List.mem_cons_of_mem _ (List.mem_cons_of_mem _ (List.mem_cons_of_mem _ (List.mem_cons_of_mem _ (List.mem_cons_of_mem _ (List.mem_cons_of_mem _ (List.mem_cons_of_mem _ (List.mem_cons_of_mem _ (List.mem_cons_of_mem _ (List.mem_cons_of_mem _ (List.mem_cons_of_mem _ (List.mem_cons_of_mem _ (List.mem_cons_self))))))))))))))))))))))))))))))))))))))))), it_NoTurn⟩, ⟨_, List.mem_cons_of_mem _ (List.mem_cons_of_mem _ (List.mem_cons_of_mem _ (List.mem_cons_of_mem _ (List.mem_cons_of_mem _ (List.mem_cons_of_mem _ (List.mem_cons_of_mem _ (List.mem_cons_of_mem _ (List.mem_cons_of_mem _ (List.mem_cons_of_mem _ (List.mem_cons_of_mem _ (List.mem_cons_of_mem _ (List.mem_cons_of_mem _ (List.mem_cons_of_mem _ (List.mem_cons_of_mem _ (List.mem_cons_of_mem _ (List.mem_cons_of_mem _ (List.mem_cons_of_mem _ (List.mem_cons_of_mem _ (List.mem_cons_of_mem _ (List.mem_cons_of_mem _ (List.mem_cons_of_mem _ (List.mem_cons_of_mem _ (List.mem_cons_of_mem _ (List.mem_cons_of_mem _ (List.mem_cons_of_mem _ (List.mem_cons_of_mem _ (List.mem_cons_of_mem _ (List.mem_cons_of_mem _ (List.mem_cons_of_mem _ (List.mem_cons_of_mem _ (List.mem_cons_of_mem _ (List.mem_cons_of_mem _ (List.mem_cons_of_mem _ (List.mem_cons_of_mem _ (List.mem_cons_of_mem _ (List.mem_cons_of_mem _ (List.mem_cons_of_mem _ (List.mem_cons_of_mem _ (List.mem_cons_of_mem _ (List.mem_cons_of_mem _ (List.mem_cons_of_mem _ (List.mem_cons_self)))))))))))))))))))))))))))))))))))))))))), it_Stopped⟩, ⟨_, List.mem_cons_of_mem _ (List.mem_cons_of_mem _ (List.mem_cons_of_mem _ (List.mem_cons_of_mem _ (List.mem_cons_of_mem _ (List.mem_cons_of_mem _ (List.mem_cons_of_mem _ (List.mem_cons_of_mem _ (List.mem_cons_of_mem _ (List.mem_cons_of_mem _ (List.mem_cons_of_mem _ (List.mem_cons_of_mem _ (List.mem_cons_of_mem _ (List.mem_cons_of_mem _ (List.mem_cons_of_mem _ (List.mem_cons_of_mem _ (List.mem_cons_of_mem _ (List.mem_cons_of_mem _ (List.mem_cons_of_mem _ (List.mem_cons_of_mem _ (List.mem_cons_of_mem _ (List.mem_cons_of_mem _ (List.mem_cons_of_mem _ (List.mem_cons_of_mem _ (List.mem_cons_of_mem _ (List.mem_cons_of_mem _ (List.mem_cons_of_mem _ (List.mem_cons_of_mem _ (List.mem_cons_of_mem _ (List.mem_cons_of_mem _ (List.mem_cons_of_mem _ (List.mem_cons_of_mem _ (List.mem_cons_of_mem _ (List.mem_cons_of_mem _ (List.mem_cons_of_mem _ (List.mem_cons_of_mem _ (List.mem_cons_of_mem _ (List.mem_cons_of_mem _ (List.mem_cons_of_mem _ (List.mem_cons_of_mem _ (List.mem_cons_of_mem _ (List.mem_cons_of_mem _ (List.mem_cons_of_mem _ (List.mem_cons_self))))))))))))))))))))))))))))))))))))))))))), it_Unread⟩, ⟨_, List.mem_cons_of_mem _ (List.mem_cons_of_mem _ (List.mem_cons_of_mem _ (List.mem_cons_of_mem _ (List.mem_cons_of_mem _ (List.mem_cons_of_mem _ (List.mem_cons_of_mem _ (List.mem_cons_of_mem _ (List.mem_cons_of_mem _ (List.mem_cons_of_mem _ (List.mem_cons_of_mem _ (List.mem_cons_of_mem _ (List.mem_cons_of_mem _ (List.mem_cons_of_mem _ (List.mem_cons_of_mem _ (List.mem_cons_of_mem _ (List.mem_cons_of_mem _ (List.mem_cons_of_mem _ (List.mem_cons_of_mem _ (List.mem_cons_of_mem _ (List.mem_cons_of_mem _ (List.mem_cons_of_mem _ (List.mem_cons_of_mem _ (List.mem_cons_of_mem _ (List.mem_cons_of_mem _ (List.mem_cons_of_mem _ (List.mem_cons_of_mem _ (List.mem_cons_of_mem _ (List.mem_cons_of_mem _ (List.mem_cons_of_mem _ (List.mem_cons_of_mem _ (List.mem_cons_of_mem _ (List.mem_cons_of_mem _ (List.mem_cons_of_mem _ (List.mem_cons_of_mem _ (List.mem_cons_of_mem _ (List.mem_cons_of_mem _ (List.mem_cons_of_mem _ (List.mem_cons_of_mem _ (List.mem_cons_of_mem _ (List.mem_cons_of_mem _ (List.mem_cons_of_mem _ (List.mem_cons_of_mem _ (List.mem_cons_of_mem _ (List.mem_cons_self)))))))))))))))))))))))))))))))))))))))))))), it_BadText⟩, ⟨_, List.mem_cons_of_mem _ (List.mem_cons_of_mem _ (List.mem_cons_of_mem _ (List.mem_cons_of_mem _ (List.mem_cons_of_mem _ (List.mem_cons_of_mem _ (List.mem_cons_of_mem _ (List.mem_cons_of_mem _ (List.mem_cons_of_mem _ (List.mem_cons_of_mem _ (List.mem_cons_of_mem _ (List.mem_cons_of_mem _ (List.mem_cons_of_mem _ (List.mem_cons_of_mem _ (List.mem_cons_of_mem _ (List.mem_cons_of_mem _ (List.mem_cons_of_mem _ (List.mem_cons_of_mem _ (List.mem_cons_of_mem _ (List.mem_cons_of_mem _ (List.mem_cons_of_mem _ (List.mem_cons_of_mem _ (List.mem_cons_of_mem _ (List.mem_cons_of_mem _ (List.mem_cons_of_mem _ (List.mem_cons_of_mem _ (List.mem_cons_of_mem _ (List.mem_cons_of_mem _ (List.mem_cons_of_mem _ (List.mem_cons_of_mem _ (List.mem_cons_of_mem _ (List.mem_cons_of_mem _ (List.mem_cons_of_mem _ (List.mem_cons_of_mem _ (List.mem_cons_of_mem _ (List.mem_cons_of_mem _ (List.mem_cons_of_mem _ (List.mem_cons_of_mem _ (List.mem_cons_of_mem _ (List.mem_cons_of_mem _ (List.mem_cons_of_mem _ (List.mem_cons_of_mem _ (List.mem_cons_of_mem _ (List.mem_cons_of_mem _ (List.mem_cons_of_mem _ (List.mem_cons_self))))))))))))))))))))))))))))))))))))))))))))), it_NothingDone⟩, ⟨_, List.mem_cons_of_mem _ (List.mem_cons_of_mem _ (List.mem_cons_of_mem _ (List.mem_cons_of_mem _ (List.mem_cons_of_mem _ (List.mem_cons_of_mem _ (List.mem_cons_of_mem _ (List.mem_cons_of_mem _ (List.mem_cons_of_mem _ (List.mem_cons_of_mem _ (List.mem_cons_of_mem _ (List.mem_cons_of_mem _ (List.mem_cons_of_mem _ (List.mem_cons_of_mem _ (List.mem_cons_of_mem _ (List.mem_cons_of_mem _ (List.mem_cons_of_mem _ (List.mem_cons_of_mem _ (List.mem_cons_of_mem _ (List.mem_cons_of_mem _ (List.mem_cons_of_mem _ (List.mem_cons_of_mem _ (List.mem_cons_of_mem _ (List.mem_cons_of_mem _ (List.mem_cons_of_mem _ (List.mem_cons_of_mem _ (List.mem_cons_of_mem _ (List.mem_cons_of_mem _ (List.mem_cons_of_mem _ (List.mem_cons_of_mem _ (List.mem_cons_of_mem _ (List.mem_cons_of_mem _ (List.mem_cons_of_mem _ (List.mem_cons_of_mem _ (List.mem_cons_of_mem _ (List.mem_cons_of_mem _ (List.mem_cons_of_mem _ (List.mem_cons_of_mem _ (List.mem_cons_of_mem _ (List.mem_cons_of_mem _ (List.mem_cons_of_mem _ (List.mem_cons_of_mem _ (List.mem_cons_of_mem _ (List.mem_cons_of_mem _ (List.mem_cons_of_mem _ (List.mem_cons_of_mem _ (List.mem_cons_self)))))))))))))))))))))))))))))))))))))))))))))), it_NothingUndone⟩, fun x hx => absurd hx (by simp)⟩
def D0 : Hd := ⟨top, tab, bl, lt, exx, exs, ys, PySem.Challenge.pw_floormill_k00_errors_made.main.file⟩
def names0 : List Str := [.ofString "FloorError", .ofString "BadBook", .ofString "BadLetter", .ofString "BadNumber", .ofString "BadPath", .ofString "BadPlace", .ofString "BadTree", .ofString "NoName", .ofString "Refused", .ofString "TooGreat", .ofString "BadQuestion", .ofString "BadChange", .ofString "BadClaim", .ofString "BadClaims", .ofString "BadCode", .ofString "BadClasses", .ofString "NoCover", .ofString "BadBase", .ofString "BadBases", .ofString "BadFigures", .ofString "BadParts", .ofString "BadForm", .ofString "BadImage", .ofString "BadWord", .ofString "BadJournal", .ofString "Wrong", .ofString "BadWhich", .ofString "BadChain", .ofString "BadMove", .ofString "Unfit"]
def names1 : List Str := [.ofString "BadMoment", .ofString "BadStep", .ofString "BadSteps", .ofString "Barred", .ofString "Stopped", .ofString "NothingDone", .ofString "NothingUndone", .ofString "Unread", .ofString "BadReport", .ofString "BadSet", .ofString "NotOne", .ofString "BadForms", .ofString "BadPeriods", .ofString "BadPowers", .ofString "BadRow", .ofString "BadText", .ofString "BadLine", .ofString "NoTurn", .ofString "_law_spring", .ofString "_law_draw", .ofString "_law_pick", .ofString "_law_mixed", .ofString "_law_very", .ofString "_law_same", .ofString "_law_e_first", .ofString "_law_e_second", .ofString "_law_e_third", .ofString "_law_e_fourth", .ofString "_law_e_kinds", .ofString "_law_e_drawn"]
def names2 : List Str := [.ofString "_law_e_right"]
def names : List Str := names0 ++ names1 ++ names2
abbrev R : PySem.W.OpenRow := PySem.W.OpenLaw.row PySem.Challenge.rw_floormill_k00_errors_made
def ob (s : PySem.W.SharedT) : AlY := obsY D0 (HandSHeadRun.getT s)
theorem ob_eq (s : PySem.W.SharedT) : ob s = (hookY D0).obs s.abs := obsY_eq (HandSHeadRun.getT_eq s)
theorem runA (w : World) : HandSHeadRun.RunEq R (PySem.W.view R.prog [80]) PySem.W.Hook.none (fun _ => ()) 20000 names w := by
  intro os
  kernel_rfl
theorem runB (w : World) (os : OsState) : (topS R 20000 w os).map (fun s => He.obsD D0.fa D0.fn (frY (HandSHeadRun.getT s))) = some (He.valD D0.fn) := by kernel_rfl
theorem runC (w : World) (os : OsState) : (topS R 20000 w os).map (fun s => D0.exB (frY (HandSHeadRun.getT s)) && He.tabsB (HandSHeadRun.getT s) D0.tf (frY (HandSHeadRun.getT s))) = some true := by kernel_rfl
theorem runD (w : World) (os : OsState) : (topS R 20000 w os).map (fun s => D0.exs.map fun x => fnI (frY (HandSHeadRun.getT s)) x.1) = some (D0.exs.map fun x => exVal x.1 x.2) := by kernel_rfl
theorem run (w : World) : HandSHeadRun.RunEq R (PySem.W.view R.prog [80]) (hookY D0) ob 20000 names w := run_of (runA w) (runB w) (runC w) (runD w)
end
end K00
end Dy
open PySem PySem.W PySem.Calls PyProof.Rows
theorem PySem.Challenge.cw_floormill_k00_errors_made_holds : PySem.Challenge.rw_floormill_k00_errors_made.Holds := by
  w_on; o_law
  refine HandSHeadRun.head_any (r := OpenLaw.row PySem.Challenge.rw_floormill_k00_errors_made) (q := view (OpenLaw.row PySem.Challenge.rw_floormill_k00_errors_made).prog [80]) (H := Dy.hookY Dy.K00.D0) (ob := Dy.K00.ob) (M := 20000) (loose := Dy.K00.names) (d := HandSHeadRun.topDef (OpenLaw.row PySem.Challenge.rw_floormill_k00_errors_made).prog 80) (kwd := []) Dy.K00.ob_eq
    (by kernel_rfl) (fun s => by kernel_rfl) Dy.K00.run (by kernel_rfl) (by kernel_rfl) (by kernel_rfl) (by rfl) (by first | assumption | decide +kernel) (by decide +kernel) ⟨rfl, rfl, rfl, rfl, rfl, by decide +kernel⟩ ?hw ?hc
  case hw => w_witness2
  case hc =>
    refine LamX.walk_ofTsE (l := PySem.Challenge.rw_floormill_k00_errors_made) (n := 63) (k := 10) (x := "script") (CX := fun w => L2.CX PySem.Challenge.rw_floormill_k00_errors_made.prog w) rfl (by decide) (by kernel_rfl) ⟨rfl, by decide, by decide⟩ ?F (fun w H s e s' z => by
      obtain ⟨a, B, H', cls, d, _, _, _, _, _, _, _, z⟩ := z
      exact z)
    intro w mg fa h Y G hmg0
    obtain ⟨K, KX, c⟩ := Y
    have hmg : mg ("law" : PySem.Str) = some (.ref fa) := by
      have e : (HandSHeadRun.topDef (OpenLaw.row PySem.Challenge.rw_floormill_k00_errors_made).prog 80).name = ("law" : PySem.Str) := by kernel_rfl
      rw [← e]
      exact hmg0
    exact ⟨K, KX, Dy.lawAtS_of (D := Dy.K00.D0) (tabL := Dy.K00.tabL) (nN := 12) (i := 80) (mk := Dy.K00.m_law 10) KX c G hmg (by decide +kernel) (by decide) (Dy.lt_ok (by decide +kernel)) (by decide +kernel) (by decide +kernel) Dy.K00.hex rfl (by decide +kernel) Dy.K00.bd_law
      (fun s a fd g => Dy.K00.fn_law g 10) Dy.K00.law_true⟩

