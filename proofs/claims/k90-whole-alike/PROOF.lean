import PyProof.Rows.All
import Wide.All
import OpenK.AllK
import Wide.FinOn
import HandS.ForMost
import HandS.Exc
import HandS.TryOnly
import HandS.Flow
import HandS.TupAny
import HandS.Walk
import KE.KDictSum
import HandS.Defaults
import HandS.WordsExc
import KE.KDictKeyed
import KE.KDictWalk
import KE.GoesDict
import KE.KDictCopyH
import KE.SortData
import PySem.Challenge.RW_graphtwins_k90_whole_alike_in_the_end
import KE.GoesComp
import HandS.DictComp
import KE.KExcSuper
import HandS.ExcInit
import HandS.Nested
import HandS.FStr
import HandS.Strs
import HandS.TupSets
import HandS.SetFor
import HandS.IsInst
import HandS.Deep
import HandS.Conv
import HandS.Style
import KE.DataCmp
import KE.DataMinMax
import KE.KEqDict
import HandS.Steps
import HandS.HeadHook4
import HandS.Head2
import HandS.StrMore
import KE.KStateDown
import HandS.More
import HandS.Words
import HandS.HeadEnd
set_option Elab.async false
set_option linter.all false
set_option maxRecDepth 100000
set_option maxHeartbeats 2000000
namespace GT
open PySem PySem.Spec PyProof.Rows L2

/-! ### what stays -/
/-- all but the objects at F stays; tuples and locked things stay anyhow -/
structure Kp (F : List Addr) (H H' : Hp) : Prop where
  k : ∀ b o, b ∉ F → H b = some o → H' b = some o
  t : ∀ b xs, H b = some (.tup xs) → H' b = some (.tup xs)
  z : ∀ b o u, H b = some (.frz o u) → H' b = some (.frz o u)
section
variable {F G : List Addr} {H H1 H2 H' : Hp} {p a : Addr} {o : HO}
theorem Kp.refl : Kp F H H := ⟨fun _ _ _ h => h, fun _ _ h => h, fun _ _ _ h => h⟩
theorem Kp.trans (a : Kp F H H1) (b : Kp F H1 H2) : Kp F H H2 := ⟨fun c o n h => b.k c o n (a.k c o n h), fun c xs h => b.t c xs (a.t c xs h), fun c o u h => b.z c o u (a.z c o u h)⟩
theorem Kp.mono (a : Kp F H H1) (s : ∀ b ∈ F, b ∈ G) : Kp G H H1 := ⟨fun c o n h => a.k c o (fun m => n (s c m)) h, a.t, a.z⟩
/-- F may be widened by what was not there -/
theorem Kp.weak (a : Kp F H H1) (s : ∀ b ∈ F, b ∈ G ∨ H b = none) : Kp G H H1 := ⟨fun c o n h => a.k c o (fun m => (s c m).elim n (fun e => by rw [h] at e; cases e)) h, a.t, a.z⟩
theorem Kp.new (h : H p = none) : Kp F H (upd H p o) :=
  ⟨fun b u _ e => by rw [upd_ne (ne_of_none e h)]; exact e, fun b u e => by rw [upd_ne (ne_of_none e h)]; exact e, fun b u v e => by rw [upd_ne (ne_of_none e h)]; exact e⟩
def noTF : Option HO → Prop
  | some (.tup _) => False
  | some (.frz _ _) => False
  | _ => True
theorem Kp.wr (hm : noTF (H p)) (hp : p ∈ F) : Kp F H (upd H p o) :=
  ⟨fun b u n e => by rw [upd_ne (fun z => n (by rw [z]; exact hp))]; exact e, fun b u e => by
    rw [upd_ne (fun z => by rw [z] at e; rw [e] at hm; exact hm)]; exact e, fun b u v e => by
    rw [upd_ne (fun z => by rw [z] at e; rw [e] at hm; exact hm)]; exact e⟩
/-- a write to what is new since H -/
theorem Kp.wrn (k : Kp F H H1) (hp : H p = none) : Kp F H (upd H1 p o) :=
  ⟨fun b u n e => by rw [upd_ne (ne_of_none e hp)]; exact k.k b u n e, fun b u e => by rw [upd_ne (ne_of_none e hp)]; exact k.t b u e, fun b u v e => by rw [upd_ne (ne_of_none e hp)]; exact k.z b u v e⟩
/-- a write at F -/
theorem Kp.wrf (k : Kp F H H1) (hm : noTF (H1 p)) (hp : p ∈ F) : Kp F H (upd H1 p o) := k.trans (Kp.wr hm hp)
theorem Kp.get (k : Kp F H H') {b : Addr} {u : HO} (h : H b = some u) (n : b ∉ F) : H' b = some u := k.k b u n h
theorem Kp.none (k : Kp [] H H') {b : Addr} (h : H' b = none) : H b = none := by
  cases q : H b with
  | none => rfl
  | some u => rw [k.k b u (by simp) q] at h; cases h
theorem Kp.same (k : Kp [] H H') : Same H H' := fun b o h => k.k b o (by simp) h
theorem Kp.ofSame (s : ∀ b o, H b = some o → H' b = some o) : Kp F H H' := ⟨fun b o _ h => s b o h, fun b xs h => s b _ h, fun b o u h => s b _ h⟩
theorem rd_kp {u : HO} (k : Kp F H H') (n : a ∉ F) (h : Rd H a u) : Rd H' a u := by
  rcases h with h | ⟨o, h⟩
  · exact .inl (k.k a _ n h)
  · exact .inr ⟨o, k.z a o u h⟩
theorem sqt_kp {K : PySem.W.Frag} {xs : List V} (k : Kp F H H') (h : SqT K H a xs) : SqT K H' a xs := by
  rcases h with (h | ⟨o, h⟩) | h
  · exact .inl (.inl (k.t a _ h))
  · exact .inl (.inr ⟨o, k.z a o _ h⟩)
  · exact .inr h
theorem sql_kp {K : PySem.W.Frag} {xs : List V} (k : Kp F H H') (n : a ∉ F) (h : SqL K H a xs) : SqL K H' a xs := by
  rcases h with h | h
  · exact .inl (rd_kp k n h)
  · exact .inr h
end

/-! ### immutable data -/
abbrev D := NestedKey
mutual
inductive Im (K : PySem.W.Frag) (H : Hp) : V → D → Prop
  | non : Im K H .non .none
  | num (i : Int) : Im K H (.int i) (.num i)
  | text (x : Str) : Im K H (.str x) (.text x)
  | tup {a : Addr} {xs : List V} {ks : List D} : SqT K H a xs → ImA K H xs ks → Im K H (.ref a) (.tup ks)
inductive ImA (K : PySem.W.Frag) (H : Hp) : List V → List D → Prop
  | nil : ImA K H [] []
  | cons {v : V} {vs : List V} {k : D} {ks : List D} : Im K H v k → ImA K H vs ks → ImA K H (v :: vs) (k :: ks)
end
section
variable {K : PySem.W.Frag} {H H' : Hp} {F : List Addr}
mutual
theorem Im.kp (kp : Kp F H H') : ∀ (k : D) (v : V), Im K H v k → Im K H' v k
  | .none, _, h => by cases h; exact .non
  | .num i, _, h => by cases h; exact .num i
  | .text x, _, h => by cases h; exact .text x
  | .tup ks, _, h => by
    cases h with
    | tup s a => exact .tup (sqt_kp kp s) (ImA.kp kp ks _ a)
theorem ImA.kp (kp : Kp F H H') : ∀ (ks : List D) (vs : List V), ImA K H vs ks → ImA K H' vs ks
  | [], _, h => by cases h; exact .nil
  | k :: ks, _, h => by
    cases h with
    | cons a b => exact .cons (Im.kp kp k _ a) (ImA.kp kp ks _ b)
end
theorem Im.up {k : D} {v : V} (h : Im K H v k) (kp : Kp F H H') : Im K H' v k := Im.kp kp k v h
theorem ImA.up {k : List D} {v : List V} (h : ImA K H v k) (kp : Kp F H H') : ImA K H' v k := ImA.kp kp k v h
theorem ImA.len : ∀ {vs : List V} {ks : List D}, ImA K H vs ks → vs.length = ks.length
  | _, [], h => by cases h; rfl
  | _, _ :: _, h => by
    cases h with
    | cons _ b => simp [ImA.len b]
theorem ImA.get : ∀ {vs : List V} {ks : List D} {i : Nat} {v : V}, ImA K H vs ks → vs[i]? = some v → ∃ k, ks[i]? = some k ∧ Im K H v k
  | _, [], i, v, h, e => by cases h; simp at e
  | _, k :: ks, 0, v, h, e => by
    cases h with
    | cons a b => simp at e; subst e; exact ⟨k, rfl, a⟩
  | _, k :: ks, i + 1, v, h, e => by
    cases h with
    | cons a b => simp at e; simpa using ImA.get b e
theorem ImA.getD : ∀ {vs : List V} {ks : List D} {i : Nat} {k : D}, ImA K H vs ks → ks[i]? = some k → ∃ v, vs[i]? = some v ∧ Im K H v k
  | _, [], i, v, h, e => by cases h; simp at e
  | _, k :: ks, 0, v, h, e => by
    cases h with
    | cons a b => simp at e; subst e; exact ⟨_, rfl, a⟩
  | _, k :: ks, i + 1, v, h, e => by
    cases h with
    | cons a b => simp at e; simpa using ImA.getD b e
theorem ImA.app : ∀ {vs ws : List V} {ks ls : List D}, ImA K H vs ks → ImA K H ws ls → ImA K H (vs ++ ws) (ks ++ ls)
  | _, _, [], _, h, g => by cases h; exact g
  | _, _, _ :: _, _, h, g => by
    cases h with
    | cons a b => exact .cons a (ImA.app b g)
theorem ImA.snoc {vs : List V} {ks : List D} {v : V} {k : D} (h : ImA K H vs ks) (g : Im K H v k) : ImA K H (vs ++ [v]) (ks ++ [k]) := h.app (.cons g .nil)
theorem Im.ref {v : V} {ks : List D} (h : Im K H v (.tup ks)) : ∃ a xs, v = .ref a ∧ SqT K H a xs ∧ ImA K H xs ks := by
  cases h with
  | tup s a => exact ⟨_, _, rfl, s, a⟩
theorem Im.int {v : V} {i : Int} (h : Im K H v (.num i)) : v = .int i := by cases h; rfl
theorem Im.str {v : V} {x : Str} (h : Im K H v (.text x)) : v = .str x := by cases h; rfl
theorem Im.non' {v : V} (h : Im K H v .none) : v = .non := by cases h; rfl
theorem ImA.one {vs : List V} {k : D} (h : ImA K H vs [k]) : ∃ v, vs = [v] ∧ Im K H v k := by
  cases h with
  | cons a b => cases b; exact ⟨_, rfl, a⟩
theorem ImA.hd {vs : List V} {k : D} {ks : List D} (h : ImA K H vs (k :: ks)) : ∃ v ws, vs = v :: ws ∧ Im K H v k ∧ ImA K H ws ks := by
  cases h with
  | cons a b => exact ⟨_, _, rfl, a, b⟩
theorem ImA.two {vs : List V} {k l : D} (h : ImA K H vs [k, l]) : ∃ v u, vs = [v, u] ∧ Im K H v k ∧ Im K H u l := by
  obtain ⟨v, ws, rfl, a, b⟩ := h.hd
  obtain ⟨u, rfl, c⟩ := b.one
  exact ⟨v, u, rfl, a, c⟩
theorem ImA.nil' {vs : List V} (h : ImA K H vs []) : vs = [] := by cases h; rfl
end
section
variable {X : Cx} {pins : List (Addr × Obj)} {σ : L2.St} {H : Hp} {s : Shared}
mutual
theorem Im.nested (I : Inv X pins σ H s) : ∀ (k : D) (v : V) (u : Value), Im X.K H v k → RelV v u → NestedIs s.heap k u
  | .none, _, _, h, r => by cases h; cases r; exact .none
  | .num i, _, _, h, r => by cases h; obtain ⟨t, rfl⟩ := r; exact .int i t
  | .text x, _, _, h, r => by cases h; obtain ⟨t, rfl⟩ := r; exact .text x t
  | .tup ks, _, _, h, r => by
    cases h with
    | tup hs ha =>
      cases r
      obtain ⟨its, rv, ⟨o, ho, hc, n, hd⟩, _⟩ := I.tuple hs
      exact .tup ho hc hd (by simpa using ImA.nested I ks _ its ha rv)
theorem ImA.nested (I : Inv X pins σ H s) : ∀ (ks : List D) (vs : List V) (us : List Value), ImA X.K H vs ks → Vals vs us → NestedAll s.heap ks us
  | [], _, _, h, r => by cases h; cases r; exact .nil
  | k :: ks, _, _, h, r => by
    cases h with
    | cons a b =>
      cases r with
      | cons r1 r2 => exact .cons (Im.nested I k _ _ a r1) (ImA.nested I ks _ _ b r2)
end
end
mutual
theorem Im.dp {K : PySem.W.Frag} {H : Hp} : ∀ (k : D) (v : V), Im K H v k → Dp K H v k.data
  | .none, _, h => by cases h; exact .non
  | .num i, _, h => by cases h; exact .int i
  | .text x, _, h => by cases h; exact .str x
  | .tup ks, _, h => by
    cases h with
    | tup hs ha => exact .tup hs (ImA.dp ks _ ha)
theorem ImA.dp {K : PySem.W.Frag} {H : Hp} : ∀ (ks : List D) (vs : List V), ImA K H vs ks → DpAll K H vs (NestedKey.datas ks)
  | [], _, h => by cases h; exact .nil
  | k :: ks, _, h => by
    cases h with
    | cons a b => exact .cons (Im.dp k _ a) (ImA.dp ks _ b)
end
mutual
theorem eqv_data : ∀ a b : D, PyData.eqv a.data b.data = NestedKey.beq a b
  | .none, .none => rfl
  | .none, .num _ => rfl
  | .none, .text _ => rfl
  | .none, .tup _ => rfl
  | .num _, .none => rfl
  | .num a, .num b => by
    show (a == b) = decide (a = b)
    rfl
  | .num _, .text _ => rfl
  | .num _, .tup _ => rfl
  | .text _, .none => rfl
  | .text _, .num _ => rfl
  | .text a, .text b => by
    show (a == b) = decide (a = b)
    by_cases h : a = b
    · rw [decide_eq_true h]; exact beq_iff_eq.mpr h
    · rw [decide_eq_false h]; exact beq_eq_false_iff_ne.mpr h
  | .text _, .tup _ => rfl
  | .tup _, .none => rfl
  | .tup _, .num _ => rfl
  | .tup _, .text _ => rfl
  | .tup a, .tup b => by
    show PyData.eqv (.tuple (NestedKey.datas a)) (.tuple (NestedKey.datas b)) = NestedKey.beqAll a b
    rw [PyData.eqv]
    exact eqv_datas a b
theorem eqv_datas : ∀ a b : List D, PyData.eqvAll (NestedKey.datas a) (NestedKey.datas b) = NestedKey.beqAll a b
  | [], [] => rfl
  | [], _ :: _ => rfl
  | _ :: _, [] => rfl
  | a :: as, b :: bs => by
    show PyData.eqvAll (a.data :: NestedKey.datas as) (b.data :: NestedKey.datas bs) = (NestedKey.beq a b && NestedKey.beqAll as bs)
    rw [PyData.eqvAll, eqv_data a b, eqv_datas as bs]
end
theorem beqAll_dec : ∀ a b : List D, NestedKey.beqAll a b = decide (a = b) := fun a b => by
  have e : NestedKey.beq (.tup a) (.tup b) = NestedKey.beqAll a b := rfl
  rw [← e, ← NestedKey.decide_eq]
  by_cases h : a = b
  · subst h; simp
  · rw [decide_eq_false (fun z => h (by injection z)), decide_eq_false h]
mutual
theorem depth_data : ∀ a : D, PyData.depth a.data = a.depth
  | .none => by simp [NestedKey.data, PyData.depth, NestedKey.depth]
  | .num _ => by simp [NestedKey.data, PyData.depth, NestedKey.depth]
  | .text _ => by simp [NestedKey.data, PyData.depth, NestedKey.depth]
  | .tup ks => by
    simp only [NestedKey.data, PyData.depth, NestedKey.depth, depth_datas ks]
theorem depth_datas : ∀ a : List D, PyData.depthAll (NestedKey.datas a) = NestedKey.depthAll a
  | [] => by simp [NestedKey.datas, PyData.depthAll, NestedKey.depthAll]
  | a :: as => by simp only [NestedKey.datas, PyData.depthAll, NestedKey.depthAll, depth_data a, depth_datas as]
end
/-- data that == can be asked of -/
abbrev Shp (a : D) : Prop := SeqAt.shaped a.data = true
abbrev ShpL (a : List D) : Prop := SeqAt.shaped (.list (NestedKey.datas a)) = true

/-! ### == and != of immutable data, of lists of them -/
def rEqI (K : PySem.W.Frag) : R2 := fun x y H Q => ∃ a b, Im K H x a ∧ Im K H y b ∧ Shp a ∧ Shp b ∧ Q (.bl (decide (a = b))) H
def rNeI (K : PySem.W.Frag) : R2 := fun x y H Q => ∃ a b, Im K H x a ∧ Im K H y b ∧ Shp a ∧ Shp b ∧ Q (.bl (!decide (a = b))) H
def rEqLI (K : PySem.W.Frag) : R2 := fun x y H Q => ∃ p q xs ys a b, x = .ref p ∧ y = .ref q ∧ SqL K H p xs ∧ SqL K H q ys ∧ ImA K H xs a ∧ ImA K H ys b ∧ ShpL a ∧ ShpL b ∧ Q (.bl (decide (a = b))) H
def rNeLI (K : PySem.W.Frag) : R2 := fun x y H Q => ∃ p q xs ys a b, x = .ref p ∧ y = .ref q ∧ SqL K H p xs ∧ SqL K H q ys ∧ ImA K H xs a ∧ ImA K H ys b ∧ ShpL a ∧ ShpL b ∧ Q (.bl (!decide (a = b))) H
section
variable {X : Cx}
theorem op_eqI (hu : X.A.units + 64 < cLine) : OpR X (compareOp .Eq) (rEqI X.K) := by
  intro pins s σ H x y v u Q I rx ry h
  obtain ⟨a, b, ha, hb, d1, d2, q⟩ := h
  refine op_eqD hu pins s σ H x y v u Q I rx ry ⟨_, _, Im.dp _ _ ha, Im.dp _ _ hb, d1, d2, ?_⟩
  rw [eqv_data, ← NestedKey.decide_eq]
  exact q
theorem op_neI (hu : X.A.units + 64 < cLine) : OpR X (compareOp .NotEq) (rNeI X.K) := by
  intro pins s σ H x y v u Q I rx ry h
  obtain ⟨a, b, ha, hb, d1, d2, q⟩ := h
  refine op_neD hu pins s σ H x y v u Q I rx ry ⟨_, _, Im.dp _ _ ha, Im.dp _ _ hb, d1, d2, ?_⟩
  rw [eqv_data, ← NestedKey.decide_eq]
  exact q
theorem op_eqLI (hu : X.A.units + 64 < cLine) : OpR X (compareOp .Eq) (rEqLI X.K) := by
  intro pins s σ H x y v u Q I rx ry h
  obtain ⟨p, q', xs, ys, a, b, rfl, rfl, hp, hq, ha, hb, d1, d2, q⟩ := h
  refine op_eqD hu pins s σ H _ _ v u Q I rx ry ⟨_, _, .lst hp (ImA.dp _ _ ha), .lst hq (ImA.dp _ _ hb), d1, d2, ?_⟩
  rw [PyData.eqv, eqv_datas, beqAll_dec]
  exact q
theorem op_neLI (hu : X.A.units + 64 < cLine) : OpR X (compareOp .NotEq) (rNeLI X.K) := by
  intro pins s σ H x y v u Q I rx ry h
  obtain ⟨p, q', xs, ys, a, b, rfl, rfl, hp, hq, ha, hb, d1, d2, q⟩ := h
  refine op_neD hu pins s σ H _ _ v u Q I rx ry ⟨_, _, .lst hp (ImA.dp _ _ ha), .lst hq (ImA.dp _ _ hb), d1, d2, ?_⟩
  rw [PyData.eqv, eqv_datas, beqAll_dec]
  exact q
end

/-! ### a thing locked for good -/
/-- the tracked thing at a, which is no more written -/
def tFrz (te : TE) : TE := fun σ H Q => te σ H fun v H1 => ∃ a u, H1 a = some u ∧ Mut (some u) ∧ ∀ o, Q v (upd H1 a (.frz o u))
theorem pe_frz {X : Cx} {e : Expr} {te : TE} (h : PE X e te) : PE X e (tFrz te) := by
  refine ⟨fun pins s σ H Q I hw => ?_⟩
  refine thn (h.run pins s σ H _ I hw) fun v s1 ⟨x, H1, I1, r1, a, u, ha, mu, q⟩ => ?_
  obtain ⟨od, I2⟩ := I1.lock ha mu
  exact ⟨x, _, I2, r1, q od⟩
/-- v is a list, locked for good -/
def Fz (H : Hp) (v : V) (xs : List V) : Prop := ∃ a o, v = .ref a ∧ H a = some (.frz o (.lst xs))
theorem Fz.up {F : List Addr} {H H' : Hp} {v : V} {xs : List V} (h : Fz H v xs) (k : Kp F H H') : Fz H' v xs := by
  obtain ⟨a, o, e, h⟩ := h
  exact ⟨a, o, e, k.z a o _ h⟩
theorem Fz.sq {K : PySem.W.Frag} {H : Hp} {a : Addr} {xs : List V} (h : Fz H (.ref a) xs) : SqL K H a xs := by
  obtain ⟨b, o, e, h⟩ := h
  cases e
  exact .inl (.inr ⟨o, h⟩)
theorem Fz.new {H : Hp} {a : Addr} {o : Obj} {xs : List V} : Fz (upd H a (.frz o (.lst xs))) (.ref a) xs := ⟨a, o, rfl, upd_same⟩
end GT
set_option maxHeartbeats 2000000
namespace GT
open PySem PySem.Spec PyProof.Rows L2

/-! ### dicts whose keys are tuples of data, nested -/
/-- an entry: the key, its tuple's address, the value -/
abbrev En := D × Addr × V
abbrev EnR : En → (D × Addr × Value) → Prop := fun p q => p.1 = q.1 ∧ p.2.1 = q.2.1 ∧ RelV p.2.2 q.2.2
def DNf (P : Program) (w : World) (d : Addr) (es : List En) (h : Heap) : Prop :=
  es.length ≤ sizeLine ∧ (d == sysModules) = false ∧ ∃ xs : List (D × Addr × Value), Paired EnR es xs ∧
    ∃ o ents ep, h.get? d = some o ∧ o.ExactDict ∧ o.data = .dict ents ep ∧ ents.toList = xs.map (entryOfKey (nestedKind P w)) ∧ (xs.map (·.1)).Nodup
def DN (P : Program) (w : World) (d : Addr) (es : List En) : HO := .ext (DNf P w d es)
section
variable {P : Program} {w : World} {K : PySem.W.Frag} {H H' : Hp} {h h' : Heap} {d : Addr} {es : List En} {F : List Addr}
theorem DNf.ok (x : DNf P w d es h) : ObjOk P w H h d (DN P w d es) := by
  obtain ⟨z, y, xs, r, o, ents, ep, e, c⟩ := id x
  refine ⟨x, ⟨o, e⟩, fun h1 h2 x1 k => ?_⟩
  obtain ⟨z, y, xs, r, o, ents, ep, e, c⟩ := x1
  exact ⟨z, y, xs, r, o, ents, ep, k _ e, c⟩
def KeysOk (K : PySem.W.Frag) (H : Hp) (es : List En) : Prop := ∀ e ∈ es, (∃ ks, e.1 = .tup ks) ∧ Im K H (.ref e.2.1) e.1 ∧ e.1.depth ≤ 8
theorem KeysOk.up (x : KeysOk K H es) (k : Kp F H H') : KeysOk K H' es := fun e he => ⟨(x e he).1, (x e he).2.1.up k, (x e he).2.2⟩
/-- keys and values -/
abbrev kvE (es : List En) : List (D × V) := es.map fun e => (e.1, e.2.2)
/-- a dict that is read -/
def DR (P : Program) (w : World) (K : PySem.W.Frag) (H : Hp) (d : Addr) (kvs : List (D × V)) : Prop := ∃ es, Rd H d (DN P w d es) ∧ KeysOk K H es ∧ kvE es = kvs
/-- a dict that may be written -/
def DM (P : Program) (w : World) (K : PySem.W.Frag) (H : Hp) (d : Addr) (kvs : List (D × V)) : Prop := ∃ es, H d = some (DN P w d es) ∧ KeysOk K H es ∧ kvE es = kvs
theorem DM.r {kvs : List (D × V)} (x : DM P w K H d kvs) : DR P w K H d kvs := let ⟨es, a, b, c⟩ := x; ⟨es, .inl a, b, c⟩
theorem DM.up {kvs : List (D × V)} (x : DM P w K H d kvs) (k : Kp F H H') (n : d ∉ F) : DM P w K H' d kvs := let ⟨es, a, b, c⟩ := x; ⟨es, k.k _ _ n a, b.up k, c⟩
theorem DR.up {kvs : List (D × V)} (x : DR P w K H d kvs) (k : Kp F H H') (n : d ∉ F) : DR P w K H' d kvs := let ⟨es, a, b, c⟩ := x; ⟨es, rd_kp k n a, b.up k, c⟩
theorem DM.some {kvs : List (D × V)} (x : DM P w K H d kvs) : ∃ o, H d = some o ∧ Mut (some o) ∧ noTF (some o) := let ⟨es, a, _, _⟩ := x; ⟨_, a, trivial, trivial⟩
theorem DM.noTF {kvs : List (D × V)} (x : DM P w K H d kvs) : noTF (H d) := let ⟨es, a, _, _⟩ := x; by rw [a]; trivial
theorem DM.mut {kvs : List (D × V)} (x : DM P w K H d kvs) : Mut (H d) := let ⟨es, a, _, _⟩ := x; by rw [a]; trivial
/-- locked for good -/
def DZ (P : Program) (w : World) (K : PySem.W.Frag) (H : Hp) (d : Addr) (kvs : List (D × V)) : Prop := ∃ o es, H d = some (.frz o (DN P w d es)) ∧ KeysOk K H es ∧ kvE es = kvs
theorem DZ.r {kvs : List (D × V)} (x : DZ P w K H d kvs) : DR P w K H d kvs := let ⟨o, es, a, b, c⟩ := x; ⟨es, .inr ⟨o, a⟩, b, c⟩
theorem DZ.up {kvs : List (D × V)} (x : DZ P w K H d kvs) (k : Kp F H H') : DZ P w K H' d kvs := let ⟨o, es, a, b, c⟩ := x; ⟨o, es, k.z _ _ _ a, b.up k, c⟩
end

theorem enr_len {es : List En} {xs : List (D × Addr × Value)} (r : Paired EnR es xs) : es.length = xs.length := Paired.length r
theorem enr_keys {es : List En} {xs : List (D × Addr × Value)} (r : Paired EnR es xs) : (kvE es).map (·.1) = xs.map (·.1) := by
  induction r with
  | nil => rfl
  | cons h t ih =>
    exact congr (congrArg List.cons h.1) ih
theorem enr_val {es : List En} {xs : List (D × Addr × Value)} (r : Paired EnR es xs) (k : D) : RelO (valV (kvE es) k) ((atKey xs k).map (·.2)) := by
  induction r with
  | nil => exact True.intro
  | @cons p q ps qs h t ih =>
    obtain ⟨h1, _, h2⟩ := h
    by_cases e : p.1 = k
    · have e' : q.1 = k := h1.symm.trans e
      have b : atKey (q :: qs) k = some q.2 := by simp [atKey, List.find?_cons, e']
      rw [show kvE (p :: ps) = (p.1, p.2.2) :: kvE ps from rfl, valV_pos (p := (p.1, p.2.2)) e, b]
      exact h2
    · have e' : ¬ q.1 = k := fun z => e (h1.trans z)
      have b : atKey (q :: qs) k = atKey qs k := by simp [atKey, List.find?_cons, e']
      rw [show kvE (p :: ps) = (p.1, p.2.2) :: kvE ps from rfl, valV_neg (p := (p.1, p.2.2)) e, b]
      exact ih
/-- the entries behind d[k] = v, k's tuple at a -/
def storeE (es : List En) (k : D) (a : Addr) (v : V) : List En := if (valV (kvE es) k).isSome then es.map (fun e => if e.1 = k then (e.1, e.2.1, v) else e) else es ++ [(k, a, v)]
theorem kvE_store (es : List En) (k : D) (a : Addr) (v : V) : kvE (storeE es k a v) = putK (kvE es) k v := by
  unfold storeE putK
  rw [valV_any]
  split
  · unfold kvE
    rw [List.map_map, List.map_map]
    refine List.map_congr_left fun e _ => ?_
    by_cases h : e.1 = k <;> simp [h]
  · unfold kvE
    rw [List.map_append]
    rfl
theorem enr_map {es : List En} {xs : List (D × Addr × Value)} (r : Paired EnR es xs) (k : D) {v : V} {u : Value} (rv : RelV v u) : Paired EnR (es.map (fun e => if e.1 = k then (e.1, e.2.1, v) else e)) (xs.map (putAt k u)) := by
  induction r with
  | nil => exact .nil
  | @cons p q ps qs h t ih =>
    rw [List.map_cons, List.map_cons]
    refine .cons ?_ ih
    obtain ⟨h1, h2, h3⟩ := h
    unfold putAt
    by_cases e : p.1 = k
    · rw [if_pos e, if_pos (h1.symm.trans e)]; exact ⟨h1, h2, rv⟩
    · rw [if_neg e, if_neg (fun z => e (h1.trans z))]; exact ⟨h1, h2, h3⟩
theorem enr_store {es : List En} {xs : List (D × Addr × Value)} (r : Paired EnR es xs) (k : D) (a : Addr) {v : V} {u : Value} (rv : RelV v u) : Paired EnR (storeE es k a v) (storedH xs k a u) := by
  have e : (valV (kvE es) k).isSome = (atKey xs k).isSome := by
    rw [(enr_val r k).isSome_eq, Option.isSome_map]
  unfold storeE storedH
  rw [e]
  by_cases q : (atKey xs k).isSome = true
  · rw [if_pos q, if_pos q]; exact enr_map r k rv
  · rw [if_neg q, if_neg q]; exact Paired.snoc r ⟨rfl, rfl, rv⟩
theorem storeE_mem {es : List En} {k : D} {a : Addr} {v : V} {e : En} (h : e ∈ storeE es k a v) : (∃ e' ∈ es, e.1 = e'.1 ∧ e.2.1 = e'.2.1) ∨ (e.1 = k ∧ e.2.1 = a) := by
  unfold storeE at h
  split at h
  · obtain ⟨e', he, q⟩ := List.mem_map.mp h
    by_cases z : e'.1 = k
    · rw [if_pos z] at q; subst q; exact .inl ⟨e', he, rfl, rfl⟩
    · rw [if_neg z] at q; subst q; exact .inl ⟨e', he, rfl, rfl⟩
  · rcases List.mem_append.mp h with h | h
    · exact .inl ⟨e, h, rfl, rfl⟩
    · simp at h; subst h; exact .inr ⟨rfl, rfl⟩
theorem storeE_len (es : List En) (k : D) (a : Addr) (v : V) : (storeE es k a v).length ≤ es.length + 1 := by
  unfold storeE
  split
  · rw [List.length_map]; omega
  · simp

section
variable {X : Cx} {pins : List (Addr × Obj)} {σ : L2.St} {H : Hp} {s : Shared} {d a : Addr} {es : List En} {kvs : List (D × V)} {k : D} {v : V} {u r : Value} {A : Around} {E : Value → Shared → Prop}

theorem im_is {ks : List D} (I : Inv X pins σ H s) (h : Im X.K H (.ref a) (.tup ks)) (hd : (NestedKey.tup ks).depth ≤ 8) : (nestedKind X.prog X.w).is s.heap (.tup ks) a :=
  ⟨Im.nested I _ _ _ h rfl, hd⟩
theorem dn_raw (I : Inv X pins σ H s) (h : Rd H d (DN X.prog X.w d es)) (hk : KeysOk X.K H es) :
    es.length ≤ sizeLine ∧ (d == sysModules) = false ∧ ∃ xs, Paired EnR es xs ∧ s.heap.DictOfH (nestedKind X.prog X.w) d xs := by
  have x : ObjOk X.prog X.w H s.heap d (DN X.prog X.w d es) := h.ok I.hok
  obtain ⟨⟨z, y, xs, r, o, ents, ep, e, c1, c2, c3, c4⟩, _, _⟩ := x
  refine ⟨z, y, xs, r, o, ents, ep, e, c1, c2, c3, ?_, c4⟩
  have all : ∀ {l : List En} {m : List (D × Addr × Value)}, Paired EnR l m → KeysOk X.K H l → ∀ x ∈ m, (nestedKind X.prog X.w).is s.heap x.1 x.2.1 := by
    intro l m q
    induction q with
    | nil => intro _ x hx; cases hx
    | @cons p q ps qs hq t ih =>
      intro hk x hx
      rcases List.mem_cons.mp hx with e | hx
      · subst e
        obtain ⟨⟨ks, ek⟩, h1, h2⟩ := hk p List.mem_cons_self
        rw [← hq.1, ← hq.2.1]
        rw [ek] at h1 h2 ⊢
        exact im_is I h1 h2
      · exact ih (fun e he => hk e (List.mem_cons_of_mem _ he)) x hx
  exact all r hk
theorem dr_raw (I : Inv X pins σ H s) (h : DR X.prog X.w X.K H d kvs) :
    kvs.length ≤ sizeLine ∧ (d == sysModules) = false ∧ ∃ xs, (∀ k, RelO (valV kvs k) ((atKey xs k).map (·.2))) ∧ xs.length = kvs.length ∧ s.heap.DictOfH (nestedKind X.prog X.w) d xs := by
  obtain ⟨es, a, b, rfl⟩ := h
  obtain ⟨z, y, xs, r, dd⟩ := dn_raw I a b
  exact ⟨by simpa [kvE] using z, y, xs, fun k => enr_val r k, by rw [← enr_len r]; simp [kvE], dd⟩
theorem dn_write {h' : Heap} {t' : Nat} {xs : List (D × Addr × Value)} (I : Inv X pins σ H s) (mu : Mut (H d)) (hs : Heap.SameBut d s.heap h') (z : es.length ≤ sizeLine) (y : (d == sysModules) = false)
    (rel : Paired EnR es xs) (dd : h'.DictOfH (nestedKind X.prog X.w) d xs) : Inv X pins σ (upd H d (DN X.prog X.w d es)) { s with heap := h', toks := t' } := by
  obtain ⟨o, ents, ep, e, c1, c2, c3, c4, c5⟩ := dd
  exact I.write (x := d) (e := d) mu (.inl rfl) (fun b q hb z => (hs.2 b hb).trans z) ⟨_, e⟩ (DNf.ok ⟨z, y, xs, rel, o, ents, ep, e, c1, c2, c3, c5⟩)

/-- what d holds at the key v -/
structure At (P : Program) (w : World) (K : PySem.W.Frag) (H : Hp) (d : Addr) (v : V) (kvs : List (D × V)) (k : D) : Prop where
  dr : DR P w K H d kvs
  im : Im K H v k
  tp : ∃ ks, k = .tup ks
  dp : k.depth ≤ 8

abbrev rm (X : Cx) : Prop := X.A.units + 64 < cLine
theorem n_getItem {y : V} {Q : Value → Shared → Prop} (hu : A.units + 20 < cLine) (I : Inv X pins σ H s) (g : At X.prog X.w X.K H d y kvs k) (l : valV kvs k = some v) (ry : RelV y u) (h : ∀ w' s', Inv X pins σ H s' → RelV v w' → Q w' s') :
    wpAny (model X.prog X.w) A (getItem (.ref d) u) Q E s := by
  obtain ⟨dr, im, ⟨ks, rfl⟩, dp⟩ := g
  obtain ⟨z, y, xs, rel, _, dd⟩ := dr_raw I dr
  obtain ⟨a, ys, rfl, _, _⟩ := im.ref
  cases ry
  obtain ⟨w', hw, rw'⟩ := RelO.some_of (v := v) (o := (atKey xs (.tup ks)).map (·.2)) (by rw [← l]; exact rel _)
  obtain ⟨p, hp, hp2⟩ := Option.map_eq_some_iff.mp hw
  refine wpAny_getItem_heap (knd := nestedKind X.prog X.w) (show A.in1.units + 8 < cLine by show A.units + 1 + 8 < cLine; omega) (im_is I im dp) dd hp ?_
  rw [hp2]
  exact h w' _ (I.tok _) rw'
theorem n_in {y : V} {Q : Value → Shared → Prop} (hu : A.units + 20 < cLine) (I : Inv X pins σ H s) (g : At X.prog X.w X.K H d y kvs k) (ry : RelV y u) (h : ∀ s', Inv X pins σ H s' → Q (.bool (valV kvs k).isSome) s') :
    wpAny (model X.prog X.w) A (compareOp .In u (.ref d)) Q E s := by
  obtain ⟨dr, im, ⟨ks, rfl⟩, dp⟩ := g
  obtain ⟨z, y, xs, rel, _, dd⟩ := dr_raw I dr
  obtain ⟨a, ys, rfl, _, _⟩ := im.ref
  cases ry
  refine wpAny_in_heap (knd := nestedKind X.prog X.w) (show A.in1.units + 8 < cLine by show A.units + 1 + 8 < cLine; omega) (im_is I im dp) y dd ?_
  have q := (rel (.tup ks)).isSome_eq
  rw [Option.isSome_map] at q
  rw [← q]
  exact h _ (I.tok _)
theorem n_notIn {y : V} {Q : Value → Shared → Prop} (hu : A.units + 20 < cLine) (I : Inv X pins σ H s) (g : At X.prog X.w X.K H d y kvs k) (ry : RelV y u) (h : ∀ s', Inv X pins σ H s' → Q (.bool (!(valV kvs k).isSome)) s') :
    wpAny (model X.prog X.w) A (compareOp .NotIn u (.ref d)) Q E s := by
  obtain ⟨dr, im, ⟨ks, rfl⟩, dp⟩ := g
  obtain ⟨z, y, xs, rel, _, dd⟩ := dr_raw I dr
  obtain ⟨a, ys, rfl, _, _⟩ := im.ref
  cases ry
  refine wpAny_notIn_heap (knd := nestedKind X.prog X.w) (show A.in1.units + 8 < cLine by show A.units + 1 + 8 < cLine; omega) (im_is I im dp) y dd ?_
  have q := (rel (.tup ks)).isSome_eq
  rw [Option.isSome_map] at q
  rw [← q]
  exact h _ (I.tok _)
theorem n_get {y : V} {Q : Value → Shared → Prop} (hu : A.units + 20 < cLine) (I : Inv X pins σ H s) (g : At X.prog X.w X.K H d y kvs k) (ry : RelV y u) (h : ∀ w' s', Inv X pins σ H s' → RelV ((valV kvs k).getD .non) w' → Q w' s') :
    wpAny (model X.prog X.w) A (call (.builtin "dict.get") [.ref d, u]) Q E s := by
  obtain ⟨dr, im, ⟨ks, rfl⟩, dp⟩ := g
  obtain ⟨z, y, xs, rel, _, dd⟩ := dr_raw I dr
  obtain ⟨a, ys, rfl, _, _⟩ := im.ref
  cases ry
  refine call_meetsIn PySem.F.slot_dict_get dd.typeIs PySem.F.entry_dict_get (PySem.F.args_dict_get_2 _ _) (meetsH_dict_get (nestedKind X.prog X.w) d a y)
    ⟨show A.in1.units + 8 < cLine by show A.units + 1 + 8 < cLine; omega, .tup ks, xs, im_is I im dp, dd, h _ _ (I.tok _) ?_⟩
  exact (rel (.tup ks)).getD rfl
/-- the heap behind a store -/
theorem dm_stored {ks : List D} (g : DM X.prog X.w X.K H d kvs) (im : Im X.K H (.ref a) (.tup ks)) (dp : (NestedKey.tup ks).depth ≤ 8) {es : List En} (hes : H d = some (DN X.prog X.w d es)) (hk : KeysOk X.K H es) (he : kvE es = kvs) (v : V) :
    Kp [d] H (upd H d (DN X.prog X.w d (storeE es (.tup ks) a v))) ∧ DM X.prog X.w X.K (upd H d (DN X.prog X.w d (storeE es (.tup ks) a v))) d (putK kvs (.tup ks) v) := by
  have kp : Kp [d] H (upd H d (DN X.prog X.w d (storeE es (.tup ks) a v))) := Kp.wr g.noTF (by simp)
  refine ⟨kp, _, upd_same, fun e hm => ?_, by rw [kvE_store, he]⟩
  rcases storeE_mem hm with ⟨e', h1, h2, h3⟩ | ⟨h2, h3⟩
  · rw [h2, h3]; exact ⟨(hk e' h1).1, (hk e' h1).2.1.up kp, (hk e' h1).2.2⟩
  · rw [h2, h3]; exact ⟨⟨ks, rfl⟩, im.up kp, dp⟩
theorem n_setItem {y : V} {Q : Unit → Shared → Prop} (hu : A.units + 20 < cLine) (I : Inv X pins σ H s) (g : DM X.prog X.w X.K H d kvs) (im : Im X.K H y k) (tp : ∃ ks, k = .tup ks) (dp : k.depth ≤ 8) (hz : kvs.length < sizeLine) (ry : RelV y u) (rv : RelV v r)
    (h : ∀ H' s', Kp [d] H H' → DM X.prog X.w X.K H' d (putK kvs k v) → Inv X pins σ H' s' → Q () s') : wpAny (model X.prog X.w) A (setItem (.ref d) u r) Q E s := by
  obtain ⟨ks, rfl⟩ := tp
  obtain ⟨es, h1, h2, h3⟩ := id g
  obtain ⟨z, y0, xs, rel, dd⟩ := dn_raw I (.inl h1) h2
  obtain ⟨a, ys, rfl, _, _⟩ := im.ref
  cases ry
  have hl : es.length = kvs.length := by rw [← h3]; simp [kvE]
  refine wpAny_setItem_heap (knd := nestedKind X.prog X.w) (hsz := by rw [← enr_len rel]; omega) (show A.in1.units + 8 < cLine by show A.units + 1 + 8 < cLine; omega) (im_is I im dp) dd fun h' dd' hs => ?_
  obtain ⟨k1, k2⟩ := dm_stored g im dp h1 h2 h3 v
  exact h _ _ k1 k2 (dn_write I g.mut hs (by have := storeE_len es (.tup ks) a v; omega) y0 (enr_store rel _ a rv) dd')
theorem n_setdefault {y : V} {Q : Value → Shared → Prop} (hu : A.units + 20 < cLine) (I : Inv X pins σ H s) (g : DM X.prog X.w X.K H d kvs) (im : Im X.K H y k) (tp : ∃ ks, k = .tup ks) (dp : k.depth ≤ 8) (hz : kvs.length < sizeLine) (ry : RelV y u) (rv : RelV v r)
    (h1 : ∀ x w' s', valV kvs k = some x → Inv X pins σ H s' → RelV x w' → Q w' s')
    (h2 : ∀ H' s', valV kvs k = none → Kp [d] H H' → DM X.prog X.w X.K H' d (putK kvs k v) → Inv X pins σ H' s' → Q r s') : wpAny (model X.prog X.w) A (call (.builtin "dict.setdefault") [.ref d, u, r]) Q E s := by
  obtain ⟨ks, rfl⟩ := tp
  obtain ⟨es, g1, g2, g3⟩ := id g
  obtain ⟨z, y0, xs, rel, dd⟩ := dn_raw I (.inl g1) g2
  obtain ⟨a, ys, rfl, _, _⟩ := im.ref
  cases ry
  have hl : es.length = kvs.length := by rw [← g3]; simp [kvE]
  have ev := enr_val rel (.tup ks)
  rw [g3] at ev
  refine call_setdefault_heap (knd := nestedKind X.prog X.w) (hsz := by rw [← enr_len rel]; omega) (show A.in1.units + 8 < cLine by show A.units + 1 + 8 < cLine; omega) (im_is I im dp) y0 dd (fun p hp => ?_) fun hn h' dd' hs => ?_
  · cases q : valV kvs (.tup ks) with
    | none => rw [q, hp] at ev; exact (show False from ev).elim
    | some x =>
      rw [q, hp] at ev
      exact h1 x _ _ q (I.tok _) ev
  · have q : valV kvs (.tup ks) = none := by
      cases q : valV kvs (.tup ks) with
      | none => rfl
      | some x => rw [q, hn] at ev; exact (show False from ev).elim
    obtain ⟨k1, k2⟩ := dm_stored g im dp g1 g2 g3 v
    exact h2 _ _ q k1 k2 (dn_write I g.mut hs (by have := storeE_len es (.tup ks) a v; omega) y0 (enr_store rel _ a rv) dd')
theorem n_len {Q : Value → Shared → Prop} (I : Inv X pins σ H s) (g : DR X.prog X.w X.K H d kvs) (h : ∀ t s', Inv X pins σ H s' → Q (.int kvs.length t) s') : wpAny (model X.prog X.w) A (call (.builtin "len") [.ref d]) Q E s := by
  obtain ⟨z, y, xs, rel, hl, dd⟩ := dr_raw I g
  obtain ⟨es, ep, hr, hs, _⟩ := dd.raw
  have hn := line63
  refine PyProof.Rows.call_len_slot (n := kvs.length) dd.typeIs PySem.F.slot_dict_len (fun Q' hq => call_len_raw y hr (by rw [hs, hl]; exact hq)) (by omega) (by omega) ?_
  exact h _ _ (I.tok _)
end

/-! ### by values: d[k], in, not in, get, setdefault, d[k] = v, len -/
def rGetN (P : Program) (w : World) (K : PySem.W.Frag) : R2 := fun x y H Q => ∃ d kvs k v, x = .ref d ∧ At P w K H d y kvs k ∧ valV kvs k = some v ∧ Q v H
def rInN (P : Program) (w : World) (K : PySem.W.Frag) : R2 := fun x y H Q => ∃ d kvs k, y = .ref d ∧ At P w K H d x kvs k ∧ Q (.bl (valV kvs k).isSome) H
def rNotInN (P : Program) (w : World) (K : PySem.W.Frag) : R2 := fun x y H Q => ∃ d kvs k, y = .ref d ∧ At P w K H d x kvs k ∧ Q (.bl (!(valV kvs k).isSome)) H
def rGet1N (P : Program) (w : World) (K : PySem.W.Frag) : V → List V → Hp → VK → Prop := fun x xs H Q => ∃ d kvs k y, x = .ref d ∧ xs = [y] ∧ At P w K H d y kvs k ∧ Q ((valV kvs k).getD .non) H
def rSetdN (P : Program) (w : World) (K : PySem.W.Frag) : V → List V → Hp → VK → Prop := fun x xs H Q => ∃ d kvs k y v, x = .ref d ∧ xs = [y, v] ∧ DM P w K H d kvs ∧ Im K H y k ∧ (∃ ks, k = .tup ks) ∧ k.depth ≤ 8 ∧ kvs.length < sizeLine ∧
  (∀ z, valV kvs k = some z → Q z H) ∧ (valV kvs k = none → ∀ H', Kp [d] H H' → DM P w K H' d (putK kvs k v) → Q v H')
def rSetN (P : Program) (w : World) (K : PySem.W.Frag) : TSet := fun o i v H Q => ∃ d kvs k, o = .ref d ∧ DM P w K H d kvs ∧ Im K H i k ∧ (∃ ks, k = .tup ks) ∧ k.depth ≤ 8 ∧ kvs.length < sizeLine ∧ ∀ H', Kp [d] H H' → DM P w K H' d (putK kvs k v) → Q H'
def rLenN (P : Program) (w : World) (K : PySem.W.Frag) : List V → Hp → VK → Prop := fun xs H Q => ∃ d kvs, xs = [.ref d] ∧ DR P w K H d kvs ∧ Q (.int kvs.length) H
section
variable {X : Cx}
theorem ix_dn (hu : rm X) : IxR X (rGetN X.prog X.w X.K) := by
  intro value slice pins s σ H x y v u Q I rx ry h hs
  obtain ⟨d, kvs, k, z, rfl, g, l, q⟩ := h
  cases rx
  obtain ⟨_, _, xs, _, _, dd⟩ := dr_raw I g.dr
  exact tail_any dd.typeIs PySem.F.slot_dict_getitem.lookup (n_getItem (by omega) I g l ry fun w' s' I' rw' => ⟨z, H, I', rw', q⟩) hs
theorem op_inN (hu : rm X) : OpR X (compareOp .In) (rInN X.prog X.w X.K) := by
  intro pins s σ H x y v u Q I rx ry h
  obtain ⟨d, kvs, k, rfl, g, q⟩ := h
  cases ry
  exact n_in (by omega) I g rx fun s' I' => ⟨.bl _, H, I', rfl, q⟩
theorem op_notInN (hu : rm X) : OpR X (compareOp .NotIn) (rNotInN X.prog X.w X.K) := by
  intro pins s σ H x y v u Q I rx ry h
  obtain ⟨d, kvs, k, rfl, g, q⟩ := h
  cases ry
  exact n_notIn (by omega) I g rx fun s' I' => ⟨.bl _, H, I', rfl, q⟩
theorem mt_getN (hu : rm X) : MtR X "dict.get" (rGet1N X.prog X.w X.K) := by
  intro pins s σ H x xs v us Q I rx rs h
  obtain ⟨d, kvs, k, y, rfl, rfl, g, q⟩ := h
  cases rx
  obtain ⟨u, rfl, ru⟩ := vals1 rs
  exact n_get (by omega) I g ru fun w' s' I' rw' => ⟨_, H, I', rw', q⟩
theorem mt_setdN (hu : rm X) : MtR X "dict.setdefault" (rSetdN X.prog X.w X.K) := by
  intro pins s σ H x xs v us Q I rx rs h
  obtain ⟨d, kvs, k, y, z, rfl, rfl, g, im, tp, dp, hz, q1, q2⟩ := h
  cases rx
  obtain ⟨u, u', rfl, ru, ru'⟩ := vals2 rs
  exact n_setdefault (by omega) I g im tp dp hz ru ru' (fun x w' s' l I' rw' => ⟨x, H, I', rw', q1 x l⟩) fun H' s' l kp dm I' => ⟨z, H', I', ru', q2 l H' kp dm⟩
theorem set_dn (hu : rm X) : PSet X (rSetN X.prog X.w X.K) := by
  intro pins s σ H o i v ov iv u Q I ro ri rv h
  obtain ⟨d, kvs, k, rfl, g, im, tp, dp, hz, q⟩ := h
  cases ro
  exact n_setItem (by omega) I g im tp dp hz ri rv fun H' s' kp dm I' => ⟨H', I', q H' kp dm⟩
theorem call_lenN : CallR X (.builtin "len") (rLenN X.prog X.w X.K) := by
  intro pins s σ H xs us Q I rs h
  obtain ⟨d, kvs, rfl, g, q⟩ := h
  obtain ⟨u, rfl, ru⟩ := vals1 rs
  cases ru
  exact n_len I g fun t s' I' => ⟨.int kvs.length, H, I', ⟨t, rfl⟩, q⟩

/-! ### o.m(e, ..), o a dict of these -/
def IsDN (P : Program) (w : World) (K : PySem.W.Frag) (x : V) (H : Hp) : Prop := ∃ d kvs, x = .ref d ∧ DR P w K H d kvs
def tDM (P : Program) (w : World) (K : PySem.W.Frag) (r : V → List V → Hp → VK → Prop) (to : TE) (t : TA) : TE := fun σ H Q => to σ H fun x H1 => IsDN P w K x H1 ∧ t σ H1 fun xs H2 => r x xs H2 Q
theorem pe_dm {o e : Expr} {es : List Expr} {name : Str} {id : String} {apos cpos : Pos} {r : V → List V → Hp → VK → Prop} {to : TE} {t : TA} (slot : Slot "dict" name id) (hty : typeOf (.builtin id) = pure (.type "method_descriptor")) (hm : MtR X id r)
    (ho : PE X o to) (ha : PA X (e :: es) t) (hbase : attributeBase o name X.env (eval o X.env) = eval o X.env := by rfl)
    (hfew : ((backTo cpos (starEach (e :: es) X.env)).all (fun x => !x.1) && (backToKw cpos (keywordEach [] X.env)).all (fun x => x.1.isSome)
      && decide ((e :: es).length + ([] : List Keyword).length + (if ([] : List Keyword).isEmpty then 0 else 1) < 30)) = true := by rfl)
    (hline : (apos.endLine == cpos.line) = true := by rfl) (hs : starEach (e :: es) X.env = (false, eval e X.env) :: starEach es X.env := by rfl) (hplain : (backTo cpos (starEach es X.env)).any (·.1) = false := by rfl) :
    PE X (.Call (.Attribute o name apos) (e :: es) [] cpos) (tDM X.prog X.w X.K r to t) := by
  refine ⟨fun pins s σ H Q I h => ?_⟩
  refine wpAny_Call_method_late hbase hfew hline rfl (thn (ho.run pins s σ H _ I h) fun v s1 ⟨x, H1, I1, r1, ty, q1⟩ => ?_)
  obtain ⟨d, kvs, ex, dr⟩ := ty
  subst ex
  obtain rfl : v = Value.ref d := r1
  obtain ⟨_, _, xs, _, _, dd⟩ := dr_raw I1 dr
  have dd2 := dd
  obtain ⟨o1, _, _, ho1, hc1, _⟩ := dd2
  refine ⟨"dict", id, PySem.F.plainAttrs_dict, slot, hty, dd.typeIs, fun a ea => ?_, ?_⟩
  · cases ea
    exact ⟨o1, ho1, hc1.2.1⟩
  · have hA := ha.run cpos pins s1 σ H1 _ I1 q1
    rw [hs] at hA ⊢
    refine Calls.callWith_builtin (by show (false || (backTo cpos (starEach es X.env)).any (·.1)) = false; rw [hplain] <;> rfl) (Calls.evalArgs_plain ?_)
    exact thn hA fun us s2 ⟨vs, H2, I2, r2, q2⟩ => hm pins s2 σ H2 (.ref d) vs (.ref d) us Q I2 rfl r2 q2

/-- {} whose keys will be tuples -/
def tNewN (P : Program) (w : World) (K : PySem.W.Frag) : TE := fun _ H Q => ∀ p H', H p = none → Kp [] H H' → DM P w K H' p [] → Q (.ref p) H'
theorem pe_dnewN {pos : Pos} : PE X (.Dict [] [] pos) (tNewN X.prog X.w X.K) := by
  refine ⟨fun pins s σ H Q I h => ?_⟩
  have hn : H s.heap.objs.size = none := I.hok.fresh (Nat.le_refl _)
  have hS : (s.heap.objs.size == sysModules) = false := beq_eq_false_iff_ne.mpr (Ne.symm (Nat.ne_of_lt I.big))
  have I1 := I.laid (a := s.heap.objs.size) (o := DN X.prog X.w s.heap.objs.size []) (h' := s.heap.push { cls := .type "dict", data := .dict #[] }) (t' := s.toks) (fun _ _ q => Heap.get?_push_of_some _ q) (Nat.le_refl _)
    (DNf.ok ⟨Nat.zero_le _, hS, [], .nil, _, #[], 0, Heap.get?_push_size _ rfl, ⟨rfl, rfl, rfl⟩, rfl, rfl, List.nodup_nil⟩)
  exact wpAny_Dict_empty ⟨.ref s.heap.objs.size, _, I1, rfl, h _ _ hn (Kp.new hn) ⟨[], upd_same, (fun e h => by cases h), rfl⟩⟩
end
end GT
set_option maxHeartbeats 2000000
namespace GT
open PySem PySem.Spec PyProof.Rows L2

/-! ### the keys of such a dict, walked -/
def Itn (P : Program) (w : World) (d : Addr) (o : Obj) (es : List En) : It :=
  ⟨fun i H => H d = some (.frz o (DN P w d es)) ∧ i < es.length, fun i H x H' => H' = H ∧ ∃ e : En, es[i]? = some e ∧ x = .ref e.2.1, fun i H => H d = some (.frz o (DN P w d es)) ∧ es.length ≤ i⟩
section
variable {X : Cx} {pins : List (Addr × Obj)} {σ : L2.St} {H : Hp} {s : Shared} {d : Addr} {o : Obj} {es : List En}
theorem enr_get {es : List En} {xs : List (D × Addr × Value)} (r : Paired EnR es xs) : ∀ {i : Nat} {e : En}, es[i]? = some e → ∃ x, xs[i]? = some x ∧ EnR e x := fun h => paired_get r h
theorem Inv.frzN (I : Inv X pins σ H s) (h : H d = some (.frz o (DN X.prog X.w d es))) :
    (d == sysModules) = false ∧ s.heap.get? d = some o ∧ o.ExactDict ∧ ∃ (ents : Array DictEntry) (ep : Nat), o.data = .dict ents ep ∧ ents.size = es.length ∧
      ∀ (i : Nat) (e : En), es[i]? = some e → ∃ en : DictEntry, ents[i]? = some en ∧ en.key = .ref e.2.1 := by
  obtain ⟨hd, ⟨z, hs, xs, pr, o', ents, ep, ho, hx, hdt, he, _⟩, _, _⟩ := I.hok d _ h
  rw [hd] at ho
  cases ho
  refine ⟨hs, hd, hx, ents, ep, hdt, ?_, fun i e q => ?_⟩
  · have l1 : ents.size = xs.length := size_of_entries he
    have l2 := enr_len pr
    omega
  · obtain ⟨b, hb, e1, e2, _⟩ := enr_get pr q
    have q := entry_at he i
    rw [hb] at q
    exact ⟨_, q, by rw [e2]; rfl⟩
theorem turn_n {P : Program} {w : World} {K : PySem.W.Frag} {tg : Expr} {ents : Array DictEntry} {ep : Nat} (it : Addr) (hod : o.data = .dict ents ep) : Turn P w K tg (Itn P w d o es) [it] it (fun i h => h.IsKeyIter it d i es.length ep) where
  mem := by simp
  obj := fun i h st b hb => by
    have e : b = it := by simpa using hb
    subst e
    obtain ⟨oi, e, c, dd⟩ := st
    exact ⟨oi, e, fun v z => by rw [dd] at z; cases z⟩
  keep := fun i h h' st k => st.at fun oi e => k it (by simp) oi e
  item := by
    intro X hP hw hK hc i pins s σ H E I hf st hg
    subst hP hw hK
    obtain ⟨hd, hi⟩ := hg
    obtain ⟨f0, f1, f2, f3, f4, f5⟩ := hf it (by simp)
    obtain ⟨hs, hgd, hx, es', ep', hdt, hsz, ent⟩ := Inv.frzN I hd
    obtain ⟨rfl, rfl⟩ := dict_ep hod hdt
    obtain ⟨en, hen, hkey⟩ := ent i _ (List.getElem?_eq_getElem hi)
    refine next_key_item st hgd hdt hsz hen fun h' st' sb => ?_
    have I1 : Inv X pins σ H { s with heap := h' } := I.turned (t' := s.toks) (fun b ob hb e => (sb.2 b hb).trans e) f0 f1 f3 f4 f5
    have st2 := st'
    obtain ⟨oi, e, c, dd⟩ := st2
    exact ⟨en.key, rfl, go_of (s := { s with heap := h' }) e c dd (by decide) ⟨.ref _, H, I1, hkey, ⟨rfl, _, List.getElem?_eq_getElem hi, rfl⟩, st', fun b hb => (hf b hb).1⟩⟩
  done := by
    intro X hP hw hK hc i pins s σ H E I hf st hg
    subst hP hw hK
    obtain ⟨hd, hi⟩ := hg
    obtain ⟨f0, f1, f2, f3, f4, f5⟩ := hf it (by simp)
    obtain ⟨hs, hgd, hx, es', ep', hdt, hsz, ent⟩ := Inv.frzN I hd
    obtain ⟨rfl, rfl⟩ := dict_ep hod hdt
    exact next_key_end (I.ok.hd hc) st hgd hdt hsz hi fun h' eb => ⟨rfl, I.turned (t' := s.toks) (fun b ob hb e => eb b ob hb e) f0 f1 f3 f4 f5⟩
  self := fun A i s Q E st h => by
    refine wpAny_pyIter_slot st.typeIs PySem.F.slot_dict_keyiterator_iter (wpAny_call_entry PySem.F.slot_dict_keyiterator_iter st.typeIs PySem.F.entry_dict_keyiterator_iter ?_ (PySem.F.args_dict_keyiterator_iter_1 _))
    show wpAny _ _ (ret (.ref it)) _ _ s
    exact wpAny_pure ⟨_, rfl, "dict_keyiterator", _, st.typeIs, PySem.F.slot_dict_keyiterator_next.lookup, h⟩
def iN (P : Program) (w : World) (td : TE) : TI := fun σ H R => td σ H fun x H1 => ∃ d o es, x = .ref d ∧ H1 d = some (.frz o (DN P w d es)) ∧ R (Itn P w d o es) H1
theorem pi_dn {tg e : Expr} {td : TE} (he : PE X e td) : PI X tg e (iN X.prog X.w td) := by
  refine ⟨fun pins s σ H R I h => ?_⟩
  refine thn (he.run pins s σ H _ I h) fun u s1 ⟨x, H1, I1, rx, d, o, es, ex, hd, q⟩ => ?_
  subst ex
  obtain rfl : u = Value.ref d := rx
  obtain ⟨hs, hgd, hx, ents, ep, hdt, hsz, ent⟩ := Inv.frzN I1 hd
  refine iter_keys hs hgd hx hdt (pi_one (tk := s1.toks) I1 _ (turn_n _ hdt) ⟨_, Heap.get?_push_size _ rfl, rfl, ?_⟩ q)
  rw [hsz] <;> rfl
theorem walk_n {P : Program} {w : World} : Walk (Itn P w d o es) es.length (fun H => H d = some (.frz o (DN P w d es))) (fun i H x H' => H' = H ∧ ∃ e : En, es[i]? = some e ∧ x = .ref e.2.1) :=
  ⟨fun _ _ hi q => ⟨q, hi⟩, fun _ q => ⟨q, Nat.le_refl _⟩, fun _ _ _ _ _ _ y => y⟩
theorem Kp.unlock {F : List Addr} {H H' : Hp} {d : Addr} {u : HO} {o : Obj} (h : H d = some u) (hu : noTF (some u)) (k : Kp F (upd H d (.frz o u)) H') : Kp F H (upd H' d u) := by
  have nt : ∀ b xs, H b = some (.tup xs) → b ≠ d := fun b xs e z => by rw [z, h] at e; cases e; exact hu
  have nz : ∀ b o v, H b = some (.frz o v) → b ≠ d := fun b o v e z => by rw [z, h] at e; cases e; exact hu
  refine ⟨fun b v n e => ?_, fun b xs e => ?_, fun b o' v e => ?_⟩
  · by_cases z : b = d
    · rw [z, h] at e; cases e; rw [z]; exact upd_same
    · rw [upd_ne z]; exact k.k b v n (by rw [upd_ne z]; exact e)
  · rw [upd_ne (nt b xs e)]; exact k.t b xs (by rw [upd_ne (nt b xs e)]; exact e)
  · rw [upd_ne (nz b o' v e)]; exact k.z b o' v (by rw [upd_ne (nz b o' v e)]; exact e)
end

/-! ### sorted: of a list of data, of such a dict -/
abbrev leD : D → D → Bool := PySem.W.dataLe false NestedKey.data
def sortD (ks : List D) : List D := ks.mergeSort leD
def SrtOk (ks : List D) : Prop := PySem.W.AllAlike (ks.map NestedKey.data) ∧ PySem.W.Sortable (ks.map NestedKey.data) ∧ ∀ k ∈ ks, k.depth ≤ 8
abbrev IsR (K : PySem.W.Frag) (H : Hp) : Value → D → Prop := fun u b => ∃ x, RelV x u ∧ Im K H x b
open PySem.W in
theorem each_of {K : PySem.W.Frag} {H : Hp} : ∀ {ks : List D} {xs : List V} {us : List Value}, ImA K H xs ks → Vals xs us → EachIs (IsR K H) us ks
  | [], _, _, h, r => by cases h; cases r; exact .nil
  | k :: ks, _, _, h, r => by
    cases h with
    | cons a b =>
      cases r with
      | cons r1 r2 => exact .cons ⟨_, r1, a⟩ (each_of b r2)
open PySem.W in
theorem of_each {K : PySem.W.Frag} {H : Hp} : ∀ {ks : List D} {us : List Value}, EachIs (IsR K H) us ks → ∃ xs, ImA K H xs ks ∧ Vals xs us
  | [], _, h => by cases h; exact ⟨[], .nil, .nil⟩
  | k :: ks, _, h => by
    cases h with
    | cons a b =>
      obtain ⟨x, r, i⟩ := a
      obtain ⟨xs, h1, h2⟩ := of_each b
      exact ⟨x :: xs, .cons i h1, .cons r h2⟩
mutual
theorem reads_nil {h : Heap} : ∀ (k : D) (v : Value) (as : List Addr), Reads h v k.data as → as = []
  | .none, _, _, r => by
    have r' : Reads h _ .none _ := r
    cases r'; rfl
  | .num i, _, _, r => by
    have r' : Reads h _ (.int i) _ := r
    cases r'; rfl
  | .text x, _, _, r => by
    have r' : Reads h _ (.str x) _ := r
    cases r'; rfl
  | .tup ks, _, _, r => by
    have r' : Reads h _ (.tuple (NestedKey.datas ks)) _ := r
    cases r' with
    | tuple ho hc hd ha => exact readsAll_nil ks _ _ ha
theorem readsAll_nil {h : Heap} : ∀ (ks : List D) (vs : List Value) (as : List Addr), ReadsAll h vs (NestedKey.datas ks) as → as = []
  | [], _, _, r => by
    have r' : ReadsAll h _ [] _ := r
    cases r'; rfl
  | d :: ds, _, _, r => by
    have r' : ReadsAll h _ (d.data :: NestedKey.datas ds) _ := r
    cases r' with
    | cons h1 h2 => rw [reads_nil d _ _ h1, readsAll_nil ds _ _ h2]; rfl
end
def rSortL (K : PySem.W.Frag) : List V → Hp → VK → Prop := fun vs H Q => ∃ a xs ks, vs = [.ref a] ∧ SqL K H a xs ∧ ImA K H xs ks ∧ SrtOk ks ∧ ∀ p ys, H p = none → ImA K H ys (sortD ks) → Q (.ref p) (upd H p (.lst ys))
def rSortN (P : Program) (w : World) (K : PySem.W.Frag) : List V → Hp → VK → Prop := fun vs H Q => ∃ a kvs, vs = [.ref a] ∧ DR P w K H a kvs ∧ SrtOk (kvs.map (·.1)) ∧ ∀ p ys, H p = none → ImA K H ys (sortD (kvs.map (·.1))) → Q (.ref p) (upd H p (.lst ys))
section
variable {X : Cx}
theorem each_reads {pins : List (Addr × Obj)} {σ : L2.St} {H : Hp} {s : Shared} (I : Inv X pins σ H s) : ∀ {ks : List D} {xs : List V} {us : List Value}, ImA X.K H xs ks → Vals xs us →
    PySem.W.EachIs (fun v b => ∃ as, Reads s.heap v (NestedKey.data b) as) us ks
  | [], _, _, h, r => by cases h; cases r; exact .nil
  | k :: ks, _, _, h, r => by
    cases h with
    | cons a b =>
      cases r with
      | cons r1 r2 => exact .cons (Dp.reads I _ _ _ (Im.dp _ _ a) r1) (each_reads I b r2)
theorem call_sortL (hu : rm X) : CallR X (.builtin "sorted") (rSortL X.K) := by
  intro pins s σ H vs us Q I rs h
  obtain ⟨a, xs, ks, rfl, sq, im, ⟨s1, s2, s3⟩, q⟩ := h
  obtain ⟨u, rfl, ru⟩ := vals1 rs
  cases ru
  obtain ⟨its, rv, pl, hz⟩ := I.list sq
  have hl : ks.length = its.length := by rw [← im.len, rv.length]
  have hz2 := im.len
  refine PySem.W.sorted_data pl.isList (each_of im rv) (each_reads I im rv) s1 s2 (by omega) (fun b hb => by have := s3 b hb; rw [depth_data]; show X.A.units + 2 + b.depth < cLine; omega) fun out ho eo => ?_
  obtain ⟨ys, i1, i2⟩ := of_each eo
  have hn : H (s.heap.objs.size + 1) = none := I.hok.fresh (Nat.le_succ _)
  have hlen : ys.length ≤ sizeLine := by rw [i2.length, ho]; omega
  obtain ⟨e0, he0⟩ := sortedAll_at s.heap its (List.toArray out)
  refine ⟨.ref (s.heap.objs.size + 1), _, I.laid (t' := s.toks) (a := s.heap.objs.size + 1) (o := .lst ys) (fun b u e => sortedAll_old e) (Nat.le_succ _) ⟨hlen, out, e0, i2, he0⟩, rfl, q _ ys hn i1⟩
theorem call_sortN (hu : rm X) (hc : X.calm = true) : CallR X (.builtin "sorted") (rSortN X.prog X.w X.K) := by
  intro pins s σ H vs us Q I rs h
  obtain ⟨a, kvs, rfl, ⟨es, rd, ko, rfl⟩, ⟨s1, s2, s3⟩, q⟩ := h
  obtain ⟨u, rfl, ru⟩ := vals1 rs
  cases ru
  obtain ⟨z, lo, xs, rel, dd⟩ := dn_raw I rd ko
  obtain ⟨ents, ep, hr, hsz, hent⟩ := dd.raw
  have hl := enr_len rel
  refine Calls.call_function_entry PyProof.Rows.kind_sorted PyProof.Rows.plain_sorted PyProof.Rows.entry_sorted (PyProof.Rows.args_sorted1 _) ?_
  unfold Builtin.«sorted»
  refine wpAny_bind (m := checkCount "sorted" 1 1 _) (wpAny_pure ?_)
  refine wpAny_bind (PySem.W.kdu_collect (A := X.A.in1) (PySem.KdlSrc.rawDict (es := ents) (ep := ep) lo) (I.ok.hd hc) hr (by omega) fun h' tk acc hk hacc => ?_)
  have hal : acc.toList.length = es.length := by rw [Array.length_toList, hacc.1]; omega
  have I1 : Inv X pins σ H { s with heap := h', toks := tk } := I.kept hk
  -- what was collected: the keys' own tuples
  have hv : acc.toList = es.map fun e => Value.ref e.2.1 := by
    apply List.ext_getElem?
    intro i
    by_cases hi : i < es.length
    · have hi2 : i < acc.toList.length := by omega
      have hi3 : i < ents.size := by omega
      have h1 : acc.toList[i]? = some acc.toList[i] := List.getElem?_eq_getElem hi2
      obtain ⟨hi4, h2⟩ := hacc.2 i acc.toList[i] (by rw [← Array.getElem?_toList]; exact h1)
      obtain ⟨y, hy, e1, e2, e3⟩ := hent i hi3
      obtain ⟨b, hb, r1, r2, r3⟩ := enr_get rel (List.getElem?_eq_getElem hi)
      rw [hy] at hb
      cases hb
      rw [h1, h2, e1, List.getElem?_map, List.getElem?_eq_getElem hi, ← r2]
      rfl
    · rw [List.getElem?_eq_none (by omega), List.getElem?_eq_none (by rw [List.length_map]; omega)]
  have vls : Vals (es.map fun e => V.ref e.2.1) acc.toList := by
    rw [hv]
    clear hv hal hent hl hsz hr s1 s2 s3 rel rd q z ko
    induction es with
    | nil => exact .nil
    | cons e es ih => exact .cons rfl ih
  have ims : ImA X.K H (es.map fun e => V.ref e.2.1) ((kvE es).map (·.1)) := by
    clear vls hv hal hent hl hsz hr s1 s2 s3 rel rd q z
    induction es with
    | nil => exact .nil
    | cons e es ih => exact .cons (ko e List.mem_cons_self).2.1 (ih fun e he => ko e (List.mem_cons_of_mem _ he))
  have hline : es.length ≤ sizeLine := z
  refine wpAny_bind (wpAny_newList ?_ (by rw [hal]; exact hline))
  have hoL : (h'.push (seqObj "list" acc.toList.toArray 0)).get? h'.objs.size = some (seqObj "list" acc.toList.toArray 0) := Heap.get?_push_size _ rfl
  show wpAny _ _ _ _ _ { s with heap := h'.push (seqObj "list" acc.toList.toArray 0), toks := tk }
  have I2 : Inv X pins σ H { s with heap := h'.push (seqObj "list" acc.toList.toArray 0), toks := tk } := I1.kept (t' := tk) fun b o e => Heap.get?_push_of_some _ e
  have er : PySem.W.EachIs (fun v b => ∃ as, Reads (h'.push (seqObj "list" acc.toList.toArray 0)) v (NestedKey.data b) as ∧ h'.objs.size ∉ as) acc.toList ((kvE es).map (·.1)) :=
    (each_reads I1 ims vls).mono fun v b ⟨as, r⟩ => ⟨as, PyProof.Rows.Reads.keeps (fun b o e => Heap.get?_push_of_some _ e) r, by rw [reads_nil b _ _ r]; simp⟩
  refine wpAny_bind (wpAny_holding (PySem.W.list_sort_data (n := 0) hoL (each_of ims vls) er s1 s2 (by rw [List.length_map, List.length_map]; exact hline) (fun b hb => by have := s3 b hb; rw [depth_data]; show X.A.units + 1 + 1 + b.depth < cLine; omega) fun out ho eo => ?_))
  obtain ⟨ys, i1, i2⟩ := of_each eo
  obtain ⟨e', he'⟩ := PyProof.Rows.sortedHeap_at (vs := acc.toList) (out := List.toArray out) hoL
  have hlen : ys.length ≤ sizeLine := by rw [i2.length, ho, List.length_map, List.length_map]; exact hline
  have hn : H h'.objs.size = none := I1.hok.fresh (Nat.le_refl _)
  refine wpAny_pure ⟨_, rfl, .ref h'.objs.size, upd H h'.objs.size (.lst ys), I1.laid (t' := tk) (fun b u e => ?_) (Nat.le_refl _) ⟨hlen, out, e', i2, he'⟩, rfl, q _ ys hn i1⟩
  have hb : b < h'.objs.size := Heap.lt_size e
  rw [PyProof.Rows.sortedHeap_old (Nat.ne_of_lt hb) (by rw [size_push']; exact Nat.lt_succ_of_lt hb)]
  exact Heap.get?_push_of_some _ e
end
end GT
set_option maxHeartbeats 2000000
namespace GT
open PySem PySem.Spec PyProof.Rows L2

/-! ### a list comprehension whose element may let an exception out -/
/-- what a frame of ours notes depends on its number alone -/
theorem note_frame {x : Value} {e1 e2 : Env} (h : e1.frame = e2.frame) : noteFrame x e1 = noteFrame x e2 := by
  unfold noteFrame PySem.frameOf
  rw [h]
theorem frames_hid {h h' B B' : Heap} {l : List Env} {C : Addr} (ff : h.FunFrames B l) (hC : C ∉ frs l) (same : ∀ b, b ≠ C → h'.get? b = h.get? b) (hB : ∀ b, B.get? b = none → B'.get? b = none) : h'.FunFrames B' l := by
  induction l with
  | nil => trivial
  | cons env r ih =>
    obtain ⟨hk, ⟨L, o, hf, hn, ho, hd⟩, hr⟩ := ff
    have hL : L ≠ C := fun z => hC (by unfold frs; rw [List.filterMap_cons, hf, ← z]; exact List.mem_cons_self)
    exact ⟨hk, ⟨L, o, hf, hB L hn, (same L hL).trans ho, hd⟩, ih hr fun z => hC (by unfold frs; rw [List.filterMap_cons, hf]; exact List.mem_cons_of_mem _ z)⟩
section
variable {X : Cx} {pins : List (Addr × Obj)} {σ : L2.St} {H : Hp} {s s' : Shared} {E : XK} {u : Value}
/-- behind a call that let one out: the flight, and the state without it -/
theorem fly_of_call (I : Inv X pins σ H s) (c : L2.CX X.prog X.w X.stack H s E u s') : ∃ (a : Addr) (B : Heap) (sI : Shared) (H' : Hp) (cls : Value) (d : Option Addr), u = .ref a ∧ Inv X pins σ H' sI ∧
    (∀ b o, sI.heap.get? b = some o → b ∉ frs X.stack → B.get? b = some o) ∧ sI.heap.UpToSlots s'.heap ∧ HandSPX.FlyingZ B X.stack a (Zc cls d) s'.heap ∧ H' a = none ∧ s'.os = sI.os ∧ AllBare s'.gens ∧ E cls d H' := by
  obtain ⟨a, B, H', cls, d, rfl, fl, hok, ub, na, os, ag, hE⟩ := c
  obtain ⟨G, g1, g2⟩ := restrict s'.heap fun b => (B.get? b).isSome || decide (b ∈ frs X.stack)
  have st : B.StaysIn s'.heap := fl.1
  have inG : ∀ b o, B.get? b = some o → G.get? b = some o := fun b o e => (g1 b (by simp [e])).trans (st b o e)
  have frG : ∀ b, b ∈ frs X.stack → G.get? b = s'.heap.get? b := fun b hb => g1 b (by simp [hb])
  have ofG : ∀ b o, G.get? b = some o → s'.heap.get? b = some o ∧ ((B.get? b).isSome = true ∨ b ∈ frs X.stack) := fun b o e => by
    cases q : ((B.get? b).isSome || decide (b ∈ frs X.stack)) with
    | false =>
      have := g2 b q
      rw [e] at this; cases this
    | true =>
      have e1 := g1 b q
      rw [e] at e1
      exact ⟨e1.symm, by simpa [Bool.or_eq_true] using q⟩
  refine ⟨a, B, { s with heap := G, gens := s'.gens, drawn := s'.drawn, toks := s'.toks }, H', cls, d, rfl, ?_, fun b o e hb => ?_, Heap.UpToSlots.of_keeps fun b o e => (ofG b o e).1, fl, na, os, ag, hE⟩
  · refine I.call (ch := []) ⟨fun b o e n hb _ => inG b o (ub.keep b o e n hb), fun b o e n hb _ => ?_, fun b o e n _ => ub.free b o e n, fun b o e _ => ?_, ub.tups, ub.frzs, ub.tbls⟩ (hok.kept inG) ag (fun _ z => nomatch z)
    · obtain ⟨sl, q⟩ := ub.slot b o e hb
      exact ⟨sl, (frG b hb).trans q⟩
    · by_cases hb : b ∈ frs X.stack
      · obtain ⟨sl, q⟩ := ub.slot b o e hb
        exact ⟨_, (frG b hb).trans q⟩
      · obtain ⟨o', q⟩ := ub.there b o e hb
        exact ⟨o', inG b o' q⟩
  · obtain ⟨e', h⟩ := ofG b o e
    rcases h with h | h
    · obtain ⟨o', q⟩ := Option.isSome_iff_exists.mp h
      have z := st b o' q
      rw [e'] at z; cases z
      exact q
    · exact absurd h hb
/-- what a raise out of a comprehension's block owes is paid by what the def's own frame takes -/
theorem fails_of {C : Addr} {ce : Env} {sI : Shared} {B : Heap} {a : Addr} {cls : Value} {d : Option Addr} {W : WX} (hs : X.stack = X.env :: X.outer) (hf : X.env.frame = some X.env.locals) (tk : Takes X W)
    (cL : ce.locals = C) (cF : ce.frame = X.env.frame) (J : Inv X pins σ H sI) (fC : FpOk X pins H C) {m : Str → Option Value} (nC : sI.heap.Ns C m)
    (nb : ∀ b o, sI.heap.get? b = some o → b ∉ frs X.stack → B.get? b = some o) (up : sI.heap.UpToSlots s'.heap) (fl : HandSPX.FlyingZ B X.stack a (Zc cls d) s'.heap) (na : H a = none) (os : s'.os = sI.os) (ag : AllBare s'.gens) (w : W cls d σ H) :
    notedBy (model X.prog X.w) X.A ce (CompFails (model X.prog X.w) X.A X.xe ce) (.ref a) s' := by
  have hfr : X.A.frames = some (X.env :: X.outer) := by rw [J.ok.frames, hs]
  have hCs : C ∉ frs X.stack := fun z => by
    rcases List.mem_cons.mp (J.stkSub C z) with z | z
    · exact fC.2.1 z
    · exact fC.2.2.1 z
  unfold notedBy
  rw [note_frame (x := .ref a) cF]
  have fl0 : HandSPX.FlyingZ B (X.env :: X.outer) a (Zc cls d) s'.heap := by rw [← hs]; exact fl
  refine HandSPX.looks_onZ Zc.steady hfr hf fl0 fun h1 held up1 => ?_
  have upA := up.trans up1
  refine ⟨m, by rw [cL]; exact upA.ns nC, fun h2 m2 n2 sb => ?_⟩
  rw [cL] at n2 sb
  have same : ∀ b, b ≠ C → h2.get? b = h1.get? b := sb.2
  obtain ⟨oC, es, ep, hoC, hdC, _⟩ := upA.ns nC
  have notC : ∀ {b : Addr} {o : Obj} {vs : Array Value}, h1.get? b = some o → o.data = .fields vs → b ≠ C := fun {b o vs} e e2 z => by
    rw [z, hoC] at e; cases e
    rw [hdC] at e2; cases e2
  obtain ⟨h1st, h1a, h1ff, oe, vs, T, oT, ts, he, hz, hd, hv1, hnT, hTe, hT, hdT, hts⟩ := held
  have haC := notC he hd
  have hTC := notC hT hdT
  have hidN : ∀ b, B.get? b = none → (PySem.W.hideAll B [C]).get? b = none := fun b e => by
    cases q : (PySem.W.hideAll B [C]).get? b with
    | none => rfl
    | some o =>
      have z := PySem.W.of_hideAll _ q
      rw [e] at z; cases z
  have hidC : (PySem.W.hideAll B [C]).get? C = none := PySem.W.hideAll_none _ (by simp)
  have st2 : (PySem.W.hideAll B [C]).StaysIn h2 := fun b o e => by
    have hb : b ≠ C := fun z => by rw [z, hidC] at e; cases e
    rw [same b hb]
    exact h1st b o (PySem.W.of_hideAll _ e)
  have ff2 : h2.FunFrames (PySem.W.hideAll B [C]) (X.env :: X.outer) := frames_hid h1ff (by rw [← hs]; exact hCs) same hidN
  have he2 : h2.get? a = some oe := (same a haC).trans he
  have hT2 : h2.get? T = some oT := (same T hTC).trans hT
  have tr2 : HandSPX.TracedZ h2 (PySem.W.hideAll B [C]) a (Zc cls d) (rawInt X.env.locals) := ⟨oe, vs, T, oT, ts, he2, hz, hd, hv1, hidN T hnT, hTe, hT2, hdT, hts⟩
  have fin : wpAny (model X.prog X.w) X.A (setFlight (.ref a) ce.frame) (fun _ s4 => wpAny (model X.prog X.w) X.A (throw (.ref a) : Sem Value) (fun _ _ => False) X.xe s4) X.xe { s' with heap := h2 } := by
    rw [cF, hf]
    refine HandSPX.setFlight_anyZ (fr := some X.env.locals) st2 ff2 tr2 fun h3 k1 k2 k3 k4 => wpAny_throw (tk _ _ ?_)
    refine ⟨a, PySem.W.hideAll B [C], { sI with heap := PySem.W.hideAll sI.heap [C] }, pins, σ, H, cls, d, rfl, ?_, fun b o e hb => ?_, fun b o e hn => ?_, .inr (.inr ⟨k1, hidN a h1a, by rw [hs]; exact k2, k3⟩), na, os, ag, w⟩
    · exact J.turned (t' := sI.toks) (fun b o hb e => PySem.W.hideAll_get _ e (by simpa using hb)) fC.1 fC.2.1 fC.2.2.2.1 fC.2.2.2.2.1 fC.2.2.2.2.2
    · have hbC : b ≠ C := fun z => by
        have q : (PySem.W.hideAll sI.heap [C]).get? C = none := PySem.W.hideAll_none _ (by simp)
        have e' : (PySem.W.hideAll sI.heap [C]).get? b = some o := e
        rw [z, q] at e'; cases e'
      exact PySem.W.hideAll_get _ (nb b o (PySem.W.of_hideAll _ e) hb) (by simpa using hbC)
    · have e' : (PySem.W.hideAll sI.heap [C]).get? b = some o := e
      have hbC : b ≠ C := fun z => by
        have q : (PySem.W.hideAll sI.heap [C]).get? C = none := PySem.W.hideAll_none _ (by simp)
        rw [z, q] at e'; cases e'
      obtain ⟨sl, q1⟩ := upA b o (PySem.W.of_hideAll _ e') hn
      obtain ⟨sl2, q2⟩ := k4 b { o with slots := sl } ((same b hbC).trans q1) hn
      exact ⟨sl2, q2⟩
  unfold PySem.passOn
  refine wpAny_bind (wpAny_field he2 hd hv1 ?_)
  rw [if_neg (show ¬ ((Value.ref T == Value.none) = true) from by simp)]
  first
    | exact wpAny_bind (wpAny_pure (wpAny_bind fin))
    | exact wpAny_bind fin
end
section
variable {X : Cx}
abbrev Cx.blkX (X : Cx) (s : Shared) (H : Hp) (scope : Scope) (cenv : Env) (fp : List Addr) (xe : Value → Shared → Prop) : Cx := (X.blk s H scope cenv fp).wish xe
theorem lcx_core {pins : List (Addr × Obj)} {s : Shared} {σ : L2.St} {H : Hp} {Q : VK} {elt tg iter : Expr} {ifs : List Expr} {scope : Scope} {own : List (Str × Nat)} {pos pos' : Pos} {wi : TI} {g : TG} {tt : TT} {te : TE} {use : Option (Value → Sem Unit)} {Qf : Value → Shared → Prop} {Eel : XK}
    (hstk : X.stack = X.env :: X.outer) (hfrm : X.env.frame = some X.env.locals) (tk : Takes X fun cls d _ H => Eel cls d H)
    (hc : X.calm = true) (hN : X.N.Nodup) (I : Inv X pins σ H s) (hi : PI X tg iter wi) (ok : BlkOk X.N X.env.scope scope own)
    (hg : ∀ (s : Shared) (H : Hp) (C : Addr) (cl : List (Str × Addr)) (fp : List Addr), PG (X.blk s H scope (compEnvC scope cl C X.env) fp) tg g)
    (ht : ∀ (s : Shared) (H : Hp) (C : Addr) (cl : List (Str × Addr)) (fp : List Addr), PTs (X.blk s H scope (compEnvC scope cl C X.env) fp) ifs tt)
    (he : ∀ (s : Shared) (H : Hp) (C : Addr) (cl : List (Str × Addr)) (fp : List Addr) (xe : Value → Shared → Prop), Passes (L2.CX X.prog X.w) (Cx.blkX X s H scope (compEnvC scope cl C X.env) fp xe) Eel → PE (Cx.blkX X s H scope (compEnvC scope cl C X.env) fp xe) elt te)
    (hs : ∀ x, foldedSetIterable iter X.env x = pure x)
    (h : tLc wi g tt te (own.map (·.2)) σ H Q)
    (hRR : ∀ D C s' m H' ce, ce.locals = C → Inv X pins σ H' s' → Q (.ref D) H' → s'.heap.Ns C m → FpOk X pins H' C → compEnds (model X.prog X.w) X.A X.xe use Qf (.ref D) ce (.ok .next) s') :
    wpAny (model X.prog X.w) X.A (comprehension (.ListComp elt [⟨tg, iter, ifs, 0⟩] scope pos) scope X.env pos' (newList []) false (eval iter X.env) use) Qf X.xe s := by
  have hfree : ∀ y ∈ scope.names, y.2 = .free → ∃ c, X.env.cells.lookup y.1 = some c := fun y hy e => (ok.free y hy e).elim (fun k => I.ok.has _ (.inl k)) fun k => I.ok.has _ (.inr k)
  refine comprehension_at (use := use) rfl hs (closure_ok hfree) ok.kind (fun y hy e => by rw [ok.uniq y hy, e]) (thn (hi.run pins s σ H _ I h) fun xv s1 hx => thn hx fun itv s2 h2 => ?_)
  obtain ⟨it, fp, tn, J, H2, e, I2, T, st2, f2, q⟩ := h2
  subst e
  refine wpAny_newObj_type (newEnv_comp ?_) (by show 0 ≤ sizeLine; decide)
  generalize hD : s2.heap.objs.size = D
  have hDn : H2 D = none := I2.hok.fresh (Nat.le_of_eq hD)
  obtain ⟨W, ⟨m0, w0⟩, turn⟩ := q D hDn
  generalize hs3 : ({ s2 with heap := s2.heap.push { cls := .type "list", data := .seq ([] : List Value).toArray } } : Shared) = s3
  have I3 : Inv X pins σ (upd H2 D (.lst [])) s3 := by
    subst hs3
    exact I2.laid (t' := s2.toks) (fun b o e => Heap.get?_push_of_some _ e) (Nat.le_of_eq hD) ⟨Nat.zero_le _, [], 0, .nil, by rw [← hD]; exact Heap.get?_push_size _ rfl⟩
  have h3 : s3.heap = s2.heap.push { cls := .type "list", data := .seq ([] : List Value).toArray } := by rw [← hs3]
  have f3 : ∀ b ∈ fp, FpOk X pins (upd H2 D (.lst [])) b ∧ b < s3.heap.objs.size := fun b hb => by
    obtain ⟨o, e, _⟩ := T.obj _ _ st2 b hb
    have hlt : b < s2.heap.objs.size := Heap.lt_size e
    exact ⟨⟨(upd_ne (by rw [← hD]; exact Nat.ne_of_lt hlt)).trans (f2 b hb).1, (f2 b hb).2⟩, by rw [h3, Heap.size_push]; exact Nat.lt_succ_of_lt hlt⟩
  have st3 : tn 0 s3.heap := T.keep _ _ _ st2 fun b _ o e => by rw [h3]; exact Heap.get?_push_of_some _ e
  have I4 := block_start I3 ok hN f3
  have pg := hg s3 (upd H2 D (.lst [])) s3.heap.objs.size (cellsFrom (s3.heap.objs.size + 1) scope.names (cloFrom X.env.cells scope.names [])) fp
  have pt := ht s3 (upd H2 D (.lst [])) s3.heap.objs.size (cellsFrom (s3.heap.objs.size + 1) scope.names (cloFrom X.env.cells scope.names [])) fp
  have pe := he s3 (upd H2 D (.lst [])) s3.heap.objs.size (cellsFrom (s3.heap.objs.size + 1) scope.names (cloFrom X.env.cells scope.names [])) fp
  show codeAny _ _ (.compStart (.ListComp elt [⟨tg, iter, ifs, 0⟩] scope pos) 0 (.ref it) (.ref D) (compEnvC scope (cellsFrom (s3.heap.objs.size + 1) scope.names (cloFrom X.env.cells scope.names [])) s3.heap.objs.size X.env))
    (compEnds (model X.prog X.w) X.A X.xe use Qf (.ref D) (compEnvC scope (cellsFrom (s3.heap.objs.size + 1) scope.names (cloFrom X.env.cells scope.names [])) s3.heap.objs.size X.env)) { s3 with heap := pushCells (s3.heap.push { cls := .type "dict", data := .dict #[] }) scope.names }
  have nfp : ∀ b ∈ fp, (upd H2 D (.lst [])) b = none := fun b hb => (f3 b hb).1.1
  generalize hce : compEnvC scope (cellsFrom (s3.heap.objs.size + 1) scope.names (cloFrom X.env.cells scope.names [])) s3.heap.objs.size X.env = ce at I4 pg pt pe ⊢
  have cL : ce.locals = s3.heap.objs.size := by subst hce; rfl
  have cF : ce.frame = X.env.frame := by subst hce; rfl
  generalize hH3 : upd H2 D (.lst []) = H3 at I3 I4 pg pt pe w0 nfp f3
  generalize hs4 : ({ s3 with heap := pushCells (s3.heap.push { cls := .type "dict", data := .dict #[] }) scope.names } : Shared) = s4 at I4 ⊢
  have st4 : tn 0 s4.heap := T.keep _ _ _ st3 fun b _ o e => by subst hs4; exact pushCells_keeps _ _ _ _ (Heap.get?_push_of_some _ e)
  have stat : ∀ {σ' : L2.St} {H' : Hp} {s' : Shared}, Inv (X.blk s3 H3 scope ce fp) [] σ' H' s' → (∀ b ∈ fp, H' b = none) → ∀ b ∈ fp, FpOk (X.blk s3 H3 scope ce fp) [] H' b := fun {σ' H' s'} I' hn b hb =>
    ⟨hn b hb, (I'.ok.exf b hb).1, I'.ok.exfs b hb, .inl hb, fun x c e => (I'.ok.exf b hb).2 x c e, fun p hp => absurd (show p ∈ ([] : List (Addr × Obj)) ++ [] from hp) (by simp)⟩
  -- from the block back to the def
  have back : ∀ {pl : List (Addr × Obj)} {σ' : L2.St} {H' : Hp} {s' : Shared}, Inv (X.blk s3 H3 scope ce fp) pl σ' H' s' → Inv X pins σ H' s' := fun {pl σ' H' s'} I' =>
    I3.call' (ch := fp) I'.os I'.base I'.hok I'.bare fun b hb => ⟨(f3 b hb).1.2.2.2.1, (f3 b hb).1.2.1, (f3 b hb).1.2.2.2.2.1, (f3 b hb).1.2.2.2.2.2⟩
  have atC : ∀ {pl : List (Addr × Obj)} {σ' : L2.St} {H' : Hp} {s' : Shared}, Inv (X.blk s3 H3 scope ce fp) pl σ' H' s' → H' s3.heap.objs.size = none ∧ ∃ m, s'.heap.Ns s3.heap.objs.size m := fun {pl σ' H' s'} I' => by
    have z : H' ce.locals = none := I'.free
    obtain ⟨m, hn, _⟩ := I'.loc
    have hn : s'.heap.Ns ce.locals m := hn
    rw [cL] at z hn
    exact ⟨z, m, hn⟩
  have loop : codeAny (model X.prog X.w) X.A (.compLoop (.ListComp elt [⟨tg, iter, ifs, 0⟩] scope pos) 0 (.ref it) (.ref D) ce) (compEnds (model X.prog X.w) X.A X.xe use Qf (.ref D) ce) s4 := by
    refine compLoop_any (fun n s' => ∃ i H', Inv (X.blk s3 H3 scope ce fp) [] (wipe σ (own.map (·.2))) H' s' ∧ tn i s'.heap ∧ (∀ b ∈ fp, H' b = none) ∧ W i n H') ?_ m0 ⟨0, H3, I4, st4, nfp, w0⟩
    rintro n s5 ⟨i, H5, I5, st5, n5, w5⟩
    rcases turn i n H5 w5 with ⟨stop, qq⟩ | ⟨go, Nx, hNx, step⟩
    · refine thnF (T.done (X.blk s3 H3 scope ce fp) rfl rfl rfl hc i [] s5 _ H5 (fun _ _ => False) I5 (stat I5 n5) st5 stop) fun r s6 ⟨hr, I6⟩ => ?_
      subst hr
      obtain ⟨zC, m, hn⟩ := atC I6
      exact hRR D s3.heap.objs.size s6 m H5 ce cL (back I6) qq hn (I3.fpOk (Nat.le_refl _) zC)
    · refine thnF (T.item (X.blk s3 H3 scope ce fp) rfl rfl rfl hc i [] s5 _ H5 (fun _ _ => False) I5 (stat I5 n5) st5 go) fun r s6 ⟨u, hr, h6⟩ => ?_
      subst hr
      refine thnF h6 fun _ s7 ⟨x, H7, I7, r7, y7, st7, n7⟩ => ?_
      refine thnF (pg.run _ s7 _ H7 x u _ (I7.pinned (stat I7 n7) (T.obj _ _ st7)) r7 (step x H7 y7)) fun _ s8 ⟨σ8, H8, I8, hw8, q8⟩ => ?_
      refine thnF (pt.run _ s8 σ8 H8 _ I8 q8) fun b s9 ⟨H9, I9, q9⟩ => ?_
      have fin : ∀ {s' : Shared} {H' : Hp}, Inv (X.blk s3 H3 scope ce fp) ([] ++ pinsAt fp s7.heap) σ8 H' s' → Nx H' → ∃ m, m < n ∧ ∃ i H', Inv (X.blk s3 H3 scope ce fp) [] (wipe σ (own.map (·.2))) H' s' ∧ tn i s'.heap ∧ (∀ b ∈ fp, H' b = none) ∧ W i m H' := fun {s' H'} I' nx => by
        obtain ⟨m', hm, w'⟩ := hNx H' nx
        have pin' : ∀ b ∈ fp, ∀ o, s7.heap.get? b = some o → s'.heap.get? b = some o ∧ H' b = none := fun b hb o e =>
          ⟨(I'.pin (b, o) (List.mem_append_right _ (List.mem_append_right _ (mem_pinsAt hb e)))).1, (I'.pin (b, o) (List.mem_append_right _ (List.mem_append_right _ (mem_pinsAt hb e)))).2.1⟩
        refine ⟨m', hm, i + 1, H', (I'.unpinned (pins := [])).weak (by rw [← hw8, wipe_length]) (fun j v e => (wipe_some (vs := own.map (·.2)) (by rw [hw8]; exact e)).1), T.keep _ _ _ st7 fun b hb o e => (pin' b hb o e).1, fun b hb => ?_, w'⟩
        obtain ⟨o, e, _⟩ := T.obj _ _ st7 b hb
        exact (pin' b hb o e).2
      cases b with
      | false =>
        simp only [Bool.false_eq_true, if_false] at q9 ⊢
        exact fin I9 q9
      | true =>
        simp only [if_true] at q9 ⊢
        have ps : Passes (L2.CX X.prog X.w) (Cx.blkX X s3 H3 scope ce fp (notedBy (model X.prog X.w) X.A ce fun e s' => compEnds (model X.prog X.w) X.A X.xe use Qf (.ref D) ce (.error e) s')) Eel := fun pl σ' H' s0 e s' I' c => by
          obtain ⟨a, B, sI, H'', cls, d, rfl, I2', nb, up, fl, na, os, ag, w⟩ := fly_of_call I' c
          have I2 := I2'.unwish
          obtain ⟨zC, m, hn⟩ := atC I2
          have key := fails_of (X := X) (W := fun cls d _ H => Eel cls d H) hstk hfrm tk cL cF (back I2) (I3.fpOk (Nat.le_refl _) zC) hn nb up fl na os ag w
          have e2 : (fun e s' => compEnds (model X.prog X.w) X.A X.xe use Qf (.ref D) ce (.error e) s') = CompFails (model X.prog X.w) X.A X.xe ce := by
            funext e s'
            cases use <;> rfl
          show notedBy (model X.prog X.w) X.A ce (fun e s' => compEnds (model X.prog X.w) X.A X.xe use Qf (.ref D) ce (.error e) s') (.ref a) s'
          rw [e2]
          exact key
        refine wpAny_mono ((pe _ ps).run _ s9 σ8 H9 _ (I9.wish _) q9) (fun z s10 ⟨yv, H10, I10, r10, acc, hD10, hz10, nx⟩ => ?_) fun _ _ z => z
        exact app_ok (X := X.blk s3 H3 scope ce fp) I10.unwish hD10 hz10 r10 fun s11 I11 => fin I11 nx
  exact codeAny_compStart_list loop (T.self X.A 0 _ _ _ st4 loop)
/-- name = [..] on one line, the name a local, where the element may raise -/
theorem ps_setLcX {i : Nat} {y : Str} {py : Pos} {elt tg iter : Expr} {ifs : List Expr} {scope : Scope} {own : List (Str × Nat)} {pos spos : Pos} {wi : TI} {g : TG} {tt : TT} {te : TE} {Eel : XK}
    (hstk : X.stack = X.env :: X.outer) (hfrm : X.env.frame = some X.env.locals) (tk : Takes X fun cls d _ H => Eel cls d H)
    (hc : X.calm = true) (hN : X.N.Nodup) (hy : X.N[i]? = some y) (hyl : X.env.scope.names.lookup y = some .local)
    (hsw : swapsWith (.ListComp elt [⟨tg, iter, ifs, 0⟩] scope pos) (some (.Name y py)) spos.line X.env = pure true) (hi : PI X tg iter wi) (ok : BlkOk X.N X.env.scope scope own)
    (hg : ∀ (s : Shared) (H : Hp) (C : Addr) (cl : List (Str × Addr)) (fp : List Addr), PG (X.blk s H scope (compEnvC scope cl C X.env) fp) tg g)
    (ht : ∀ (s : Shared) (H : Hp) (C : Addr) (cl : List (Str × Addr)) (fp : List Addr), PTs (X.blk s H scope (compEnvC scope cl C X.env) fp) ifs tt)
    (he : ∀ (s : Shared) (H : Hp) (C : Addr) (cl : List (Str × Addr)) (fp : List Addr) (xe : Value → Shared → Prop), Passes (L2.CX X.prog X.w) (Cx.blkX X s H scope (compEnvC scope cl C X.env) fp xe) Eel → PE (Cx.blkX X s H scope (compEnvC scope cl C X.env) fp xe) elt te)
    (hs : ∀ x, foldedSetIterable iter X.env x = pure x := by intro _; rfl) :
    PS X (.Assign [.Name y py] (.ListComp elt [⟨tg, iter, ifs, 0⟩] scope pos) spos) (tAsg (tLc wi g tt te (own.map (·.2))) (gName i)) := by
  refine ⟨fun pins s σ H D I h => ?_⟩
  rw [exec_Assign_Name_used _ _ _ _ hsw]
  refine wpAny_bind (wpAny_standAt (wpAny_bind ?_))
  show wpAny _ X.A (do let _ ← comprehension (.ListComp elt [⟨tg, iter, ifs, 0⟩] scope pos) scope X.env (firstIterPos [⟨tg, iter, ifs, 0⟩] pos) (newList []) false (eval iter X.env) (some (assign (.Name y py) X.env))) _ _ s
  have h : tLc wi g tt te (own.map (·.2)) σ H (fun x H1 => gName i x σ H1 D.nx) := h
  refine wpAny_bind (thn (lcx_core (Qf := fun _ s' => SP X pins D .next s') hstk hfrm tk hc hN I hi ok hg ht he hs h fun L C s' m H' ce cL I' q hn f => ?_) fun _ s' hq => wpAny_pure (wpAny_pure hq))
  show wpAny _ _ (assign (.Name y py) X.env (.ref L)) _ _ _
  refine wpAny_assign_Name (store_ok2 (v := V.ref L) I' hN hy (.inl hyl) rfl (fun s2 I2 ⟨a, sb, ha⟩ => ?_) (.inr hyl))
  obtain ⟨f0, f1, f2, f3, f4, f5⟩ := f
  have haC : C ≠ a := ha.elim (fun z => by rw [z]; exact f1) fun z e => f4 y a z e.symm
  refine ⟨m, by rw [cL]; exact hn.sameBut sb haC, fun h3 sb3 => ?_⟩
  rw [cL] at sb3
  exact ⟨_, H', I2.turned (t' := s2.toks) (fun b o hb e => (sb3.2 b hb).trans e) f0 f1 f3 f4 f5, q⟩
end
end GT
set_option maxHeartbeats 2000000
namespace GT
open PySem PySem.Spec PyProof.Rows L2

/-! ### y = {k: v for target in iter}, the keys tuples of data -/
section
variable {X : Cx} {pins : List (Addr × Obj)} {σ : L2.St} {H : Hp} {s : Shared} {dd : Addr} {k : D} {v : V} {u r : Value} {E : Value → Shared → Prop}
theorem n_dictSet {kvs : List (D × V)} {y : V} {Q : Unit → Shared → Prop} (hu : X.A.units + 20 < cLine) (I : Inv X pins σ H s) (g : DM X.prog X.w X.K H dd kvs) (im : Im X.K H y k) (tp : ∃ ks, k = .tup ks) (dp : k.depth ≤ 8) (hz : kvs.length < sizeLine) (ry : RelV y u) (rv : RelV v r)
    (h : ∀ H' s', Kp [dd] H H' → DM X.prog X.w X.K H' dd (putK kvs k v) → Inv X pins σ H' s' → Q () s') : wpAny (model X.prog X.w) X.A (dictSet dd u r) Q E s := by
  obtain ⟨ks, rfl⟩ := tp
  obtain ⟨es, h1, h2, h3⟩ := id g
  obtain ⟨z, y0, xs, rel, ddd⟩ := dn_raw I (.inl h1) h2
  obtain ⟨a, ys, rfl, _, _⟩ := im.ref
  cases ry
  have hl : es.length = kvs.length := by rw [← h3]; simp [kvE]
  refine wpAny_dictSet_heap (knd := nestedKind X.prog X.w) (hsz := by rw [← enr_len rel]; omega) (show X.A.units + 8 < cLine by omega) (im_is I im dp) ddd fun h' dd' hs => ?_
  obtain ⟨k1, k2⟩ := dm_stored g im dp h1 h2 h3 v
  exact h _ _ k1 k2 (dn_write I g.mut hs (by have := storeE_len es (.tup ks) a v; omega) y0 (enr_store rel _ a rv) dd')
end
section
variable {X : Cx}
/-- what a dict comprehension asks: D the new dict -/
def tDcN (P : Program) (w : World) (K : PySem.W.Frag) (wi : TI) (g : TG) (tt : TT) (tk tv : TE) (vs : List Nat) : TE := fun σ H Q => wi σ H fun J H0 => ∀ D H1, H0 D = none → Kp [] H0 H1 → DM P w K H1 D [] → ∃ W : Nat → Nat → Hp → Prop, (∃ m, W 0 m H1) ∧ ∀ i m H, W i m H →
  (J.stop i H ∧ Q (.ref D) H) ∨ (J.go i H ∧ ∃ Nx : Hp → Prop, (∀ H', Nx H' → ∃ m', m' < m ∧ W (i + 1) m' H') ∧ ∀ x H', J.yld i H x H' → g x (wipe σ vs) H' fun σ2 H2 => wipe σ2 vs = wipe σ vs ∧ tt σ2 H2 fun b H3 =>
    if b = true then tk σ2 H3 fun y H4 => tv σ2 H4 fun z H5 => ∃ kvs k, DM P w K H5 D kvs ∧ Im K H5 y k ∧ (∃ ks, k = .tup ks) ∧ k.depth ≤ 8 ∧ kvs.length < sizeLine ∧ ∀ H6, Kp [D] H5 H6 → DM P w K H6 D (putK kvs k z) → Nx H6 else Nx H3)
theorem dcn_core {pins : List (Addr × Obj)} {s : Shared} {σ : L2.St} {H : Hp} {Q : VK} {kx vx tg iter : Expr} {ifs : List Expr} {scope : Scope} {own : List (Str × Nat)} {pos pos' : Pos} {wi : TI} {g : TG} {tt : TT} {tk tv : TE} {use : Option (Value → Sem Unit)} {Qf : Value → Shared → Prop}
    (hu : rm X) (hc : X.calm = true) (hN : X.N.Nodup) (I : Inv X pins σ H s) (hi : PI X tg iter wi) (ok : BlkOk X.N X.env.scope scope own)
    (hg : ∀ (s : Shared) (H : Hp) (C : Addr) (cl : List (Str × Addr)) (fp : List Addr), PG (X.blk s H scope (compEnvC scope cl C X.env) fp) tg g)
    (ht : ∀ (s : Shared) (H : Hp) (C : Addr) (cl : List (Str × Addr)) (fp : List Addr), PTs (X.blk s H scope (compEnvC scope cl C X.env) fp) ifs tt)
    (hk : ∀ (s : Shared) (H : Hp) (C : Addr) (cl : List (Str × Addr)) (fp : List Addr), PE (X.blk s H scope (compEnvC scope cl C X.env) fp) kx tk)
    (he : ∀ (s : Shared) (H : Hp) (C : Addr) (cl : List (Str × Addr)) (fp : List Addr), PE (X.blk s H scope (compEnvC scope cl C X.env) fp) vx tv)
    (hs : ∀ x, foldedSetIterable iter X.env x = pure x)
    (h : tDcN X.prog X.w X.K wi g tt tk tv (own.map (·.2)) σ H Q)
    (hRR : ∀ D C s' m H', Inv X pins σ H' s' → Q (.ref D) H' → s'.heap.Ns C m → FpOk X pins H' C → compPost (model X.prog X.w) X.A X.xe use Qf (.ref D) C (.ok .next) s') :
    wpAny (model X.prog X.w) X.A (comprehension (.DictComp kx vx [⟨tg, iter, ifs, 0⟩] scope pos) scope X.env pos' newDict false (eval iter X.env) use) Qf X.xe s := by
  have hfree : ∀ y ∈ scope.names, y.2 = .free → ∃ c, X.env.cells.lookup y.1 = some c := fun y hy e => (ok.free y hy e).elim (fun k => I.ok.has _ (.inl k)) fun k => I.ok.has _ (.inr k)
  refine wpAny_comprehension_free (use := use) rfl hs (closure_ok hfree) ok.kind (fun y hy e => by rw [ok.uniq y hy, e]) (thn (hi.run pins s σ H _ I h) fun xv s1 hx => thn hx fun itv s2 h2 => ?_)
  obtain ⟨it, fp, tn, J, H2, e, I2, T, st2, f2, q⟩ := h2
  subst e
  refine wpAny_newObj_type (newEnv_comp ?_)
  generalize hD : s2.heap.objs.size = D
  have hDn : H2 D = none := I2.hok.fresh (Nat.le_of_eq hD)
  have hS : (D == sysModules) = false := by rw [← hD]; exact beq_eq_false_iff_ne.mpr (Ne.symm (Nat.ne_of_lt I2.big))
  have dm0 : DM X.prog X.w X.K (upd H2 D (DN X.prog X.w D [])) D [] := ⟨[], upd_same, (fun e h => by cases h), rfl⟩
  obtain ⟨W, ⟨m0, w0⟩, turn⟩ := q D _ hDn (Kp.new hDn) dm0
  generalize hs3 : ({ s2 with heap := s2.heap.push { cls := .type "dict", data := .dict #[] } } : Shared) = s3
  have I3 : Inv X pins σ (upd H2 D (DN X.prog X.w D [])) s3 := by
    subst hs3
    refine I2.laid (t' := s2.toks) (fun b o e => Heap.get?_push_of_some _ e) (Nat.le_of_eq hD) (DNf.ok ⟨Nat.zero_le _, hS, [], .nil, { cls := .type "dict", data := .dict #[] }, #[], 0, ?_, ⟨rfl, rfl, rfl⟩, rfl, rfl, List.nodup_nil⟩)
    rw [← hD]
    exact Heap.get?_push_size _ rfl
  have h3 : s3.heap = s2.heap.push { cls := .type "dict", data := .dict #[] } := by rw [← hs3]
  have f3 : ∀ b ∈ fp, FpOk X pins (upd H2 D (DN X.prog X.w D [])) b ∧ b < s3.heap.objs.size := fun b hb => by
    obtain ⟨o, e, _⟩ := T.obj _ _ st2 b hb
    have hlt : b < s2.heap.objs.size := Heap.lt_size e
    exact ⟨⟨(upd_ne (by rw [← hD]; exact Nat.ne_of_lt hlt)).trans (f2 b hb).1, (f2 b hb).2⟩, by rw [h3, Heap.size_push]; exact Nat.lt_succ_of_lt hlt⟩
  have st3 : tn 0 s3.heap := T.keep _ _ _ st2 fun b _ o e => by rw [h3]; exact Heap.get?_push_of_some _ e
  have I4 := block_start I3 ok hN f3
  generalize hH3 : upd H2 D (DN X.prog X.w D []) = H3 at I3 I4 w0 f3 dm0
  have pg := hg s3 H3 s3.heap.objs.size (cellsFrom (s3.heap.objs.size + 1) scope.names (cloFrom X.env.cells scope.names [])) fp
  have pt := ht s3 H3 s3.heap.objs.size (cellsFrom (s3.heap.objs.size + 1) scope.names (cloFrom X.env.cells scope.names [])) fp
  have pk := hk s3 H3 s3.heap.objs.size (cellsFrom (s3.heap.objs.size + 1) scope.names (cloFrom X.env.cells scope.names [])) fp
  have pe := he s3 H3 s3.heap.objs.size (cellsFrom (s3.heap.objs.size + 1) scope.names (cloFrom X.env.cells scope.names [])) fp
  show codeAny _ _ (.compStart (.DictComp kx vx [⟨tg, iter, ifs, 0⟩] scope pos) 0 (.ref it) (.ref D) (compEnvC scope (cellsFrom (s3.heap.objs.size + 1) scope.names (cloFrom X.env.cells scope.names [])) s3.heap.objs.size X.env))
    (compPost (model X.prog X.w) X.A X.xe use Qf (.ref D) s3.heap.objs.size) { s3 with heap := pushCells (s3.heap.push { cls := .type "dict", data := .dict #[] }) scope.names }
  have nfp : ∀ b ∈ fp, H3 b = none := fun b hb => (f3 b hb).1.1
  generalize hce : compEnvC scope (cellsFrom (s3.heap.objs.size + 1) scope.names (cloFrom X.env.cells scope.names [])) s3.heap.objs.size X.env = ce at I4 pg pt pk pe ⊢
  have cL : ce.locals = s3.heap.objs.size := by subst hce; rfl
  generalize hs4 : ({ s3 with heap := pushCells (s3.heap.push { cls := .type "dict", data := .dict #[] }) scope.names } : Shared) = s4 at I4 ⊢
  have st4 : tn 0 s4.heap := T.keep _ _ _ st3 fun b _ o e => by subst hs4; exact pushCells_keeps _ _ _ _ (Heap.get?_push_of_some _ e)
  have stat : ∀ {σ' : L2.St} {H' : Hp} {s' : Shared}, Inv (X.blk s3 H3 scope ce fp) [] σ' H' s' → (∀ b ∈ fp, H' b = none) → ∀ b ∈ fp, FpOk (X.blk s3 H3 scope ce fp) [] H' b := fun {σ' H' s'} I' hn b hb =>
    ⟨hn b hb, (I'.ok.exf b hb).1, I'.ok.exfs b hb, .inl hb, fun x c e => (I'.ok.exf b hb).2 x c e, fun p hp => absurd (show p ∈ ([] : List (Addr × Obj)) ++ [] from hp) (by simp)⟩
  have loop : codeAny (model X.prog X.w) X.A (.compLoop (.DictComp kx vx [⟨tg, iter, ifs, 0⟩] scope pos) 0 (.ref it) (.ref D) ce) (compPost (model X.prog X.w) X.A X.xe use Qf (.ref D) s3.heap.objs.size) s4 := by
    refine compLoop_anyD (fun n s' => ∃ i H', Inv (X.blk s3 H3 scope ce fp) [] (wipe σ (own.map (·.2))) H' s' ∧ tn i s'.heap ∧ (∀ b ∈ fp, H' b = none) ∧ W i n H') ?_ m0 ⟨0, H3, I4, st4, nfp, w0⟩
    rintro n s5 ⟨i, H5, I5, st5, n5, w5⟩
    rcases turn i n H5 w5 with ⟨stop, qq⟩ | ⟨go, Nx, hNx, step⟩
    · refine thnF (T.done (X.blk s3 H3 scope ce fp) rfl rfl rfl hc i [] s5 _ H5 (fun _ _ => False) I5 (stat I5 n5) st5 stop) fun r s6 ⟨hr, I6⟩ => ?_
      subst hr
      have I7 : Inv X pins σ H5 s6 := I3.call' (ch := fp) I6.os I6.base I6.hok I6.bare fun b hb => ⟨(f3 b hb).1.2.2.2.1, (f3 b hb).1.2.1, (f3 b hb).1.2.2.2.2.1, (f3 b hb).1.2.2.2.2.2⟩
      have zC : H5 ce.locals = none := I6.free
      obtain ⟨m, hn, _⟩ := I6.loc
      have hn : s6.heap.Ns ce.locals m := hn
      rw [cL] at zC hn
      exact hRR D s3.heap.objs.size s6 m H5 I7 qq hn (I3.fpOk (Nat.le_refl _) zC)
    · refine thnF (T.item (X.blk s3 H3 scope ce fp) rfl rfl rfl hc i [] s5 _ H5 (fun _ _ => False) I5 (stat I5 n5) st5 go) fun r s6 ⟨u, hr, h6⟩ => ?_
      subst hr
      refine thnF h6 fun _ s7 ⟨x, H7, I7, r7, y7, st7, n7⟩ => ?_
      refine thnF (pg.run _ s7 _ H7 x u _ (I7.pinned (stat I7 n7) (T.obj _ _ st7)) r7 (step x H7 y7)) fun _ s8 ⟨σ8, H8, I8, hw8, q8⟩ => ?_
      refine thnF (pt.run _ s8 σ8 H8 _ I8 q8) fun b s9 ⟨H9, I9, q9⟩ => ?_
      have fin : ∀ {s' : Shared} {H' : Hp}, Inv (X.blk s3 H3 scope ce fp) ([] ++ pinsAt fp s7.heap) σ8 H' s' → Nx H' → ∃ m, m < n ∧ ∃ i H', Inv (X.blk s3 H3 scope ce fp) [] (wipe σ (own.map (·.2))) H' s' ∧ tn i s'.heap ∧ (∀ b ∈ fp, H' b = none) ∧ W i m H' := fun {s' H'} I' nx => by
        obtain ⟨m', hm, w'⟩ := hNx H' nx
        have pin' : ∀ b ∈ fp, ∀ o, s7.heap.get? b = some o → s'.heap.get? b = some o ∧ H' b = none := fun b hb o e =>
          ⟨(I'.pin (b, o) (List.mem_append_right _ (List.mem_append_right _ (mem_pinsAt hb e)))).1, (I'.pin (b, o) (List.mem_append_right _ (List.mem_append_right _ (mem_pinsAt hb e)))).2.1⟩
        refine ⟨m', hm, i + 1, H', (I'.unpinned (pins := [])).weak (by rw [← hw8, wipe_length]) (fun j v e => (wipe_some (vs := own.map (·.2)) (by rw [hw8]; exact e)).1), T.keep _ _ _ st7 fun b hb o e => (pin' b hb o e).1, fun b hb => ?_, w'⟩
        obtain ⟨o, e, _⟩ := T.obj _ _ st7 b hb
        exact (pin' b hb o e).2
      cases b with
      | false =>
        simp only [Bool.false_eq_true, if_false] at q9 ⊢
        exact fin I9 q9
      | true =>
        simp only [if_true] at q9 ⊢
        refine thnF (pk.run _ s9 σ8 H9 _ I9 q9) fun z s10 ⟨yk, H10, I10, r10, q10⟩ => ?_
        refine thnF (pe.run _ s10 σ8 H10 _ I10 q10) fun z2 s11 ⟨yv, H11, I11, r11, kvs, k, dm, im, tp, dp, hz11, nx⟩ => ?_
        exact n_dictSet (X := X.blk s3 H3 scope ce fp) (show X.A.units + 20 < cLine by omega) I11 dm im tp dp hz11 r10 r11 fun H12 s12 kp dm' I12 => fin I12 (nx H12 kp dm')
  exact codeAny_compStart_dict loop (T.self X.A 0 _ _ _ st4 loop)
theorem swd_true {kx vx : Expr} {gs : List Comprehension} {scope : Scope} {pos py : Pos} {y : Str} {l : Nat} {env : Env} (hk : env.scope.kind = .function) (hy : env.scope.names.lookup y = some .local) (hl : (py.line == pos.line) = true)
    (ha : (scope.names.any fun (n, k) => n == y && (k == .local || k == .cell)) = false) : swapsWith (.DictComp kx vx gs scope pos) (some (.Name y py)) l env = pure true := by
  have ky : env.kindOf y = some .local := hy
  have hb : env.blockKind = .function := by unfold Env.blockKind; rw [hk]; rfl
  unfold swapsWith
  simp only [hb, ky, ha, Expr.pos, hl]
  rfl
theorem swd_cell {kx vx : Expr} {gs : List Comprehension} {scope : Scope} {pos py : Pos} {y : Str} {l : Nat} {env : Env} (hy : env.scope.names.lookup y = some .cell) : swapsWith (.DictComp kx vx gs scope pos) (some (.Name y py)) l env = pure false := by
  have ky : env.kindOf y = some .cell := hy
  unfold swapsWith
  simp only [ky]
  have z : (some NameKind.cell == some NameKind.local) = false := rfl
  rw [z, Bool.and_false, Bool.false_and, Bool.false_and]
/-- as a value -/
theorem pe_dcN {kx vx tg iter : Expr} {ifs : List Expr} {scope : Scope} {own : List (Str × Nat)} {pos : Pos} {wi : TI} {g : TG} {tt : TT} {tk tv : TE} (hu : rm X) (hc : X.calm = true) (hN : X.N.Nodup) (hi : PI X tg iter wi) (ok : BlkOk X.N X.env.scope scope own)
    (hg : ∀ (s : Shared) (H : Hp) (C : Addr) (cl : List (Str × Addr)) (fp : List Addr), PG (X.blk s H scope (compEnvC scope cl C X.env) fp) tg g)
    (ht : ∀ (s : Shared) (H : Hp) (C : Addr) (cl : List (Str × Addr)) (fp : List Addr), PTs (X.blk s H scope (compEnvC scope cl C X.env) fp) ifs tt)
    (hk : ∀ (s : Shared) (H : Hp) (C : Addr) (cl : List (Str × Addr)) (fp : List Addr), PE (X.blk s H scope (compEnvC scope cl C X.env) fp) kx tk)
    (he : ∀ (s : Shared) (H : Hp) (C : Addr) (cl : List (Str × Addr)) (fp : List Addr), PE (X.blk s H scope (compEnvC scope cl C X.env) fp) vx tv) (hs : ∀ x, foldedSetIterable iter X.env x = pure x := by intro _; rfl) :
    PE X (.DictComp kx vx [⟨tg, iter, ifs, 0⟩] scope pos) (tDcN X.prog X.w X.K wi g tt tk tv (own.map (·.2))) := by
  refine ⟨fun pins s σ H Q I h => ?_⟩
  rw [arm_eval_DictComp]
  refine dcn_core hu hc hN I hi ok hg ht hk he hs h fun D C s' m H' I' q hn f => ⟨m, hn, fun h'' sb => ?_⟩
  obtain ⟨f0, f1, f2, f3, f4, f5⟩ := f
  exact ⟨.ref D, H', I'.turned (t' := s'.toks) (fun b o hb e => (sb.2 b hb).trans e) f0 f1 f3 f4 f5, rfl, q⟩
/-- name = {..} on one line -/
theorem ps_setDcN {i : Nat} {y : Str} {py : Pos} {kx vx tg iter : Expr} {ifs : List Expr} {scope : Scope} {own : List (Str × Nat)} {pos spos : Pos} {wi : TI} {g : TG} {tt : TT} {tk tv : TE} (hu : rm X) (hc : X.calm = true) (hN : X.N.Nodup)
    (hy : X.N[i]? = some y) (hyl : X.env.scope.names.lookup y = some .local) (hsw : swapsWith (.DictComp kx vx [⟨tg, iter, ifs, 0⟩] scope pos) (some (.Name y py)) spos.line X.env = pure true) (hi : PI X tg iter wi) (ok : BlkOk X.N X.env.scope scope own)
    (hg : ∀ (s : Shared) (H : Hp) (C : Addr) (cl : List (Str × Addr)) (fp : List Addr), PG (X.blk s H scope (compEnvC scope cl C X.env) fp) tg g)
    (ht : ∀ (s : Shared) (H : Hp) (C : Addr) (cl : List (Str × Addr)) (fp : List Addr), PTs (X.blk s H scope (compEnvC scope cl C X.env) fp) ifs tt)
    (hk : ∀ (s : Shared) (H : Hp) (C : Addr) (cl : List (Str × Addr)) (fp : List Addr), PE (X.blk s H scope (compEnvC scope cl C X.env) fp) kx tk)
    (he : ∀ (s : Shared) (H : Hp) (C : Addr) (cl : List (Str × Addr)) (fp : List Addr), PE (X.blk s H scope (compEnvC scope cl C X.env) fp) vx tv) (hs : ∀ x, foldedSetIterable iter X.env x = pure x := by intro _; rfl) :
    PS X (.Assign [.Name y py] (.DictComp kx vx [⟨tg, iter, ifs, 0⟩] scope pos) spos) (tAsg (tDcN X.prog X.w X.K wi g tt tk tv (own.map (·.2))) (gName i)) := by
  refine ⟨fun pins s σ H D I h => ?_⟩
  rw [exec_Assign_Name_used _ _ _ _ hsw]
  refine wpAny_bind (wpAny_standAt (wpAny_bind ?_))
  show wpAny _ X.A (do let _ ← comprehension (.DictComp kx vx [⟨tg, iter, ifs, 0⟩] scope pos) scope X.env (firstIterPos [⟨tg, iter, ifs, 0⟩] pos) newDict false (eval iter X.env) (some (assign (.Name y py) X.env))) _ _ s
  have h : tDcN X.prog X.w X.K wi g tt tk tv (own.map (·.2)) σ H (fun x H1 => gName i x σ H1 D.nx) := h
  refine wpAny_bind (thn (dcn_core (Qf := fun _ s' => SP X pins D .next s') hu hc hN I hi ok hg ht hk he hs h fun L C s' m H' I' q hn f => ?_) fun _ s' hq => wpAny_pure (wpAny_pure hq))
  show wpAny _ _ (assign (.Name y py) X.env (.ref L)) _ _ _
  refine wpAny_assign_Name (store_ok2 (v := V.ref L) I' hN hy (.inl hyl) rfl (fun s2 I2 ⟨a, sb, ha⟩ => ?_) (.inr hyl))
  obtain ⟨f0, f1, f2, f3, f4, f5⟩ := f
  have haC : C ≠ a := ha.elim (fun z => by rw [z]; exact f1) fun z e => f4 y a z e.symm
  exact ⟨m, hn.sameBut sb haC, fun h3 sb3 => ⟨_, H', I2.turned (t' := s2.toks) (fun b o hb e => (sb3.2 b hb).trans e) f0 f1 f3 f4 f5, q⟩⟩
end
end GT
set_option maxHeartbeats 2000000
namespace GT
open PySem PySem.Spec PyProof.Rows L2
def top (i : Nat) : Stmt := PySem.Challenge.pw_graphtwins_k90_whole_alike_in_the_end.main.body.getD i (.Pass ⟨0, 0, 0, 0⟩)

/-! ### CodeError(place): its __init__ says super().__init__(f'..'), then self.place = place -/
abbrev sErr : Stmt := inClass (top 3) 0
abbrev errF (cc cda : Addr) : NdefX.NF := ⟨"__init__", "CodeError.__init__", defArgs sErr, defBody sErr, defScope sErr, [("__class__", cc)], cda⟩
structure ErrT (P : Program) (K : PySem.W.Frag) (C f cc cda : Addr) : Prop where
  ox : OexC K C
  fn : ∃ oc od osl doc pm ctv, K.lookup f = some ⟨oc, od, .func ((errF cc cda).fd doc pm ctv), osl⟩
  code : PySem.W.codeIn K (.ref cda) "CodeError.__init__" = true
  codeO : ∃ ccl cdd vs ccs file tf, K.lookup cda = some ⟨ccl, cdd, .fields vs, ccs⟩ ∧ vs[2]? = some (.str file tf) ∧ ((P.main.file : Str) == file) = true
  cell : ∃ cl cld csl, K.lookup cc = some ⟨cl, cld, .cell (some (.ref C)), csl⟩
  sub : PySem.W.mroIn K C (.ref C) = some true
  stat : PySem.W.nsIn K cStatics "thirdparty.any" = some none
  along : PySem.W.ks_superIn K C C "__init__" = some (some (.builtin "ValueError.__init__"))
  subVE : PySem.W.subIn K (.ref C) (.type "ValueError") = some true
  ini : PySem.W.findIn K (.ref C) "__init__" = some (some (.ref f))
  tI : PySem.W.typeIn K (.ref f) = some (.type "function")
  pl : PySem.W.findIn K (.ref C) "place" = some none
  cls : ∃ cd, PySem.W.clsIn K C = some cd
def spErr (C : Addr) : Sp := fun vs H Q _ => ∃ a i, vs = [.ref a, .int i] ∧ i.natAbs.log2 < 1920 ∧ H a = some (exo a C none) ∧
  ∀ dx, H dx = none → dx ≠ a → Q .non (upd (upd H dx (exd dx [("place", .int i)])) a (exo a C (some dx)))
abbrev nErr : List Str := ["self", "place", "__class__"]
theorem scErr : NdefX.NScope nErr ["self", "place"] ["__class__"] (defScope sErr) := NdefX.nscope_by (by decide +kernel)
section
variable {prog : Program} {w : World} {A : Around} {E : Value → Shared → Prop} {h : Heap} {g : Array GenState} {d : Drawn} {t : Nat} {os : OsState}
/-- ValueError.__init__, bound to the exception at e, called -/
theorem call_bound {nm q : Str} {C N : Addr} {bs bm : List Value} {hdct : Bool} {sn : List Str} {sub : List Value} {ab : Bool} {col : Option Bool} {dd : Option Addr} {k0 k1 k2 k3 k5 : Option Value} {u e t0 : Addr} {rest : List Value} {Q : Value → Shared → Prop}
    (hC : h.get? C = some (excClassObj nm q C N bs bm hdct sn sub ab col dd k0 k1 k2 k3 k5 "ValueError.__new__")) (he : h.get? e = some (HandSPX.excO C t0)) (hu : h.get? u = some (PySem.W.kxs_mw "ValueError.__init__" e)) (hrest : rest.length ≤ sizeLine)
    (hq : ∀ h' t1, (∀ b o, b ≠ e → h.get? b = some o → h'.get? b = some o) → h'.get? e = some (HandSPX.excO C t1) → Q .none ⟨h', g, d, t, os⟩) : wpAny (model prog w) A (call (.ref u) rest) Q E ⟨h, g, d, t, os⟩ := by
  refine wpAny_call (codeAny_of_tree ?_)
  show wpAny _ A.in1 (callAny (.ref u) ⟨rest, []⟩) _ _ _
  simp only [callAny]
  refine wpAny_bind (wpAny_load hu ?_)
  simp only [PySem.W.kxs_mw, show (Value.type "method-wrapper" == Value.type "method" || Value.type "method-wrapper" == Value.type "builtin_function_or_method" || Value.type "method-wrapper" == Value.type "method-wrapper") = true by decide, if_true]
  refine PySem.W.KFB.if_so (by decide) ?_
  refine wpAny_bind (PySem.W.check_bound_init F.excBase_ValueError.toExcCallFacts hC he rfl ?_)
  refine wpAny_bind (wpAny_pure (wpAny_pure ?_))
  refine ⟨plainId_quiet F.excBase_ValueError.init.plain _, codeAny_builtin F.excBase_ValueError.initEntry ?_⟩
  rw [Around.under_plainId F.excBase_ValueError.init.plain _]
  wp_walk
  refine hq _ h.objs.size (fun b o hb ho => (Heap.get?_update_other _ _ (Ne.symm hb)).trans (Heap.get?_push_of_some _ ho)) ?_
  rw [Heap.get?_update_self _ (Heap.get?_push_of_some _ he) rfl]
  rfl
end
section
variable {P : Program} {w : World} {K : PySem.W.Frag} {mg : Str → Option Value} {base : Heap} {C f cc cda : Addr}
abbrev errX (P : Program) (w : World) (K : PySem.W.Frag) (mg : Str → Option Value) (base : Heap) (cc cda f : Addr) (A : Around) (outer : List Env) (s : Shared) (H : Hp) (E : XK) : Cx := NdefX.ncx CX0 P w K mg base nErr (errF cc cda) f A outer s H E
theorem look_one {x y : Str} {c d : Addr} (h : ([(x, c)] : List (Str × Addr)).lookup y = some d) : y = x ∧ d = c := by
  rw [List.lookup_cons] at h
  cases z : y == x with
  | true => rw [z] at h; exact ⟨beq_iff_eq.mp z, (Option.some.inj h).symm⟩
  | false => rw [z] at h; cases h
theorem err_body {A : Around} {outer : List Env} {s : Shared} {H : Hp} {Q : VK} {E : XK} {a : Addr} {i : Int} {u2 : Value} {h₁ : Heap} {tk : Nat} {σ : L2.St} (T : ErrT P K C f cc cda) (hs : mg "super" = none) (htop : (P.main.scope.names.lookup ("super" : Str)).isSome = false)
    (kp : ∀ b o, s.heap.get? b = some o → h₁.get? b = some o) (kin0 : K.In s.heap) (cellC : s.heap.IsCell cc (some (.ref C))) (hns : h₁.Ns s.heap.objs.size fun y => ((["self", "place"] : List Str).zip [Value.ref a, u2]).reverse.lookup y)
    (hi : i.natAbs.log2 < 1920) (ha : H a = some (exo a C none)) (hr : Room 1 (A.deeper (NdefX.envF (errF cc cda) f s.heap.objs.size))) (s0 : σ[0]? = some (some (.ref a))) (s1 : σ[1]? = some (some (.int i)))
    (I0 : Inv (errX P w K mg base cc cda f A outer s H E) [] σ H { s with heap := h₁, toks := tk })
    (q : ∀ dx, H dx = none → dx ≠ a → Q .non (upd (upd H dx (exd dx [("place", .int i)])) a (exo a C (some dx)))) :
    _root_.PySem.wpAt (model P w) (A.deeper (NdefX.envF (errF cc cda) f s.heap.objs.size)) (.func (defBody sErr) (NdefX.envF (errF cc cda) f s.heap.objs.size)) (execs (defBody sErr) (NdefX.envF (errF cc cda) f s.heap.objs.size))
      (SP (errX P w K mg base cc cda f A outer s H E) [] { nx := fun _ H' => Q .non H', rt := fun _ _ => False, bk := fun _ _ => False, ct := fun _ _ => False }) (fun _ _ => False) { s with heap := h₁, toks := tk } := by
  obtain ⟨oc, od, osl, doc, pm, ctv, lk⟩ := T.fn
  have kin1 : K.In h₁ := kin0.keeps kp
  obtain ⟨ccl, cdd, cvs, ccs, file, tf, hco, hvs, hfile⟩ := T.codeO
  obtain ⟨cd, hcd⟩ := T.cls
  obtain ⟨nmC, qC, NC, bsC, bmC, snC, subC, abC, colC, ddC, k0, k1, k2, k3, k5, hCl, hbm⟩ := T.ox.cls
  obtain ⟨oD, hD1, hD2⟩ : ∃ oD, h₁.get? C = some oD ∧ oD.data = .cls cd := by
    unfold PySem.W.clsIn at hcd
    split at hcd
    · rename_i c d cd' sl ho
      cases hcd
      exact ⟨_, kin1 _ _ ho, rfl⟩
    · cases hcd
  obtain ⟨t1, hoe⟩ := exo_at I0.hok (show H a = some (exo a C none) from ha)
  have hks : (defScope sErr).names.lookup ("super" : Str) = some .globalImplicit := by decide +kernel
  have hkc : (defScope sErr).names.lookup ("__class__" : Str) = some .free := by decide +kernel
  have hka : (defScope sErr).names.lookup ("self" : Str) = some .local := by decide +kernel
  have hke : (defScope sErr).kind = .function := by decide +kernel
  refine ks_wpAt_execs_cons (ks_wpAt_Expr_any (ks_wpAt_MethodCall ?_))
  refine ks_wpAt_super_base (f := f) (cc := cda) (of := ⟨oc, od, .func ((errF cc cda).fd doc pm ctv), osl⟩) (fd := (errF cc cda).fd doc pm ctv) (file := file) (tf := tf) hks hkc (by decide) rfl (kin1 _ _ lk) rfl rfl rfl (kin1 _ _ hco) rfl hvs hfile htop ?_
  obtain ⟨mb, hb1, hb2⟩ := I0.mod.blt
  have cell1 : h₁.IsCell cc (some (.ref C)) := let ⟨o, e, d⟩ := cellC; ⟨o, kp _ _ e, d⟩
  refine PySem.W.ks_loadName_global hke hks (Calls.loadGlobal_builtin (I0.mod.glob.keeps I0.bk) hs (hb1.keeps I0.bk) ((hb2 _ (by decide)).trans (show bootBuiltins "super" = some (.type "super") by decide +kernel)) ⟨rfl, ?_⟩)
  refine wpAny_loadName_free hke hkc (show ([(("__class__" : Str), cc)] : List (Str × Addr)).lookup ("__class__" : Str) = some cc from rfl) cell1 ?_
  refine wpAny_loadName_local (v := .ref a) hke hka hns rfl ?_
  refine ks_wpAny_isType_cls hD1 hD2 ⟨rfl, ?_⟩
  refine ks_wpAny_call_super (oD := oD) (ox := HandSPX.excO C t1) (C := C) hD1 hD2 hoe rfl (fun c e => by cases e) (PySem.W.looks_mroIn kin1 T.sub) (fun h2 hso kp2 => ?_)
  have kin2 : K.In h2 := kin1.keeps kp2
  have I1 := I0.kept (t' := tk) kp2
  have inst : PySem.W.InstAt h2 a (HandSPX.excO C t1) C none := ⟨kp2 _ _ hoe, rfl, rfl, trivial⟩
  have hal : PySem.W.alongIn K "__init__" ((cd.mro.dropWhile (· != .ref C)).drop 1) = some (some (.builtin "ValueError.__init__")) := by
    have z := T.along
    unfold PySem.W.ks_superIn at z
    rw [hcd] at z
    exact z
  refine PySem.W.kxs_getMethod PySem.W.kxs_ValueError hso (PySem.W.looks_opaque kin2 T.stat) (l₀ := cd.mro) ((PySem.W.looks_clsIn kin2 hcd).andThen .now) rfl kin2 hal (inst.type.andThen (PySem.W.looks_subIn kin2 T.subVE)) (PySem.W.ks_ne kin2 inst hcd) (by decide) ?_
  have kp3 : ∀ b o, h2.get? b = some o → (h2.push (PySem.W.kxs_mw "ValueError.__init__" a)).get? b = some o := fun b o e => Heap.get?_push_of_some _ e
  have hu : (h2.push (PySem.W.kxs_mw "ValueError.__init__" a)).get? h2.objs.size = some (PySem.W.kxs_mw "ValueError.__init__" a) := Heap.get?_push_at rfl rfl
  have I2 := I1.kept (t' := tk + 1) kp3
  have hun : H h2.objs.size = none := I1.hok.fresh (Nat.le_refl _)
  have I3 : Inv (errX P w K mg base cc cda f A outer s H E) [(h2.objs.size, PySem.W.kxs_mw "ValueError.__init__" a)] σ H _ := I2.pins_of fun p hp => by
    obtain rfl : p = (h2.objs.size, PySem.W.kxs_mw "ValueError.__init__" a) := by simpa using hp
    exact ⟨hu, hun, fun z => absurd (I1.lt) (by rw [← z]; exact Nat.lt_irrefl _), I1.nofs (Nat.le_refl _), fun v z => by cases z⟩
  refine PySem.W.kxs_callWith (i := "ValueError.__init__") (x := a) rfl (Calls.evalArgs_plain ?_)
  have zl : ∀ {n : Nat}, n ≤ 4000 → n ≤ sizeLine := fun h => Nat.le_trans h (by decide)
  have tl : (Str.ofString (toString i)).length ≤ 3000 := by
    have e := int_text_length_le (k := 1920) (by decide) hi
    rw [PySem.ofString_length]
    omega
  have pa : PA (errX P w K mg base cc cda f A outer s H E).nox [Expr.JoinedStr [Expr.Constant (Const.str (Str.ofString "the octets cannot be read at ")) 0 { line := 10, col := 27, endLine := 10, endCol := 56 }, (Expr.Name (Str.ofString "place") { line := 10, col := 57, endLine := 10, endCol := 62 }).FormattedValue (-1) none { line := 10, col := 56, endLine := 10, endCol := 63 }] { line := 10, col := 25, endLine := 10, endCol := 64 }] _ :=
    pa_cons (pe_joined (.cons pe_str (.cons (pe_fmt (pv 1)) .nil))) pa_nil
  have run := pa.run { line := 10, col := 8, endLine := 10, endCol := 65 } _ _ σ H (fun vs H' => H' = H ∧ ∃ y, vs = [.str y] ∧ y.length ≤ sizeLine) (I3.wish _) ?_
  · refine wpAny_mono run (fun us s4 ⟨vs, H4, I4', r4, e4, y, ev, hy⟩ => ?_) fun _ _ z => z
    subst e4 ev
    have I4 := I4'.unwish
    obtain ⟨u4, rfl, ru4⟩ := vals1 r4
    have hpin := (I4.pin (h2.objs.size, PySem.W.kxs_mw "ValueError.__init__" a) (List.mem_append_right _ (by simp))).1
    refine ⟨hpin, ?_⟩
    obtain ⟨t4, hoe4⟩ := exo_at I4.hok ha
    obtain ⟨h4, g4, d4, tk4, os4⟩ := s4
    refine call_bound (I4.kIn _ _ hCl) hoe4 hpin (by show 1 ≤ sizeLine; decide) fun h5 t5 k5' he5 => ?_
    have I5 := (I4.unpinned (pins := [])).write (t' := tk4) (x := a) (e := a) (o := exo a C none) (by rw [ha]; exact True.intro) (.inl rfl) k5' ⟨_, he5⟩ (exo_ok he5)
    have eu : upd H4 a (exo a C none) = H4 := by
      funext b
      by_cases hb : b = a
      · rw [hb, upd_same, ha]
      · rw [upd_ne hb]
    rw [eu] at I5
    have ps : PSs (errX P w K mg base cc cda f A outer s H4 E).nox [(defBody sErr).getD 1 (.Pass ⟨0, 0, 0, 0⟩)] _ := pss_one (ps_ost (pv 0) (pv 1))
    refine wpAt_of_wpAny (wpAny_mono (ps.run [] _ σ H4 { nx := fun _ H' => Q .non H', rt := fun _ _ => False, bk := fun _ _ => False, ct := fun _ _ => False } (I5.wish _) ?_) (fun fl s6 hsp => hsp.unwish) fun _ _ z => z)
    exact ⟨_, s1, _, s0, _, C, rfl, T.ox, T.pl, .inl ⟨ha, q⟩⟩
  · refine ⟨_, rfl, by decide, _, s1, .inr ⟨i, rfl, hi, _, rfl, ?_, rfl, _, rfl, ?_⟩⟩
    · show (Str.empty ++ Str.ofString "the octets cannot be read at " ++ Str.ofString (toString i)).length ≤ sizeLine
      rw [Str.length_append]
      exact zl (by have : (Str.empty ++ Str.ofString "the octets cannot be read at ").length = 29 := by decide
                   omega)
    · show (Str.empty ++ Str.ofString "the octets cannot be read at " ++ Str.ofString (toString i)).length ≤ sizeLine
      rw [Str.length_append]
      exact zl (by have : (Str.empty ++ Str.ofString "the octets cannot be read at ").length = 29 := by decide
                   omega)
theorem err_init (T : ErrT P K C f cc cda) (hs : mg "super" = none) (htop : (P.main.scope.names.lookup ("super" : Str)).isSome = false) :
    ∃ fd, FnOk P w K mg base CX0 2 f fd ["self", "place"] (spErr C) ∧ Binds K fd ["self", "place"] [] := by
  obtain ⟨oc, od, osl, doc, pm, ctv, lk⟩ := T.fn
  have hb : ∀ us : List Value, us.length = 2 → bindArgs ((errF cc cda).fd doc pm ctv) ⟨us, []⟩ = pure ((["self", "place"] : List Str).zip us) := fun us hl => match us, hl with
    | [_, _], _ => rfl
  refine ⟨(errF cc cda).fd doc pm ctv, ⟨fun vs H Q E ⟨a, i, e, _⟩ => by rw [e]; rfl, fun A outer s H args us vs Q E hr e0 hbind r hsp => ?_⟩, .all hb⟩
  obtain ⟨a, i, rfl, hi, ha, q⟩ := hsp
  obtain ⟨u1, u2, rfl, r1, r2⟩ := vals2 r
  obtain rfl : u1 = Value.ref a := r1
  have kin0 : K.In s.heap := e0.mod.kin.keeps fun b o e => (e0.bs b o e).1
  have lim : s.heap.NoLimit := e0.mod.nolimit.keeps fun b o e => (e0.bs b o e).1
  obtain ⟨cl, cld, csl, hcell⟩ := T.cell
  have cellC : s.heap.IsCell cc (some (.ref C)) := ⟨_, kin0 _ _ hcell, rfl⟩
  have cells : NdefX.CellsAt (errF cc cda).cl ["__class__"] [some (.ref C)] s.heap H := by
    refine ⟨rfl, fun y c h => ?_, fun x y c h1 h2 => (look_one h1).1.trans (look_one h2).1.symm, fun j y h => ?_⟩
    · obtain ⟨_, rfl⟩ := look_one h
      exact ⟨(e0.bs _ _ (e0.mod.kin _ _ hcell)).2, _, cellC⟩
    · match j, h with
      | 0, h =>
        cases h
        exact ⟨cc, rfl, fun v hv => by cases hv; exact ⟨.ref C, rfl, cellC⟩⟩
      | j + 1, h => simp at h
  refine ks_codeAny_call_defAt (fd := (errF cc cda).fd doc pm ctv) (body := defBody sErr) (binds := (["self", "place"] : List Str).zip [Value.ref a, u2]) hr.depth (kin0 _ _ lk) rfl lim (PySem.W.codeRec_of kin0 T.code) rfl hbind scErr.nocell
    (fun ⟨n, _⟩ hy => scErr.par n (List.of_mem_zip hy).1) (fun h₁ hns kp => ?_) scErr.co scErr.gen scErr.kind
  have I0 : Inv (errX P w K mg base cc cda f A outer s H E) [] (NdefX.startF nErr [.ref a, .int i] [some (.ref C)]) H { s with heap := h₁, toks := s.toks + ((["self", "place"] : List Str).zip [Value.ref a, u2]).length } := NdefX.inv_startN scErr hr.hd e0 rfl r cells hns kp
  refine ks_wpAt_mono (err_body T hs htop kp kin0 cellC hns hi ha (hr.deeper _) rfl rfl I0 q) (fun fl s' hsp => ?_) fun _ _ z => z.elim
  have fin : ∀ {σ' : L2.St} {H' : Hp} {v : V} {u : Value}, Inv (errX P w K mg base cc cda f A outer s H E) [] σ' H' s' → L2.RelV v u → Q v H' → CE outer P w H s Q u s' :=
    fun {σ' H' v u} J rv q => ⟨v, H', J.os, J.bare, J.base, J.hok, rv, q⟩
  cases fl with
  | ret u =>
    obtain ⟨_, _, _, _, _, q⟩ := hsp
    exact False.elim q
  | next =>
    obtain ⟨σ', H', J, q⟩ := hsp
    exact fin (v := V.non) (u := Value.none) J rfl q
  | brk =>
    obtain ⟨_, _, _, q⟩ := hsp
    exact False.elim q
  | cont =>
    obtain ⟨_, _, _, q⟩ := hsp
    exact False.elim q
end
/-! ### raise CodeError(e) -/
/-- a reading of arguments whose wish may be widened -/
def tWk (ta : TA) : TA := fun σ H Q => ∃ Q0, ta σ H Q0 ∧ ∀ vs H1, Q0 vs H1 → Q vs H1
theorem pa_wk {X : Cx} {es : List Expr} {ta : TA} (h : PA X es ta) : PA X es (tWk ta) := by
  refine ⟨fun pos pins s σ H Q I hw => ?_⟩
  obtain ⟨Q0, h0, up⟩ := hw
  exact thn (h.run pos pins s σ H Q0 I h0) fun us s1 ⟨vs, H1, I1, r, q⟩ => ⟨vs, H1, I1, r, up vs H1 q⟩
section
variable {X : Cx} {C f cc cda : Addr}
def tErr (C : Addr) (ta : TA) : L2.St → Hp → XK → Prop := fun σ H Q => ta σ H fun vs H1 => ∃ i, vs = [.int i] ∧ i.natAbs.log2 < 1920 ∧ ∀ d H', Kp [] H1 H' → Q (.ref C) d H'
theorem pmk_err {e : Expr} {es : List Expr} {ta : TA} {p pos : Pos} (T : ErrT X.prog X.K C f cc cda) (hs : X.mg "super" = none) (htop : (X.prog.main.scope.names.lookup ("super" : Str)).isSome = false) (hr : Room 3 X.A) (hg : Gl X "CodeError") (hm : X.mg "CodeError" = some (.ref C))
    (ha : PA X (e :: es) ta) (he : starEach (e :: es) X.env = (false, eval e X.env) :: starEach es X.env := by rfl) (hpl : (backTo pos (starEach es X.env)).any (·.1) = false := by rfl) : PMk X (.Call (.Name "CodeError" p) (e :: es) [] pos) (tErr C ta) := by
  obtain ⟨fd, F, B⟩ := err_init (w := X.w) (base := X.base) T hs htop
  intro pins s σ H Q I h
  refine pmk_oex T.ox T.ini T.tI F hr B .nil pass0 hg hm (pa_wk ha) (by decide) he hpl pins s σ H Q I ⟨_, h, fun vs H1 ⟨i, ev, hi, q⟩ => ?_⟩
  subst ev
  refine ⟨show 1 ≤ 1000 by decide, fun a hn => ⟨a, i, rfl, hi, upd_same, fun dx hd hda => ⟨rfl, dx, [("place", .int i)], upd_same, ?_, ?_, ?_⟩⟩⟩
  · rw [upd_ne hda, upd_same]
  · rw [upd_ne hda] at hd
    exact hd
  · rw [upd_ne hda] at hd
    refine q _ _ (Kp.ofSame fun b o e => ?_)
    have n1 : b ≠ a := ne_of_none e hn
    have n2 : b ≠ dx := ne_of_none e hd
    rw [upd_ne n2, del_ne n1, upd_ne n1, upd_ne n2, upd_ne n1]
    exact e
end
end GT
set_option maxHeartbeats 3200000
namespace GT
open PySem PySem.Spec PyProof.Rows L2

/-! ### set(xs) of a list, by what each item does to the set; the distinct ones are few -/
abbrev set0 (w : World) : Obj := { cls := .type "set", dict := none, data := .set #[] 0 (.fresh 0 0 (!w.params.followText "set-order")) }
/-- after i items the set at S is as G i says -/
structure Fills (P : Program) (w : World) (A : Around) (h0 : Heap) (S n : Nat) (its : Nat → Value → Prop) (G : Nat → Heap → Prop) : Prop where
  start : ∀ h, h.get? S = some (set0 w) → G 0 h
  frame : ∀ i h h', i ≤ n → G i h → (∀ o, h.get? S = some o → h'.get? S = some o) → (∀ b o, h0.get? b = some o → h'.get? b = some o) → G i h'
  add : ∀ i v (s : Shared) (Q : Shared → Prop) (E : Value → Shared → Prop), i < n → its i v → G i s.heap → (∀ b o, h0.get? b = some o → s.heap.get? b = some o) →
    (∀ h' tk, s.toks ≤ tk → Heap.SameBut S s.heap h' → G (i + 1) h' → Q { s with heap := h', toks := tk }) → wpAny (model P w) A (setAdd S v) (fun _ s' => Q s') E s
section
variable {P : Program} {w : World} {A : Around} {E : Value → Shared → Prop} {s : Shared}
theorem upd_gen {I : Addr} {fp wr : List Addr} {Gg : Array GenState → Array GenState → Prop} {n : Nat} {Pv : Nat → Value → Prop} {St : Nat → Shared → Prop} {R : Result → Shared → Prop}
    (W : WalksS P w A.in1 I fp wr Gg n Pv St) {S : Addr} (hSf : S ∉ fp) {h0 : Heap} (hS0 : h0.get? S = none) (hw0 : ∀ b ∈ wr, h0.get? b = none) {G : Nat → Heap → Prop} (FF : Fills P w A.in1 h0 S n Pv G) :
    ∀ (k i : Nat) (s : Shared), n - i = k → i ≤ n → St i s → (∀ b o, h0.get? b = some o → s.heap.get? b = some o) → G i s.heap →
      (∀ s', Moved (S :: wr) Gg s s' → (∀ b o, h0.get? b = some o → s'.heap.get? b = some o) → G n s'.heap → R (.ok (.ret .none)) s') → codeAny (model P w) A (.builtin "set.update.loop" ⟨[.ref S, .ref I], []⟩) R s := by
  have notW : S ∉ wr := fun h => hSf (W.sub _ h)
  have wider : ∀ b ∈ wr, b ∈ S :: wr := fun b hb => List.mem_cons_of_mem _ hb
  have carry : ∀ {s s' : Shared}, Moved wr Gg s s' → (∀ b o, h0.get? b = some o → s.heap.get? b = some o) → ∀ b o, h0.get? b = some o → s'.heap.get? b = some o := fun hm k b o e =>
    hm.heap b o (fun hb => by rw [hw0 b hb] at e; cases e) (k b o e)
  intro k
  induction k with
  | zero =>
    intro i s hk hi hst kp g hR
    obtain rfl : i = n := by omega
    refine codeAny_builtin F.entry_set_update_loop ?_
    rw [Around.under_plainId F.plain_set_update_loop _]
    show wpAny _ A.in1 (pyNext (.ref I) >>= _) _ _ s
    refine wpAny_bind (W.done s _ _ hst fun s' hm => wpAny_pure ?_)
    have kp' := carry hm kp
    exact hR s' (hm.mono wider) kp' (FF.frame _ _ _ (Nat.le_refl _) g (fun o e => hm.heap S o notW e) kp')
  | succ k ih =>
    intro i s hk hi hst kp g hR
    have hlt : i < n := by omega
    refine codeAny_builtin F.entry_set_update_loop ?_
    rw [Around.under_plainId F.plain_set_update_loop _]
    show wpAny _ A.in1 (pyNext (.ref I) >>= _) _ _ s
    refine wpAny_bind (W.item i s _ _ hlt hst fun v s' hP hst' hm => ?_)
    have kp' := carry hm kp
    have g' := FF.frame _ _ _ hi g (fun o e => hm.heap S o notW e) kp'
    show wpAny _ A.in1 (holding [v] (setAdd S v) >>= _) _ _ s'
    refine wpAny_bind (wpAny_holding (FF.add i v s' _ _ hlt hP g' kp' fun h' tk ht sb g2 => ?_))
    have kp2 : ∀ b o, h0.get? b = some o → h'.get? b = some o := fun b o e => (sb.2 b (fun z => by rw [z, hS0] at e; cases e)).trans (kp' b o e)
    refine wpAny_pure ⟨plainId_quiet F.plain_set_update_loop _, ih (i + 1) _ (by omega) hlt (W.frame _ s' _ _ hst' ht fun b hb o e => ?_) kp2 g2 fun s'' hm'' kp3 g3 => hR s'' (Moved.trans W.gtrans ((hm.mono wider).then_heap ht fun b o hb e => ?_) hm'') kp3 g3⟩
    · rw [sb.2 b (fun h : b = S => hSf (by rw [← h]; exact hb))]; exact e
    · rw [sb.2 b (fun h : b = S => hb (by rw [h]; exact List.mem_cons_self))]; exact e
theorem call_set_gen {l : Addr} {items : Array Value} {Q : Value → Shared → Prop} {G : Nat → Heap → Prop} (hh : A.handled = none) (hl : s.heap.IsList l items)
    (FF : Fills P w A.in1.in1.in1 s.heap s.heap.objs.size items.size (fun i v => items[i]? = some v) G)
    (h : ∀ (h' : Heap) (tk : Nat), G items.size h' → (∀ b o, s.heap.get? b = some o → h'.get? b = some o) → Q (.ref s.heap.objs.size) { s with heap := h', toks := tk }) :
    wpAny (model P w) A (call (.type "set") [.ref l]) Q E s := by
  obtain ⟨c, tl, hmro⟩ := F.called_set.mro
  have hmade := F.called_set.made
  have hsub := F.called_set.sub
  refine wpAny_call (codeAny_of_tree ?_)
  show wpAny _ _ (callAny (.type "set") _) _ _ _
  refine wpAny_pure ⟨Code.quiet_builtin _ (by decide +kernel), codeAny_builtin F.entry_type_call ?_⟩
  rw [Around.under_plain (weight_type_call_type "set" [.ref l] []) rfl]
  have h1 := F.called_set.notType
  have h2 := F.called_set.canCreate
  have hct := F.typeCall_set_1 (.ref l)
  repeat (any_goals (first | assumption | wp_step))

  refine codeAny_mono (code_set_led1 (.ref l) (E := E) (Q₁ := fun obj s₁ => obj = .ref s.heap.objs.size ∧ s₁ = { s with heap := s.heap.push (set0 w) }) ⟨rfl, rfl⟩) fun r s₁ hr => ?_
  cases r with
  | error e => exact hr
  | ok fl =>
    cases fl with
    | ret obj =>
      obtain ⟨rfl, rfl⟩ := hr
      have hS : (s.heap.push (set0 w)).get? s.heap.objs.size = some (set0 w) := Heap.get?_push_size _ rfl
      have hT : Shared.TypeIs { s with heap := s.heap.push (set0 w) } (.ref s.heap.objs.size) "set" := ⟨_, hS, rfl⟩
      have hli := F.called_set.init.lookup
      have hbi := F.called_set.init.bind (.ref s.heap.objs.size)
      repeat (any_goals (first | assumption | wp_step))

      refine codeAny_mono (codeAny_call_builtin (R := wants (fun r s₂ => r = .none ∧ ∃ h' tk, s₂ = { s with heap := h', toks := tk } ∧ G items.size h' ∧ (∀ b o, s.heap.get? b = some o → h'.get? b = some o)) E) F.called_set.init.plain F.entry_set_init (check_set_init_1 hT ?_)) fun r₂ s₂ hr₂ => ?_
      · obtain ⟨⟨ocls, odict, odata, oslots⟩, hol, hcl, nl, hdl⟩ := hl
        simp only at hcl hdl
        subst hcl; subst hdl
        have hol' : (s.heap.push (set0 w)).get? l = some { cls := .type "list", dict := odict, data := .seq items nl, slots := oslots } := Heap.get?_push_of_some _ hol
        have hsls := F.sub_list_set
        have hslf := F.sub_list_frozenset
        have hne : (Value.type "list" == Value.type "dict") = false := by decide
        have hl1 : (s.heap.push (set0 w)).IsList l items := ⟨_, hol', rfl, nl, rfl⟩
        unfold Builtin.«set.__init__» noKeywords Builtin.Frozenset.updateFrom
        generalize hPI : pyIter = PI
        wp_walk
        subst hPI

        refine wpAny_pyIter_list hl1 (wpAny_bind (wpAny_runValue ?_))
        have hlS : l < s.heap.objs.size := Heap.lt_size hol
        have hsz : (s.heap.push (set0 w)).objs.size = s.heap.objs.size + 1 := Heap.size_push ..
        have noneOf : ∀ b, s.heap.objs.size ≤ b → s.heap.get? b = none := fun b hb => by
          cases q : s.heap.get? b with
          | none => rfl
          | some o => exact absurd (Nat.lt_of_lt_of_le (Heap.lt_size q) hb) (Nat.lt_irrefl _)
        refine upd_gen (A := A.in1.in1) ((Walks.list (show A.in1.in1.in1.handled = none by simp [hh]) _ l (show l ≠ (s.heap.push (set0 w)).objs.size by rw [hsz]; exact Nat.ne_of_lt (Nat.lt_succ_of_lt hlS)) items).toS) (S := s.heap.objs.size) (h0 := s.heap) (G := G) ?_
          (noneOf _ (Nat.le_refl _)) (fun b hb => noneOf b (by rw [List.mem_singleton.mp hb, hsz]; exact Nat.le_succ _)) FF (items.size - 0) 0 _ (by omega) (Nat.zero_le _) ⟨⟨_, Heap.get?_push_size _ rfl, rfl, rfl⟩, (hl1.push _)⟩ (fun b o e => Heap.get?_push_of_some _ (Heap.get?_push_of_some _ e)) (FF.start _ (Heap.get?_push_of_some _ hS)) ?_
        · rw [hsz]
          simp only [List.mem_cons, List.not_mem_nil, or_false, not_or]
          exact ⟨Nat.ne_of_lt (Nat.lt_succ_self _), Nat.ne_of_gt hlS⟩
        · intro s' hm kp g
          obtain ⟨h', g2, d', tk', os'⟩ := s'
          obtain rfl : g2 = s.gens := hm.gens
          obtain rfl : d' = s.drawn := hm.drawn
          obtain rfl : os' = s.os := hm.os
          show wpAny _ _ _ _ _ _
          refine wpAny_pure ?_
          show wpAny _ _ (ret Value.none) _ _ _
          exact wpAny_pure ⟨rfl, h', tk', rfl, g, kp⟩

      · cases r₂ with
        | error e => exact hr₂
        | ok fl₂ =>
          cases fl₂ with
          | ret r =>
            obtain ⟨rfl, h', tk, rfl, g, kp⟩ := hr₂
            repeat (any_goals (first | assumption | wp_step))
            exact h _ _ g kp
          | _ => exact hr₂.elim
    | _ => exact hr.elim
end
end GT
set_option maxHeartbeats 3200000
namespace GT
open PySem PySem.Spec PyProof.Rows L2

/-! ### set(list of ints), set(list of pairs), len of the latter -/
theorem valsR : ∀ {xs : List V} {us : List Value} {i : Nat} {u : Value}, Vals xs us → us[i]? = some u → ∃ x, xs[i]? = some x ∧ RelV x u
  | _, _, _, _, .nil, e => by simp at e
  | _, _, 0, _, .cons r _, e => by simp at e; subst e; exact ⟨_, rfl, r⟩
  | _, _, i + 1, _, .cons _ t, e => by
    obtain ⟨x, h, r⟩ := valsR (i := i) t (by simpa using e)
    exact ⟨x, by simpa using h, r⟩
section
variable {P : Program} {w : World} {A : Around} {h0 : Heap}
/-- few distinct ones -/
def FewI (ns : List Int) : Prop := ∀ L : List Int, L.Nodup → (∀ k ∈ L, k ∈ ns) → L.length < 60
def GI (w : World) (S : Nat) (ns : List Int) (i : Nat) (h : Heap) : Prop := ∃ (f : Int → Bool) (n : Nat) (L : List Int), SetR w h S f n ∧ L.Nodup ∧ L.length = n ∧ (∀ k ∈ L, k ∈ ns) ∧ (∀ k, f k = true ↔ k ∈ L) ∧ (∀ k, f k = true ↔ k ∈ ns.take i)
theorem fills_ints {ns : List Int} {vs : List Value} {S : Nat} (hv : Vals (ns.map V.int) vs) (hf : FewI ns) : Fills P w A h0 S vs.toArray.size (fun i v => vs.toArray[i]? = some v) (GI w S ns) where
  start := fun h e => ⟨fun _ => false, 0, [], ⟨_, #[], 0, _, e, ⟨rfl, rfl, rfl⟩, rfl, (fun e he => by simp at he), (by simp), (fun k => by simp), (by decide), (by rfl), rfl, List.Pairwise.nil, by
    show _ ∨ (!w.params.followText "set-order") = true
    cases w.params.followText "set-order"
    · exact .inr rfl
    · exact .inl rfl⟩, List.nodup_nil, rfl, (fun k hk => by cases hk), (fun k => by simp), (fun k => by simp)⟩
  frame := fun i h h' _ ⟨f, n, L, R, r⟩ k _ => ⟨f, n, L, R.at k, r⟩
  add := fun i v s Q E hi hv2 ⟨f, n, L, R, nd, ln, sub, fL, ft⟩ kp hQ => by
    have e1 : vs[i]? = some v := by rw [← hv2]; simp
    obtain ⟨x, hx, rx⟩ := valsR hv e1
    rw [List.getElem?_map] at hx
    obtain ⟨z, hz, rfl⟩ := Option.map_eq_some_iff.mp hx
    obtain ⟨tk, rfl⟩ := rx
    have hroom : n < 60 := by rw [← ln]; exact hf L nd sub
    unfold setAdd
    refine wpAny_holding (wpAny_bind ((intKind P w).pyHash (intKind_is P w z tk) ?_))
    refine setR_add_hashed (s := { s with toks := s.toks + 1 }) R (by unfold scanBound; omega) fun h' sb r => ?_
    have hz2 : z ∈ ns := List.mem_of_getElem? hz
    have ht : ns.take (i + 1) = ns.take i ++ [z] := by rw [List.take_succ, hz]; rfl
    refine hQ h' (s.toks + 1) (Nat.le_succ _) sb ?_
    by_cases c : f z = true
    · rw [if_pos c] at r
      refine ⟨_, n, L, r, nd, ln, sub, fun k => ?_, fun k => ?_⟩
      · rw [Bool.or_eq_true, decide_eq_true_eq, fL]
        exact ⟨fun q => q.elim id fun e => by rw [e]; exact (fL z).mp c, .inl⟩
      · rw [Bool.or_eq_true, decide_eq_true_eq, ft, ht, List.mem_append, List.mem_singleton]
    · rw [if_neg c] at r
      have nz : z ∉ L := fun q => c ((fL z).mpr q)
      refine ⟨_, n + 1, z :: L, r, List.nodup_cons.mpr ⟨nz, nd⟩, by rw [List.length_cons, ln], fun k hk => (List.mem_cons.mp hk).elim (fun e => by rw [e]; exact hz2) (sub k), fun k => ?_, fun k => ?_⟩
      · rw [Bool.or_eq_true, decide_eq_true_eq, fL, List.mem_cons, or_comm]
      · rw [Bool.or_eq_true, decide_eq_true_eq, ft, ht, List.mem_append, List.mem_singleton]
abbrev PK := Addr × List Int
def FewT (ks : List PK) : Prop := ∀ L : List PK, (L.map (·.2)).Nodup → (∀ p ∈ L, p ∈ ks) → L.length < 60
def GTp (P : Program) (w : World) (S : Nat) (ks : List PK) (i : Nat) (h : Heap) : Prop := ∃ L es ep t, SetTR P w h S L es ep t ∧ (∀ p ∈ L, p ∈ ks) ∧ ∀ p ∈ ks.take i, p.2 ∈ L.map (·.2)
theorem fills_tups {ks : List PK} {vs : List Value} {S : Nat} (hv : vs = ks.map fun p => Value.ref p.1) (hk : ∀ p ∈ ks, IsT P w h0 p.2 p.1) (hf : FewT ks) (hu : A.units < cLine) : Fills P w A h0 S vs.toArray.size (fun i v => vs.toArray[i]? = some v) (GTp P w S ks) where
  start := fun h e => ⟨[], #[], 0, _, setTR_fresh e, (fun p hp => by cases hp), fun p hp => by simp at hp⟩
  frame := fun i h h' _ ⟨L, es, ep, t, R, sub, all⟩ k kp => ⟨L, es, ep, t, R.keep k fun p hp => isT_keep (hk p (sub p hp)) kp, sub, all⟩
  add := fun i v s Q E hi hv2 ⟨L, es, ep, t, R, sub, all⟩ kp hQ => by
    have e1 : vs[i]? = some v := by rw [← hv2]; simp
    rw [hv, List.getElem?_map] at e1
    obtain ⟨p, hp, rfl⟩ := Option.map_eq_some_iff.mp e1
    have hx : IsT P w s.heap p.2 p.1 := isT_keep (hk p (List.mem_of_getElem? hp)) kp
    have few := hf L R.nd sub
    have ht : ks.take (i + 1) = ks.take i ++ [p] := by rw [List.take_succ, hp]; rfl
    unfold setAdd
    refine wpAny_holding (wpAny_bind (wpAny_pyHash_tuple hu hx ?_))
    refine add_at (s := { s with toks := s.toks + (p.2.length + 1) }) R hx hu (by omega) fun b h' L' es' ep' t' sb R2 c1 c2 => hQ h' _ (Nat.le_add_right _ _) sb ?_
    by_cases c : p.2 ∈ L.map (·.2)
    · obtain rfl := c1 c
      refine ⟨_, _, _, _, R2, sub, fun q hq => ?_⟩
      rw [ht] at hq
      rcases List.mem_append.mp hq with z | z
      · exact all q z
      · rw [List.mem_singleton.mp z]; exact c
    · have pm := c2 c
      refine ⟨_, _, _, _, R2, fun q hq => ?_, fun q hq => ?_⟩
      · rcases List.mem_cons.mp (pm.mem_iff.mp hq) with e | z
        · rw [e]; exact List.mem_of_getElem? hp
        · exact sub q z
      · rw [(pm.map (·.2)).mem_iff, List.map_cons]
        rw [ht] at hq
        rcases List.mem_append.mp hq with z | z
        · exact List.mem_cons_of_mem _ (all q z)
        · rw [List.mem_singleton.mp z]; exact List.mem_cons_self
end
section
variable {X : Cx}
def rSetI (K : PySem.W.Frag) (w : World) : List V → Hp → VK → Prop := fun xs H Q => ∃ l ns, xs = [.ref l] ∧ SqL K H l (ns.map V.int) ∧ FewI ns ∧ ∀ a f n, H a = none → n < 60 → (∀ k, f k = true ↔ k ∈ ns) → Q (.ref a) (upd H a (SetO w a f n))
theorem cr_setI (hc : X.calm = true) : CallR X (.type "set") (rSetI X.K X.w) := by
  intro pins s σ H xs us Q I r h
  obtain ⟨l, ns, rfl, hl, hf, q⟩ := h
  obtain ⟨u, rfl, ru⟩ := vals1 r
  cases ru
  obtain ⟨its, rv, pl, hz⟩ := I.list hl
  have hn : H s.heap.objs.size = none := I.hok.fresh (Nat.le_refl _)
  have el : its.toArray.size = ns.length := by rw [List.size_toArray, ← rv.length, List.length_map]
  refine call_set_gen (I.ok.hd hc) pl.isList (fills_ints rv hf) fun h' tk ⟨f, n, L, R, nd, ln, sub, fL, ft⟩ k => ?_
  rw [el, List.take_length] at ft
  exact ⟨.ref s.heap.objs.size, upd H s.heap.objs.size (SetO X.w s.heap.objs.size f n), I.laid (t' := tk) k (Nat.le_refl _) (setO_new R), rfl, q _ f n hn (by rw [← ln]; exact hf L nd sub) ft⟩
def rSetT (K : PySem.W.Frag) (P : Program) (w : World) : List V → Hp → VK → Prop := fun xs H Q => ∃ (l : Addr) (ks : List PK), xs = [V.ref l] ∧ SqL K H l (ks.map fun p => V.ref p.1) ∧ (∀ p ∈ ks, SqT K H p.1 (p.2.map V.int)) ∧ FewT ks ∧
  ∀ a L, H a = none → (L.map (·.2)).Nodup → (∀ p ∈ L, p ∈ ks) → (∀ p ∈ ks, p.2 ∈ L.map (·.2)) → Q (.ref a) (upd H a (SetTO P w a L))
theorem cr_setT (hc : X.calm = true) (hu : rm X) : CallR X (.type "set") (rSetT X.K X.prog X.w) := by
  intro pins s σ H xs us Q I r h
  obtain ⟨l, ks, rfl, hl, hk, hf, q⟩ := h
  obtain ⟨u, rfl, ru⟩ := vals1 r
  cases ru
  obtain ⟨its, rv, pl, hz⟩ := I.list hl
  have hn : H s.heap.objs.size = none := I.hok.fresh (Nat.le_refl _)
  have el : its.toArray.size = ks.length := by rw [List.size_toArray, ← rv.length, List.length_map]
  refine call_set_gen (P := X.prog) (w := X.w) (I.ok.hd hc) pl.isList (fills_tups (refs_of_vals rv) (fun p hp => I.isT (hk p hp)) hf (show X.A.units + 1 + 1 + 1 < cLine by omega)) fun h' tk ⟨L, es, ep, t, R, sub, all⟩ k => ?_
  rw [el, List.take_length] at all
  exact ⟨.ref s.heap.objs.size, upd H s.heap.objs.size (SetTO X.prog X.w s.heap.objs.size L), I.laid (t' := tk) k (Nat.le_refl _) (setTO_new R.t0), rfl, q _ L hn R.nd sub all⟩
def rLenT (P : Program) (w : World) : List V → Hp → VK → Prop := fun xs H Q => ∃ a L, xs = [V.ref a] ∧ H a = some (SetTO P w a L) ∧ Q (.int L.length) H
theorem cr_lenT : CallR X (.builtin "len") (rLenT X.prog X.w) := by
  intro pins s σ H xs us Q I r h
  obtain ⟨a, L, rfl, ha, q⟩ := h
  obtain ⟨u, rfl, ru⟩ := vals1 r
  cases ru
  have R0 : SetT0 X.prog X.w s.heap a L := (I.hok a _ ha).1
  obtain ⟨es, ep, t, ⟨o, ho, hex, hd⟩, rows, T, nd, pl, led, room, few⟩ := R0.ex
  have hz : es.size = L.length := by
    have h := congrArg List.length rows
    unfold rowsOf at h
    rw [Array.length_toList, List.length_map] at h
    exact h
  have hfit : t.fits es.size = true := by
    have h1 := T.sz
    rw [List.length_map] at h1
    unfold SetTable.fits SetTable.fill
    rw [T.dm, Bool.and_eq_true, beq_iff_eq, decide_eq_true_eq]
    show t.place.size = es.size ∧ t.place.size + 0 ≤ t.mask
    omega
  exact call_len_set ho hex hd hfit (by omega) ⟨.int L.length, H, I.tok _, ⟨_, by rw [hz]⟩, q⟩
end
end GT
set_option maxHeartbeats 2000000
namespace GT
open PySem PySem.Spec PyProof.Rows L2

/-! ### isinstance(x, tuple), (x, str) of data -/
def tyD : D → String
  | .none => "NoneType"
  | .num _ => "int"
  | .text _ => "str"
  | .tup _ => "tuple"
def rIsiD (K : PySem.W.Frag) : List V → Hp → VK → Prop := fun xs H Q => ∃ x k T, xs = [x, .ty T] ∧ Im K H x k ∧ (T = "tuple" ∨ T = "str") ∧ Q (.bl (decide (tyD k = T))) H
theorem tyx_of {K : PySem.W.Frag} {H : Hp} {x : V} {k : D} (h : Im K H x k) : TyX K H x (.type (tyD k)) := by
  cases h with
  | non => exact .base .non
  | num i => exact .base (.int i)
  | text x => exact .base (.str x)
  | tup hs ha =>
    rcases hs with (h | ⟨o, h⟩) | ⟨o, its, n, h1, h2, _⟩
    · exact .base (.tup h)
    · exact .fTuple h
    · exact .kTuple h1 h2
theorem kit_dec {K : PySem.W.Frag} (k : D) {T : String} (h : T = "tuple" ∨ T = "str") : PySem.W.kitOne K (.type (tyD k)) (.type T) = some (decide (tyD k = T)) := by
  refine kit_ty ?_
  rcases h with rfl | rfl <;> cases k
  · show kitB "NoneType" "tuple" = some (decide ("NoneType" = "tuple"))
    decide +kernel
  · show kitB "int" "tuple" = some (decide ("int" = "tuple"))
    decide +kernel
  · show kitB "str" "tuple" = some (decide ("str" = "tuple"))
    decide +kernel
  · show kitB "tuple" "tuple" = some (decide ("tuple" = "tuple"))
    decide +kernel
  · show kitB "NoneType" "str" = some (decide ("NoneType" = "str"))
    decide +kernel
  · show kitB "int" "str" = some (decide ("int" = "str"))
    decide +kernel
  · show kitB "str" "str" = some (decide ("str" = "str"))
    decide +kernel
  · show kitB "tuple" "str" = some (decide ("tuple" = "str"))
    decide +kernel
section
variable {X : Cx}
theorem call_isiD : CallR X (.builtin "isinstance") (rIsiD X.K) := by
  intro pins s σ H xs us Q I r h
  obtain ⟨x, k, T, rfl, im, hT, q⟩ := h
  exact call_isi pins s σ H _ us Q I r ⟨x, .ty T, _, _, _, rfl, .ty T, tyx_of im, kit_dec k hT, q⟩

/-! ### a > b of data that are alike -/
def rGtI (K : PySem.W.Frag) : R2 := fun x y H Q => ∃ a b, Im K H x a ∧ Im K H y b ∧ PySem.W.alike a.data b.data = true ∧ a ≠ .none ∧ a.depth ≤ 8 ∧ Q (.bl (PySem.W.dataLt b.data a.data)) H
theorem im_reads {pins : List (Addr × Obj)} {σ : L2.St} {H : Hp} {s : Shared} (I : Inv X pins σ H s) {k : D} {v : V} {u : Value} (h : Im X.K H v k) (r : RelV v u) : ∃ as, Reads s.heap u k.data as := Dp.reads I _ _ _ (Im.dp _ _ h) r
theorem op_gtI (hu : rm X) : OpR X (compareOp .Gt) (rGtI X.K) := by
  intro pins s σ H x y v u Q I rx ry h
  obtain ⟨a, b, ha, hb, al, ne, dp, q⟩ := h
  obtain ⟨as, ra⟩ := im_reads I ha rx
  obtain ⟨bs, rb⟩ := im_reads I hb ry
  refine PySem.W.gt_data ra rb al (fun z => ne ?_) ?_ ⟨.bl _, H, I, rfl, q⟩
  · cases a <;> first | rfl | cases z
  · have : min a.data.depth b.data.depth ≤ 8 := Nat.le_trans (Nat.min_le_left _ _) (by rw [depth_data]; exact dp)
    omega

/-! ### list(d) of a dict with such keys -/
def rListN (P : Program) (w : World) (K : PySem.W.Frag) : List V → Hp → VK → Prop := fun vs H Q => ∃ a kvs, vs = [.ref a] ∧ DR P w K H a kvs ∧ ∀ p ys, H p = none → ImA K H ys (kvs.map (·.1)) → Q (.ref p) (upd H p (.lst ys))
theorem call_listN (hc : X.calm = true) : CallR X (.type "list") (rListN X.prog X.w X.K) := by
  intro pins s σ H vs us Q I rs h
  obtain ⟨a, kvs, rfl, ⟨es, rd, ko, rfl⟩, q⟩ := h
  obtain ⟨u, rfl, ru⟩ := vals1 rs
  cases ru
  obtain ⟨z, lo, xs, rel, dd⟩ := dn_raw I rd ko
  obtain ⟨ents, ep, hr, hsz, hent⟩ := dd.raw
  have hl := enr_len rel
  refine PySem.W.kdl_call (PySem.KdlSrc.rawDict (es := ents) (ep := ep) lo) (I.ok.hd hc) hr (by omega) fun h' tk acc c' hk hS hacc => ?_
  have hal : acc.toList.length = es.length := by rw [Array.length_toList, hacc.1]; omega
  have hv : acc.toList = es.map fun e => Value.ref e.2.1 := by
    apply List.ext_getElem?
    intro i
    by_cases hi : i < es.length
    · have h1 : acc.toList[i]? = some (acc.toList[i]'(by omega)) := List.getElem?_eq_getElem _
      obtain ⟨hi4, h2⟩ := hacc.2 i (acc.toList[i]'(by omega)) (by rw [← Array.getElem?_toList]; exact h1)
      obtain ⟨y, hy, e1, e2, e3⟩ := hent i hi4
      obtain ⟨b, hb, r1, r2, r3⟩ := enr_get rel (List.getElem?_eq_getElem hi)
      rw [hy] at hb
      cases hb
      rw [h1, h2, e1, List.getElem?_map, List.getElem?_eq_getElem hi, ← r2]
      rfl
    · rw [List.getElem?_eq_none (by omega), List.getElem?_eq_none (by rw [List.length_map]; omega)]
  have both : ∀ l : List En, KeysOk X.K H l → Vals (l.map fun e => V.ref e.2.1) (l.map fun e => Value.ref e.2.1) ∧ ImA X.K H (l.map fun e => V.ref e.2.1) ((kvE l).map (·.1)) := by
    intro l
    induction l with
    | nil => intro _; exact ⟨.nil, .nil⟩
    | cons e l ih =>
      intro h
      obtain ⟨h1, h2⟩ := ih fun e he => h e (List.mem_cons_of_mem _ he)
      exact ⟨.cons rfl h1, .cons (h e List.mem_cons_self).2.1 h2⟩
  obtain ⟨b1, b2⟩ := both es ko
  have hn : H s.heap.objs.size = none := I.hok.fresh (Nat.le_refl _)
  exact ⟨.ref s.heap.objs.size, _, I.laid (o := .lst (es.map fun e => V.ref e.2.1)) (t' := tk) hk (Nat.le_refl _) ⟨by rw [List.length_map]; exact z, acc.toList, c', by rw [hv]; exact b1, hS⟩, rfl, q _ _ hn b2⟩

/-! ### max of a list of alike data: one of them -/
def rMaxI (K : PySem.W.Frag) : List V → Hp → VK → Prop := fun vs H Q => ∃ a xs ks, vs = [.ref a] ∧ SqL K H a xs ∧ ImA K H xs ks ∧ ks ≠ [] ∧ PySem.W.AlikeAll (ks.map NestedKey.data) ∧ (∀ k ∈ ks, k.depth ≤ 8) ∧ ∀ v k, k ∈ ks → Im K H v k → Q v H
theorem reads_all {pins : List (Addr × Obj)} {σ : L2.St} {H : Hp} {s : Shared} (I : Inv X pins σ H s) : ∀ {ks : List D} {xs : List V} {us : List Value}, ImA X.K H xs ks → Vals xs us → ReadsAll s.heap us (NestedKey.datas ks) []
  | [], _, _, h, r => by cases h; cases r; exact .nil
  | k :: ks, _, _, h, r => by
    cases h with
    | cons a b =>
      cases r with
      | cons r1 r2 =>
        obtain ⟨as, ra⟩ := im_reads I a r1
        have e := reads_nil k _ _ ra
        subst e
        exact .cons ra (reads_all I b r2)
theorem datas_map : ∀ ks : List D, NestedKey.datas ks = ks.map NestedKey.data
  | [] => rfl
  | k :: ks => by
    show k.data :: NestedKey.datas ks = _
    rw [datas_map ks]
    rfl
theorem depthAll_le : ∀ {ks : List D} {n : Nat}, (∀ k ∈ ks, k.depth ≤ n) → NestedKey.depthAll ks ≤ n
  | [], n, _ => by simp [NestedKey.depthAll]
  | k :: ks, n, h => by
    have h1 := h k List.mem_cons_self
    have h2 := depthAll_le (ks := ks) fun k hk => h k (List.mem_cons_of_mem _ hk)
    simp only [NestedKey.depthAll]
    omega
theorem call_maxI (hu : rm X) (hc : X.calm = true) : CallR X (.builtin "max") (rMaxI X.K) := by
  intro pins s σ H vs us Q I rs h
  obtain ⟨a, xs, ks, rfl, sq, im, ne, al, dp, q⟩ := h
  obtain ⟨u, rfl, ru⟩ := vals1 rs
  cases ru
  obtain ⟨its, rv, pl, hz⟩ := I.list sq
  match ks, ne with
  | k :: ks, _ =>
    have ra := reads_all I im rv
    have e : NestedKey.datas (k :: ks) = k.data :: NestedKey.datas ks := rfl
    rw [e] at ra
    refine PySem.W.max_list_data (I.ok.hd hc) pl.isList (by simpa using ra) ?_ ?_ fun i v h' tk bs hv _ hk => ?_
    · rw [← e, datas_map]
      exact al
    · rw [← e, depth_datas]
      have := depthAll_le dp
      omega
    · have hv2 : its[i]? = some v := by simpa using hv
      obtain ⟨x, hx, rx⟩ := valsR rv hv2
      obtain ⟨k', hk', imk⟩ := im.get hx
      exact ⟨x, H, I.kept (t' := tk) hk, rx, q x k' (List.mem_of_getElem? hk') imk⟩

/-! ### xs + ys, lists that may be locked -/
def rCatL : R2 := fun x y H Q => ∃ l b xs zs, x = .ref l ∧ y = .ref b ∧ Rd H l (.lst xs) ∧ Rd H b (.lst zs) ∧ xs.length + zs.length ≤ sizeLine ∧ ∀ p, H p = none → Q (.ref p) (upd H p (.lst (xs ++ zs)))
end
end GT
set_option maxHeartbeats 2000000
namespace GT
open PySem PySem.Spec PyProof.Rows L2
section
variable {X : Cx}
theorem op_catL : OpR X (binaryOp .Add) rCatL := by
  intro pins s σ H x y v u Q I rx ry h
  obtain ⟨l, b, xs, zs, rfl, rfl, hx, hy, hz, q⟩ := h
  cases rx
  cases ry
  have ox : ObjOk X.prog X.w H s.heap l (.lst xs) := hx.ok I.hok
  have oy : ObjOk X.prog X.w H s.heap b (.lst zs) := hy.ok I.hok
  obtain ⟨_, its, n, r, e⟩ := ox
  obtain ⟨_, its2, n2, r2, e2⟩ := oy
  have l1 := r.length
  have l2 := r2.length
  refine PySem.P.add_list e e2 ?_ (by rw [List.size_toArray, List.size_toArray]; omega)
  have ea : its.toArray ++ its2.toArray = (its ++ its2).toArray := by simp
  rw [ea]
  exact ⟨.ref _, _, I.lnew (t' := s.toks) (r.append r2) (by rw [List.length_append]; omega), rfl, q _ I.fresh⟩

/-! ### x in xs, xs.index(x), data in a list of data -/
theorem any_eqv (ks : List D) (k : D) : ((NestedKey.datas ks).any fun z => PyData.eqv z k.data) = decide (k ∈ ks) := by
  rw [datas_map, List.any_map]
  by_cases h : k ∈ ks
  · rw [decide_eq_true h]
    refine List.any_eq_true.mpr ⟨k, h, ?_⟩
    show PyData.eqv k.data k.data = true
    rw [eqv_data, ← NestedKey.decide_eq]
    exact decide_eq_true rfl
  · rw [decide_eq_false h]
    refine List.any_eq_false.mpr fun z hz e => h ?_
    have e : PyData.eqv z.data k.data = true := e
    rw [eqv_data, ← NestedKey.decide_eq] at e
    rw [← of_decide_eq_true e]
    exact hz
def rInI (K : PySem.W.Frag) : R2 := fun x y H Q => ∃ p xs ks k, y = .ref p ∧ SqL K H p xs ∧ ImA K H xs ks ∧ Im K H x k ∧ Shp k ∧ ShpL ks ∧ Q (.bl (decide (k ∈ ks))) H
def rNotInI (K : PySem.W.Frag) : R2 := fun x y H Q => ∃ p xs ks k, y = .ref p ∧ SqL K H p xs ∧ ImA K H xs ks ∧ Im K H x k ∧ Shp k ∧ ShpL ks ∧ Q (.bl (!decide (k ∈ ks))) H
theorem op_inI (hu : X.A.units + 65 < cLine) : OpR X (compareOp .In) (rInI X.K) := by
  intro pins s σ H x y v u Q I rx ry h
  obtain ⟨p, xs, ks, k, rfl, sq, im, ik, d1, d2, q⟩ := h
  refine op_inD hu pins s σ H _ _ v u Q I rx ry ⟨_, _, Im.dp _ _ ik, .lst sq (ImA.dp _ _ im), d1, d2, ?_⟩
  rw [any_eqv]
  exact q
theorem op_notInI (hu : X.A.units + 65 < cLine) : OpR X (compareOp .NotIn) (rNotInI X.K) := by
  intro pins s σ H x y v u Q I rx ry h
  obtain ⟨p, xs, ks, k, rfl, sq, im, ik, d1, d2, q⟩ := h
  refine op_notInD hu pins s σ H _ _ v u Q I rx ry ⟨_, _, Im.dp _ _ ik, .lst sq (ImA.dp _ _ im), d1, d2, ?_⟩
  rw [any_eqv]
  exact q
def rIndexI (K : PySem.W.Frag) : V → List V → Hp → VK → Prop := fun x vs H Q => ∃ p xs ks y k j, x = .ref p ∧ vs = [y] ∧ SqL K H p xs ∧ ImA K H xs ks ∧ Im K H y k ∧ Shp k ∧ ShpL ks ∧ ks[j]? = some k ∧ k ∉ ks.take j ∧ Q (.int (j : Nat)) H
theorem mt_indexI (hu : X.A.units + 65 < cLine) : MtR X "list.index" (rIndexI X.K) := by
  intro pins s σ H x vs v us Q I rx rs h
  obtain ⟨p, xs, ks, y, k, j, rfl, rfl, sq, im, ik, d1, d2, hj, hn, q⟩ := h
  refine mt_indexD hu pins s σ H _ _ v us Q I rx rs ⟨p, y, k.data, NestedKey.datas ks, j, k.data, rfl, rfl, .lst sq (ImA.dp _ _ im), Im.dp _ _ ik, d2, d1, ?_, ?_, fun m z hm hz => ?_, q⟩
  · rw [datas_map, List.getElem?_map, hj]
    rfl
  · rw [eqv_data, ← NestedKey.decide_eq]
    exact decide_eq_true rfl
  · rw [datas_map, List.getElem?_map] at hz
    obtain ⟨z', h1, rfl⟩ := Option.map_eq_some_iff.mp hz
    rw [eqv_data, ← NestedKey.decide_eq]
    refine decide_eq_false fun e => hn ?_
    rw [← e]
    exact List.mem_of_getElem? (i := m) (by rw [List.getElem?_take_of_lt hm]; exact h1)

/-! ### texts times, texts and lists grown in place -/
def rMulS : R2 := fun x y H Q => ∃ (c : Nat) (n : Int), x = .str ⟨#[c]⟩ ∧ y = .int n ∧ 0 ≤ n ∧ n ≤ 1000 ∧ ∀ z : Str, z.length ≤ 1000 → Q (.str z) H
theorem rep_size (c : Nat) : ∀ (n : Nat) (z : Array Nat), ((List.replicate n #[c]).foldl (· ++ ·) z).size = z.size + n
  | 0, z => rfl
  | n + 1, z => by
    rw [List.replicate_succ, List.foldl_cons, rep_size c n, Array.size_append]
    show z.size + 1 + n = _
    omega
theorem op_mulS : OpR X (binaryOp .Mult) rMulS := by
  intro pins s σ H x y v u Q I rx ry h
  obtain ⟨c, n, rfl, rfl, h1, h2, q⟩ := h
  obtain ⟨t, rfl⟩ := rx
  obtain ⟨t', rfl⟩ := ry
  have l1 : Str.length ⟨#[c]⟩ = 1 := rfl
  have sz : 1000 ≤ sizeLine := by decide
  refine PySem.P.mul_str (by rw [decide_eq_false (by omega), decide_eq_false (by omega)]; rfl) (fun g1 _ => ?_) (fun _ _ => ?_) ?_
  · rw [l1]
    have : (1 : Int) ≤ (2 ^ 63 - 1) / n := by
      rw [Int.le_ediv_iff_mul_le (by omega)]
      omega
    omega
  · rw [l1]
    show decide (1 * n.toNat > sizeLine) = false
    exact decide_eq_false (by omega)
  · by_cases c1 : n < 1
    · rw [if_pos c1]
      exact ⟨by decide, .str Str.empty, H, I.tok _, ⟨_, rfl⟩, q _ (by decide)⟩
    · rw [if_neg c1]
      by_cases c2 : (n == 1 || Str.length ⟨#[c]⟩ == 0) = true
      · rw [if_pos c2]
        exact ⟨.str ⟨#[c]⟩, H, I.tok _, ⟨_, rfl⟩, q _ (by rw [l1]; decide)⟩
      · rw [if_neg c2]
        have hz : Str.length ⟨(List.replicate n.toNat #[c]).foldl (· ++ ·) #[]⟩ = n.toNat := by
          show ((List.replicate n.toNat #[c]).foldl (· ++ ·) #[]).size = _
          rw [rep_size]
          simp
        exact ⟨by rw [hz]; omega, .str _, H, I.tok _, ⟨_, rfl⟩, q _ (by rw [hz]; omega)⟩
abbrev rAddS2 : TIp := fun x y H Q => ∃ i j, x = .str i ∧ y = .str j ∧ i.length + j.length ≤ sizeLine ∧ Q (.str (i ++ j)) H
theorem ip_addS : PIp X .Add rAddS2 := fun pins s σ H x y u v Q I rx ry h => iop_add_str pins s σ H x y u v Q I rx ry h
theorem ip_extL : PIp X .Add rExt2 := fun pins s σ H x y u v Q I rx ry h => iop_ext pins s σ H x y u v Q I rx ry h
end
end GT
set_option maxHeartbeats 2000000
namespace GT
open PySem PySem.Spec PyProof.Rows L2

/-! ### d != e of two dicts with tuple keys that hold the same -/
section
variable {prog : Program} {w : World} {K : Type} [DecidableEq K] {knd : HeapKind prog w K} {A : Around} {E : Value → Shared → Prop} {s : Shared}
theorem pairs_same {nm : String} {a b : Addr} {xs ys : List (K × Addr × Value)} {Q : Bool → Shared → Prop} (ha : (a == sysModules) = false) (hb : (b == sysModules) = false) (hu : knd.room A)
    (da : s.heap.DictOfH knd a xs) (db : s.heap.DictOfH knd b ys) (hlen : xs.length = ys.length) (hits : ∀ p ∈ xs, ∃ (j : Nat) (q : Addr × Value), ys[j]? = some (p.1, q) ∧ SeqAt.EqAt A s p.2.2 q.2 true) (h : Q true s) :
    wpAny (model prog w) A (Builtin.Dict.samePairs nm a b) Q E s := by
  obtain ⟨oa, es, ep, hoa, _, hda, hea, hka, _⟩ := da
  obtain ⟨ob, es', ep', hob, _, hdb, heb, hkb, hnb⟩ := db
  have hla : es.size = xs.length := size_of_entries hea
  have hlb : es'.size = ys.length := size_of_entries heb
  unfold Builtin.Dict.samePairs Builtin.Dict.showsAll
  rw [if_neg (show ¬ (a == sysModules) = true by rw [ha]; exact Bool.false_ne_true), if_neg (show ¬ (b == sysModules) = true by rw [hb]; exact Bool.false_ne_true)]
  refine wpAny_bind (wpAny_pure (wpAny_bind (wpAny_pure (wpAny_bind (wpAny_dictEntries hoa hda ?_)))))
  dsimp only
  refine wpAny_bind (wpAny_dictEntries hob hdb ?_)
  rw [if_neg (by rw [hla, hlb, hlen]; simp)]
  refine wpAny_bind (wpAny_dictEpoch hoa hda (wpAny_bind ?_))
  rw [Std.Legacy.Range.forIn_eq_forIn_range']
  simp only [Std.Legacy.Range.size, Nat.sub_zero, Nat.add_sub_cancel, Nat.div_one]
  refine wpAny_forIn_list _ (fun rest q s' => s' = s ∧ q = (none, ()) ∧ ∃ i, rest = List.range' i (es.size - i) ∧ i ≤ es.size) _ ?_ ?_ _ _ ⟨rfl, rfl, 0, by simp, Nat.zero_le _⟩
  · rintro x rest q s' ⟨rfl, rfl, i, hr, hi⟩
    have hlt : i < es.size := by
      rcases Nat.lt_or_ge i es.size with h | h
      · exact h
      · rw [Nat.sub_eq_zero_of_le h] at hr; simp at hr
    obtain ⟨rfl, hrest⟩ : x = i ∧ rest = List.range' (i + 1) (es.size - (i + 1)) := by
      have e : es.size - i = (es.size - (i + 1)) + 1 := by omega
      rw [e, List.range'_succ] at hr
      injection hr with h1 h2
      exact ⟨h1, h2⟩
    have hx : x < xs.length := by omega
    have hxi : xs[x]? = some xs[x] := List.getElem?_eq_getElem hx
    have hen : es[x]? = some (entryOfKey knd xs[x]) := by rw [entry_at hea x, hxi]; rfl
    refine wpAny_bind (wpAny_dictEntries hoa hda ?_)
    rw [hen]
    obtain ⟨j, q, hj, heq⟩ := hits xs[x] (List.getElem_mem hx)
    show wpAny _ _ (holding [Value.ref xs[x].2.1, xs[x].2.2] _ >>= _) _ _ _
    refine wpAny_bind (wpAny_holding (wpAny_bind (wpAny_dictFind_heap hu (hka _ (List.getElem_mem hx)) hob hdb heb hkb hnb (fun hn => absurd hj (hn j q)) fun j' q' hj' => ?_)))
    have ej : j' = j := by
      have n1 : (ys.map (·.1))[j']? = some xs[x].1 := by rw [List.getElem?_map, hj']; rfl
      have n2 : (ys.map (·.1))[j]? = some xs[x].1 := by rw [List.getElem?_map, hj]; rfl
      exact nd_ix hnb n1 n2
    subst ej
    have hen' : es'[j']? = some (entryOfKey knd (xs[x].1, q)) := by rw [entry_at heb j', hj]; rfl
    refine wpAny_bind (wpAny_dictEntries hob hdb ?_)
    rw [hen']
    refine wpAny_holding (heq prog w _ _ ?_)
    show wpAny _ _ (if (!true) = true then _ else _) _ _ _
    rw [if_neg (by decide)]
    refine wpAny_bind (wpAny_dictEpoch hoa hda ?_)
    rw [if_neg (by simp)]
    exact wpAny_pure ⟨rfl, rfl, x + 1, hrest, hlt⟩
  · rintro q s' ⟨rfl, rfl, i, hr, hi⟩
    exact wpAny_pure h
theorem dict_ne_same {a b : Addr} {xs ys : List (K × Addr × Value)} {Q : Value → Shared → Prop} (ha : (a == sysModules) = false) (hb : (b == sysModules) = false) (hu : knd.room A.in1) (hu2 : A.units < cLine)
    (da : s.heap.DictOfH knd a xs) (db : s.heap.DictOfH knd b ys) (hlen : xs.length = ys.length) (hits : ∀ p ∈ xs, ∃ (j : Nat) (q : Addr × Value), ys[j]? = some (p.1, q) ∧ SeqAt.EqAt A.in1 s p.2.2 q.2 true) (h : Q (.bool false) s) :
    wpAny (model prog w) A (compareOp .NotEq (.ref a) (.ref b)) Q E s := by
  refine wpAny_richCompare_same_room (op := .NotEq) da.typeIs db.typeIs PySem.F.slot_dict_ne (wpAny_call_entry PySem.F.slot_dict_ne da.typeIs PySem.F.entry_dict_ne ?_ (PySem.F.args_dict_ne_2 _ _)) hu2
  show wpAny _ _ (Builtin.Dict.dictSlotArgs "__ne__" ⟨[.ref a, .ref b], []⟩ >>= _) _ _ s
  refine wpAny_bind ?_
  unfold Builtin.Dict.dictSlotArgs
  refine wpAny_bind (wpAny_notOrdered_dict da.typeIs (wpAny_pure (wpAny_bind (wpAny_isInstance (T := "dict") db.typeIs PySem.F.sub_dict_dict ?_))))
  simp only [Bool.not_true, Bool.false_eq_true, if_false]
  refine wpAny_bind (wpAny_pure (wpAny_bind (wpAny_pure (wpAny_bind (pairs_same ha hb hu da db hlen hits ?_)))))
  exact wpAny_pure ⟨_, rfl, fun x => Value.noConfusion x, h⟩
end
def rNeDN (P : Program) (w : World) (K : PySem.W.Frag) : R2 := fun x y H Q => ∃ a b ks ls, x = .ref a ∧ y = .ref b ∧ DR P w K H a ks ∧ DR P w K H b ls ∧ ks.length = ls.length ∧
  (∀ p ∈ ks, ∃ u d, valV ls p.1 = some u ∧ Im K H p.2 d ∧ Im K H u d ∧ d.depth ≤ 8) ∧ Q (.bl false) H
section
variable {X : Cx}
theorem op_neDN (hu : rm X) : OpR X (compareOp .NotEq) (rNeDN X.prog X.w X.K) := by
  intro pins s σ H x y v u Q I rx ry h
  obtain ⟨a, b, ks, ls, rfl, rfl, dra, drb, hlen, hits, q⟩ := h
  cases rx
  cases ry
  obtain ⟨es, rd, ko, rfl⟩ := dra
  obtain ⟨es', rd', ko', rfl⟩ := drb
  obtain ⟨z, lo, xs, rel, dd⟩ := dn_raw I rd ko
  obtain ⟨z', lo', ys, rel', dd'⟩ := dn_raw I rd' ko'
  have l1 := enr_len rel
  have l2 := enr_len rel'
  have hl : es.length = es'.length := by simpa [kvE] using hlen
  refine dict_ne_same lo lo' (show X.A.units + 1 + 8 < cLine by omega) (by omega) dd dd' (by omega) (fun p hp => ?_) ⟨.bl false, H, I, rfl, q⟩
  obtain ⟨i, hi⟩ := List.mem_iff_getElem?.mp hp
  have hi2 : i < es.length := by have := (List.getElem?_eq_some_iff.mp hi).1; omega
  obtain ⟨b2, hb2, r1, r2, r3⟩ := enr_get rel (List.getElem?_eq_getElem hi2)
  rw [hi] at hb2
  cases hb2
  obtain ⟨u2, d, hu2, im1, im2, dp⟩ := hits (es[i].1, es[i].2.2) (List.mem_map.mpr ⟨es[i], List.getElem_mem hi2, rfl⟩)
  have ev := enr_val rel' es[i].1
  rw [hu2] at ev
  cases hy : atKey ys es[i].1 with
  | none => rw [hy] at ev; exact (show False from ev).elim
  | some q2 =>
    rw [hy] at ev
    have ev : RelV u2 q2.2 := ev
    have hm : (es[i].1, q2) ∈ ys := by
      unfold atKey at hy
      obtain ⟨y, hy1, hy2⟩ := Option.map_eq_some_iff.mp hy
      have h3 : y.1 = es[i].1 := by simpa using List.find?_some hy1
      have h4 := List.mem_of_find?_eq_some hy1
      have e : y = (es[i].1, q2) := Prod.ext h3 hy2
      rw [← e]
      exact h4
    obtain ⟨j, hj⟩ := List.mem_iff_getElem?.mp hm
    refine ⟨j, q2, by rw [← r1]; exact hj, ?_⟩
    have e1 := eqAt_key d d X.A.in1 s p.2.2 q2.2 (Im.nested I _ _ _ im1 r3) (Im.nested I _ _ _ im2 ev) (by
      have : min d.depth d.depth ≤ 8 := by omega
      show X.A.units + 1 + _ < cLine
      omega)
    have e2 : NestedKey.beq d d = true := by rw [← NestedKey.decide_eq]; exact decide_eq_true rfl
    rw [e2] at e1
    exact e1
end
end GT
set_option maxHeartbeats 2000000
namespace GT
open PySem PySem.Spec PyProof.Rows L2

/-! ### a def that keeps its promise, by its name -/
structure Ok (P : Program) (w : World) (K : PySem.W.Frag) (mg : Str → Option Value) (base : Heap) (CX : CXT) (k : Nat) (at_ : Str × Option Str) (ps : List Str) (sp : Sp) : Prop where
  ex : ∃ fd, FnOk P w K mg base CX k (He.fAd K at_) fd ps sp ∧ Binds K fd ps [] ∧ PySem.W.keepIn K (.ref (He.fAd K at_)) = true
theorem Ok.mono {P : Program} {w : World} {K : PySem.W.Frag} {mg : Str → Option Value} {base : Heap} {CX : CXT} {j k : Nat} {at_ : Str × Option Str} {ps : List Str} {sp : Sp} (o : Ok P w K mg base CX j at_ ps sp) (h : j ≤ k) : Ok P w K mg base CX k at_ ps sp :=
  let ⟨fd, F, b, kp⟩ := o.ex; ⟨fd, F.mono h, b, kp⟩
def tCF (sp : Sp) (E : XK) (t : TA) : TE := fun σ H Q => t σ H fun vs H1 => sp vs H1 Q E
def KMf (C : Addr) (m : Str) (sp : Sp) (E : XK) (t : TA) (σ : L2.St) (Q : VK) : V → Hp → Prop := fun x H1 => ∃ a dx fs, x = .ref a ∧ H1 a = some (.ins C dx fs) ∧ fs.lookup m = none ∧ t σ H1 fun vs H2 => sp (x :: vs) H2 Q E
def tMF (C : Addr) (m : Str) (sp : Sp) (E : XK) (ta : TE) (t : TA) : TE := fun σ H Q => ta σ H (KMf C m sp E t σ Q)
def tNF (C : Addr) (sp : Sp) (E : XK) (t : TA) : TE := fun σ H Q => t σ H fun vs H1 => ∀ x dx, H1 x = none → H1 dx = none → dx ≠ x → sp (.ref x :: vs) (upd (upd H1 dx (.own x)) x (.ins C dx [])) (fun v H2 => v = .non ∧ Q (.ref x) H2) E
section
variable {X : Cx} {CX : CXT} {k : Nat} {x m : Str} {ps : List Str} {sp : Sp} {E : XK} {p pos apos : Pos} {e o : Expr} {es : List Expr} {ta : TE} {t : TA} {C : Str}
theorem pe_fn (O : Ok X.prog X.w X.K X.mg X.base CX k (x, none) ps sp) (hm : X.mg x = some (.ref (He.ga X.K x))) (hr : Room k X.A) (hx : Passes CX X E) (ha : PA X (e :: es) t) (hg : Gl X x := by rfl)
    (hdb : (x == ("__debug__" : Str)) = false := by decide) (he : starEach (e :: es) X.env = (false, eval e X.env) :: starEach es X.env := by rfl) (hpl : (backTo pos (starEach es X.env)).any (·.1) = false := by rfl) :
    PE X (.Call (.Name x p) (e :: es) [] pos) (tCF sp E t) := by
  obtain ⟨fd, F, b, kp⟩ := O.ex
  have h := pe_call (p := p) F hr hg hm kp b .nil hx ha hdb he hpl
  refine ⟨fun pins s σ H Q I q => h.run pins s σ H Q I ?_⟩
  show t σ H fun vs H1 => sp (vs ++ []) H1 Q E
  simp only [List.append_nil]
  exact q
theorem pe_mt' {pl : Sem Bool} (O : Ok X.prog X.w X.K X.mg X.base CX k (C, some m) ps sp) (c : Cls X.K (He.ga X.K C)) (M : Meth X.K (He.ga X.K C) m (He.ma X.K (He.ga X.K C) m)) (hr : Room k X.A) (hx : Passes CX X E) (ho : PE X o ta) (ha : PA X (e :: es) t)
    (hst : starEach (e :: es) X.env = (false, eval e X.env) :: starEach es X.env := by rfl) (hpl : (backTo pos (starEach es X.env)).any (·.1) = false := by rfl)
    (ht : eval (.Call (.Attribute o m apos) (e :: es) [] pos) X.env = (do
      let ov ← eval o X.env
      standAt apos.atName
      let (f, first) ← holding [ov] (getMethod ov m pl)
      callWith pos f first (backTo pos (starEach (e :: es) X.env)) (backToKw pos (keywordEach [] X.env))) := by rfl) :
    PE X (.Call (.Attribute o m apos) (e :: es) [] pos) (tMF (He.ga X.K C) m sp E ta t) := by
  obtain ⟨fd, F, b, kp⟩ := O.ex
  have h := pe_meth (pl := pl) ho c M F hr b .nil hx ha hst hpl ht
  refine ⟨fun pins s σ H Q I q => h.run pins s σ H Q I ?_⟩
  show ta σ H fun x H1 => ∃ a dx fs, x = .ref a ∧ H1 a = some (.ins (He.ga X.K C) dx fs) ∧ fs.lookup m = none ∧ t σ H1 fun vs H2 => sp (x :: (vs ++ [])) H2 Q E
  simp only [List.append_nil]
  exact q
theorem pe_mt0 {pl : Sem Bool} (O : Ok X.prog X.w X.K X.mg X.base CX k (C, some m) ps sp) (c : Cls X.K (He.ga X.K C)) (M : Meth X.K (He.ga X.K C) m (He.ma X.K (He.ga X.K C) m)) (hr : Room k X.A) (hx : Passes CX X E) (ho : PE X o ta)
    (ht : eval (.Call (.Attribute o m apos) [] [] pos) X.env = (do
      let ov ← eval o X.env
      standAt apos.atName
      let (f, first) ← holding [ov] (getMethod ov m pl)
      callWith pos f first (backTo pos (starEach [] X.env)) (backToKw pos (keywordEach [] X.env))) := by rfl) :
    PE X (.Call (.Attribute o m apos) [] [] pos) (tMF (He.ga X.K C) m sp E ta tNil) := by
  obtain ⟨fd, F, b, kp⟩ := O.ex
  have h := pe_meth0 (pl := pl) ho c M F hr b .nil hx ht
  exact ⟨fun pins s σ H Q I q => h.run pins s σ H Q I q⟩
theorem pe_mk' (M : Mk X.K (He.ga X.K x) (He.ma X.K (He.ga X.K x) "__init__")) (O : Ok X.prog X.w X.K X.mg X.base CX k (x, some "__init__") ps sp) (hm : X.mg x = some (.ref (He.ga X.K x))) (hr : Room (k + 1) X.A) (hx : Passes CX X E) (ha : PA X (e :: es) t) (hg : Gl X x := by rfl)
    (hdb : (x == ("__debug__" : Str)) = false := by decide) (he : starEach (e :: es) X.env = (false, eval e X.env) :: starEach es X.env := by rfl) (hpl : (backTo pos (starEach es X.env)).any (·.1) = false := by rfl) :
    PE X (.Call (.Name x p) (e :: es) [] pos) (tNF (He.ga X.K x) sp E t) := by
  obtain ⟨fd, F, b, kp⟩ := O.ex
  have h := pe_make (p := p) M F hr hg hm b .nil hx ha hdb he hpl
  refine ⟨fun pins s σ H Q I q => h.run pins s σ H Q I ?_⟩
  show t σ H fun vs H1 => ∀ y dx, H1 y = none → H1 dx = none → dx ≠ y → sp (.ref y :: (vs ++ [])) (upd (upd H1 dx (.own y)) y (.ins (He.ga X.K x) dx [])) (fun v H2 => v = .non ∧ Q (.ref y) H2) E
  simp only [List.append_nil]
  exact q
theorem pe_mk0 (M : Mk X.K (He.ga X.K x) (He.ma X.K (He.ga X.K x) "__init__")) (O : Ok X.prog X.w X.K X.mg X.base CX k (x, some "__init__") ps sp) (hm : X.mg x = some (.ref (He.ga X.K x))) (hr : Room (k + 1) X.A) (hx : Passes CX X E) (hg : Gl X x := by rfl)
    (hdb : (x == ("__debug__" : Str)) = false := by decide) : PE X (.Call (.Name x p) [] [] pos) (tNF (He.ga X.K x) sp E tNil) := by
  obtain ⟨fd, F, b, kp⟩ := O.ex
  have h := pe_make0 (p := p) (pos := pos) M F hr hg hm b .nil hx hdb
  exact ⟨fun pins s σ H Q I q => h.run pins s σ H Q I q⟩
/-- the module's ints, texts, tuples -/
theorem pe_gi {i : Int} (hm : ∃ tk, X.mg x = some (.int i tk)) (hg : Gl X x := by rfl) (hd : (x == ("__debug__" : Str)) = false := by decide) : PE X (.Name x pos) (tC (.int i)) := let ⟨tk, e⟩ := hm; pe_glob hg e ⟨tk, rfl⟩ hd
theorem pe_gs {z : Str} (hm : ∃ tk, X.mg x = some (.str z tk)) (hg : Gl X x := by rfl) (hd : (x == ("__debug__" : Str)) = false := by decide) : PE X (.Name x pos) (tC (.str z)) := let ⟨tk, e⟩ := hm; pe_glob hg e ⟨tk, rfl⟩ hd
theorem pe_gr (hm : X.mg x = some (.ref (He.ga X.K x))) (hg : Gl X x := by rfl) (hd : (x == ("__debug__" : Str)) = false := by decide) : PE X (.Name x pos) (tC (.ref (He.ga X.K x))) := pe_glob hg hm rfl hd
/-- truth as a test, named -/
theorem pt_tru {a : Expr} (h : PE X a ta) (he : ∀ whole, isTrue a X.env whole = (do let v ← whole; standAt a.pos; holding [v] (truthy v)) := by intro _; rfl) : PT X a (tTru X.K ta) := pt_truth h he
/-! named readings of calls -/
def rLenQ (K : PySem.W.Frag) : List V → Hp → VK → Prop := fun xs H Q => ∃ p ys, xs = [.ref p] ∧ (SqL K H p ys ∨ SqT K H p ys) ∧ Q (.int ys.length) H
theorem call_lenQ : CallR X (.builtin "len") (rLenQ X.K) := call_len_seq
def rLenZ : List V → Hp → VK → Prop := fun xs H Q => ∃ z, xs = [.str z] ∧ z.length ≤ sizeLine ∧ Q (.int z.length) H
theorem call_lenZ : CallR X (.builtin "len") rLenZ := call_len_str
def rListQ (K : PySem.W.Frag) : List V → Hp → VK → Prop := fun xs H Q => ∃ p ys, xs = [.ref p] ∧ (SqL K H p ys ∨ SqT K H p ys) ∧ ∀ l, H l = none → Q (.ref l) (upd H l (.lst ys))
theorem call_listQ : CallR X (.type "list") (rListQ X.K) := call_list_of
def rMax2Q : List V → Hp → VK → Prop := fun xs H Q => ∃ i j, xs = [.int i, .int j] ∧ Q (.int (if j > i then j else i)) H
theorem call_max2Q (hc : X.calm = true) : CallR X (.builtin "max") rMax2Q := call_max2 hc
def rMin2Q : List V → Hp → VK → Prop := fun xs H Q => ∃ i j, xs = [.int i, .int j] ∧ Q (.int (if j < i then j else i)) H
theorem call_min2Q (hc : X.calm = true) : CallR X (.builtin "min") rMin2Q := call_min2 hc
def rInt1Q : List V → Hp → VK → Prop := fun xs H Q => (∃ i, xs = [.int i] ∧ Q (.int i) H) ∨ ∃ k, xs = [.bl k] ∧ Q (.int (if k then 1 else 0)) H
theorem call_int1Q : CallR X (.type "int") rInt1Q := call_int1
def rInsQ : V → List V → Hp → VK → Prop := fun x vs H Q => ∃ (l : Addr) (xs : List V) (i : Int) (y : V), x = .ref l ∧ vs = [.int i, y] ∧ H l = some (.lst xs) ∧ xs.length < sizeLine ∧ 0 ≤ i ∧ i < 2 ^ 63 ∧ Q .non (upd H l (.lst (xs.take i.toNat ++ [y] ++ xs.drop i.toNat)))
theorem mt_insQ : MtR X "list.insert" rInsQ := mt_insert
end

/-! ### readings, one step each -/
section
variable {K : PySem.W.Frag} {σ : L2.St} {H : Hp} {Q : VK} {D : Ends} {ta tb tc te tv : TE} {x y v : V} {a C dx : Addr} {fs : List (Str × V)} {f : Str} {i j : Int} {n : Nat} {r r' : R2} {xs ys : List V} {t u ts : TS} {tt tt' : TT} {QB : Bool → Hp → Prop} {QA : List V → Hp → Prop} {tA tA' : TA} {b : Bool} {QG : L2.St → Hp → Prop}
theorem rd_var {i : Nat} (h : σ[i]? = some (some v)) (q : Q v H) : tVar i σ H Q := ⟨v, h, q⟩
theorem rd_c (q : Q v H) : tC v σ H Q := q
theorem rd_op (h : ta σ H fun x H1 => tb σ H1 fun y H2 => r x y H2 Q) : tOp r ta tb σ H Q := h
theorem rd_un {r : V → Hp → VK → Prop} (h : ta σ H fun x H1 => r x H1 Q) : tUn r ta σ H Q := h
theorem rd_U {g : Int → V} (q : Q (g i) H) : rU g (.int i) H Q := ⟨i, rfl, q⟩
theorem rd_I0 {g : Int → Int → V} (q : Q (g i j) H) : rI0 g (.int i) (.int j) H Q := ⟨i, j, rfl, rfl, q⟩
theorem rd_I {c : Int → Int → Prop} {g : Int → Int → V} (h : c i j) (q : Q (g i j) H) : rI c g (.int i) (.int j) H Q := ⟨i, j, rfl, rfl, h, q⟩
theorem dec_int {i j : Int} : decide (V.int i = V.int j) = decide (i = j) := by
  by_cases h : i = j
  · rw [decide_eq_true h, decide_eq_true (by rw [h])]
  · rw [decide_eq_false h, decide_eq_false (fun z => h (by injection z))]
theorem dec_str {i j : Str} : decide (V.str i = V.str j) = decide (i = j) := by
  by_cases h : i = j
  · rw [decide_eq_true h, decide_eq_true (by rw [h])]
  · rw [decide_eq_false h, decide_eq_false (fun z => h (by injection z))]
theorem rd_eqi (q : Q (.bl (decide (i = j))) H) : rEq (.int i) (.int j) H Q := ⟨rfl, by rw [dec_int]; exact q⟩
theorem rd_nei (q : Q (.bl (!decide (i = j))) H) : rNe (.int i) (.int j) H Q := ⟨rfl, by rw [dec_int]; exact q⟩
theorem rd_eqs {i j : Str} (q : Q (.bl (decide (i = j))) H) : rEq (.str i) (.str j) H Q := ⟨rfl, by rw [dec_str]; exact q⟩
theorem rd_nes {i j : Str} (q : Q (.bl (!decide (i = j))) H) : rNe (.str i) (.str j) H Q := ⟨rfl, by rw [dec_str]; exact q⟩
theorem rd_isN (q : Q (.bl (decide (x = .non))) H) : rIsN x .non H Q := ⟨rfl, q⟩
theorem rd_notN (q : Q (.bl (!decide (x = .non))) H) : rNotN x .non H Q := ⟨rfl, q⟩
/-! tests -/
def KT (Q : Bool → Hp → Prop) : V → Hp → Prop := fun x H => ∃ k, x = .bl k ∧ Q k H
theorem rd_test (h : te σ H (KT QB)) : tTest te σ H QB := h
theorem rd_B (h : te σ H (KT QB)) : tB te σ H QB := h
theorem rd_kt (q : QB b H) : KT QB (.bl b) H := ⟨b, rfl, q⟩
theorem rd_and (h : tt σ H fun c H1 => if c = true then tt' σ H1 QB else QB false H1) : tAnd tt tt' σ H QB := h
theorem rd_or (h : tt σ H fun c H1 => if c = true then QB true H1 else tt' σ H1 QB) : tOr tt tt' σ H QB := h
theorem rd_not (h : tt σ H fun c H1 => QB (!c) H1) : tNot tt σ H QB := h
theorem rd_ifS (h : tt σ H fun b H1 => if b = true then t D σ H1 else u D σ H1) : tIfS tt t u D σ H := h
theorem rd_if {A B : Prop} (h1 : b = true → A) (h2 : b = false → B) : if b = true then A else B := by
  cases b with
  | true => exact iteT (h1 rfl)
  | false => exact iteF (h2 rfl)
theorem rd_ifT {A B : Prop} (hb : b = true) (h : A) : if b = true then A else B := by rw [hb]; exact iteT h
theorem rd_ifF {A B : Prop} (hb : b = false) (h : B) : if b = true then A else B := by rw [hb]; exact iteF h
def KTru (K : PySem.W.Frag) (Q : Bool → Hp → Prop) : V → Hp → Prop := fun x H => ∃ k, TruV K x H k ∧ Q k H
theorem rd_tru (h : te σ H (KTru K QB)) : tTru K te σ H QB := h
theorem rd_ktruL (h : SqL K H a xs) (q : QB (!xs.isEmpty) H) : KTru K QB (.ref a) H := ⟨_, .inl ⟨xs, h, rfl⟩, q⟩
def KChn (r' : R2) (tc : TE) (σ : L2.St) (Q : VK) : VK := fun z H3 => ∃ k, z = .bl k ∧ (if k = true then tc σ H3 fun w' H4 => r' x w' H4 Q else Q (.bl false) H3)
theorem rd_chain (h : ta σ H fun x H1 => tb σ H1 fun y H2 => r x y H2 fun z H3 => ∃ k, z = .bl k ∧ (if k = true then tc σ H3 fun w' H4 => r' y w' H4 Q else Q (.bl false) H3)) : tChain r r' ta tb tc σ H Q := h
theorem rd_ex {A : Bool → Prop} (q : A b) : ∃ k, V.bl b = .bl k ∧ A k := ⟨b, rfl, q⟩
theorem rd_andV (h : ta σ H fun x H1 => ∃ c, x = .bl c ∧ if c = true then tb σ H1 Q else Q (.bl false) H1) : tAndV ta tb σ H Q := h
theorem rd_orV (h : ta σ H fun x H1 => ∃ c, x = .bl c ∧ if c = true then Q (.bl true) H1 else tb σ H1 Q) : tOrV ta tb σ H Q := h
theorem rd_notV (h : ta σ H fun x H1 => ∃ c, x = .bl c ∧ Q (.bl (!c)) H1) : tNotV ta σ H Q := h
/-! statements -/
theorem rd_seq (h : t { D with nx := u D } σ H) : tSeq t u D σ H := h
theorem rd_next (q : D.nx σ H) : tNext D σ H := q
theorem rd_asg {g : TG} (h : te σ H fun x H1 => g x σ H1 D.nx) : tAsg te g D σ H := h
theorem rd_gname {i : Nat} (q : QG (σ.set i (some v)) H) : gName i v σ H QG := q
theorem rd_gtup {t : TGs} (h : SqT K H a xs) (hl : xs.length = n) (q : t xs σ H QG) : gTup K n t (.ref a) σ H QG := ⟨a, xs, rfl, h, hl, q⟩
theorem rd_gcons {t : TG} {u : TGs} (h : t v σ H fun σ' H' => u xs σ' H' QG) : gCons t u (v :: xs) σ H QG := ⟨v, xs, rfl, h⟩
theorem rd_gnil (q : QG σ H) : gNil [] σ H QG := ⟨rfl, q⟩
theorem rd_gsub {to ti : TE} {t : TSet} (h : to σ H fun o H1 => ti σ H1 fun i H2 => t o i v H2 fun H3 => QG σ H3) : gSub to ti t v σ H QG := h
theorem rd_ret (h : te σ H D.rt) : tRet te D σ H := h
theorem rd_retN (q : D.rt .non H) : tRetN D σ H := q
theorem rd_drop (h : te σ H fun _ H1 => D.nx σ H1) : tDrop te D σ H := h
theorem rd_cont (q : D.ct σ H) : tCont D σ H := q
theorem rd_aug {i : Nat} {ti : TIp} (h0 : σ[i]? = some (some x)) (h : te σ H fun y H1 => ti x y H1 fun z H2 => D.nx (σ.set i (some z)) H2) : tAug i te ti D σ H := ⟨x, h0, h⟩
theorem rd_par {i j : Nat} (h : tA σ H fun vs H1 => ∃ v w, vs = [v, w] ∧ D.nx ((σ.set i (some v)).set j (some w)) H1) : tPar i j tA D σ H := h
/-! fields -/
def KFld (K : PySem.W.Frag) (f : Str) (Q : VK) : VK := fun x H1 => ∃ a C dx fs v, x = .ref a ∧ H1 a = some (.ins C dx fs) ∧ Cls K C ∧ NoAttr K C f ∧ fs.lookup f = some v ∧ Q v H1
theorem rd_fld (h : ta σ H (KFld K f Q)) : tFld K ta f σ H Q := h
theorem rd_kfld (ho : H a = some (.ins C dx fs)) (hc : Cls K C) (hn : NoAttr K C f) (hl : fs.lookup f = some v) (q : Q v H) : KFld K f Q (.ref a) H := ⟨a, C, dx, fs, v, rfl, ho, hc, hn, hl, q⟩
def KSf (K : PySem.W.Frag) (f : Str) (y : V) (N : Hp → Prop) : VK := fun x H2 => ∃ a C dx fs, x = .ref a ∧ H2 a = some (.ins C dx fs) ∧ Cls K C ∧ NoAttr K C f ∧ fs.length < 1000 ∧ N (upd H2 a (.ins C dx (putF f y fs)))
theorem rd_sfld (h : tv σ H fun y H1 => ta σ H1 (KSf K f y fun H2 => D.nx σ H2)) : sFld K ta tv f D σ H := h
theorem rd_ksf {N : Hp → Prop} (ho : H a = some (.ins C dx fs)) (hc : Cls K C) (hn : NoAttr K C f) (hl : fs.length < 1000) (q : N (upd H a (.ins C dx (putF f y fs)))) : KSf K f y N (.ref a) H := ⟨a, C, dx, fs, rfl, ho, hc, hn, hl, q⟩
def KFa (K : PySem.W.Frag) (f : Str) (tv : TE) (rd : V → V → Hp → VK → Prop) (σ : L2.St) (N : Hp → Prop) : VK := fun x H1 => ∃ a C dx fs v, x = .ref a ∧ H1 a = some (.ins C dx fs) ∧ Cls K C ∧ NoAttr K C f ∧ fs.lookup f = some v ∧
  tv σ H1 fun y H2 => rd v y H2 fun z H3 => ∃ dx' fs', H3 a = some (.ins C dx' fs') ∧ fs'.length < 1000 ∧ N (upd H3 a (.ins C dx' (putF f z fs')))
theorem rd_fa {rd : V → V → Hp → VK → Prop} (h : ta σ H (KFa K f tv rd σ fun H2 => D.nx σ H2)) : sFldAug K ta tv rd f D σ H := h
/-- self.f += a written int -/
theorem rd_kfa {N : Hp → Prop} (ho : H a = some (.ins C dx fs)) (hc : Cls K C) (hn : NoAttr K C f) (hk : fs.lookup f = some (.int i)) (hl : fs.length < 1000) (q : N (upd H a (.ins C dx (putF f (.int (i + j)) fs)))) : KFa K f (tC (.int j)) L2.rAdd σ N (.ref a) H :=
  ⟨a, C, dx, fs, _, rfl, ho, hc, hn, hk, i, j, rfl, rfl, dx, fs, ho, hl, q⟩
/-! displays, arguments, calls -/
def KTup (Q : VK) : List V → Hp → Prop := fun xs H1 => xs.length ≤ sizeLine ∧ ∀ p, H1 p = none → Q (.ref p) (upd H1 p (.tup xs))
def KLst (Q : VK) : List V → Hp → Prop := fun xs H1 => xs.length ≤ sizeLine ∧ ∀ p, H1 p = none → Q (.ref p) (upd H1 p (.lst xs))
theorem rd_tup (h : tA σ H (KTup Q)) : tTup tA σ H Q := h
theorem rd_lst (h : tA σ H (KLst Q)) : tLst tA σ H Q := h
theorem sz1000 {n : Nat} (h : n ≤ 1000) : n ≤ sizeLine := Nat.le_trans h (by decide)
/-- a new tuple of data -/
theorem rd_ktup {ks : List GT.D} (im : ImA K H xs ks) (hz : xs.length ≤ 1000) (q : ∀ v H', Kp [] H H' → Im K H' v (.tup ks) → Q v H') : KTup Q xs H :=
  ⟨sz1000 hz, fun p hp => q _ _ (Kp.new hp) (.tup (.inl (.inl upd_same)) (im.up (F := []) (Kp.new hp)))⟩
/-- a new tuple -/
theorem rd_ktup' (hz : xs.length ≤ 1000) (q : ∀ p H', H p = none → Kp [] H H' → SqT K H' p xs → Q (.ref p) H') : KTup Q xs H :=
  ⟨sz1000 hz, fun p hp => q _ _ hp (Kp.new hp) (.inl (.inl upd_same))⟩
/-- a new list -/
theorem rd_klst (hz : xs.length ≤ 1000) (q : ∀ p H', H p = none → Kp [] H H' → H' p = some (.lst xs) → Q (.ref p) H') : KLst Q xs H := ⟨sz1000 hz, fun p hp => q _ _ hp (Kp.new hp) upd_same⟩
theorem rd_nil (q : QA [] H) : tNil σ H QA := q
theorem rd_cons (h : ta σ H fun x H1 => tA σ H1 fun xs H2 => QA (x :: xs) H2) : tCons ta tA σ H QA := h
theorem rd_cf {sp : Sp} {E : XK} (h : tA σ H fun vs H1 => sp vs H1 Q E) : tCF sp E tA σ H Q := h
theorem rd_mf {m : Str} {sp : Sp} {E : XK} (h : ta σ H (KMf C m sp E tA σ Q)) : tMF C m sp E ta tA σ H Q := h
theorem rd_kmf {m : Str} {sp : Sp} {E : XK} (ho : H a = some (.ins C dx fs)) (hl : fs.lookup m = none) (q : tA σ H fun vs H2 => sp (.ref a :: vs) H2 Q E) : KMf C m sp E tA σ Q (.ref a) H := ⟨a, dx, fs, rfl, ho, hl, q⟩
theorem rd_nf {sp : Sp} {E : XK} (h : tA σ H fun vs H1 => ∀ x dx, H1 x = none → H1 dx = none → dx ≠ x → sp (.ref x :: vs) (upd (upd H1 dx (.own x)) x (.ins C dx [])) (fun v H2 => v = .non ∧ Q (.ref x) H2) E) : tNF C sp E tA σ H Q := h
theorem rd_cb {r : List V → Hp → VK → Prop} (h : tA σ H fun vs H1 => r vs H1 Q) : tCB r tA σ H Q := h
def KBm (K : PySem.W.Frag) (T : String) (r : V → List V → Hp → VK → Prop) (t : TA) (σ : L2.St) (Q : VK) : VK := fun x H1 => tyV K T x H1 ∧ t σ H1 fun xs H2 => r x xs H2 Q
theorem rd_bm {T : String} {r : V → List V → Hp → VK → Prop} (h : ta σ H (KBm K T r tA σ Q)) : tBM K T r ta tA σ H Q := h
theorem rd_kbmL {r : V → List V → Hp → VK → Prop} (h : SqL K H a xs) (q : tA σ H fun vs H2 => r (.ref a) vs H2 Q) : KBm K "list" r tA σ Q (.ref a) H := ⟨.inl ⟨rfl, xs, h⟩, q⟩
theorem rd_kbmS {z : Str} {r : V → List V → Hp → VK → Prop} (q : tA σ H fun vs H2 => r (.str z) vs H2 Q) : KBm K "str" r tA σ Q (.str z) H := ⟨rfl, q⟩
theorem rd_append (ho : H a = some (.lst xs)) (hz : xs.length < 100000) (q : Q .non (upd H a (.lst (xs ++ [v])))) : rAppend (.ref a) [v] H Q := ⟨a, xs, v, rfl, rfl, ho, Nat.lt_of_lt_of_le hz (by decide), q⟩
theorem rd_ins0 (ho : H a = some (.lst xs)) (hz : xs.length < 100000) (q : Q .non (upd H a (.lst (v :: xs)))) : rInsQ (.ref a) [.int 0, v] H Q := ⟨a, xs, 0, v, rfl, rfl, ho, Nat.lt_of_lt_of_le hz (by decide), by decide, by decide, by simpa using q⟩
theorem rd_lenL (h : SqL K H a xs) (q : Q (.int xs.length) H) : rLenQ K [.ref a] H Q := ⟨a, xs, rfl, .inl h, q⟩
theorem rd_lenT (h : SqT K H a xs) (q : Q (.int xs.length) H) : rLenQ K [.ref a] H Q := ⟨a, xs, rfl, .inr h, q⟩
theorem rd_lenZ {z : Str} (h : z.length ≤ 100000) (q : Q (.int z.length) H) : rLenZ [.str z] H Q := ⟨z, rfl, Nat.le_trans h (by decide), q⟩
theorem rd_listL (h : SqL K H a xs) (q : ∀ l H', H l = none → Kp [] H H' → H' l = some (.lst xs) → Q (.ref l) H') : rListQ K [.ref a] H Q := ⟨a, xs, rfl, .inl h, fun l hl => q l _ hl (Kp.new hl) upd_same⟩
theorem rd_max2 (q : Q (.int (if j > i then j else i)) H) : rMax2Q [.int i, .int j] H Q := ⟨i, j, rfl, q⟩
theorem rd_min2 (q : Q (.int (if j < i then j else i)) H) : rMin2Q [.int i, .int j] H Q := ⟨i, j, rfl, q⟩
theorem rd_int1 (q : Q (.int i) H) : rInt1Q [.int i] H Q := .inl ⟨i, rfl, q⟩
theorem rd_intb (q : Q (.int (if b then 1 else 0)) H) : rInt1Q [.bl b] H Q := .inr ⟨b, rfl, q⟩
/-! subscripts, slices -/
theorem rd_ixL (h : SqL K H a xs) (ha : atI xs i = some v) (q : Q v H) : rIxL K (.ref a) (.int i) H Q := ⟨a, xs, i, v, rfl, rfl, h, ha, q⟩
theorem rd_ixT (h : SqT K H a xs) (ha : atI xs i = some v) (q : Q v H) : rIxT K (.ref a) (.int i) H Q := ⟨a, xs, i, v, rfl, rfl, h, ha, q⟩
/-- a part of a tuple of data -/
theorem rd_ixI {ks : List GT.D} {k : GT.D} (h : Im K H x (.tup ks)) (hk : atI ks i = some k) (q : ∀ v, Im K H v k → Q v H) : rIxT K x (.int i) H Q := by
  obtain ⟨a, xs, rfl, sq, im⟩ := h.ref
  unfold atI at hk
  cases e : ixN ks.length i with
  | none => rw [e] at hk; cases hk
  | some j =>
    rw [e] at hk
    obtain ⟨v, hv, iv⟩ := im.getD (i := j) (show ks[j]? = some k from hk)
    exact ⟨a, xs, i, v, rfl, rfl, sq, by unfold atI; rw [im.len, e]; exact hv, q v iv⟩
theorem rd_setL {N : Hp → Prop} {j : Nat} (ho : H a = some (.lst xs)) (hi : ixN xs.length i = some j) (q : N (upd H a (.lst (xs.set j v)))) : rSetL (.ref a) (.int i) v H N := ⟨a, xs, i, j, rfl, rfl, ho, hi, q⟩
theorem rd_sl {r : V → Option Int → Option Int → Hp → VK → Prop} {tl th : TO} (h : te σ H fun x H1 => tl σ H1 fun l H2 => th σ H2 fun u H3 => r x l u H3 Q) : tSl r te tl th σ H Q := h
theorem rd_nopart {QO : Option Int → Hp → Prop} (q : QO none H) : tNoPart σ H QO := q
def KPart (QO : Option Int → Hp → Prop) : VK := fun x H1 => ∃ i, x = .int i ∧ QO (some i) H1
theorem rd_part {QO : Option Int → Hp → Prop} (h : te σ H (KPart QO)) : tPart te σ H QO := h
theorem rd_kpart {QO : Option Int → Hp → Prop} (q : QO (some i) H) : KPart QO (.int i) H := ⟨i, rfl, q⟩
theorem rd_slL {lo hi : Option Int} (h : SqL K H a xs) (q : ∀ p H', H p = none → Kp [] H H' → H' p = some (.lst (cutV xs lo hi)) → Q (.ref p) H') : rSlL K (.ref a) lo hi H Q := ⟨a, xs, rfl, h, fun p hp => q p _ hp (Kp.new hp) upd_same⟩
theorem rd_cat {b : Addr} (h1 : Rd H a (.lst xs)) (h2 : Rd H b (.lst ys)) (hz : xs.length + ys.length ≤ 100000) (q : ∀ p H', H p = none → Kp [] H H' → H' p = some (.lst (xs ++ ys)) → Q (.ref p) H') : rCatL (.ref a) (.ref b) H Q :=
  ⟨a, b, xs, ys, rfl, rfl, h1, h2, Nat.le_trans hz (by decide), fun p hp => q p _ hp (Kp.new hp) upd_same⟩
/-! loops' sources -/
theorem rd_for {wi : TI} {g : TG} (h : wi σ H fun J H1 => ∃ W : Nat → Nat → L2.St → Hp → Prop, (∃ m, W 0 m σ H1) ∧ ∀ i m σ H, W i m σ H →
      (J.stop i H ∧ D.nx σ H) ∨ (J.go i H ∧ ∃ N : L2.St → Hp → Prop, (∀ σ' H', N σ' H' → ∃ m', m' < m ∧ W (i + 1) m' σ' H') ∧ ∀ x H', J.yld i H x H' → g x σ H' fun σ2 H2 => ts { D with nx := N, ct := N, bk := D.nx } σ2 H2)) : tFor wi g ts D σ H := h
def KIl (K : PySem.W.Frag) (R : It → Hp → Prop) : VK := fun x H1 => ∃ a, x = .ref a ∧ (∃ xs, SqL K H1 a xs) ∧ R (Itl K a) H1
theorem rd_il {R : It → Hp → Prop} (h : te σ H (KIl K R)) : iList K te σ H R := h
theorem rd_kil {R : It → Hp → Prop} (h : SqL K H a xs) (q : R (Itl K a) H) : KIl K R (.ref a) H := ⟨a, rfl, ⟨xs, h⟩, q⟩
def KIt (K : PySem.W.Frag) (R : It → Hp → Prop) : VK := fun x H1 => ∃ a, x = .ref a ∧ (∃ xs, SqT K H1 a xs) ∧ R (Itt K a) H1
theorem rd_it {R : It → Hp → Prop} (h : te σ H (KIt K R)) : iTup K te σ H R := h
theorem rd_kit {R : It → Hp → Prop} (h : SqT K H a xs) (q : R (Itt K a) H) : KIt K R (.ref a) H := ⟨a, rfl, ⟨xs, h⟩, q⟩
def KIr1 (R : It → Hp → Prop) : List V → Hp → Prop := fun vs H1 => ∃ j : Int, vs = [.int j] ∧ -(2 ^ 62) ≤ j ∧ j < 2 ^ 62 ∧ R (Itr 0 j.toNat) H1
theorem rd_ir1 {R : It → Hp → Prop} (h : tA σ H (KIr1 R)) : iRng1 tA σ H R := h
theorem rd_kir1 {R : It → Hp → Prop} (h1 : 0 ≤ j) (h2 : j < 1000000) (q : R (Itr 0 j.toNat) H) : KIr1 R [.int j] H := ⟨j, rfl, by omega, by omega, q⟩
def KIr2 (R : It → Hp → Prop) : List V → Hp → Prop := fun vs H1 => ∃ i j : Int, vs = [.int i, .int j] ∧ (-(2 ^ 62) ≤ i ∧ i < 2 ^ 62 ∧ -(2 ^ 62) ≤ j ∧ j < 2 ^ 62) ∧ R (Itr i (j - i).toNat) H1
theorem rd_ir2 {R : It → Hp → Prop} (h : tA σ H (KIr2 R)) : iRng2 tA σ H R := h
theorem rd_kir2 {R : It → Hp → Prop} (h1 : 0 ≤ i) (h2 : j < 1000000) (h3 : i ≤ j + 1) (q : R (Itr i (j - i).toNat) H) : KIr2 R [.int i, .int j] H := ⟨i, j, rfl, ⟨by omega, by omega, by omega, by omega⟩, q⟩
def KIn (P : Program) (w : World) (R : It → Hp → Prop) : VK := fun x H1 => ∃ d o es, x = .ref d ∧ H1 d = some (.frz o (DN P w d es)) ∧ R (Itn P w d o es) H1
theorem rd_in {P : Program} {w : World} {R : It → Hp → Prop} (h : te σ H (KIn P w R)) : iN P w te σ H R := h
theorem rd_kin {P : Program} {w : World} {R : It → Hp → Prop} {o : Obj} {es : List En} (h : H a = some (.frz o (DN P w a es))) (q : R (Itn P w a o es) H) : KIn P w R (.ref a) H := ⟨a, o, es, rfl, h, q⟩
/-! dicts with tuple keys -/
section
variable {P : Program} {w : World} {kvs : List (GT.D × V)} {k : GT.D}
theorem at_mk (h : DR P w K H a kvs) (im : Im K H x k) (tp : ∃ ks, k = .tup ks) (dp : k.depth ≤ 8) : At P w K H a x kvs k := ⟨h, im, tp, dp⟩
theorem rd_getN (h : At P w K H a y kvs k) (l : valV kvs k = some v) (q : Q v H) : rGetN P w K (.ref a) y H Q := ⟨a, kvs, k, v, rfl, h, l, q⟩
theorem rd_inN (h : At P w K H a x kvs k) (q : Q (.bl (valV kvs k).isSome) H) : rInN P w K x (.ref a) H Q := ⟨a, kvs, k, rfl, h, q⟩
theorem rd_notInN (h : At P w K H a x kvs k) (q : Q (.bl (!(valV kvs k).isSome)) H) : rNotInN P w K x (.ref a) H Q := ⟨a, kvs, k, rfl, h, q⟩
theorem rd_get1N (h : At P w K H a y kvs k) (q : Q ((valV kvs k).getD .non) H) : rGet1N P w K (.ref a) [y] H Q := ⟨a, kvs, k, y, rfl, rfl, h, q⟩
theorem rd_setN {N : Hp → Prop} (h : DM P w K H a kvs) (im : Im K H x k) (tp : ∃ ks, k = .tup ks) (dp : k.depth ≤ 8) (hz : kvs.length < 100000) (q : ∀ H', Kp [a] H H' → DM P w K H' a (putK kvs k v) → N H') : rSetN P w K (.ref a) x v H N :=
  ⟨a, kvs, k, rfl, h, im, tp, dp, Nat.lt_of_lt_of_le hz (by decide), q⟩
theorem rd_setdN (h : DM P w K H a kvs) (im : Im K H y k) (tp : ∃ ks, k = .tup ks) (dp : k.depth ≤ 8) (hz : kvs.length < 100000) (q1 : ∀ z, valV kvs k = some z → Q z H) (q2 : valV kvs k = none → ∀ H', Kp [a] H H' → DM P w K H' a (putK kvs k v) → Q v H') : rSetdN P w K (.ref a) [y, v] H Q :=
  ⟨a, kvs, k, y, v, rfl, rfl, h, im, tp, dp, Nat.lt_of_lt_of_le hz (by decide), q1, q2⟩
theorem rd_lenN (h : DR P w K H a kvs) (q : Q (.int kvs.length) H) : rLenN P w K [.ref a] H Q := ⟨a, kvs, rfl, h, q⟩
def KDm (P : Program) (w : World) (K : PySem.W.Frag) (r : V → List V → Hp → VK → Prop) (t : TA) (σ : L2.St) (Q : VK) : VK := fun x H1 => IsDN P w K x H1 ∧ t σ H1 fun xs H2 => r x xs H2 Q
theorem rd_dm {r : V → List V → Hp → VK → Prop} (h : ta σ H (KDm P w K r tA σ Q)) : tDM P w K r ta tA σ H Q := h
theorem rd_kdm {r : V → List V → Hp → VK → Prop} (h : DR P w K H a kvs) (q : tA σ H fun vs H2 => r (.ref a) vs H2 Q) : KDm P w K r tA σ Q (.ref a) H := ⟨⟨a, kvs, rfl, h⟩, q⟩
theorem rd_newN (q : ∀ p H', H p = none → Kp [] H H' → DM P w K H' p [] → Q (.ref p) H') : tNewN P w K σ H Q := q
theorem rd_sortN (h : DR P w K H a kvs) (hs : SrtOk (kvs.map (·.1))) (q : ∀ p ys H', H p = none → Kp [] H H' → H' p = some (.lst ys) → ImA K H' ys (sortD (kvs.map (·.1))) → Q (.ref p) H') : rSortN P w K [.ref a] H Q :=
  ⟨a, kvs, rfl, h, hs, fun p ys hp im => q p ys _ hp (Kp.new hp) upd_same (im.up (F := []) (Kp.new hp))⟩
theorem rd_listN (h : DR P w K H a kvs) (q : ∀ p ys H', H p = none → Kp [] H H' → H' p = some (.lst ys) → ImA K H' ys (kvs.map (·.1)) → Q (.ref p) H') : rListN P w K [.ref a] H Q :=
  ⟨a, kvs, rfl, h, fun p ys hp im => q p ys _ hp (Kp.new hp) upd_same (im.up (F := []) (Kp.new hp))⟩
end
theorem rd_sortL {ks : List GT.D} (h : SqL K H a xs) (im : ImA K H xs ks) (hs : SrtOk ks) (q : ∀ p ys H', H p = none → Kp [] H H' → H' p = some (.lst ys) → ImA K H' ys (sortD ks) → Q (.ref p) H') : rSortL K [.ref a] H Q :=
  ⟨a, xs, ks, rfl, h, im, hs, fun p ys hp im => q p ys _ hp (Kp.new hp) upd_same (im.up (F := []) (Kp.new hp))⟩
/-! data compared -/
theorem rd_eqI {k l : GT.D} (h1 : Im K H x k) (h2 : Im K H y l) (s1 : Shp k) (s2 : Shp l) (q : Q (.bl (decide (k = l))) H) : rEqI K x y H Q := ⟨k, l, h1, h2, s1, s2, q⟩
theorem rd_neI {k l : GT.D} (h1 : Im K H x k) (h2 : Im K H y l) (s1 : Shp k) (s2 : Shp l) (q : Q (.bl (!decide (k = l))) H) : rNeI K x y H Q := ⟨k, l, h1, h2, s1, s2, q⟩
/-! a thing locked for good -/
def KFz (Q : VK) : VK := fun v H1 => ∃ a u, H1 a = some u ∧ Mut (some u) ∧ ∀ o, Q v (upd H1 a (.frz o u))
theorem rd_frz (h : te σ H (KFz Q)) : tFrz te σ H Q := h
/-- a list, new since H0, is locked -/
theorem rd_kfzL {H0 : Hp} (ho : H a = some (.lst xs)) (hn : H0 a = none) (k : Kp [] H0 H) (q : ∀ H', Kp [] H0 H' → (∀ b u, b ≠ a → H b = some u → H' b = some u) → Fz H' (.ref a) xs → Q (.ref a) H') : KFz Q (.ref a) H :=
  ⟨a, _, ho, trivial, fun o => q _ (k.wrn hn) (fun b u hb e => by rw [upd_ne hb]; exact e) ⟨a, o, rfl, upd_same⟩⟩
end
end GT
set_option maxHeartbeats 2000000
namespace GT
open PySem PySem.Spec PyProof.Rows L2

/-! ### the data: names, stamps, values, changes, cells -/
abbrev Nm := Int × Int
inductive Vl where
  | non | txt (s : Str) | num (i : Int) | rf (n : Nm)
  deriving DecidableEq
structure Ch where
  st : Nm
  nm : Nm
  fd : Str
  vl : Vl
  deriving DecidableEq
abbrev Ky := Nm × Str
abbrev Cell := Nm × Vl
def pD (n : Nm) : D := .tup [.num n.1, .num n.2]
def vlD : Vl → D
  | .non => .none
  | .txt s => .text s
  | .num i => .num i
  | .rf n => .tup [.text "ref", pD n]
def chD (c : Ch) : D := .tup [pD c.st, pD c.nm, .text c.fd, vlD c.vl]
def kyD (k : Ky) : D := .tup [pD k.1, .text k.2]
def ceD (c : Cell) : D := .tup [pD c.1, vlD c.2]
def Ch.ky (c : Ch) : Ky := (c.nm, c.fd)
def Ch.ce (c : Ch) : Cell := (c.st, c.vl)
def Vl.tg : Vl → Option Nm
  | .rf n => some n
  | _ => none
def tgD (v : Vl) : D := match v with
  | .rf n => pD n
  | _ => .none
theorem pD_inj {a b : Nm} (h : pD a = pD b) : a = b := by
  obtain ⟨a1, a2⟩ := a
  obtain ⟨b1, b2⟩ := b
  unfold pD at h
  simp at h
  rw [h.1, h.2]
theorem kyD_inj {a b : Ky} (h : kyD a = kyD b) : a = b := by
  obtain ⟨a1, a2⟩ := a
  obtain ⟨b1, b2⟩ := b
  unfold kyD at h
  simp at h
  rw [pD_inj h.1, h.2]
theorem vlD_inj {a b : Vl} (h : vlD a = vlD b) : a = b := by
  cases a <;> cases b <;> simp [vlD] at h <;> first | rfl | (rw [h]) | (rw [pD_inj h])
theorem ceD_inj {a b : Cell} (h : ceD a = ceD b) : a = b := by
  obtain ⟨a1, a2⟩ := a
  obtain ⟨b1, b2⟩ := b
  unfold ceD at h
  simp at h
  rw [pD_inj h.1, vlD_inj h.2]
theorem dp_p (n : Nm) : (pD n).depth ≤ 8 := by simp [pD, NestedKey.depth, NestedKey.depthAll]
theorem dp_vl (v : Vl) : (vlD v).depth ≤ 3 := by cases v <;> simp [vlD, pD, NestedKey.depth, NestedKey.depthAll]
theorem dp_ky (k : Ky) : (kyD k).depth ≤ 8 := by simp [kyD, pD, NestedKey.depth, NestedKey.depthAll]
theorem tp_p (n : Nm) : ∃ ks, pD n = .tup ks := ⟨_, rfl⟩
theorem tp_ky (k : Ky) : ∃ ks, kyD k = .tup ks := ⟨_, rfl⟩
/-! order -/
abbrev tk (d : D) : List (Int ⊕ List Nat) := PySem.W.keyToks d.data
theorem tk_p (n : Nm) : tk (pD n) = [.inl 1, .inl n.1, .inl 1, .inl n.2, .inl 0] := rfl
theorem tk_ky (k : Ky) : tk (kyD k) = [.inl 1, .inl 1, .inl k.1.1, .inl 1, .inl k.1.2, .inl 0, .inl 1, .inr k.2.cps.toList, .inl 0] := rfl
theorem tk_p_inj {a b : Nm} (h : tk (pD a) = tk (pD b)) : a = b := by
  rw [tk_p, tk_p] at h
  simp at h
  exact Prod.ext h.1 h.2
theorem tk_ky_inj {a b : Ky} (h : tk (kyD a) = tk (kyD b)) : a = b := by
  rw [tk_ky, tk_ky] at h
  simp at h
  exact Prod.ext (Prod.ext h.1 h.2.1) (PySem.W.str_of_cps (by rw [h.2.2]))
/-- a < b of pairs -/
def ltP (a b : Nm) : Bool := decide (a.1 < b.1 ∨ a.1 = b.1 ∧ a.2 < b.2)
theorem il (a b : Int) : itemLt (.inl a) (.inl b) = decide (a < b) := rfl
theorem lt_p (a b : Nm) : PySem.W.dataLt (pD a).data (pD b).data = ltP a b := by
  have e : PySem.W.dataLt (pD a).data (pD b).data = PyProof.Rows.lexLt PyProof.Rows.itemOrd (tk (pD a)) (tk (pD b)) := rfl
  rw [e, tk_p, tk_p]
  unfold ltP
  simp only [PyProof.Rows.lexLt, il]
  rcases Int.lt_trichotomy a.1 b.1 with h | h | h
  · have : ¬ b.1 < a.1 := by omega
    simp [h, this]
  · rw [h]
    rcases Int.lt_trichotomy a.2 b.2 with g | g | g
    · have : ¬ b.2 < a.2 := by omega
      simp [g, this]
    · simp [g]
    · have : ¬ a.2 < b.2 := by omega
      simp [g, this]
  · have h1 : ¬ a.1 < b.1 := by omega
    have h2 : ¬ a.1 = b.1 := by omega
    simp [h, h1, h2]
theorem al_p (a b : Nm) : PySem.W.alike (pD a).data (pD b).data = true := by
  simp [pD, NestedKey.data, NestedKey.datas, PySem.W.alike, PySem.W.alikeAll]
theorem al_ky (a b : Ky) : PySem.W.alike (kyD a).data (kyD b).data = true := by
  simp [kyD, pD, NestedKey.data, NestedKey.datas, PySem.W.alike, PySem.W.alikeAll]
theorem srtOk_p (l : List Nm) : SrtOk (l.map pD) := by
  refine ⟨fun d hd d' hd' => ?_, .inl fun d hd => ?_, fun k hk => ?_⟩
  · simp only [List.mem_map, List.map_map, Function.comp] at hd hd'
    obtain ⟨a, _, rfl⟩ := hd
    obtain ⟨b, _, rfl⟩ := hd'
    exact al_p a b
  · simp only [List.mem_map, List.map_map, Function.comp] at hd
    obtain ⟨a, _, rfl⟩ := hd
    exact ⟨_, _, rfl⟩
  · obtain ⟨a, _, rfl⟩ := List.mem_map.mp hk
    exact dp_p a
theorem srtOk_ky (l : List Ky) : SrtOk (l.map kyD) := by
  refine ⟨fun d hd d' hd' => ?_, .inl fun d hd => ?_, fun k hk => ?_⟩
  · simp only [List.mem_map, List.map_map, Function.comp] at hd hd'
    obtain ⟨a, _, rfl⟩ := hd
    obtain ⟨b, _, rfl⟩ := hd'
    exact al_ky a b
  · simp only [List.mem_map, List.map_map, Function.comp] at hd
    obtain ⟨a, _, rfl⟩ := hd
    exact ⟨_, _, rfl⟩
  · obtain ⟨a, _, rfl⟩ := List.mem_map.mp hk
    exact dp_ky a
/-- l sorted by f -/
def srt {α : Type} (f : α → D) (l : List α) : List α := l.mergeSort fun a b => leD (f a) (f b)
section
variable {α : Type} {f : α → D} {l m : List α}
theorem srt_map : (srt f l).map f = sortD (l.map f) := List.map_mergeSort fun _ _ _ _ => rfl
theorem srt_p : (srt f l).Perm l := List.mergeSort_perm _ _
theorem srt_mem {a : α} : a ∈ srt f l ↔ a ∈ l := srt_p.mem_iff
theorem srt_len : (srt f l).length = l.length := srt_p.length_eq
theorem leD_total : PySem.W.TotalLe leD := PySem.W.sortLe_total _ _ _
theorem leD_anti {a b : D} (h1 : leD a b = true) (h2 : leD b a = true) : tk a = tk b := by
  have e1 : (!(PyProof.Rows.listOrd PyProof.Rows.itemOrd).blt (tk b) (tk a)) = true := h1
  have e2 : (!(PyProof.Rows.listOrd PyProof.Rows.itemOrd).blt (tk a) (tk b)) = true := h2
  rw [Bool.not_eq_true'] at e1 e2
  exact (PyProof.Rows.listOrd PyProof.Rows.itemOrd).total _ _ e2 e1
theorem srt_pw : (srt f l).Pairwise fun a b => leD (f a) (f b) = true :=
  List.pairwise_mergeSort (le := fun a b => leD (f a) (f b)) (fun a b c h1 h2 => leD_total.trans (f a) (f b) (f c) h1 h2) (fun a b => by
    rcases leD_total.total (f a) (f b) with h | h
    · rw [h]; rfl
    · rw [h, Bool.or_true]) l
theorem srt_eq (inj : ∀ a b, tk (f a) = tk (f b) → a = b) (p : l.Perm m) : srt f l = srt f m :=
  List.Perm.eq_of_pairwise (le := fun a b => leD (f a) (f b) = true) (fun a b _ _ h1 h2 => inj _ _ (leD_anti h1 h2)) srt_pw srt_pw ((srt_p.trans p).trans srt_p.symm)
theorem srt_nd (h : l.Nodup) : (srt f l).Nodup := srt_p.nodup_iff.mpr h
end
theorem perm_of_nodup {α : Type} [DecidableEq α] {l m : List α} (h1 : l.Nodup) (h2 : m.Nodup) (h : ∀ a, a ∈ l ↔ a ∈ m) : l.Perm m := (List.perm_ext_iff_of_nodup h1 h2).mpr h
/-! shapes -/
theorem strok (x : Str) (h : PyData.canLay0 (.str x) = true) : SeqAt.shaped (.str x) = true := by
  unfold SeqAt.shaped
  rw [h]
  rfl
theorem shp_p (n : Nm) : Shp (pD n) := rfl
theorem canAll : ∀ {ks : List D}, (∀ k ∈ ks, Shp k) → PyData.canLayAll0 (NestedKey.datas ks) = true
  | [], _ => rfl
  | k :: ks, h => by
    show PyData.canLayAll0 (k.data :: NestedKey.datas ks) = true
    rw [PyData.canLayAll0, SeqAt.canLay_of_shaped (h k List.mem_cons_self), canAll fun k hk => h k (List.mem_cons_of_mem _ hk)]
    rfl
theorem shpL_of {ks : List D} (h : ∀ k ∈ ks, Shp k) (d : ∀ k ∈ ks, k.depth ≤ 8) : ShpL ks := by
  show (PyData.canLay0 (.list (NestedKey.datas ks)) && decide ((PyData.list (NestedKey.datas ks)).depth ≤ 64)) = true
  rw [PyData.canLay0, canAll h, PyData.depth, depth_datas]
  have := depthAll_le d
  simp
  omega
theorem shpL_p (l : List Nm) : ShpL (l.map pD) := shpL_of (fun k hk => by obtain ⟨a, _, rfl⟩ := List.mem_map.mp hk; exact shp_p a) fun k hk => by obtain ⟨a, _, rfl⟩ := List.mem_map.mp hk; exact dp_p a
theorem mem_p {l : List Nm} {n : Nm} : pD n ∈ l.map pD ↔ n ∈ l := ⟨fun h => by
  obtain ⟨a, ha, e⟩ := List.mem_map.mp h
  rw [← pD_inj e]
  exact ha, fun h => List.mem_map_of_mem h⟩
/-! association lists -/
section
variable {κ α : Type} [DecidableEq κ]
def aget (l : List (κ × α)) (k : κ) : Option α := (l.find? fun p => decide (p.1 = k)).map (·.2)
def aput (l : List (κ × α)) (k : κ) (v : α) : List (κ × α) := if (aget l k).isSome then l.map fun p => if p.1 = k then (p.1, v) else p else l ++ [(k, v)]
theorem aget_nil (k : κ) : aget ([] : List (κ × α)) k = none := rfl
theorem aget_cons (p : κ × α) (l : List (κ × α)) (k : κ) : aget (p :: l) k = if p.1 = k then some p.2 else aget l k := by
  unfold aget
  by_cases h : p.1 = k <;> simp [List.find?_cons, h]
theorem aget_mem : ∀ {l : List (κ × α)} {k : κ} {v : α}, aget l k = some v → (k, v) ∈ l
  | [], _, _, h => by cases h
  | p :: l, k, v, h => by
    rw [aget_cons] at h
    split at h
    · rename_i e
      cases h
      rw [← e]
      exact List.mem_cons_self
    · exact List.mem_cons_of_mem _ (aget_mem h)
theorem aget_isSome : ∀ {l : List (κ × α)} {k : κ}, (aget l k).isSome = true ↔ k ∈ l.map (·.1)
  | [], k => by simp [aget]
  | p :: l, k => by
    rw [aget_cons]
    by_cases e : p.1 = k
    · simp [e]
    · rw [if_neg e, aget_isSome]
      simp [Ne.symm e]
theorem aget_of_mem : ∀ {l : List (κ × α)} {k : κ} {v : α}, (l.map (·.1)).Nodup → (k, v) ∈ l → aget l k = some v
  | p :: l, k, v, hn, h => by
    rw [List.map_cons, List.nodup_cons] at hn
    rw [aget_cons]
    rcases List.mem_cons.mp h with e | h
    · rw [← e, if_pos rfl]
    · have : ¬ p.1 = k := fun e => hn.1 (by rw [e]; exact List.mem_map_of_mem h)
      rw [if_neg this, aget_of_mem hn.2 h]
theorem aget_app : ∀ (l m : List (κ × α)) (k : κ), aget (l ++ m) k = (aget l k).or (aget m k)
  | [], m, k => by simp [aget]
  | p :: l, m, k => by
    rw [List.cons_append, aget_cons, aget_cons, aget_app l m k]
    split <;> simp
theorem aget_map : ∀ (l : List (κ × α)) (k j : κ) (v : α), aget (l.map fun p => if p.1 = k then (p.1, v) else p) j = if j = k then (aget l j).map fun _ => v else aget l j
  | [], k, j, v => by simp [aget]
  | p :: l, k, j, v => by
    rw [List.map_cons, aget_cons, aget_cons, aget_map l k j v]
    by_cases e : p.1 = k
    · simp only [if_pos e]
      by_cases f : p.1 = j
      · have : j = k := by rw [← f, e]
        simp [f, this]
      · have : ¬ j = k := fun z => f (by rw [e, z])
        simp [f, this]
    · simp only [if_neg e]
      by_cases f : p.1 = j
      · have : ¬ j = k := fun z => e (by rw [f, z])
        simp [f, this]
      · simp [f]
theorem aget_put (l : List (κ × α)) (k j : κ) (v : α) : aget (aput l k v) j = if j = k then some v else aget l j := by
  unfold aput
  by_cases h : (aget l k).isSome = true
  · rw [if_pos h, aget_map]
    split
    · rename_i e
      rw [e]
      obtain ⟨u, hu⟩ := Option.isSome_iff_exists.mp h
      rw [hu]
      rfl
    · rfl
  · rw [if_neg h, aget_app, aget_cons, aget_nil]
    by_cases e : j = k
    · rw [e, if_pos rfl, if_pos rfl]
      have : aget l k = none := by simpa using h
      rw [this]
      rfl
    · rw [if_neg (Ne.symm e), if_neg e]
      simp
theorem aput_keys (l : List (κ × α)) (k : κ) (v : α) : (aput l k v).map (·.1) = if k ∈ l.map (·.1) then l.map (·.1) else l.map (·.1) ++ [k] := by
  unfold aput
  by_cases h : (aget l k).isSome = true
  · rw [if_pos h, if_pos (aget_isSome.mp h), List.map_map]
    refine List.map_congr_left fun p _ => ?_
    by_cases e : p.1 = k <;> simp [e]
  · rw [if_neg h, if_neg (fun z => h (aget_isSome.mpr z)), List.map_append]
    rfl
theorem aput_nd {l : List (κ × α)} (h : (l.map (·.1)).Nodup) (k : κ) (v : α) : ((aput l k v).map (·.1)).Nodup := by
  rw [aput_keys]
  split
  · exact h
  · rename_i e
    rw [List.nodup_append]
    exact ⟨h, by simp, fun a ha b hb => by simp at hb; subst hb; exact fun z => e (by rw [← z]; exact ha)⟩
theorem aput_len (l : List (κ × α)) (k : κ) (v : α) : (aput l k v).length ≤ l.length + 1 := by
  unfold aput
  split
  · rw [List.length_map]; omega
  · simp
theorem aput_key_mem {l : List (κ × α)} {k j : κ} {v : α} : j ∈ (aput l k v).map (·.1) ↔ j = k ∨ j ∈ l.map (·.1) := by
  rw [aput_keys]
  split
  · rename_i e
    exact ⟨.inr, fun h => h.elim (fun z => by rw [z]; exact e) id⟩
  · rw [List.mem_append]
    simp
    exact Or.comm
theorem aput_new {l : List (κ × α)} {k : κ} {v : α} (h : aget l k = none) : aput l k v = l ++ [(k, v)] := by
  unfold aput
  rw [h]
  rfl
end
/-! take -/
def takeC (cs : List (Ky × Cell)) (c : Ch) : List (Ky × Cell) := match aget cs c.ky with
  | some o => if ltP o.1 c.st then aput cs c.ky c.ce else cs
  | none => aput cs c.ky c.ce
def vlC (cs : List (Ky × Cell)) (k : Ky) : Vl := match aget cs k with
  | some o => o.2
  | none => .non
theorem takeC_len (cs : List (Ky × Cell)) (c : Ch) : (takeC cs c).length ≤ cs.length + 1 := by
  unfold takeC
  split
  · split
    · exact aput_len _ _ _
    · omega
  · exact aput_len _ _ _
theorem takeC_nd {cs : List (Ky × Cell)} (h : (cs.map (·.1)).Nodup) (c : Ch) : ((takeC cs c).map (·.1)).Nodup := by
  unfold takeC
  split
  · split
    · exact aput_nd h _ _
    · exact h
  · exact aput_nd h _ _
end GT
set_option maxHeartbeats 2000000
namespace GT
open PySem PySem.Spec PyProof.Rows L2
/-! ### the defs, the facts of the head -/
abbrev s_Channel_init : Stmt := inClass (top 9) 0
abbrev n_Channel_init : List Str := ["self"]
abbrev p_Channel_init : List Str := ["self"]
theorem sc_Channel_init : FnScope n_Channel_init p_Channel_init (defScope s_Channel_init) := ⟨rfl, rfl, rfl, by decide +kernel, rfl, by decide +kernel, by decide +kernel⟩

abbrev s_Channel_check : Stmt := inClass (top 9) 1
abbrev n_Channel_check : List Str := ["self", "place"]
abbrev p_Channel_check : List Str := ["self", "place"]
theorem sc_Channel_check : FnScope n_Channel_check p_Channel_check (defScope s_Channel_check) := ⟨rfl, rfl, rfl, by decide +kernel, rfl, by decide +kernel, by decide +kernel⟩

abbrev s_Channel_put : Stmt := inClass (top 9) 2
abbrev n_Channel_put : List Str := ["self", "octets"]
abbrev p_Channel_put : List Str := ["self", "octets"]
theorem sc_Channel_put : FnScope n_Channel_put p_Channel_put (defScope s_Channel_put) := ⟨rfl, rfl, rfl, by decide +kernel, rfl, by decide +kernel, by decide +kernel⟩

abbrev s_Channel_lose : Stmt := inClass (top 9) 3
abbrev n_Channel_lose : List Str := ["self", "place"]
abbrev p_Channel_lose : List Str := ["self", "place"]
theorem sc_Channel_lose : FnScope n_Channel_lose p_Channel_lose (defScope s_Channel_lose) := ⟨rfl, rfl, rfl, by decide +kernel, rfl, by decide +kernel, by decide +kernel⟩

abbrev s_Channel_double : Stmt := inClass (top 9) 4
abbrev n_Channel_double : List Str := ["self", "place"]
abbrev p_Channel_double : List Str := ["self", "place"]
theorem sc_Channel_double : FnScope n_Channel_double p_Channel_double (defScope s_Channel_double) := ⟨rfl, rfl, rfl, by decide +kernel, rfl, by decide +kernel, by decide +kernel⟩

abbrev s_Channel_exchange : Stmt := inClass (top 9) 5
abbrev n_Channel_exchange : List Str := ["self", "place", "other", "first", "second"]
abbrev p_Channel_exchange : List Str := ["self", "place", "other"]
theorem sc_Channel_exchange : FnScope n_Channel_exchange p_Channel_exchange (defScope s_Channel_exchange) := ⟨rfl, rfl, rfl, by decide +kernel, rfl, by decide +kernel, by decide +kernel⟩

abbrev s_Channel_damage : Stmt := inClass (top 9) 6
abbrev n_Channel_damage : List Str := ["self", "place", "spot", "octet", "message"]
abbrev p_Channel_damage : List Str := ["self", "place", "spot", "octet"]
theorem sc_Channel_damage : FnScope n_Channel_damage p_Channel_damage (defScope s_Channel_damage) := ⟨rfl, rfl, rfl, by decide +kernel, rfl, by decide +kernel, by decide +kernel⟩

abbrev s_Channel_take : Stmt := inClass (top 9) 8
abbrev n_Channel_take : List Str := ["self", "place", "message"]
abbrev p_Channel_take : List Str := ["self", "place"]
theorem sc_Channel_take : FnScope n_Channel_take p_Channel_take (defScope s_Channel_take) := ⟨rfl, rfl, rfl, by decide +kernel, rfl, by decide +kernel, by decide +kernel⟩

abbrev s_target_of : Stmt := top 19
abbrev n_target_of : List Str := ["value"]
abbrev p_target_of : List Str := ["value"]
theorem sc_target_of : FnScope n_target_of p_target_of (defScope s_target_of) := ⟨rfl, rfl, rfl, by decide +kernel, rfl, by decide +kernel, by decide +kernel⟩

abbrev s_is_reference : Stmt := top 20
abbrev n_is_reference : List Str := ["value"]
abbrev p_is_reference : List Str := ["value"]
theorem sc_is_reference : FnScope n_is_reference p_is_reference (defScope s_is_reference) := ⟨rfl, rfl, rfl, by decide +kernel, rfl, by decide +kernel, by decide +kernel⟩

abbrev s_ranges_of : Stmt := top 22
abbrev n_ranges_of : List Str := ["numbers", "found", "number"]
abbrev p_ranges_of : List Str := ["numbers"]
theorem sc_ranges_of : FnScope n_ranges_of p_ranges_of (defScope s_ranges_of) := ⟨rfl, rfl, rfl, by decide +kernel, rfl, by decide +kernel, by decide +kernel⟩

abbrev s_numbers_of : Stmt := top 23
abbrev n_numbers_of : List Str := ["ranges", "found", "first", "last"]
abbrev p_numbers_of : List Str := ["ranges"]
theorem sc_numbers_of : FnScope n_numbers_of p_numbers_of (defScope s_numbers_of) := ⟨rfl, rfl, rfl, by decide +kernel, rfl, by decide +kernel, by decide +kernel⟩

abbrev s_told : Stmt := top 24
abbrev n_told : List Str := ["replica", "rows", "sender", "number", "row"]
abbrev p_told : List Str := ["replica"]
theorem sc_told : FnScope n_told p_told (defScope s_told) := ⟨rfl, rfl, rfl, by decide +kernel, rfl, by decide +kernel, by decide +kernel⟩

abbrev s_outside : Stmt := top 25
abbrev n_outside : List Str := ["number", "ranges", "first", "last"]
abbrev p_outside : List Str := ["number", "ranges"]
theorem sc_outside : FnScope n_outside p_outside (defScope s_outside) := ⟨rfl, rfl, rfl, by decide +kernel, rfl, by decide +kernel, by decide +kernel⟩

abbrev s_lacking : Stmt := top 26
abbrev n_lacking : List Str := ["mine", "theirs", "found", "sender", "number"]
abbrev p_lacking : List Str := ["mine", "theirs"]
theorem sc_lacking : FnScope n_lacking p_lacking (defScope s_lacking) := ⟨rfl, rfl, rfl, by decide +kernel, rfl, by decide +kernel, by decide +kernel⟩

abbrev s_answer : Stmt := top 27
abbrev n_answer : List Str := ["replica", "theirs", "sender", "number"]
abbrev p_answer : List Str := ["replica", "theirs"]
theorem sc_answer : FnScope n_answer p_answer (defScope s_answer) := ⟨rfl, rfl, rfl, by decide +kernel, rfl, by decide +kernel, by decide +kernel⟩

abbrev s_bring : Stmt := top 28
abbrev n_bring : List Str := ["replica", "other", "messages", "octets"]
abbrev p_bring : List Str := ["replica", "other"]
theorem sc_bring : FnScope n_bring p_bring (defScope s_bring) := ⟨rfl, rfl, rfl, by decide +kernel, rfl, by decide +kernel, by decide +kernel⟩

abbrev s_reachable : Stmt := top 30
abbrev n_reachable : List Str := ["state", "roots", "found", "name", "place", "value", "target"]
abbrev p_reachable : List Str := ["state", "roots"]
theorem sc_reachable : FnScope n_reachable p_reachable (defScope s_reachable) := ⟨rfl, rfl, rfl, by decide +kernel, rfl, by decide +kernel, by decide +kernel⟩

abbrev s_numbered_value : Stmt := top 31
abbrev n_numbered_value : List Str := ["value", "numbers", "target"]
abbrev p_numbered_value : List Str := ["value", "numbers"]
theorem sc_numbered_value : FnScope n_numbered_value p_numbered_value (defScope s_numbered_value) := ⟨rfl, rfl, rfl, by decide +kernel, rfl, by decide +kernel, by decide +kernel⟩

abbrev s_numbered : Stmt := top 32
abbrev n_numbered : List Str := ["state", "roots", "names", "numbers", "things", "name", "fields", "number", "field"]
abbrev p_numbered : List Str := ["state", "roots"]
theorem sc_numbered : FnScope n_numbered p_numbered (defScope s_numbered) := ⟨rfl, rfl, rfl, by decide +kernel, rfl, by decide +kernel, by decide +kernel⟩

abbrev s_are_alike : Stmt := top 33
abbrev n_are_alike : List Str := ["state", "roots", "other", "other_roots"]
abbrev p_are_alike : List Str := ["state", "roots", "other", "other_roots"]
theorem sc_are_alike : FnScope n_are_alike p_are_alike (defScope s_are_alike) := ⟨rfl, rfl, rfl, by decide +kernel, rfl, by decide +kernel, by decide +kernel⟩

abbrev s_is_later : Stmt := top 35
abbrev n_is_later : List Str := ["stamp", "other"]
abbrev p_is_later : List Str := ["stamp", "other"]
theorem sc_is_later : FnScope n_is_later p_is_later (defScope s_is_later) := ⟨rfl, rfl, rfl, by decide +kernel, rfl, by decide +kernel, by decide +kernel⟩

abbrev s_State_init : Stmt := inClass (top 38) 0
abbrev n_State_init : List Str := ["self"]
abbrev p_State_init : List Str := ["self"]
theorem sc_State_init : FnScope n_State_init p_State_init (defScope s_State_init) := ⟨rfl, rfl, rfl, by decide +kernel, rfl, by decide +kernel, by decide +kernel⟩

abbrev s_State_take : Stmt := inClass (top 38) 1
abbrev n_State_take : List Str := ["self", "change", "stamp", "name", "field", "value", "old"]
abbrev p_State_take : List Str := ["self", "change"]
theorem sc_State_take : FnScope n_State_take p_State_take (defScope s_State_take) := ⟨rfl, rfl, rfl, by decide +kernel, rfl, by decide +kernel, by decide +kernel⟩

abbrev s_State_value : Stmt := inClass (top 38) 2
abbrev n_State_value : List Str := ["self", "name", "field", "cell"]
abbrev p_State_value : List Str := ["self", "name", "field"]
theorem sc_State_value : FnScope n_State_value p_State_value (defScope s_State_value) := ⟨rfl, rfl, rfl, by decide +kernel, rfl, by decide +kernel, by decide +kernel⟩

abbrev s_State_fields : Stmt := inClass (top 38) 4
abbrev n_State_fields : List Str := ["self", "name", "found", "other", "field", "value"]
abbrev p_State_fields : List Str := ["self", "name"]
theorem sc_State_fields : FnScope n_State_fields p_State_fields (defScope s_State_fields) := ⟨rfl, rfl, rfl, by decide +kernel, rfl, by decide +kernel, by decide +kernel⟩

abbrev s_State_names : Stmt := inClass (top 38) 5
abbrev n_State_names : List Str := ["self", "found", "key", "target", "name", "field"]
abbrev p_State_names : List Str := ["self"]
theorem sc_State_names : FnScope n_State_names p_State_names (defScope s_State_names) := ⟨rfl, rfl, rfl, by decide +kernel, rfl, by decide +kernel, by decide +kernel⟩

abbrev s_number_octets : Stmt := top 45
abbrev n_number_octets : List Str := ["number", "many", "found", "rest", "place"]
abbrev p_number_octets : List Str := ["number", "many"]
theorem sc_number_octets : FnScope n_number_octets p_number_octets (defScope s_number_octets) := ⟨rfl, rfl, rfl, by decide +kernel, rfl, by decide +kernel, by decide +kernel⟩

abbrev s_word_octets : Stmt := top 46
abbrev n_word_octets : List Str := ["word", "sign"]
abbrev p_word_octets : List Str := ["word"]
theorem sc_word_octets : FnScope n_word_octets p_word_octets (defScope s_word_octets) := ⟨rfl, rfl, rfl, by decide +kernel, rfl, by decide +kernel, by decide +kernel⟩

abbrev s_Message_init : Stmt := inClass (top 47) 0
abbrev n_Message_init : List Str := ["self", "octets"]
abbrev p_Message_init : List Str := ["self", "octets"]
theorem sc_Message_init : FnScope n_Message_init p_Message_init (defScope s_Message_init) := ⟨rfl, rfl, rfl, by decide +kernel, rfl, by decide +kernel, by decide +kernel⟩

abbrev s_Message_octet : Stmt := inClass (top 47) 1
abbrev n_Message_octet : List Str := ["self", "least", "most"]
abbrev p_Message_octet : List Str := ["self", "least", "most"]
theorem sc_Message_octet : FnScope n_Message_octet p_Message_octet (defScope s_Message_octet) := ⟨rfl, rfl, rfl, by decide +kernel, rfl, by decide +kernel, by decide +kernel⟩

abbrev s_Message_number : Stmt := inClass (top 47) 2
abbrev n_Message_number : List Str := ["self", "many", "most", "found", "unit"]
abbrev p_Message_number : List Str := ["self", "many", "most"]
theorem sc_Message_number : FnScope n_Message_number p_Message_number (defScope s_Message_number) := ⟨rfl, rfl, rfl, by decide +kernel, rfl, by decide +kernel, by decide +kernel⟩

abbrev s_Message_letters : Stmt := inClass (top 47) 4
abbrev n_Message_letters : List Str := ["self", "many", "before", "word", "left", "least", "code", "sign"]
abbrev p_Message_letters : List Str := ["self", "many", "before"]
theorem sc_Message_letters : FnScope n_Message_letters p_Message_letters (defScope s_Message_letters) := ⟨rfl, rfl, rfl, by decide +kernel, rfl, by decide +kernel, by decide +kernel⟩

abbrev s_name_octets : Stmt := top 51
abbrev n_name_octets : List Str := ["name"]
abbrev p_name_octets : List Str := ["name"]
theorem sc_name_octets : FnScope n_name_octets p_name_octets (defScope s_name_octets) := ⟨rfl, rfl, rfl, by decide +kernel, rfl, by decide +kernel, by decide +kernel⟩

abbrev s_worth_octets : Stmt := top 52
abbrev n_worth_octets : List Str := ["value"]
abbrev p_worth_octets : List Str := ["value"]
theorem sc_worth_octets : FnScope n_worth_octets p_worth_octets (defScope s_worth_octets) := ⟨rfl, rfl, rfl, by decide +kernel, rfl, by decide +kernel, by decide +kernel⟩

abbrev s_change_octets : Stmt := top 53
abbrev n_change_octets : List Str := ["change", "stamp", "name", "field", "value"]
abbrev p_change_octets : List Str := ["change"]
theorem sc_change_octets : FnScope n_change_octets p_change_octets (defScope s_change_octets) := ⟨rfl, rfl, rfl, by decide +kernel, rfl, by decide +kernel, by decide +kernel⟩

abbrev s_check_of : Stmt := top 54
abbrev n_check_of : List Str := ["octets", "low", "high", "octet"]
abbrev p_check_of : List Str := ["octets"]
theorem sc_check_of : FnScope n_check_of p_check_of (defScope s_check_of) := ⟨rfl, rfl, rfl, by decide +kernel, rfl, by decide +kernel, by decide +kernel⟩

abbrev s_message_octets : Stmt := top 55
abbrev n_message_octets : List Str := ["sender", "number", "changes", "octets", "change"]
abbrev p_message_octets : List Str := ["sender", "number", "changes"]
theorem sc_message_octets : FnScope n_message_octets p_message_octets (defScope s_message_octets) := ⟨rfl, rfl, rfl, by decide +kernel, rfl, by decide +kernel, by decide +kernel⟩

abbrev s_Message_name : Stmt := inClass (top 56) 0
abbrev n_Message_name : List Str := ["self", "peer"]
abbrev p_Message_name : List Str := ["self"]
theorem sc_Message_name : FnScope n_Message_name p_Message_name (defScope s_Message_name) := ⟨rfl, rfl, rfl, by decide +kernel, rfl, by decide +kernel, by decide +kernel⟩

abbrev s_Message_stamp : Stmt := inClass (top 56) 1
abbrev n_Message_stamp : List Str := ["self", "clock"]
abbrev p_Message_stamp : List Str := ["self"]
theorem sc_Message_stamp : FnScope n_Message_stamp p_Message_stamp (defScope s_Message_stamp) := ⟨rfl, rfl, rfl, by decide +kernel, rfl, by decide +kernel, by decide +kernel⟩

abbrev s_Message_worth : Stmt := inClass (top 56) 2
abbrev n_Message_worth : List Str := ["self", "kind"]
abbrev p_Message_worth : List Str := ["self"]
theorem sc_Message_worth : FnScope n_Message_worth p_Message_worth (defScope s_Message_worth) := ⟨rfl, rfl, rfl, by decide +kernel, rfl, by decide +kernel, by decide +kernel⟩

abbrev s_Message_change : Stmt := inClass (top 56) 3
abbrev n_Message_change : List Str := ["self", "stamp", "name", "field"]
abbrev p_Message_change : List Str := ["self"]
theorem sc_Message_change : FnScope n_Message_change p_Message_change (defScope s_Message_change) := ⟨rfl, rfl, rfl, by decide +kernel, rfl, by decide +kernel, by decide +kernel⟩

abbrev s_read_message : Stmt := top 57
abbrev n_read_message : List Str := ["octets", "reader", "sender", "number", "changes", "octet", "change"]
abbrev p_read_message : List Str := ["octets"]
theorem sc_read_message : FnScope n_read_message p_read_message (defScope s_read_message) := ⟨rfl, rfl, rfl, by decide +kernel, rfl, by decide +kernel, by decide +kernel⟩

abbrev s_Replica_init : Stmt := inClass (top 59) 0
abbrev n_Replica_init : List Str := ["self", "peer"]
abbrev p_Replica_init : List Str := ["self", "peer"]
theorem sc_Replica_init : FnScope n_Replica_init p_Replica_init (defScope s_Replica_init) := ⟨rfl, rfl, rfl, by decide +kernel, rfl, by decide +kernel, by decide +kernel⟩

abbrev s_Replica_knows : Stmt := inClass (top 59) 1
abbrev n_Replica_knows : List Str := ["self", "name"]
abbrev p_Replica_knows : List Str := ["self", "name"]
theorem sc_Replica_knows : FnScope n_Replica_knows p_Replica_knows (defScope s_Replica_knows) := ⟨rfl, rfl, rfl, by decide +kernel, rfl, by decide +kernel, by decide +kernel⟩

abbrev s_Replica_check : Stmt := inClass (top 59) 2
abbrev n_Replica_check : List Str := ["self", "name"]
abbrev p_Replica_check : List Str := ["self", "name"]
theorem sc_Replica_check : FnScope n_Replica_check p_Replica_check (defScope s_Replica_check) := ⟨rfl, rfl, rfl, by decide +kernel, rfl, by decide +kernel, by decide +kernel⟩

abbrev s_Replica_begin : Stmt := inClass (top 59) 3
abbrev n_Replica_begin : List Str := ["self"]
abbrev p_Replica_begin : List Str := ["self"]
theorem sc_Replica_begin : FnScope n_Replica_begin p_Replica_begin (defScope s_Replica_begin) := ⟨rfl, rfl, rfl, by decide +kernel, rfl, by decide +kernel, by decide +kernel⟩

abbrev s_Replica_put : Stmt := inClass (top 59) 4
abbrev n_Replica_put : List Str := ["self", "name", "field", "value"]
abbrev p_Replica_put : List Str := ["self", "name", "field", "value"]
theorem sc_Replica_put : FnScope n_Replica_put p_Replica_put (defScope s_Replica_put) := ⟨rfl, rfl, rfl, by decide +kernel, rfl, by decide +kernel, by decide +kernel⟩

abbrev s_Replica_note : Stmt := inClass (top 59) 5
abbrev n_Replica_note : List Str := ["self", "name", "field", "value", "change"]
abbrev p_Replica_note : List Str := ["self", "name", "field", "value"]
theorem sc_Replica_note : FnScope n_Replica_note p_Replica_note (defScope s_Replica_note) := ⟨rfl, rfl, rfl, by decide +kernel, rfl, by decide +kernel, by decide +kernel⟩

abbrev s_Replica_hold : Stmt := inClass (top 59) 6
abbrev n_Replica_hold : List Str := ["self", "name"]
abbrev p_Replica_hold : List Str := ["self", "name"]
theorem sc_Replica_hold : FnScope n_Replica_hold p_Replica_hold (defScope s_Replica_hold) := ⟨rfl, rfl, rfl, by decide +kernel, rfl, by decide +kernel, by decide +kernel⟩

abbrev s_Replica_count : Stmt := inClass (top 59) 8
abbrev n_Replica_count : List Str := ["self", "sender", "number"]
abbrev p_Replica_count : List Str := ["self", "sender"]
theorem sc_Replica_count : FnScope n_Replica_count p_Replica_count (defScope s_Replica_count) := ⟨rfl, rfl, rfl, by decide +kernel, rfl, by decide +kernel, by decide +kernel⟩

abbrev s_Replica_send : Stmt := inClass (top 59) 11
abbrev n_Replica_send : List Str := ["self", "number"]
abbrev p_Replica_send : List Str := ["self"]
theorem sc_Replica_send : FnScope n_Replica_send p_Replica_send (defScope s_Replica_send) := ⟨rfl, rfl, rfl, by decide +kernel, rfl, by decide +kernel, by decide +kernel⟩

abbrev s_Replica_copy_of : Stmt := inClass (top 59) 12
abbrev n_Replica_copy_of : List Str := ["self", "sender", "number"]
abbrev p_Replica_copy_of : List Str := ["self", "sender", "number"]
theorem sc_Replica_copy_of : FnScope n_Replica_copy_of p_Replica_copy_of (defScope s_Replica_copy_of) := ⟨rfl, rfl, rfl, by decide +kernel, rfl, by decide +kernel, by decide +kernel⟩

abbrev s_Replica_accept : Stmt := inClass (top 59) 13
abbrev n_Replica_accept : List Str := ["self", "sender", "number", "changes", "change"]
abbrev p_Replica_accept : List Str := ["self", "sender", "number", "changes"]
theorem sc_Replica_accept : FnScope n_Replica_accept p_Replica_accept (defScope s_Replica_accept) := ⟨rfl, rfl, rfl, by decide +kernel, rfl, by decide +kernel, by decide +kernel⟩

abbrev s_Replica_receive : Stmt := inClass (top 59) 14
abbrev n_Replica_receive : List Str := ["self", "octets", "sender", "number", "changes"]
abbrev p_Replica_receive : List Str := ["self", "octets"]
theorem sc_Replica_receive : FnScope n_Replica_receive p_Replica_receive (defScope s_Replica_receive) := ⟨rfl, rfl, rfl, by decide +kernel, rfl, by decide +kernel, by decide +kernel⟩

abbrev s_Replica_graph : Stmt := inClass (top 59) 15
abbrev n_Replica_graph : List Str := ["self"]
abbrev p_Replica_graph : List Str := ["self"]
theorem sc_Replica_graph : FnScope n_Replica_graph p_Replica_graph (defScope s_Replica_graph) := ⟨rfl, rfl, rfl, by decide +kernel, rfl, by decide +kernel, by decide +kernel⟩

abbrev s_are_together : Stmt := top 61
abbrev n_are_together : List Str := ["replicas", "known", "replica"]
abbrev p_are_together : List Str := ["replicas"]
theorem sc_are_together : FnScope n_are_together p_are_together (defScope s_are_together) := ⟨rfl, rfl, rfl, by decide +kernel, rfl, by decide +kernel, by decide +kernel⟩

abbrev s_Network_init : Stmt := inClass (top 63) 0
abbrev n_Network_init : List Str := ["self", "many", "one", "other", "peer"]
abbrev p_Network_init : List Str := ["self", "many"]
theorem sc_Network_init : FnScope n_Network_init p_Network_init (defScope s_Network_init) := ⟨rfl, rfl, rfl, by decide +kernel, rfl, by decide +kernel, by decide +kernel⟩

abbrev s_Network_say : Stmt := inClass (top 63) 1
abbrev n_Network_say : List Str := ["self", "peer", "octets", "one", "other"]
abbrev p_Network_say : List Str := ["self", "peer"]
theorem sc_Network_say : FnScope n_Network_say p_Network_say (defScope s_Network_say) := ⟨rfl, rfl, rfl, by decide +kernel, rfl, by decide +kernel, by decide +kernel⟩

abbrev s_Network_deliver : Stmt := inClass (top 63) 3
abbrev n_Network_deliver : List Str := ["self", "one", "other", "place", "octets", "fresh"]
abbrev p_Network_deliver : List Str := ["self", "one", "other", "place"]
theorem sc_Network_deliver : FnScope n_Network_deliver p_Network_deliver (defScope s_Network_deliver) := ⟨rfl, rfl, rfl, by decide +kernel, rfl, by decide +kernel, by decide +kernel⟩

abbrev s_Network_settle : Stmt := inClass (top 63) 5
abbrev n_Network_settle : List Str := ["self", "many", "replica", "other"]
abbrev p_Network_settle : List Str := ["self"]
theorem sc_Network_settle : FnScope n_Network_settle p_Network_settle (defScope s_Network_settle) := ⟨rfl, rfl, rfl, by decide +kernel, rfl, by decide +kernel, by decide +kernel⟩

abbrev s__law_cell : Stmt := top 65
abbrev n__law_cell : List Str := ["_law_script", "_law_k"]
abbrev p__law_cell : List Str := ["_law_script", "_law_k"]
theorem sc__law_cell : FnScope n__law_cell p__law_cell (defScope s__law_cell) := ⟨rfl, rfl, rfl, by decide +kernel, rfl, by decide +kernel, by decide +kernel⟩

abbrev s__law_row : Stmt := top 66
abbrev n__law_row : List Str := ["_law_cell_here", "_law_k", "_law_many", "_law_row_here", "_law_turn", "_law_seed"]
abbrev p__law_row : List Str := ["_law_cell_here", "_law_k", "_law_many"]
theorem sc__law_row : FnScope n__law_row p__law_row (defScope s__law_row) := ⟨rfl, rfl, rfl, by decide +kernel, rfl, by decide +kernel, by decide +kernel⟩

abbrev s__law_box : Stmt := top 67
abbrev n__law_box : List Str := ["_law_script", "_law_first", "_law_last", "_law_row_here", "_law_k"]
abbrev p__law_box : List Str := ["_law_script", "_law_first", "_law_last"]
theorem sc__law_box : FnScope n__law_box p__law_box (defScope s__law_box) := ⟨rfl, rfl, rfl, by decide +kernel, rfl, by decide +kernel, by decide +kernel⟩

abbrev s__law_draw : Stmt := top 68
abbrev n__law_draw : List Str := ["_law_box_here", "_law_many", "_law_at"]
abbrev p__law_draw : List Str := ["_law_box_here", "_law_many"]
theorem sc__law_draw : FnScope n__law_draw p__law_draw (defScope s__law_draw) := ⟨rfl, rfl, rfl, by decide +kernel, rfl, by decide +kernel, by decide +kernel⟩

abbrev s__law_pick : Stmt := top 69
abbrev n__law_pick : List Str := ["_law_box_here", "_law_row_here"]
abbrev p__law_pick : List Str := ["_law_box_here", "_law_row_here"]
theorem sc__law_pick : FnScope n__law_pick p__law_pick (defScope s__law_pick) := ⟨rfl, rfl, rfl, by decide +kernel, rfl, by decide +kernel, by decide +kernel⟩

abbrev s__law_target : Stmt := top 70
abbrev n__law_target : List Str := ["_law_value"]
abbrev p__law_target : List Str := ["_law_value"]
theorem sc__law_target : FnScope n__law_target p__law_target (defScope s__law_target) := ⟨rfl, rfl, rfl, by decide +kernel, rfl, by decide +kernel, by decide +kernel⟩

abbrev s__law_worth : Stmt := top 71
abbrev n__law_worth : List Str := ["_law_box_here", "_law_names", "_law_kind"]
abbrev p__law_worth : List Str := ["_law_box_here", "_law_names"]
theorem sc__law_worth : FnScope n__law_worth p__law_worth (defScope s__law_worth) := ⟨rfl, rfl, rfl, by decide +kernel, rfl, by decide +kernel, by decide +kernel⟩

abbrev s__law_field : Stmt := top 72
abbrev n__law_field : List Str := ["_law_box_here"]
abbrev p__law_field : List Str := ["_law_box_here"]
theorem sc__law_field : FnScope n__law_field p__law_field (defScope s__law_field) := ⟨rfl, rfl, rfl, by decide +kernel, rfl, by decide +kernel, by decide +kernel⟩

abbrev s__law_cells : Stmt := top 73
abbrev n__law_cells : List Str := ["_law_changes", "_law_cells_here", "_law_change", "_law_key"]
abbrev p__law_cells : List Str := ["_law_changes"]
theorem sc__law_cells : FnScope n__law_cells p__law_cells (defScope s__law_cells) := ⟨rfl, rfl, rfl, by decide +kernel, rfl, by decide +kernel, by decide +kernel⟩

abbrev s__law_reach : Stmt := top 74
abbrev n__law_reach : List Str := ["_law_cells_here", "_law_roots", "_law_found", "_law_name", "_law_place", "_law_key", "_law_target_here"]
abbrev p__law_reach : List Str := ["_law_cells_here", "_law_roots"]
theorem sc__law_reach : FnScope n__law_reach p__law_reach (defScope s__law_reach) := ⟨rfl, rfl, rfl, by decide +kernel, rfl, by decide +kernel, by decide +kernel⟩

abbrev s__law_graph : Stmt := top 75
abbrev n__law_graph : List Str := ["_law_cells_here", "_law_roots", "_law_names", "_law_things", "_law_name", "_law_fields", "_law_key", "_law_value"]
abbrev p__law_graph : List Str := ["_law_cells_here", "_law_roots"]
theorem sc__law_graph : FnScope n__law_graph p__law_graph (defScope s__law_graph) := ⟨rfl, rfl, rfl, by decide +kernel, rfl, by decide +kernel, by decide +kernel⟩

abbrev s__law_known : Stmt := top 76
abbrev n__law_known : List Str := ["_law_replica", "_law_names", "_law_key", "_law_target_here", "_law_count"]
abbrev p__law_known : List Str := ["_law_replica"]
theorem sc__law_known : FnScope n__law_known p__law_known (defScope s__law_known) := ⟨rfl, rfl, rfl, by decide +kernel, rfl, by decide +kernel, by decide +kernel⟩

abbrev s__law_deed : Stmt := top 77
abbrev n__law_deed : List Str := ["_law_box_here", "_law_replica", "_law_kind", "_law_names", "_law_fresh"]
abbrev p__law_deed : List Str := ["_law_box_here", "_law_replica"]
theorem sc__law_deed : FnScope n__law_deed p__law_deed (defScope s__law_deed) := ⟨rfl, rfl, rfl, by decide +kernel, rfl, by decide +kernel, by decide +kernel⟩

abbrev s__law_readable : Stmt := top 78
abbrev n__law_readable : List Str := ["_law_octets"]
abbrev p__law_readable : List Str := ["_law_octets"]
theorem sc__law_readable : FnScope n__law_readable p__law_readable (defScope s__law_readable) := ⟨rfl, rfl, rfl, by decide +kernel, rfl, by decide +kernel, by decide +kernel⟩

abbrev s__law_session : Stmt := top 79
abbrev n__law_session : List Str := ["_law_box_here", "_law_network", "_law_deeds", "_law_made", "_law_pairs", "_law_turn", "_law_kind", "_law_peer", "_law_pair", "_law_channel", "_law_many", "_law_place", "_law_fault"]
abbrev p__law_session : List Str := ["_law_box_here", "_law_network", "_law_deeds"]
theorem sc__law_session : FnScope n__law_session p__law_session (defScope s__law_session) := ⟨rfl, rfl, rfl, by decide +kernel, rfl, by decide +kernel, by decide +kernel⟩

abbrev s_law : Stmt := top 80
abbrev n_law : List Str := ["_law_script", "_law_box_here", "_law_network", "_law_made", "_law_part", "_law_replica", "_law_changes", "_law_key", "_law_one", "_law_other", "_law_stamps", "_law_due", "_law_late", "_law_change"]
abbrev p_law : List Str := ["_law_script"]
theorem sc_law : FnScope n_law p_law (defScope s_law) := ⟨rfl, rfl, rfl, by decide +kernel, rfl, by decide +kernel, by decide +kernel⟩

def d_Channel_init : He.DefD := ⟨("Channel", some "__init__"), "__init__", "Channel.__init__", defArgs s_Channel_init, defBody s_Channel_init, defScope s_Channel_init, [], []⟩
def d_Channel_check : He.DefD := ⟨("Channel", some "check"), "check", "Channel.check", defArgs s_Channel_check, defBody s_Channel_check, defScope s_Channel_check, [], []⟩
def d_Channel_put : He.DefD := ⟨("Channel", some "put"), "put", "Channel.put", defArgs s_Channel_put, defBody s_Channel_put, defScope s_Channel_put, [], []⟩
def d_Channel_lose : He.DefD := ⟨("Channel", some "lose"), "lose", "Channel.lose", defArgs s_Channel_lose, defBody s_Channel_lose, defScope s_Channel_lose, [], []⟩
def d_Channel_double : He.DefD := ⟨("Channel", some "double"), "double", "Channel.double", defArgs s_Channel_double, defBody s_Channel_double, defScope s_Channel_double, [], []⟩
def d_Channel_exchange : He.DefD := ⟨("Channel", some "exchange"), "exchange", "Channel.exchange", defArgs s_Channel_exchange, defBody s_Channel_exchange, defScope s_Channel_exchange, [], []⟩
def d_Channel_damage : He.DefD := ⟨("Channel", some "damage"), "damage", "Channel.damage", defArgs s_Channel_damage, defBody s_Channel_damage, defScope s_Channel_damage, [], []⟩
def d_Channel_take : He.DefD := ⟨("Channel", some "take"), "take", "Channel.take", defArgs s_Channel_take, defBody s_Channel_take, defScope s_Channel_take, [], []⟩
def d_target_of : He.DefD := ⟨("target_of", none), "target_of", "target_of", defArgs s_target_of, defBody s_target_of, defScope s_target_of, [], []⟩
def d_is_reference : He.DefD := ⟨("is_reference", none), "is_reference", "is_reference", defArgs s_is_reference, defBody s_is_reference, defScope s_is_reference, [], []⟩
def d_ranges_of : He.DefD := ⟨("ranges_of", none), "ranges_of", "ranges_of", defArgs s_ranges_of, defBody s_ranges_of, defScope s_ranges_of, [], []⟩
def d_numbers_of : He.DefD := ⟨("numbers_of", none), "numbers_of", "numbers_of", defArgs s_numbers_of, defBody s_numbers_of, defScope s_numbers_of, [], []⟩
def d_told : He.DefD := ⟨("told", none), "told", "told", defArgs s_told, defBody s_told, defScope s_told, [], []⟩
def d_outside : He.DefD := ⟨("outside", none), "outside", "outside", defArgs s_outside, defBody s_outside, defScope s_outside, [], []⟩
def d_lacking : He.DefD := ⟨("lacking", none), "lacking", "lacking", defArgs s_lacking, defBody s_lacking, defScope s_lacking, [], []⟩
def d_answer : He.DefD := ⟨("answer", none), "answer", "answer", defArgs s_answer, defBody s_answer, defScope s_answer, [], []⟩
def d_bring : He.DefD := ⟨("bring", none), "bring", "bring", defArgs s_bring, defBody s_bring, defScope s_bring, [], []⟩
def d_reachable : He.DefD := ⟨("reachable", none), "reachable", "reachable", defArgs s_reachable, defBody s_reachable, defScope s_reachable, [], []⟩
def d_numbered_value : He.DefD := ⟨("numbered_value", none), "numbered_value", "numbered_value", defArgs s_numbered_value, defBody s_numbered_value, defScope s_numbered_value, [], []⟩
def d_numbered : He.DefD := ⟨("numbered", none), "numbered", "numbered", defArgs s_numbered, defBody s_numbered, defScope s_numbered, [], []⟩
def d_are_alike : He.DefD := ⟨("are_alike", none), "are_alike", "are_alike", defArgs s_are_alike, defBody s_are_alike, defScope s_are_alike, [], []⟩
def d_is_later : He.DefD := ⟨("is_later", none), "is_later", "is_later", defArgs s_is_later, defBody s_is_later, defScope s_is_later, [], []⟩
def d_State_init : He.DefD := ⟨("State", some "__init__"), "__init__", "State.__init__", defArgs s_State_init, defBody s_State_init, defScope s_State_init, [], []⟩
def d_State_take : He.DefD := ⟨("State", some "take"), "take", "State.take", defArgs s_State_take, defBody s_State_take, defScope s_State_take, [], []⟩
def d_State_value : He.DefD := ⟨("State", some "value"), "value", "State.value", defArgs s_State_value, defBody s_State_value, defScope s_State_value, [], []⟩
def d_State_fields : He.DefD := ⟨("State", some "fields"), "fields", "State.fields", defArgs s_State_fields, defBody s_State_fields, defScope s_State_fields, [], []⟩
def d_State_names : He.DefD := ⟨("State", some "names"), "names", "State.names", defArgs s_State_names, defBody s_State_names, defScope s_State_names, [], []⟩
def d_number_octets : He.DefD := ⟨("number_octets", none), "number_octets", "number_octets", defArgs s_number_octets, defBody s_number_octets, defScope s_number_octets, [], []⟩
def d_word_octets : He.DefD := ⟨("word_octets", none), "word_octets", "word_octets", defArgs s_word_octets, defBody s_word_octets, defScope s_word_octets, [], []⟩
def d_Message_init : He.DefD := ⟨("Message", some "__init__"), "__init__", "Reader.__init__", defArgs s_Message_init, defBody s_Message_init, defScope s_Message_init, [], []⟩
def d_Message_octet : He.DefD := ⟨("Message", some "octet"), "octet", "Reader.octet", defArgs s_Message_octet, defBody s_Message_octet, defScope s_Message_octet, [], []⟩
def d_Message_number : He.DefD := ⟨("Message", some "number"), "number", "Reader.number", defArgs s_Message_number, defBody s_Message_number, defScope s_Message_number, [], []⟩
def d_Message_letters : He.DefD := ⟨("Message", some "letters"), "letters", "Reader.letters", defArgs s_Message_letters, defBody s_Message_letters, defScope s_Message_letters, [], []⟩
def d_name_octets : He.DefD := ⟨("name_octets", none), "name_octets", "name_octets", defArgs s_name_octets, defBody s_name_octets, defScope s_name_octets, [], []⟩
def d_worth_octets : He.DefD := ⟨("worth_octets", none), "worth_octets", "worth_octets", defArgs s_worth_octets, defBody s_worth_octets, defScope s_worth_octets, [], []⟩
def d_change_octets : He.DefD := ⟨("change_octets", none), "change_octets", "change_octets", defArgs s_change_octets, defBody s_change_octets, defScope s_change_octets, [], []⟩
def d_check_of : He.DefD := ⟨("check_of", none), "check_of", "check_of", defArgs s_check_of, defBody s_check_of, defScope s_check_of, [], []⟩
def d_message_octets : He.DefD := ⟨("message_octets", none), "message_octets", "message_octets", defArgs s_message_octets, defBody s_message_octets, defScope s_message_octets, [], []⟩
def d_Message_name : He.DefD := ⟨("Message", some "name"), "name", "Message.name", defArgs s_Message_name, defBody s_Message_name, defScope s_Message_name, [], []⟩
def d_Message_stamp : He.DefD := ⟨("Message", some "stamp"), "stamp", "Message.stamp", defArgs s_Message_stamp, defBody s_Message_stamp, defScope s_Message_stamp, [], []⟩
def d_Message_worth : He.DefD := ⟨("Message", some "worth"), "worth", "Message.worth", defArgs s_Message_worth, defBody s_Message_worth, defScope s_Message_worth, [], []⟩
def d_Message_change : He.DefD := ⟨("Message", some "change"), "change", "Message.change", defArgs s_Message_change, defBody s_Message_change, defScope s_Message_change, [], []⟩
def d_read_message : He.DefD := ⟨("read_message", none), "read_message", "read_message", defArgs s_read_message, defBody s_read_message, defScope s_read_message, [], []⟩
def d_Replica_init : He.DefD := ⟨("Replica", some "__init__"), "__init__", "Replica.__init__", defArgs s_Replica_init, defBody s_Replica_init, defScope s_Replica_init, [], []⟩
def d_Replica_knows : He.DefD := ⟨("Replica", some "knows"), "knows", "Replica.knows", defArgs s_Replica_knows, defBody s_Replica_knows, defScope s_Replica_knows, [], []⟩
def d_Replica_check : He.DefD := ⟨("Replica", some "check"), "check", "Replica.check", defArgs s_Replica_check, defBody s_Replica_check, defScope s_Replica_check, [], []⟩
def d_Replica_begin : He.DefD := ⟨("Replica", some "begin"), "begin", "Replica.begin", defArgs s_Replica_begin, defBody s_Replica_begin, defScope s_Replica_begin, [], []⟩
def d_Replica_put : He.DefD := ⟨("Replica", some "put"), "put", "Replica.put", defArgs s_Replica_put, defBody s_Replica_put, defScope s_Replica_put, [], []⟩
def d_Replica_note : He.DefD := ⟨("Replica", some "note"), "note", "Replica.note", defArgs s_Replica_note, defBody s_Replica_note, defScope s_Replica_note, [], []⟩
def d_Replica_hold : He.DefD := ⟨("Replica", some "hold"), "hold", "Replica.hold", defArgs s_Replica_hold, defBody s_Replica_hold, defScope s_Replica_hold, [], []⟩
def d_Replica_count : He.DefD := ⟨("Replica", some "count"), "count", "Replica.count", defArgs s_Replica_count, defBody s_Replica_count, defScope s_Replica_count, [], []⟩
def d_Replica_send : He.DefD := ⟨("Replica", some "send"), "send", "Replica.send", defArgs s_Replica_send, defBody s_Replica_send, defScope s_Replica_send, [], []⟩
def d_Replica_copy_of : He.DefD := ⟨("Replica", some "copy_of"), "copy_of", "Replica.copy_of", defArgs s_Replica_copy_of, defBody s_Replica_copy_of, defScope s_Replica_copy_of, [], []⟩
def d_Replica_accept : He.DefD := ⟨("Replica", some "accept"), "accept", "Replica.accept", defArgs s_Replica_accept, defBody s_Replica_accept, defScope s_Replica_accept, [], []⟩
def d_Replica_receive : He.DefD := ⟨("Replica", some "receive"), "receive", "Replica.receive", defArgs s_Replica_receive, defBody s_Replica_receive, defScope s_Replica_receive, [], []⟩
def d_Replica_graph : He.DefD := ⟨("Replica", some "graph"), "graph", "Replica.graph", defArgs s_Replica_graph, defBody s_Replica_graph, defScope s_Replica_graph, [], []⟩
def d_are_together : He.DefD := ⟨("are_together", none), "are_together", "are_together", defArgs s_are_together, defBody s_are_together, defScope s_are_together, [], []⟩
def d_Network_init : He.DefD := ⟨("Network", some "__init__"), "__init__", "Network.__init__", defArgs s_Network_init, defBody s_Network_init, defScope s_Network_init, [], []⟩
def d_Network_say : He.DefD := ⟨("Network", some "say"), "say", "Network.say", defArgs s_Network_say, defBody s_Network_say, defScope s_Network_say, [], []⟩
def d_Network_deliver : He.DefD := ⟨("Network", some "deliver"), "deliver", "Network.deliver", defArgs s_Network_deliver, defBody s_Network_deliver, defScope s_Network_deliver, [], []⟩
def d_Network_settle : He.DefD := ⟨("Network", some "settle"), "settle", "Network.settle", defArgs s_Network_settle, defBody s_Network_settle, defScope s_Network_settle, [], []⟩
def d__law_cell : He.DefD := ⟨("_law_cell", none), "_law_cell", "_law_cell", defArgs s__law_cell, defBody s__law_cell, defScope s__law_cell, [], []⟩
def d__law_row : He.DefD := ⟨("_law_row", none), "_law_row", "_law_row", defArgs s__law_row, defBody s__law_row, defScope s__law_row, [], []⟩
def d__law_box : He.DefD := ⟨("_law_box", none), "_law_box", "_law_box", defArgs s__law_box, defBody s__law_box, defScope s__law_box, [], []⟩
def d__law_draw : He.DefD := ⟨("_law_draw", none), "_law_draw", "_law_draw", defArgs s__law_draw, defBody s__law_draw, defScope s__law_draw, [], []⟩
def d__law_pick : He.DefD := ⟨("_law_pick", none), "_law_pick", "_law_pick", defArgs s__law_pick, defBody s__law_pick, defScope s__law_pick, [], []⟩
def d__law_target : He.DefD := ⟨("_law_target", none), "_law_target", "_law_target", defArgs s__law_target, defBody s__law_target, defScope s__law_target, [], []⟩
def d__law_worth : He.DefD := ⟨("_law_worth", none), "_law_worth", "_law_worth", defArgs s__law_worth, defBody s__law_worth, defScope s__law_worth, [], []⟩
def d__law_field : He.DefD := ⟨("_law_field", none), "_law_field", "_law_field", defArgs s__law_field, defBody s__law_field, defScope s__law_field, [], []⟩
def d__law_cells : He.DefD := ⟨("_law_cells", none), "_law_cells", "_law_cells", defArgs s__law_cells, defBody s__law_cells, defScope s__law_cells, [], []⟩
def d__law_reach : He.DefD := ⟨("_law_reach", none), "_law_reach", "_law_reach", defArgs s__law_reach, defBody s__law_reach, defScope s__law_reach, [], []⟩
def d__law_graph : He.DefD := ⟨("_law_graph", none), "_law_graph", "_law_graph", defArgs s__law_graph, defBody s__law_graph, defScope s__law_graph, [], []⟩
def d__law_known : He.DefD := ⟨("_law_known", none), "_law_known", "_law_known", defArgs s__law_known, defBody s__law_known, defScope s__law_known, [], []⟩
def d__law_deed : He.DefD := ⟨("_law_deed", none), "_law_deed", "_law_deed", defArgs s__law_deed, defBody s__law_deed, defScope s__law_deed, [], []⟩
def d__law_readable : He.DefD := ⟨("_law_readable", none), "_law_readable", "_law_readable", defArgs s__law_readable, defBody s__law_readable, defScope s__law_readable, [], []⟩
def d__law_session : He.DefD := ⟨("_law_session", none), "_law_session", "_law_session", defArgs s__law_session, defBody s__law_session, defScope s__law_session, [], []⟩
def d_law : He.DefD := ⟨("law", none), "law", "law", defArgs s_law, defBody s_law, defScope s_law, [], []⟩
def fnL : List He.DefD := [d_Channel_init, d_Channel_check, d_Channel_put, d_Channel_lose, d_Channel_double, d_Channel_exchange, d_Channel_damage, d_Channel_take, d_target_of, d_is_reference, d_ranges_of, d_numbers_of, d_told, d_outside, d_lacking, d_answer, d_bring, d_reachable, d_numbered_value, d_numbered, d_are_alike, d_is_later, d_State_init, d_State_take, d_State_value, d_State_fields, d_State_names, d_number_octets, d_word_octets, d_Message_init, d_Message_octet, d_Message_number, d_Message_letters, d_name_octets, d_worth_octets, d_change_octets, d_check_of, d_message_octets, d_Message_name, d_Message_stamp, d_Message_worth, d_Message_change, d_read_message, d_Replica_init, d_Replica_knows, d_Replica_check, d_Replica_begin, d_Replica_put, d_Replica_note, d_Replica_hold, d_Replica_count, d_Replica_send, d_Replica_copy_of, d_Replica_accept, d_Replica_receive, d_Replica_graph, d_are_together, d_Network_init, d_Network_say, d_Network_deliver, d_Network_settle, d__law_cell, d__law_row, d__law_box, d__law_draw, d__law_pick, d__law_target, d__law_worth, d__law_field, d__law_cells, d__law_reach, d__law_graph, d__law_known, d__law_deed, d__law_readable, d__law_session, d_law]
def faL : List He.Fa := [.free "len", .free "int", .free "min", .free "max", .free "sorted", .free "set", .free "list", .free "range", .free "enumerate", .free "isinstance", .free "tuple", .free "str", .free "super", .free "sum", .glo "target_of", .glo "is_reference", .glo "ranges_of", .glo "numbers_of", .glo "told", .glo "outside", .glo "lacking", .glo "answer", .glo "bring", .glo "reachable", .glo "numbered_value", .glo "numbered", .glo "are_alike", .glo "is_later", .glo "number_octets", .glo "word_octets", .glo "name_octets", .glo "worth_octets", .glo "change_octets", .glo "check_of", .glo "message_octets", .glo "read_message", .glo "are_together", .glo "_law_cell", .glo "_law_row", .glo "_law_box", .glo "_law_draw", .glo "_law_pick", .glo "_law_target", .glo "_law_worth", .glo "_law_field", .glo "_law_cells", .glo "_law_reach", .glo "_law_graph", .glo "_law_known", .glo "_law_deed", .glo "_law_readable", .glo "_law_session", .glo "law", .glo "Channel", .glo "State", .glo "Message", .glo "Replica", .glo "Network", .glo "CodeError", .glo "ROOT", .glo "UNITS", .int "PEERS" 8, .int "COUNT_MOST" 4294967295, .int "FIELD_MOST" 8, .int "TEXT_MOST" 20, .int "INTEGER_MOST" 1000000, .int "INTEGER" 1, .int "TEXT" 2, .int "REFERENCE" 3, .int "CODE" 97, .int "NOTHING" 0, .int "CHANGES_MOST" 65535, .str "LETTERS" "abcdefghijklmnopqrstuvwxyz", .str "REF" "ref", .cls "Channel", .mkr "Channel", .cls "State", .mkr "State", .cls "Message", .mkr "Message", .cls "Replica", .mkr "Replica", .cls "Network", .mkr "Network", .noat "Channel" "under_way", .noat "State" "cells", .noat "Message" "octets", .noat "Message" "place", .noat "Message" "known", .noat "Replica" "peer", .noat "Replica" "clock", .noat "Replica" "made", .noat "Replica" "state", .noat "Replica" "roots", .noat "Replica" "pending", .noat "Replica" "messages", .noat "Network" "replicas", .noat "Network" "channels", .meth "Channel" "check", .meth "Channel" "put", .meth "Channel" "lose", .meth "Channel" "double", .meth "Channel" "exchange", .meth "Channel" "damage", .meth "Channel" "take", .meth "State" "take", .meth "State" "value", .meth "State" "fields", .meth "State" "names", .meth "Message" "octet", .meth "Message" "number", .meth "Message" "letters", .meth "Message" "name", .meth "Message" "stamp", .meth "Message" "worth", .meth "Message" "change", .meth "Replica" "knows", .meth "Replica" "check", .meth "Replica" "begin", .meth "Replica" "put", .meth "Replica" "note", .meth "Replica" "hold", .meth "Replica" "count", .meth "Replica" "send", .meth "Replica" "copy_of", .meth "Replica" "accept", .meth "Replica" "receive", .meth "Replica" "graph", .meth "Network" "say", .meth "Network" "deliver", .meth "Network" "settle", .exm "CodeError" "CodeError" true]
/-! CodeError and its __init__ -/
abbrev ErrW : Type := Option (Str × Str × Arguments × FuncBody × Scope × Addr × List Str × Addr)
abbrev errAt : Str × Option Str := ("CodeError", some "__init__")
def errW (K : PySem.W.Frag) : ErrW := match K.lookup (He.fAd K errAt) with
  | some ⟨_, _, .func fd, _⟩ => some (fd.name, fd.qualname, fd.params, fd.body, fd.scope, fd.globals, fd.closure.map (·.1), fd.builtins)
  | _ => none
def errVal : ErrW := some ("__init__", "CodeError.__init__", defArgs sErr, .stmts (defBody sErr), defScope sErr, mainGlobals, ["__class__"], builtinsNs)
def ccOf (K : PySem.W.Frag) : Addr × Addr := match K.lookup (He.fAd K errAt) with
  | some ⟨_, _, .func fd, _⟩ => (match fd.closure, fd.code with
    | [(_, cc)], .ref c => (cc, c)
    | _, _ => (0, 0))
  | _ => (0, 0)
def errB1 (K : PySem.W.Frag) : Bool := match K.lookup (He.fAd K errAt) with
  | some ⟨_, _, .func fd, _⟩ => decide (fd.closure.map (·.2) = [(ccOf K).1]) && (decide (fd.code = .ref (ccOf K).2) && (decide (fd.defaults = .none) && (decide (fd.kwdefaults = .none) && fd.annotations.isNone)))
  | _ => false
abbrev progF : Str := PySem.Challenge.pw_graphtwins_k90_whole_alike_in_the_end.main.file
def errB2 (K : PySem.W.Frag) : Bool := match K.lookup (ccOf K).2 with
  | some ⟨_, _, .fields vs, _⟩ => (match (vs[2]? : Option Value) with
    | some (.str f _) => progF == f
    | _ => false)
  | _ => false
def errB3 (K : PySem.W.Frag) : Bool := match K.lookup (ccOf K).1 with
  | some ⟨_, _, .cell (some (.ref C)), _⟩ => decide (C = He.ga K "CodeError")
  | _ => false
def errB4 (K : PySem.W.Frag) (C : Addr) : Bool := match K.lookup C with
  | some ⟨.type t, _, .cls cd, sl⟩ => (match cd.mro, sl.toList with
    | .ref C' :: bm, [_, _, _, _, some (.builtin n), _] => decide (t = "type") && (decide (C' = C) && (decide (n = "ValueError.__new__") && (!cd.hasDel && (cd.hasDict && PySem.HandSPX.refsVE bm))))
    | _, _ => false)
  | _ => false
def errB5 (K : PySem.W.Frag) (C f : Addr) : Bool :=
  decide (PySem.W.findIn K (.ref C) "__setattr__" = some (some (.builtin "object.__setattr__"))) && (decide (PySem.W.subIn K (.ref C) (.type "BaseException") = some true) && (decide (PySem.W.typeIn K (.ref C) = some (.type "type")) && (PySem.W.keepIn K (.ref C) &&
  (decide (PySem.W.mroIn K C (.ref C) = some true) && (decide (PySem.W.nsIn K cStatics "thirdparty.any" = some none) && (decide (PySem.W.ks_superIn K C C "__init__" = some (some (.builtin "ValueError.__init__"))) && (decide (PySem.W.subIn K (.ref C) (.type "ValueError") = some true) &&
  (decide (PySem.W.findIn K (.ref C) "__init__" = some (some (.ref f))) && (decide (PySem.W.typeIn K (.ref f) = some (.type "function")) && (decide (PySem.W.findIn K (.ref C) "place" = some none) && PySem.W.codeIn K (.ref (ccOf K).2) "CodeError.__init__"))))))))))
def tabB (K : PySem.W.Frag) : Bool := He.tupB K "ROOT" [.int 0, .int 0] && He.tupB K "UNITS" [.int 16777216, .int 65536, .int 256, .int 1]
def exB (K : PySem.W.Frag) : Bool := errB1 K && (errB2 K && (errB3 K && (errB4 K (He.ga K "CodeError") && (errB5 K (He.ga K "CodeError") (He.fAd K errAt) && tabB K))))
/-! the Hook: what is looked at, in three parts -/
abbrev AlG : Type := He.AlD × (He.AlD × (Bool × ErrW))
def kG (g : Addr → Option Obj) : PySem.W.Frag := He.frG g (He.asD g 4 ++ [cStatics])
def obsA (g : Addr → Option Obj) : He.AlD := He.obsD faL [] (kG g)
def obsB (g : Addr → Option Obj) : He.AlD := He.obsD [] fnL (kG g)
def obsC (g : Addr → Option Obj) : Bool × ErrW := (exB (kG g), errW (kG g))
def valA : He.AlD := He.valD []
def valB : He.AlD := He.valD fnL
def valC : Bool × ErrW := (true, errVal)
def hkG : PySem.W.Hook where
  α := AlG
  obs := fun s => (obsA s.heap.get?, obsB s.heap.get?, obsC s.heap.get?)
  val := fun _ => (valA, valB, valC)
  says := fun _ h => ∃ K : PySem.W.Frag, K.In h ∧ He.SaysD faL [] K ∧ He.SaysD [] fnL K ∧ exB K = true ∧ errW K = errVal
  of := fun _ s e => ⟨kG s.heap.get?, He.frG_in, congrArg (fun z : AlG => z.1) e, congrArg (fun z : AlG => z.2.1) e, congrArg (fun z : AlG => z.2.2.1) e, congrArg (fun z : AlG => z.2.2.2) e⟩
  keeps := fun _ _ _ ⟨K, hK, c⟩ k => ⟨K, PySem.W.Frag.In.keeps hK k, c⟩
/-! what the walks lean on -/
structure TX (P : Program) (K : PySem.W.Frag) (mg : Str → Option Value) : Prop where
  c : He.SaysD faL [] K
  d : He.SaysD [] fnL K
  h : ∃ h : Heap, K.In h ∧ h.Ns mainGlobals mg
  b : exB K = true
  w : errW K = errVal
  file : P.main.file = progF
  nosuper : (P.main.scope.names.lookup ("super" : Str)).isSome = false
section
variable {P : Program} {K : PySem.W.Frag} {mg : Str → Option Value}
theorem TX.f_len (T : TX P K mg) : mg "len" = none := let ⟨_, X, G⟩ := T.h; He.free_ok X G (T.c.fact 0 (f := .free "len") rfl)
theorem TX.f_int (T : TX P K mg) : mg "int" = none := let ⟨_, X, G⟩ := T.h; He.free_ok X G (T.c.fact 1 (f := .free "int") rfl)
theorem TX.f_min (T : TX P K mg) : mg "min" = none := let ⟨_, X, G⟩ := T.h; He.free_ok X G (T.c.fact 2 (f := .free "min") rfl)
theorem TX.f_max (T : TX P K mg) : mg "max" = none := let ⟨_, X, G⟩ := T.h; He.free_ok X G (T.c.fact 3 (f := .free "max") rfl)
theorem TX.f_sorted (T : TX P K mg) : mg "sorted" = none := let ⟨_, X, G⟩ := T.h; He.free_ok X G (T.c.fact 4 (f := .free "sorted") rfl)
theorem TX.f_set (T : TX P K mg) : mg "set" = none := let ⟨_, X, G⟩ := T.h; He.free_ok X G (T.c.fact 5 (f := .free "set") rfl)
theorem TX.f_list (T : TX P K mg) : mg "list" = none := let ⟨_, X, G⟩ := T.h; He.free_ok X G (T.c.fact 6 (f := .free "list") rfl)
theorem TX.f_range (T : TX P K mg) : mg "range" = none := let ⟨_, X, G⟩ := T.h; He.free_ok X G (T.c.fact 7 (f := .free "range") rfl)
theorem TX.f_enumerate (T : TX P K mg) : mg "enumerate" = none := let ⟨_, X, G⟩ := T.h; He.free_ok X G (T.c.fact 8 (f := .free "enumerate") rfl)
theorem TX.f_isinstance (T : TX P K mg) : mg "isinstance" = none := let ⟨_, X, G⟩ := T.h; He.free_ok X G (T.c.fact 9 (f := .free "isinstance") rfl)
theorem TX.f_tuple (T : TX P K mg) : mg "tuple" = none := let ⟨_, X, G⟩ := T.h; He.free_ok X G (T.c.fact 10 (f := .free "tuple") rfl)
theorem TX.f_str (T : TX P K mg) : mg "str" = none := let ⟨_, X, G⟩ := T.h; He.free_ok X G (T.c.fact 11 (f := .free "str") rfl)
theorem TX.f_super (T : TX P K mg) : mg "super" = none := let ⟨_, X, G⟩ := T.h; He.free_ok X G (T.c.fact 12 (f := .free "super") rfl)
theorem TX.f_sum (T : TX P K mg) : mg "sum" = none := let ⟨_, X, G⟩ := T.h; He.free_ok X G (T.c.fact 13 (f := .free "sum") rfl)
theorem TX.g_target_of (T : TX P K mg) : mg "target_of" = some (.ref (He.ga K "target_of")) := let ⟨_, X, G⟩ := T.h; He.glo_ok X G (T.c.fact 14 (f := .glo "target_of") rfl)
theorem TX.g_is_reference (T : TX P K mg) : mg "is_reference" = some (.ref (He.ga K "is_reference")) := let ⟨_, X, G⟩ := T.h; He.glo_ok X G (T.c.fact 15 (f := .glo "is_reference") rfl)
theorem TX.g_ranges_of (T : TX P K mg) : mg "ranges_of" = some (.ref (He.ga K "ranges_of")) := let ⟨_, X, G⟩ := T.h; He.glo_ok X G (T.c.fact 16 (f := .glo "ranges_of") rfl)
theorem TX.g_numbers_of (T : TX P K mg) : mg "numbers_of" = some (.ref (He.ga K "numbers_of")) := let ⟨_, X, G⟩ := T.h; He.glo_ok X G (T.c.fact 17 (f := .glo "numbers_of") rfl)
theorem TX.g_told (T : TX P K mg) : mg "told" = some (.ref (He.ga K "told")) := let ⟨_, X, G⟩ := T.h; He.glo_ok X G (T.c.fact 18 (f := .glo "told") rfl)
theorem TX.g_outside (T : TX P K mg) : mg "outside" = some (.ref (He.ga K "outside")) := let ⟨_, X, G⟩ := T.h; He.glo_ok X G (T.c.fact 19 (f := .glo "outside") rfl)
theorem TX.g_lacking (T : TX P K mg) : mg "lacking" = some (.ref (He.ga K "lacking")) := let ⟨_, X, G⟩ := T.h; He.glo_ok X G (T.c.fact 20 (f := .glo "lacking") rfl)
theorem TX.g_answer (T : TX P K mg) : mg "answer" = some (.ref (He.ga K "answer")) := let ⟨_, X, G⟩ := T.h; He.glo_ok X G (T.c.fact 21 (f := .glo "answer") rfl)
theorem TX.g_bring (T : TX P K mg) : mg "bring" = some (.ref (He.ga K "bring")) := let ⟨_, X, G⟩ := T.h; He.glo_ok X G (T.c.fact 22 (f := .glo "bring") rfl)
theorem TX.g_reachable (T : TX P K mg) : mg "reachable" = some (.ref (He.ga K "reachable")) := let ⟨_, X, G⟩ := T.h; He.glo_ok X G (T.c.fact 23 (f := .glo "reachable") rfl)
theorem TX.g_numbered_value (T : TX P K mg) : mg "numbered_value" = some (.ref (He.ga K "numbered_value")) := let ⟨_, X, G⟩ := T.h; He.glo_ok X G (T.c.fact 24 (f := .glo "numbered_value") rfl)
theorem TX.g_numbered (T : TX P K mg) : mg "numbered" = some (.ref (He.ga K "numbered")) := let ⟨_, X, G⟩ := T.h; He.glo_ok X G (T.c.fact 25 (f := .glo "numbered") rfl)
theorem TX.g_are_alike (T : TX P K mg) : mg "are_alike" = some (.ref (He.ga K "are_alike")) := let ⟨_, X, G⟩ := T.h; He.glo_ok X G (T.c.fact 26 (f := .glo "are_alike") rfl)
theorem TX.g_is_later (T : TX P K mg) : mg "is_later" = some (.ref (He.ga K "is_later")) := let ⟨_, X, G⟩ := T.h; He.glo_ok X G (T.c.fact 27 (f := .glo "is_later") rfl)
theorem TX.g_number_octets (T : TX P K mg) : mg "number_octets" = some (.ref (He.ga K "number_octets")) := let ⟨_, X, G⟩ := T.h; He.glo_ok X G (T.c.fact 28 (f := .glo "number_octets") rfl)
theorem TX.g_word_octets (T : TX P K mg) : mg "word_octets" = some (.ref (He.ga K "word_octets")) := let ⟨_, X, G⟩ := T.h; He.glo_ok X G (T.c.fact 29 (f := .glo "word_octets") rfl)
theorem TX.g_name_octets (T : TX P K mg) : mg "name_octets" = some (.ref (He.ga K "name_octets")) := let ⟨_, X, G⟩ := T.h; He.glo_ok X G (T.c.fact 30 (f := .glo "name_octets") rfl)
theorem TX.g_worth_octets (T : TX P K mg) : mg "worth_octets" = some (.ref (He.ga K "worth_octets")) := let ⟨_, X, G⟩ := T.h; He.glo_ok X G (T.c.fact 31 (f := .glo "worth_octets") rfl)
theorem TX.g_change_octets (T : TX P K mg) : mg "change_octets" = some (.ref (He.ga K "change_octets")) := let ⟨_, X, G⟩ := T.h; He.glo_ok X G (T.c.fact 32 (f := .glo "change_octets") rfl)
theorem TX.g_check_of (T : TX P K mg) : mg "check_of" = some (.ref (He.ga K "check_of")) := let ⟨_, X, G⟩ := T.h; He.glo_ok X G (T.c.fact 33 (f := .glo "check_of") rfl)
theorem TX.g_message_octets (T : TX P K mg) : mg "message_octets" = some (.ref (He.ga K "message_octets")) := let ⟨_, X, G⟩ := T.h; He.glo_ok X G (T.c.fact 34 (f := .glo "message_octets") rfl)
theorem TX.g_read_message (T : TX P K mg) : mg "read_message" = some (.ref (He.ga K "read_message")) := let ⟨_, X, G⟩ := T.h; He.glo_ok X G (T.c.fact 35 (f := .glo "read_message") rfl)
theorem TX.g_are_together (T : TX P K mg) : mg "are_together" = some (.ref (He.ga K "are_together")) := let ⟨_, X, G⟩ := T.h; He.glo_ok X G (T.c.fact 36 (f := .glo "are_together") rfl)
theorem TX.g__law_cell (T : TX P K mg) : mg "_law_cell" = some (.ref (He.ga K "_law_cell")) := let ⟨_, X, G⟩ := T.h; He.glo_ok X G (T.c.fact 37 (f := .glo "_law_cell") rfl)
theorem TX.g__law_row (T : TX P K mg) : mg "_law_row" = some (.ref (He.ga K "_law_row")) := let ⟨_, X, G⟩ := T.h; He.glo_ok X G (T.c.fact 38 (f := .glo "_law_row") rfl)
theorem TX.g__law_box (T : TX P K mg) : mg "_law_box" = some (.ref (He.ga K "_law_box")) := let ⟨_, X, G⟩ := T.h; He.glo_ok X G (T.c.fact 39 (f := .glo "_law_box") rfl)
theorem TX.g__law_draw (T : TX P K mg) : mg "_law_draw" = some (.ref (He.ga K "_law_draw")) := let ⟨_, X, G⟩ := T.h; He.glo_ok X G (T.c.fact 40 (f := .glo "_law_draw") rfl)
theorem TX.g__law_pick (T : TX P K mg) : mg "_law_pick" = some (.ref (He.ga K "_law_pick")) := let ⟨_, X, G⟩ := T.h; He.glo_ok X G (T.c.fact 41 (f := .glo "_law_pick") rfl)
theorem TX.g__law_target (T : TX P K mg) : mg "_law_target" = some (.ref (He.ga K "_law_target")) := let ⟨_, X, G⟩ := T.h; He.glo_ok X G (T.c.fact 42 (f := .glo "_law_target") rfl)
theorem TX.g__law_worth (T : TX P K mg) : mg "_law_worth" = some (.ref (He.ga K "_law_worth")) := let ⟨_, X, G⟩ := T.h; He.glo_ok X G (T.c.fact 43 (f := .glo "_law_worth") rfl)
theorem TX.g__law_field (T : TX P K mg) : mg "_law_field" = some (.ref (He.ga K "_law_field")) := let ⟨_, X, G⟩ := T.h; He.glo_ok X G (T.c.fact 44 (f := .glo "_law_field") rfl)
theorem TX.g__law_cells (T : TX P K mg) : mg "_law_cells" = some (.ref (He.ga K "_law_cells")) := let ⟨_, X, G⟩ := T.h; He.glo_ok X G (T.c.fact 45 (f := .glo "_law_cells") rfl)
theorem TX.g__law_reach (T : TX P K mg) : mg "_law_reach" = some (.ref (He.ga K "_law_reach")) := let ⟨_, X, G⟩ := T.h; He.glo_ok X G (T.c.fact 46 (f := .glo "_law_reach") rfl)
theorem TX.g__law_graph (T : TX P K mg) : mg "_law_graph" = some (.ref (He.ga K "_law_graph")) := let ⟨_, X, G⟩ := T.h; He.glo_ok X G (T.c.fact 47 (f := .glo "_law_graph") rfl)
theorem TX.g__law_known (T : TX P K mg) : mg "_law_known" = some (.ref (He.ga K "_law_known")) := let ⟨_, X, G⟩ := T.h; He.glo_ok X G (T.c.fact 48 (f := .glo "_law_known") rfl)
theorem TX.g__law_deed (T : TX P K mg) : mg "_law_deed" = some (.ref (He.ga K "_law_deed")) := let ⟨_, X, G⟩ := T.h; He.glo_ok X G (T.c.fact 49 (f := .glo "_law_deed") rfl)
theorem TX.g__law_readable (T : TX P K mg) : mg "_law_readable" = some (.ref (He.ga K "_law_readable")) := let ⟨_, X, G⟩ := T.h; He.glo_ok X G (T.c.fact 50 (f := .glo "_law_readable") rfl)
theorem TX.g__law_session (T : TX P K mg) : mg "_law_session" = some (.ref (He.ga K "_law_session")) := let ⟨_, X, G⟩ := T.h; He.glo_ok X G (T.c.fact 51 (f := .glo "_law_session") rfl)
theorem TX.g_law (T : TX P K mg) : mg "law" = some (.ref (He.ga K "law")) := let ⟨_, X, G⟩ := T.h; He.glo_ok X G (T.c.fact 52 (f := .glo "law") rfl)
theorem TX.g_Channel (T : TX P K mg) : mg "Channel" = some (.ref (He.ga K "Channel")) := let ⟨_, X, G⟩ := T.h; He.glo_ok X G (T.c.fact 53 (f := .glo "Channel") rfl)
theorem TX.g_State (T : TX P K mg) : mg "State" = some (.ref (He.ga K "State")) := let ⟨_, X, G⟩ := T.h; He.glo_ok X G (T.c.fact 54 (f := .glo "State") rfl)
theorem TX.g_Message (T : TX P K mg) : mg "Message" = some (.ref (He.ga K "Message")) := let ⟨_, X, G⟩ := T.h; He.glo_ok X G (T.c.fact 55 (f := .glo "Message") rfl)
theorem TX.g_Replica (T : TX P K mg) : mg "Replica" = some (.ref (He.ga K "Replica")) := let ⟨_, X, G⟩ := T.h; He.glo_ok X G (T.c.fact 56 (f := .glo "Replica") rfl)
theorem TX.g_Network (T : TX P K mg) : mg "Network" = some (.ref (He.ga K "Network")) := let ⟨_, X, G⟩ := T.h; He.glo_ok X G (T.c.fact 57 (f := .glo "Network") rfl)
theorem TX.g_CodeError (T : TX P K mg) : mg "CodeError" = some (.ref (He.ga K "CodeError")) := let ⟨_, X, G⟩ := T.h; He.glo_ok X G (T.c.fact 58 (f := .glo "CodeError") rfl)
theorem TX.g_ROOT (T : TX P K mg) : mg "ROOT" = some (.ref (He.ga K "ROOT")) := let ⟨_, X, G⟩ := T.h; He.glo_ok X G (T.c.fact 59 (f := .glo "ROOT") rfl)
theorem TX.g_UNITS (T : TX P K mg) : mg "UNITS" = some (.ref (He.ga K "UNITS")) := let ⟨_, X, G⟩ := T.h; He.glo_ok X G (T.c.fact 60 (f := .glo "UNITS") rfl)
theorem TX.i_PEERS (T : TX P K mg) : ∃ t, mg "PEERS" = some (.int 8 t) := let ⟨_, X, G⟩ := T.h; He.int_ok X G (T.c.fact 61 (f := .int "PEERS" 8) rfl)
theorem TX.i_COUNT_MOST (T : TX P K mg) : ∃ t, mg "COUNT_MOST" = some (.int 4294967295 t) := let ⟨_, X, G⟩ := T.h; He.int_ok X G (T.c.fact 62 (f := .int "COUNT_MOST" 4294967295) rfl)
theorem TX.i_FIELD_MOST (T : TX P K mg) : ∃ t, mg "FIELD_MOST" = some (.int 8 t) := let ⟨_, X, G⟩ := T.h; He.int_ok X G (T.c.fact 63 (f := .int "FIELD_MOST" 8) rfl)
theorem TX.i_TEXT_MOST (T : TX P K mg) : ∃ t, mg "TEXT_MOST" = some (.int 20 t) := let ⟨_, X, G⟩ := T.h; He.int_ok X G (T.c.fact 64 (f := .int "TEXT_MOST" 20) rfl)
theorem TX.i_INTEGER_MOST (T : TX P K mg) : ∃ t, mg "INTEGER_MOST" = some (.int 1000000 t) := let ⟨_, X, G⟩ := T.h; He.int_ok X G (T.c.fact 65 (f := .int "INTEGER_MOST" 1000000) rfl)
theorem TX.i_INTEGER (T : TX P K mg) : ∃ t, mg "INTEGER" = some (.int 1 t) := let ⟨_, X, G⟩ := T.h; He.int_ok X G (T.c.fact 66 (f := .int "INTEGER" 1) rfl)
theorem TX.i_TEXT (T : TX P K mg) : ∃ t, mg "TEXT" = some (.int 2 t) := let ⟨_, X, G⟩ := T.h; He.int_ok X G (T.c.fact 67 (f := .int "TEXT" 2) rfl)
theorem TX.i_REFERENCE (T : TX P K mg) : ∃ t, mg "REFERENCE" = some (.int 3 t) := let ⟨_, X, G⟩ := T.h; He.int_ok X G (T.c.fact 68 (f := .int "REFERENCE" 3) rfl)
theorem TX.i_CODE (T : TX P K mg) : ∃ t, mg "CODE" = some (.int 97 t) := let ⟨_, X, G⟩ := T.h; He.int_ok X G (T.c.fact 69 (f := .int "CODE" 97) rfl)
theorem TX.i_NOTHING (T : TX P K mg) : ∃ t, mg "NOTHING" = some (.int 0 t) := let ⟨_, X, G⟩ := T.h; He.int_ok X G (T.c.fact 70 (f := .int "NOTHING" 0) rfl)
theorem TX.i_CHANGES_MOST (T : TX P K mg) : ∃ t, mg "CHANGES_MOST" = some (.int 65535 t) := let ⟨_, X, G⟩ := T.h; He.int_ok X G (T.c.fact 71 (f := .int "CHANGES_MOST" 65535) rfl)
theorem TX.s_LETTERS (T : TX P K mg) : ∃ t, mg "LETTERS" = some (.str "abcdefghijklmnopqrstuvwxyz" t) := let ⟨_, X, G⟩ := T.h; He.str_ok X G (T.c.fact 72 (f := .str "LETTERS" "abcdefghijklmnopqrstuvwxyz") rfl)
theorem TX.s_REF (T : TX P K mg) : ∃ t, mg "REF" = some (.str "ref" t) := let ⟨_, X, G⟩ := T.h; He.str_ok X G (T.c.fact 73 (f := .str "REF" "ref") rfl)
theorem TX.c_Channel (T : TX P K mg) : Cls K (He.ga K "Channel") := He.cls_ok (T.c.fact 74 (f := .cls "Channel") rfl)
theorem TX.k_Channel (T : TX P K mg) : Mk K (He.ga K "Channel") (He.ma K (He.ga K "Channel") "__init__") := He.mkr_ok (T.c.fact 75 (f := .mkr "Channel") rfl)
theorem TX.c_State (T : TX P K mg) : Cls K (He.ga K "State") := He.cls_ok (T.c.fact 76 (f := .cls "State") rfl)
theorem TX.k_State (T : TX P K mg) : Mk K (He.ga K "State") (He.ma K (He.ga K "State") "__init__") := He.mkr_ok (T.c.fact 77 (f := .mkr "State") rfl)
theorem TX.c_Message (T : TX P K mg) : Cls K (He.ga K "Message") := He.cls_ok (T.c.fact 78 (f := .cls "Message") rfl)
theorem TX.k_Message (T : TX P K mg) : Mk K (He.ga K "Message") (He.ma K (He.ga K "Message") "__init__") := He.mkr_ok (T.c.fact 79 (f := .mkr "Message") rfl)
theorem TX.c_Replica (T : TX P K mg) : Cls K (He.ga K "Replica") := He.cls_ok (T.c.fact 80 (f := .cls "Replica") rfl)
theorem TX.k_Replica (T : TX P K mg) : Mk K (He.ga K "Replica") (He.ma K (He.ga K "Replica") "__init__") := He.mkr_ok (T.c.fact 81 (f := .mkr "Replica") rfl)
theorem TX.c_Network (T : TX P K mg) : Cls K (He.ga K "Network") := He.cls_ok (T.c.fact 82 (f := .cls "Network") rfl)
theorem TX.k_Network (T : TX P K mg) : Mk K (He.ga K "Network") (He.ma K (He.ga K "Network") "__init__") := He.mkr_ok (T.c.fact 83 (f := .mkr "Network") rfl)
theorem TX.n_Channel_under_way (T : TX P K mg) : NoAttr K (He.ga K "Channel") "under_way" := He.noat_ok (T.c.fact 84 (f := .noat "Channel" "under_way") rfl)
theorem TX.n_State_cells (T : TX P K mg) : NoAttr K (He.ga K "State") "cells" := He.noat_ok (T.c.fact 85 (f := .noat "State" "cells") rfl)
theorem TX.n_Message_octets (T : TX P K mg) : NoAttr K (He.ga K "Message") "octets" := He.noat_ok (T.c.fact 86 (f := .noat "Message" "octets") rfl)
theorem TX.n_Message_place (T : TX P K mg) : NoAttr K (He.ga K "Message") "place" := He.noat_ok (T.c.fact 87 (f := .noat "Message" "place") rfl)
theorem TX.n_Message_known (T : TX P K mg) : NoAttr K (He.ga K "Message") "known" := He.noat_ok (T.c.fact 88 (f := .noat "Message" "known") rfl)
theorem TX.n_Replica_peer (T : TX P K mg) : NoAttr K (He.ga K "Replica") "peer" := He.noat_ok (T.c.fact 89 (f := .noat "Replica" "peer") rfl)
theorem TX.n_Replica_clock (T : TX P K mg) : NoAttr K (He.ga K "Replica") "clock" := He.noat_ok (T.c.fact 90 (f := .noat "Replica" "clock") rfl)
theorem TX.n_Replica_made (T : TX P K mg) : NoAttr K (He.ga K "Replica") "made" := He.noat_ok (T.c.fact 91 (f := .noat "Replica" "made") rfl)
theorem TX.n_Replica_state (T : TX P K mg) : NoAttr K (He.ga K "Replica") "state" := He.noat_ok (T.c.fact 92 (f := .noat "Replica" "state") rfl)
theorem TX.n_Replica_roots (T : TX P K mg) : NoAttr K (He.ga K "Replica") "roots" := He.noat_ok (T.c.fact 93 (f := .noat "Replica" "roots") rfl)
theorem TX.n_Replica_pending (T : TX P K mg) : NoAttr K (He.ga K "Replica") "pending" := He.noat_ok (T.c.fact 94 (f := .noat "Replica" "pending") rfl)
theorem TX.n_Replica_messages (T : TX P K mg) : NoAttr K (He.ga K "Replica") "messages" := He.noat_ok (T.c.fact 95 (f := .noat "Replica" "messages") rfl)
theorem TX.n_Network_replicas (T : TX P K mg) : NoAttr K (He.ga K "Network") "replicas" := He.noat_ok (T.c.fact 96 (f := .noat "Network" "replicas") rfl)
theorem TX.n_Network_channels (T : TX P K mg) : NoAttr K (He.ga K "Network") "channels" := He.noat_ok (T.c.fact 97 (f := .noat "Network" "channels") rfl)
theorem TX.m_Channel_check (T : TX P K mg) : Meth K (He.ga K "Channel") "check" (He.ma K (He.ga K "Channel") "check") := He.meth_ok (T.c.fact 98 (f := .meth "Channel" "check") rfl)
theorem TX.m_Channel_put (T : TX P K mg) : Meth K (He.ga K "Channel") "put" (He.ma K (He.ga K "Channel") "put") := He.meth_ok (T.c.fact 99 (f := .meth "Channel" "put") rfl)
theorem TX.m_Channel_lose (T : TX P K mg) : Meth K (He.ga K "Channel") "lose" (He.ma K (He.ga K "Channel") "lose") := He.meth_ok (T.c.fact 100 (f := .meth "Channel" "lose") rfl)
theorem TX.m_Channel_double (T : TX P K mg) : Meth K (He.ga K "Channel") "double" (He.ma K (He.ga K "Channel") "double") := He.meth_ok (T.c.fact 101 (f := .meth "Channel" "double") rfl)
theorem TX.m_Channel_exchange (T : TX P K mg) : Meth K (He.ga K "Channel") "exchange" (He.ma K (He.ga K "Channel") "exchange") := He.meth_ok (T.c.fact 102 (f := .meth "Channel" "exchange") rfl)
theorem TX.m_Channel_damage (T : TX P K mg) : Meth K (He.ga K "Channel") "damage" (He.ma K (He.ga K "Channel") "damage") := He.meth_ok (T.c.fact 103 (f := .meth "Channel" "damage") rfl)
theorem TX.m_Channel_take (T : TX P K mg) : Meth K (He.ga K "Channel") "take" (He.ma K (He.ga K "Channel") "take") := He.meth_ok (T.c.fact 104 (f := .meth "Channel" "take") rfl)
theorem TX.m_State_take (T : TX P K mg) : Meth K (He.ga K "State") "take" (He.ma K (He.ga K "State") "take") := He.meth_ok (T.c.fact 105 (f := .meth "State" "take") rfl)
theorem TX.m_State_value (T : TX P K mg) : Meth K (He.ga K "State") "value" (He.ma K (He.ga K "State") "value") := He.meth_ok (T.c.fact 106 (f := .meth "State" "value") rfl)
theorem TX.m_State_fields (T : TX P K mg) : Meth K (He.ga K "State") "fields" (He.ma K (He.ga K "State") "fields") := He.meth_ok (T.c.fact 107 (f := .meth "State" "fields") rfl)
theorem TX.m_State_names (T : TX P K mg) : Meth K (He.ga K "State") "names" (He.ma K (He.ga K "State") "names") := He.meth_ok (T.c.fact 108 (f := .meth "State" "names") rfl)
theorem TX.m_Message_octet (T : TX P K mg) : Meth K (He.ga K "Message") "octet" (He.ma K (He.ga K "Message") "octet") := He.meth_ok (T.c.fact 109 (f := .meth "Message" "octet") rfl)
theorem TX.m_Message_number (T : TX P K mg) : Meth K (He.ga K "Message") "number" (He.ma K (He.ga K "Message") "number") := He.meth_ok (T.c.fact 110 (f := .meth "Message" "number") rfl)
theorem TX.m_Message_letters (T : TX P K mg) : Meth K (He.ga K "Message") "letters" (He.ma K (He.ga K "Message") "letters") := He.meth_ok (T.c.fact 111 (f := .meth "Message" "letters") rfl)
theorem TX.m_Message_name (T : TX P K mg) : Meth K (He.ga K "Message") "name" (He.ma K (He.ga K "Message") "name") := He.meth_ok (T.c.fact 112 (f := .meth "Message" "name") rfl)
theorem TX.m_Message_stamp (T : TX P K mg) : Meth K (He.ga K "Message") "stamp" (He.ma K (He.ga K "Message") "stamp") := He.meth_ok (T.c.fact 113 (f := .meth "Message" "stamp") rfl)
theorem TX.m_Message_worth (T : TX P K mg) : Meth K (He.ga K "Message") "worth" (He.ma K (He.ga K "Message") "worth") := He.meth_ok (T.c.fact 114 (f := .meth "Message" "worth") rfl)
theorem TX.m_Message_change (T : TX P K mg) : Meth K (He.ga K "Message") "change" (He.ma K (He.ga K "Message") "change") := He.meth_ok (T.c.fact 115 (f := .meth "Message" "change") rfl)
theorem TX.m_Replica_knows (T : TX P K mg) : Meth K (He.ga K "Replica") "knows" (He.ma K (He.ga K "Replica") "knows") := He.meth_ok (T.c.fact 116 (f := .meth "Replica" "knows") rfl)
theorem TX.m_Replica_check (T : TX P K mg) : Meth K (He.ga K "Replica") "check" (He.ma K (He.ga K "Replica") "check") := He.meth_ok (T.c.fact 117 (f := .meth "Replica" "check") rfl)
theorem TX.m_Replica_begin (T : TX P K mg) : Meth K (He.ga K "Replica") "begin" (He.ma K (He.ga K "Replica") "begin") := He.meth_ok (T.c.fact 118 (f := .meth "Replica" "begin") rfl)
theorem TX.m_Replica_put (T : TX P K mg) : Meth K (He.ga K "Replica") "put" (He.ma K (He.ga K "Replica") "put") := He.meth_ok (T.c.fact 119 (f := .meth "Replica" "put") rfl)
theorem TX.m_Replica_note (T : TX P K mg) : Meth K (He.ga K "Replica") "note" (He.ma K (He.ga K "Replica") "note") := He.meth_ok (T.c.fact 120 (f := .meth "Replica" "note") rfl)
theorem TX.m_Replica_hold (T : TX P K mg) : Meth K (He.ga K "Replica") "hold" (He.ma K (He.ga K "Replica") "hold") := He.meth_ok (T.c.fact 121 (f := .meth "Replica" "hold") rfl)
theorem TX.m_Replica_count (T : TX P K mg) : Meth K (He.ga K "Replica") "count" (He.ma K (He.ga K "Replica") "count") := He.meth_ok (T.c.fact 122 (f := .meth "Replica" "count") rfl)
theorem TX.m_Replica_send (T : TX P K mg) : Meth K (He.ga K "Replica") "send" (He.ma K (He.ga K "Replica") "send") := He.meth_ok (T.c.fact 123 (f := .meth "Replica" "send") rfl)
theorem TX.m_Replica_copy_of (T : TX P K mg) : Meth K (He.ga K "Replica") "copy_of" (He.ma K (He.ga K "Replica") "copy_of") := He.meth_ok (T.c.fact 124 (f := .meth "Replica" "copy_of") rfl)
theorem TX.m_Replica_accept (T : TX P K mg) : Meth K (He.ga K "Replica") "accept" (He.ma K (He.ga K "Replica") "accept") := He.meth_ok (T.c.fact 125 (f := .meth "Replica" "accept") rfl)
theorem TX.m_Replica_receive (T : TX P K mg) : Meth K (He.ga K "Replica") "receive" (He.ma K (He.ga K "Replica") "receive") := He.meth_ok (T.c.fact 126 (f := .meth "Replica" "receive") rfl)
theorem TX.m_Replica_graph (T : TX P K mg) : Meth K (He.ga K "Replica") "graph" (He.ma K (He.ga K "Replica") "graph") := He.meth_ok (T.c.fact 127 (f := .meth "Replica" "graph") rfl)
theorem TX.m_Network_say (T : TX P K mg) : Meth K (He.ga K "Network") "say" (He.ma K (He.ga K "Network") "say") := He.meth_ok (T.c.fact 128 (f := .meth "Network" "say") rfl)
theorem TX.m_Network_deliver (T : TX P K mg) : Meth K (He.ga K "Network") "deliver" (He.ma K (He.ga K "Network") "deliver") := He.meth_ok (T.c.fact 129 (f := .meth "Network" "deliver") rfl)
theorem TX.m_Network_settle (T : TX P K mg) : Meth K (He.ga K "Network") "settle" (He.ma K (He.ga K "Network") "settle") := He.meth_ok (T.c.fact 130 (f := .meth "Network" "settle") rfl)
theorem TX.x_CodeError (T : TX P K mg) : PySem.W.exmOne K (.ref (He.ga K "CodeError")) (.ref (He.ga K "CodeError")) = some true := He.exm_ok (T.c.fact 131 (f := .exm "CodeError" "CodeError" true) rfl)
theorem oexC_of {C : Addr} (h : errB4 K C = true) (h1 : PySem.W.findIn K (.ref C) "__setattr__" = some (some (.builtin "object.__setattr__"))) (h2 : PySem.W.subIn K (.ref C) (.type "BaseException") = some true) (h3 : PySem.W.typeIn K (.ref C) = some (.type "type"))
    (h4 : PySem.W.keepIn K (.ref C) = true) : OexC K C ∧ ∃ cd, PySem.W.clsIn K C = some cd := by
  unfold errB4 at h
  split at h
  · rename_i t dd cd sl ho
    split at h
    · rename_i C' bm k0 k1 k2 k3 n k5 hm hs
      obtain ⟨e0, h⟩ := He.ba h
      obtain ⟨e1, h⟩ := He.ba h
      obtain ⟨e2, h⟩ := He.ba h
      obtain ⟨e3, h⟩ := He.ba h
      obtain ⟨e4, e5⟩ := He.ba h
      have f0 := of_decide_eq_true e0
      have f1 := of_decide_eq_true e1
      have f2 := of_decide_eq_true e2
      have f3 : cd.hasDel = false := by simpa using e3
      clear e0 e1 e2 e3 h
      obtain ⟨nm, bs, mro, ns, qn, hd, sn, sub, ab, col, del⟩ := cd
      dsimp only at hm f3 e4
      subst f0 f1 f2 hm f3 e4
      have hsl : sl = #[k0, k1, k2, k3, some (.builtin "ValueError.__new__"), k5] := by
        obtain ⟨l⟩ := sl
        simp only at hs
        rw [hs]
      subst hsl
      refine ⟨⟨⟨nm, qn, ns, bs, bm, sn, sub, ab, col, dd, k0, k1, k2, k3, k5, ho, e5⟩, h1, h2, h3, h4⟩, ?_⟩
      unfold PySem.W.clsIn
      rw [ho]
      exact ⟨_, rfl⟩
    · cases h
  · cases h
theorem TX.err (T : TX P K mg) : ErrT P K (He.ga K "CodeError") (He.fAd K errAt) (ccOf K).1 (ccOf K).2 := by
  obtain ⟨b1, h⟩ := He.ba T.b
  obtain ⟨b2, h⟩ := He.ba h
  obtain ⟨b3, h⟩ := He.ba h
  obtain ⟨b4, h⟩ := He.ba h
  obtain ⟨h, _⟩ := He.ba h
  obtain ⟨c1, h⟩ := He.ba h
  obtain ⟨c2, h⟩ := He.ba h
  obtain ⟨c3, h⟩ := He.ba h
  obtain ⟨c4, h⟩ := He.ba h
  obtain ⟨c5, h⟩ := He.ba h
  obtain ⟨c6, h⟩ := He.ba h
  obtain ⟨c7, h⟩ := He.ba h
  obtain ⟨c8, h⟩ := He.ba h
  obtain ⟨c9, h⟩ := He.ba h
  obtain ⟨c10, h⟩ := He.ba h
  obtain ⟨c11, c12⟩ := He.ba h
  obtain ⟨ox, cd⟩ := oexC_of b4 (of_decide_eq_true c1) (of_decide_eq_true c2) (of_decide_eq_true c3) c4
  refine { ox := ox, fn := ?_, code := c12, codeO := ?_, cell := ?_, sub := of_decide_eq_true c5, stat := of_decide_eq_true c6, along := of_decide_eq_true c7, subVE := of_decide_eq_true c8, ini := of_decide_eq_true c9, tI := of_decide_eq_true c10, pl := of_decide_eq_true c11, cls := cd }
  · have e := T.w
    unfold errW at e
    unfold errB1 at b1
    cases q : K.lookup (He.fAd K errAt) with
    | none => rw [q] at b1; cases b1
    | some o =>
      obtain ⟨oc, od, dt, osl⟩ := o
      rw [q] at b1 e
      cases dt with
      | func fd =>
        obtain ⟨n1, n2, n3, n4, n5, n6, n7, n8, n9, n10, n11, n12, n13, n14, n15⟩ := fd
        have e2 : (some (n1, n2, n3, n4, n5, n6, n7.map (·.1), n15) : ErrW) = some (("__init__" : Str), ("CodeError.__init__" : Str), defArgs sErr, FuncBody.stmts (defBody sErr), defScope sErr, mainGlobals, [("__class__" : Str)], builtinsNs) := e
        simp only [Option.some.injEq, Prod.mk.injEq] at e2
        obtain ⟨h1, h2, h3, h4, h5, h6, h7, h8⟩ := e2
        obtain ⟨d1, h⟩ := He.ba (show (decide (n7.map (·.2) = [(ccOf K).1]) && (decide (n13 = .ref (ccOf K).2) && (decide (n8 = .none) && (decide (n9 = .none) && n12.isNone)))) = true from b1)
        obtain ⟨d2, h⟩ := He.ba h
        obtain ⟨d3, h⟩ := He.ba h
        obtain ⟨d4, d5⟩ := He.ba h
        have d1 := of_decide_eq_true d1
        have d2 := of_decide_eq_true d2
        have d3 := of_decide_eq_true d3
        have d4 := of_decide_eq_true d4
        have d5 : n12 = none := by simpa using d5
        have e7 : n7 = [(("__class__" : Str), (ccOf K).1)] := by
          match n7, h7, d1 with
          | [(a, b)], h7, d1 =>
            simp at h7 d1
            rw [h7, d1]
        subst h1 h2 h3 h4 h5 h6 h8 d2 d3 d4 d5 e7
        exact ⟨oc, od, osl, n10, n11, n14, rfl⟩
      | _ => cases b1
  · unfold errB2 at b2
    cases q : K.lookup (ccOf K).2 with
    | none => rw [q] at b2; cases b2
    | some o =>
      obtain ⟨oc, od, dt, osl⟩ := o
      rw [q] at b2
      cases dt with
      | fields vs =>
        have b3 : (match (vs[2]? : Option Value) with
          | some (.str f _) => progF == f
          | _ => false) = true := b2
        split at b3
        · rename_i f t e
          exact ⟨oc, od, vs, osl, f, t, rfl, e, by rw [T.file]; exact b3⟩
        · cases b3
      | _ => cases b2
  · unfold errB3 at b3
    cases q : K.lookup (ccOf K).1 with
    | none => rw [q] at b3; cases b3
    | some o =>
      obtain ⟨oc, od, dt, osl⟩ := o
      rw [q] at b3
      cases dt with
      | cell v =>
        cases v with
        | none => cases b3
        | some v =>
          cases v with
          | ref C =>
            have e : C = He.ga K "CodeError" := of_decide_eq_true b3
            rw [← e]
            exact ⟨oc, od, osl, rfl⟩
          | _ => cases b3
      | _ => cases b3
theorem TX.tabs (T : TX P K mg) : tabB K = true := by
  obtain ⟨b1, h⟩ := He.ba T.b
  obtain ⟨b2, h⟩ := He.ba h
  obtain ⟨b3, h⟩ := He.ba h
  obtain ⟨b4, h⟩ := He.ba h
  exact (He.ba h).2
theorem TX.root (T : TX P K mg) (H : Hp) : Im K H (.ref (He.ga K "ROOT")) (.tup [.num 0, .num 0]) := .tup (He.tupB_ok (He.ba T.tabs).1 H) (.cons (.num 0) (.cons (.num 0) .nil))
theorem TX.units (T : TX P K mg) (H : Hp) : SqT K H (He.ga K "UNITS") [.int 16777216, .int 65536, .int 256, .int 1] := He.tupB_ok (He.ba T.tabs).2 H
/-! a def by its datum -/
variable {w : World} {base : Heap}
theorem TX.ok (T : TX P K mg) {CX : CXT} {N ps : List Str} {k : Nat} {sp : Sp} (i : Nat) {d : He.DefD} (hd : fnL[i]? = some d) (hl : d.dfl = []) (hk : d.kwd = []) (S : FnScope N ps d.scope)
    (hb : ∀ (kV doc pm : Value) (an : Option Addr) (cdv ct : Value) (us : List Value), us.length = ps.length → bindArgs (PySem.W.fnOf d.name d.qual d.params d.body d.scope .none kV doc pm an cdv ct) ⟨us, []⟩ = pure (ps.zip us))
    (len : ∀ vs H Q E, sp vs H Q E → vs.length = ps.length)
    (hbody : ∀ (cdv : Value) (A : Around) (outer : List Env) (s : Shared) (H : Hp) (vs : List V) (Q : VK) (E : XK), Room k (A.deeper (envOfC d.qual d.scope s.heap.objs.size (He.fAd K d.at_) cdv)) → sp vs H Q E →
      ∃ t, PSs (cxOf CX P w K mg base N d.qual d.scope (He.fAd K d.at_) cdv A outer s H E) d.body t ∧ t { nx := fun _ H' => Q .non H', rt := Q } (start N vs) H) : Ok P w K mg base CX (k + 1) d.at_ ps sp := by
  obtain ⟨fd, F⟩ := T.d.def_ i hd
  have e1 : d.dvs K = [] := by unfold He.DefD.dvs; rw [hl]; rfl
  have e2 : d.kws K = [] := by unfold He.DefD.kws; rw [hk]; rfl
  rw [e1, e2] at F
  exact ⟨fd, F.ok S len hbody, F.bindsN hb, F.kp⟩
end
end GT
set_option maxHeartbeats 0
namespace GT
open PySem PySem.Spec PyProof.Rows L2
/-! ### the head: the run of the top -/
abbrev R : PySem.W.OpenRow := PySem.W.OpenLaw.row PySem.Challenge.rw_graphtwins_k90_whole_alike_in_the_end
def loose0 : List PySem.Str := ["_wall", "GraphtwinsError", "CodeError", "NoSuchObject", "BadPeer", "NoSuchMessage", "NothingThere", "Channel", "LETTERS", "PEERS", "COUNT_MOST", "FIELD_MOST", "TEXT_MOST", "INTEGER_MOST", "ROOT", "REF", "target_of", "is_reference", "ranges_of", "numbers_of", "told", "outside", "lacking", "answer", "bring"]
def loose1 : List PySem.Str := ["reachable", "numbered_value", "numbered", "are_alike", "is_later", "sorted_changes", "State", "INTEGER", "TEXT", "REFERENCE", "CODE", "UNITS", "number_octets", "word_octets", "Reader", "NOTHING", "CHANGES_MOST", "name_octets", "worth_octets", "change_octets", "check_of", "message_octets", "Message", "read_message", "Replica"]
def loose2 : List PySem.Str := ["are_together", "Network", "_law_cell", "_law_row", "_law_box", "_law_draw", "_law_pick", "_law_target", "_law_worth", "_law_field", "_law_cells", "_law_reach", "_law_graph", "_law_known", "_law_deed", "_law_readable", "_law_session"]
def loose : List PySem.Str := loose0 ++ loose1 ++ loose2
abbrev q : Program := PySem.W.view R.prog [80]
/-- the run, one part looked at -/
def Part {α : Type} (ob : (Addr → Option Obj) → α) (v : α) (w : World) : Prop := ∀ os : OsState,
  (HandSHeadRun.endF (HandSHeadRun.stepQ (HandSHeadRun.denQ HandSHeadRun.tabQ) R.prog w) 6000 R.prog w os).map (fun s => (HandSHeadRun.looksF R.prog (PySem.W.boot_heap w.params) s.abs, HandSHeadRun.seenQ q loose (PySem.importedModules R.prog.main.body) (fun s => PySem.W.xlAt q [] s && PySem.W.recOk R.toRowW.records s) s.abs, ob (HandSHeadRun.getT s))) = some (true, PySem.W.openGood q loose, v)
theorem runA (w : World) : Part obsA valA w := by
  intro os
  kernel_rfl
theorem runB (w : World) : Part obsB valB w := by
  intro os
  kernel_rfl
theorem runC (w : World) : Part obsC valC w := by
  intro os
  kernel_rfl
def ob (s : PySem.W.SharedT) : AlG := (obsA (HandSHeadRun.getT s), obsB (HandSHeadRun.getT s), obsC (HandSHeadRun.getT s))
theorem ob_eq (s : PySem.W.SharedT) : ob s = hkG.obs s.abs := by
  have e : HandSHeadRun.getT s = s.abs.heap.get? := funext (HandSHeadRun.getT_eq s)
  unfold ob
  rw [e]
  rfl
theorem three {α β β' γ δ ε : Type} {o : Option α} {a : α → β} {b : α → β'} {x : α → γ} {y : α → δ} {z : α → ε} {t : β} {t' : β'} {u : γ} {v : δ} {r : ε} (h1 : o.map (fun s => (a s, b s, x s)) = some (t, t', u)) (h2 : o.map (fun s => (a s, b s, y s)) = some (t, t', v))
    (h3 : o.map (fun s => (a s, b s, z s)) = some (t, t', r)) : o.map (fun s => (a s, b s, x s, y s, z s)) = some (t, t', u, v, r) := by
  cases o with
  | none => cases h1
  | some s =>
    simp only [Option.map_some, Option.some.injEq, Prod.mk.injEq] at h1 h2 h3 ⊢
    exact ⟨h1.1, h1.2.1, h1.2.2, h2.2.2, h3.2.2⟩
theorem run (w : World) : HandSHeadRun.RunEq R q hkG ob 6000 loose w := fun os => three (runA w os) (runB w os) (runC w os)
end GT
set_option maxHeartbeats 2000000
namespace GT
open PySem PySem.Spec PyProof.Rows L2

/-! ### dicts by typed data: keys by f, values by R -/
abbrev PrF {κ α : Type} (f : κ → D) (R : V → α → Prop) : List (D × V) → List (κ × α) → Prop := Paired fun p q => p.1 = f q.1 ∧ R p.2 q.2
section
variable {κ α : Type} [DecidableEq κ] {f : κ → D} {R : V → α → Prop} {kvs : List (D × V)} {l : List (κ × α)}
theorem prF_len (h : PrF f R kvs l) : kvs.length = l.length := Paired.length h
theorem prF_keys (h : PrF f R kvs l) : kvs.map (·.1) = (l.map (·.1)).map f := by
  induction h with
  | nil => rfl
  | cons h t ih => simp only [List.map_cons, h.1, ih]
theorem prF_get (inj : ∀ a b, f a = f b → a = b) (h : PrF f R kvs l) (k : κ) : (aget l k = none ∧ valV kvs (f k) = none) ∨ ∃ a v, aget l k = some a ∧ valV kvs (f k) = some v ∧ R v a := by
  induction h with
  | nil => exact .inl ⟨rfl, rfl⟩
  | @cons p q ps qs h t ih =>
    rw [aget_cons]
    by_cases e : q.1 = k
    · rw [if_pos e, valV_pos (by rw [h.1, e])]
      exact .inr ⟨_, _, rfl, rfl, h.2⟩
    · rw [if_neg e, valV_neg (by rw [h.1]; exact fun z => e (inj _ _ z))]
      exact ih
theorem prF_some (inj : ∀ a b, f a = f b → a = b) (h : PrF f R kvs l) (k : κ) : (valV kvs (f k)).isSome = (aget l k).isSome := by
  rcases prF_get inj h k with ⟨a, b⟩ | ⟨a, v, e, g, _⟩
  · rw [a, b]; rfl
  · rw [e, g]; rfl
theorem prF_map (inj : ∀ a b, f a = f b → a = b) (h : PrF f R kvs l) (k : κ) {v : V} {a : α} (r : R v a) : PrF f R (kvs.map fun p => if p.1 = f k then (p.1, v) else p) (l.map fun p => if p.1 = k then (p.1, a) else p) := by
  induction h with
  | nil => exact .nil
  | @cons p q ps qs h t ih =>
    rw [List.map_cons, List.map_cons]
    refine .cons ?_ ih
    by_cases e : q.1 = k
    · rw [if_pos e, if_pos (by rw [h.1, e])]; exact ⟨h.1, r⟩
    · rw [if_neg e, if_neg (by rw [h.1]; exact fun z => e (inj _ _ z))]; exact h
theorem prF_put (inj : ∀ a b, f a = f b → a = b) (h : PrF f R kvs l) (k : κ) {v : V} {a : α} (r : R v a) : PrF f R (putK kvs (f k) v) (aput l k a) := by
  unfold putK aput
  rw [valV_any, prF_some inj h]
  split
  · exact prF_map inj h k r
  · exact Paired.snoc h ⟨rfl, r⟩
theorem prF_mono {R' : V → α → Prop} (h : PrF f R kvs l) (m : ∀ v a, R v a → R' v a) : PrF f R' kvs l := Paired.mapP h fun _ _ z => ⟨z.1, m _ _ z.2⟩
theorem prF_at (h : PrF f R kvs l) : ∀ {i : Nat} {p : D × V}, kvs[i]? = some p → ∃ q, l[i]? = some q ∧ p.1 = f q.1 ∧ R p.2 q.2 := fun e => paired_get h e
end
/-- what the values are; it stays -/
abbrev HR (α : Type) := Hp → V → α → Prop
def Stays {α : Type} (R : HR α) : Prop := ∀ (F : List Addr) (H H' : Hp) (v : V) (a : α), Kp F H H' → R H v a → R H' v a
section
variable {κ α : Type} [DecidableEq κ] (P : Program) (w : World) (K : PySem.W.Frag) (f : κ → D) (R : HR α)
/-- a dict that may be written | that is read | that is locked -/
def DV (H : Hp) (d : Addr) (l : List (κ × α)) : Prop := ∃ kvs, DM P w K H d kvs ∧ PrF f (R H) kvs l
def DVr (H : Hp) (d : Addr) (l : List (κ × α)) : Prop := ∃ kvs, DR P w K H d kvs ∧ PrF f (R H) kvs l
end
structure KeyF {κ : Type} (f : κ → D) : Prop where
  inj : ∀ a b, f a = f b → a = b
  tp : ∀ a, ∃ ks, f a = .tup ks
  dp : ∀ a, (f a).depth ≤ 8
theorem kF_p : KeyF pD := ⟨fun _ _ h => pD_inj h, tp_p, dp_p⟩
theorem kF_ky : KeyF kyD := ⟨fun _ _ h => kyD_inj h, tp_ky, dp_ky⟩
section
variable {κ α : Type} [DecidableEq κ] {P : Program} {w : World} {K : PySem.W.Frag} {f : κ → D} {R : HR α} {H H' : Hp} {d a : Addr} {l : List (κ × α)} {F : List Addr}
theorem DV.r (h : DV P w K f R H d l) : DVr P w K f R H d l := let ⟨kvs, a, b⟩ := h; ⟨kvs, a.r, b⟩
theorem DV.up (st : Stays R) (h : DV P w K f R H d l) (k : Kp F H H') (n : d ∉ F) : DV P w K f R H' d l := let ⟨kvs, a, b⟩ := h; ⟨kvs, a.up k n, prF_mono b fun _ _ z => st _ _ _ _ _ k z⟩
theorem DVr.up (st : Stays R) (h : DVr P w K f R H d l) (k : Kp F H H') (n : d ∉ F) : DVr P w K f R H' d l := let ⟨kvs, a, b⟩ := h; ⟨kvs, a.up k n, prF_mono b fun _ _ z => st _ _ _ _ _ k z⟩
theorem DV.new (h : DM P w K H d []) : DV P w K f R H d [] := ⟨[], h, .nil⟩
theorem DV.ext (h : DV P w K f R H d l) : ∃ φ, H d = some (.ext φ) := let ⟨_, ⟨es, a, _, _⟩, _⟩ := h; ⟨_, a⟩
theorem DV.ne_ins (h : DV P w K f R H d l) {C dx : Addr} {fs : List (Str × V)} (h2 : H a = some (.ins C dx fs)) : d ≠ a := fun e => by
  obtain ⟨φ, q⟩ := h.ext
  rw [e, h2] at q
  cases q
theorem DV.ne_lst (h : DV P w K f R H d l) {xs : List V} (h2 : H a = some (.lst xs)) : d ≠ a := fun e => by
  obtain ⟨φ, q⟩ := h.ext
  rw [e, h2] at q
  cases q
variable {Q : VK} {x y v : V} {k : κ} {A : α}
theorem at_V (h : DVr P w K f R H d l) (kf : KeyF f) (im : Im K H x (f k)) : ∃ kvs, At P w K H d x kvs (f k) ∧ PrF f (R H) kvs l := let ⟨kvs, a, b⟩ := h; ⟨kvs, ⟨a, im, kf.tp _, kf.dp _⟩, b⟩
theorem rd_inV (h : DVr P w K f R H d l) (kf : KeyF f) (im : Im K H x (f k)) (q : Q (.bl (aget l k).isSome) H) : rInN P w K x (.ref d) H Q := by
  obtain ⟨kvs, a, b⟩ := at_V h kf im
  exact rd_inN a (by rw [prF_some kf.inj b]; exact q)
theorem rd_notInV (h : DVr P w K f R H d l) (kf : KeyF f) (im : Im K H x (f k)) (q : Q (.bl (!(aget l k).isSome)) H) : rNotInN P w K x (.ref d) H Q := by
  obtain ⟨kvs, a, b⟩ := at_V h kf im
  exact rd_notInN a (by rw [prF_some kf.inj b]; exact q)
theorem rd_getV (h : DVr P w K f R H d l) (kf : KeyF f) (im : Im K H x (f k)) (e : aget l k = some A) (q : ∀ v, R H v A → Q v H) : rGetN P w K (.ref d) x H Q := by
  obtain ⟨kvs, a, b⟩ := at_V h kf im
  rcases prF_get kf.inj b k with ⟨z, _⟩ | ⟨A', v, e', g, r⟩
  · rw [e] at z; cases z
  · rw [e] at e'; cases e'
    exact rd_getN a g (q v r)
theorem rd_get1V (h : DVr P w K f R H d l) (kf : KeyF f) (im : Im K H x (f k)) (q1 : aget l k = none → Q .non H) (q2 : ∀ A v, aget l k = some A → R H v A → Q v H) : rGet1N P w K (.ref d) [x] H Q := by
  obtain ⟨kvs, a, b⟩ := at_V h kf im
  rcases prF_get kf.inj b k with ⟨z, z'⟩ | ⟨A', v, e', g, r⟩
  · exact rd_get1N a (by rw [z']; exact q1 z)
  · exact rd_get1N a (by rw [g]; exact q2 _ _ e' r)
theorem rd_setV {N : Hp → Prop} (st : Stays R) (h : DV P w K f R H d l) (kf : KeyF f) (im : Im K H x (f k)) (r : R H v A) (hz : l.length < 100000) (q : ∀ H', Kp [d] H H' → DV P w K f R H' d (aput l k A) → N H') : rSetN P w K (.ref d) x v H N := by
  obtain ⟨kvs, a, b⟩ := h
  refine rd_setN a im (kf.tp _) (kf.dp _) (by rw [prF_len b]; exact hz) fun H' kp dm => q H' kp ⟨_, dm, prF_mono (prF_put kf.inj b k r) fun _ _ z => st _ _ _ _ _ kp z⟩
theorem rd_setdV (st : Stays R) (h : DV P w K f R H d l) (kf : KeyF f) (im : Im K H y (f k)) (r : R H v A) (hz : l.length < 100000) (q1 : ∀ B z, aget l k = some B → R H z B → Q z H)
    (q2 : aget l k = none → ∀ H', Kp [d] H H' → DV P w K f R H' d (l ++ [(k, A)]) → Q v H') : rSetdN P w K (.ref d) [y, v] H Q := by
  obtain ⟨kvs, a, b⟩ := h
  refine rd_setdN a im (kf.tp _) (kf.dp _) (by rw [prF_len b]; exact hz) (fun z hz => ?_) fun hn H' kp dm => ?_
  · rcases prF_get kf.inj b k with ⟨_, z'⟩ | ⟨A', v, e', g, r⟩
    · rw [hz] at z'; cases z'
    · rw [hz] at g; cases g
      exact q1 _ _ e' r
  · rcases prF_get kf.inj b k with ⟨e, z'⟩ | ⟨A', v, e', g, r⟩
    · refine q2 e H' kp ⟨_, dm, ?_⟩
      have t := prF_put kf.inj b k r
      rw [aput_new e] at t
      exact prF_mono t fun _ _ z => st _ _ _ _ _ kp z
    · rw [hn] at g; cases g
theorem rd_lenV (h : DVr P w K f R H d l) (q : Q (.int l.length) H) : rLenN P w K [.ref d] H Q := by
  obtain ⟨kvs, a, b⟩ := h
  exact rd_lenN a (by rw [prF_len b]; exact q)
theorem rd_sortV (h : DVr P w K f R H d l) (hs : SrtOk ((l.map (·.1)).map f)) (q : ∀ p ys H', H p = none → Kp [] H H' → H' p = some (.lst ys) → ImA K H' ys ((srt f (l.map (·.1))).map f) → Q (.ref p) H') : rSortN P w K [.ref d] H Q := by
  obtain ⟨kvs, a, b⟩ := h
  have e := prF_keys b
  refine rd_sortN a (by rw [e]; exact hs) fun p ys H' h1 h2 h3 h4 => q p ys H' h1 h2 h3 ?_
  rw [e] at h4
  rw [srt_map]
  exact h4
theorem rd_listV (h : DVr P w K f R H d l) (q : ∀ p ys H', H p = none → Kp [] H H' → H' p = some (.lst ys) → ImA K H' ys ((l.map (·.1)).map f) → Q (.ref p) H') : rListN P w K [.ref d] H Q := by
  obtain ⟨kvs, a, b⟩ := h
  exact rd_listN a fun p ys H' h1 h2 h3 h4 => q p ys H' h1 h2 h3 (by rw [← prF_keys b]; exact h4)
theorem rd_kdmV {r : V → List V → Hp → VK → Prop} {tA : TA} {σ : L2.St} (h : DVr P w K f R H d l) (q : tA σ H fun vs H2 => r (.ref d) vs H2 Q) : KDm P w K r tA σ Q (.ref d) H := let ⟨_, a, _⟩ := h; rd_kdm a q
/-! a dict locked while it is walked -/
theorem walkV {o : Obj} {es : List En} (h : H d = some (.frz o (DN P w d es))) (b : PrF f (R H) (kvE es) l) (hk : KeysOk K H es) {i : Nat} {e : En} (he : es[i]? = some e) : ∃ q, l[i]? = some q ∧ Im K H (.ref e.2.1) (f q.1) ∧ R H e.2.2 q.2 := by
  obtain ⟨q, h1, h2, h3⟩ := prF_at b (i := i) (p := (e.1, e.2.2)) (by unfold kvE; rw [List.getElem?_map, he]; rfl)
  refine ⟨q, h1, ?_, h3⟩
  have := (hk e (List.mem_of_getElem? he)).2.1
  rw [show e.1 = f q.1 from h2] at this
  exact this
end
/-! values: cells, messages, numbers, addresses -/
abbrev Rce (K : PySem.W.Frag) : HR Cell := fun H v c => Im K H v (ceD c)
abbrev Rms (K : PySem.W.Frag) : HR (List Ch) := fun H v cs => ∃ xs, Fz H v xs ∧ ImA K H xs (cs.map chD)
abbrev Rnu : HR Int := fun _ v i => v = .int i
abbrev Rad : HR Addr := fun _ v a => v = .ref a
theorem st_ce {K : PySem.W.Frag} : Stays (Rce K) := fun _ _ _ _ _ k h => h.up k
theorem st_ms {K : PySem.W.Frag} : Stays (Rms K) := fun _ _ _ _ _ k ⟨xs, a, b⟩ => ⟨xs, a.up k, b.up k⟩
theorem st_nu : Stays Rnu := fun _ _ _ _ _ _ h => h
theorem st_ad : Stays Rad := fun _ _ _ _ _ _ h => h
abbrev DCe (P : Program) (w : World) (K : PySem.W.Frag) : Hp → Addr → List (Ky × Cell) → Prop := DV P w K kyD (Rce K)
abbrev DMs (P : Program) (w : World) (K : PySem.W.Frag) : Hp → Addr → List (Nm × List Ch) → Prop := DV P w K pD (Rms K)
/-! lists of data -/
section
variable {α : Type} (K : PySem.W.Frag) (f : α → D)
def LM (H : Hp) (a : Addr) (l : List α) : Prop := ∃ xs, H a = some (.lst xs) ∧ ImA K H xs (l.map f)
def LR (H : Hp) (v : V) (l : List α) : Prop := ∃ a xs, v = .ref a ∧ SqL K H a xs ∧ ImA K H xs (l.map f)
end
section
variable {α : Type} {K : PySem.W.Frag} {f : α → D} {H H' : Hp} {a : Addr} {l : List α} {F : List Addr}
theorem LM.up (h : LM K f H a l) (k : Kp F H H') (n : a ∉ F) : LM K f H' a l := let ⟨xs, x, y⟩ := h; ⟨xs, k.get x n, y.up k⟩
theorem LM.r (h : LM K f H a l) : LR K f H (.ref a) l := let ⟨xs, x, y⟩ := h; ⟨a, xs, rfl, .inl (.inl x), y⟩
theorem ImA.at {xs : List V} (h : ImA K H xs (l.map f)) {i : Nat} {v : V} (e : xs[i]? = some v) : ∃ q, l[i]? = some q ∧ Im K H v (f q) := by
  obtain ⟨k, hk, im⟩ := h.get e
  rw [List.getElem?_map] at hk
  cases q : l[i]? with
  | none => rw [q] at hk; cases hk
  | some z =>
    rw [q] at hk
    cases hk
    exact ⟨z, rfl, im⟩
theorem ImA.mlen {xs : List V} (h : ImA K H xs (l.map f)) : xs.length = l.length := by rw [h.len, List.length_map]
end
theorem imA_ints {K : PySem.W.Frag} {H : Hp} : ∀ (ns : List Int), ImA K H (ns.map V.int) (ns.map .num)
  | [] => .nil
  | n :: ns => .cons (.num n) (imA_ints ns)
end GT
set_option maxHeartbeats 2000000
namespace GT
open PySem PySem.Spec PyProof.Rows L2
theorem rd_lc {wi : TI} {g : TG} {tt : TT} {te : TE} {vs : List Nat} {σ : L2.St} {H : Hp} {Q : VK} (h : wi σ H fun J H1 => ∀ D, H1 D = none → ∃ W : Nat → Nat → Hp → Prop, (∃ m, W 0 m (upd H1 D (.lst []))) ∧ ∀ i m H, W i m H →
  (J.stop i H ∧ Q (.ref D) H) ∨ (J.go i H ∧ ∃ Nx : Hp → Prop, (∀ H', Nx H' → ∃ m', m' < m ∧ W (i + 1) m' H') ∧ ∀ x H', J.yld i H x H' → g x (wipe σ vs) H' fun σ2 H2 => wipe σ2 vs = wipe σ vs ∧ tt σ2 H2 fun b H3 =>
    if b = true then te σ2 H3 fun y H4 => ∃ acc, H4 D = some (.lst acc) ∧ acc.length < sizeLine ∧ Nx (upd H4 D (.lst (acc ++ [y]))) else Nx H3)) : tLc wi g tt te vs σ H Q := h
theorem rd_tt {A B : Prop} (h : A) : if (true = true) then A else B := by simpa using h
theorem rd_ff {A B : Prop} (h : B) : if (false = true) then A else B := by simpa using h
theorem rd_yes {σ : L2.St} {H : Hp} {QB : Bool → Hp → Prop} (q : QB true H) : tYes σ H QB := q
theorem sz1000' {n : Nat} (h : n ≤ 100000) : n ≤ sizeLine := Nat.le_trans h (by decide)
def KRg (Q : VK) (x y : V) (H : Hp) : Prop := ∃ i j, x = .int i ∧ y = .int j ∧ RgOk i j ∧ ∀ q, H q = none → Q (.ref q) (upd H q (.lst (rgV i j)))
theorem rd_listRg {Q : VK} {H : Hp} {σ : L2.St} {ta tb : TE} (h : ta σ H fun x H1 => tb σ H1 fun y H2 => KRg Q x y H2) : tLstRg (tRg2 ta tb) σ H Q := h
theorem rd_krg {Q : VK} {H : Hp} {i j : Int} (h0 : 0 ≤ i) (h1 : i ≤ j) (h2 : j ≤ 1000000) (q : ∀ q H', H q = none → Kp [] H H' → H' q = some (.lst (rgV i j)) → Q (.ref q) H') : KRg Q (.int i) (.int j) H :=
  ⟨i, j, rfl, rfl, RgOk.of_le h0 (by omega) (by omega) (by omega), fun a ha => q a _ ha (Kp.new ha) upd_same⟩
end GT
set_option maxHeartbeats 2000000
namespace GT
open PySem PySem.Spec PyProof.Rows L2
/-! ### comprehensions whose readings are told at one ground first -/
/-- one ground of a comprehension -/
abbrev gr0 (X : Cx) (sh : Shared) (scope : Scope) : Cx := X.blk sh (fun _ => none) scope (compEnvC scope [] 0 X.env) []
section
variable {X : Cx} {i : Nat} {y : Str} {py : Pos} {elt kx vx tg iter : Expr} {ifs : List Expr} {scope : Scope} {own : List (Str × Nat)} {pos spos : Pos} {wi : TI} {g : TG} {tt : TT} {te tk tv : TE} {Eel : XK}
theorem pe_lcW (sh : Shared) (hc : X.calm = true) (hN : X.N.Nodup) (hi : PI X tg iter wi) (ok : BlkOk X.N X.env.scope scope own) (_ : PG (gr0 X sh scope) tg g) (_ : PTs (gr0 X sh scope) ifs tt) (_ : PE (gr0 X sh scope) elt te)
    (hg : ∀ (s : Shared) (H : Hp) (C : Addr) (cl : List (Str × Addr)) (fp : List Addr), PG (X.blk s H scope (compEnvC scope cl C X.env) fp) tg g)
    (ht : ∀ (s : Shared) (H : Hp) (C : Addr) (cl : List (Str × Addr)) (fp : List Addr), PTs (X.blk s H scope (compEnvC scope cl C X.env) fp) ifs tt)
    (he : ∀ (s : Shared) (H : Hp) (C : Addr) (cl : List (Str × Addr)) (fp : List Addr), PE (X.blk s H scope (compEnvC scope cl C X.env) fp) elt te) (hs : ∀ x, foldedSetIterable iter X.env x = pure x := by intro _; rfl) :
    PE X (.ListComp elt [⟨tg, iter, ifs, 0⟩] scope pos) (tLc wi g tt te (own.map (·.2))) := pe_lc hc hN hi ok hg ht he hs
theorem ps_setLcW (sh : Shared) (hc : X.calm = true) (hN : X.N.Nodup) (hy : X.N[i]? = some y) (hyl : X.env.scope.names.lookup y = some .local)
    (hsw : swapsWith (.ListComp elt [⟨tg, iter, ifs, 0⟩] scope pos) (some (.Name y py)) spos.line X.env = pure true) (hi : PI X tg iter wi) (ok : BlkOk X.N X.env.scope scope own) (_ : PG (gr0 X sh scope) tg g) (_ : PTs (gr0 X sh scope) ifs tt) (_ : PE (gr0 X sh scope) elt te)
    (hg : ∀ (s : Shared) (H : Hp) (C : Addr) (cl : List (Str × Addr)) (fp : List Addr), PG (X.blk s H scope (compEnvC scope cl C X.env) fp) tg g)
    (ht : ∀ (s : Shared) (H : Hp) (C : Addr) (cl : List (Str × Addr)) (fp : List Addr), PTs (X.blk s H scope (compEnvC scope cl C X.env) fp) ifs tt)
    (he : ∀ (s : Shared) (H : Hp) (C : Addr) (cl : List (Str × Addr)) (fp : List Addr), PE (X.blk s H scope (compEnvC scope cl C X.env) fp) elt te) (hs : ∀ x, foldedSetIterable iter X.env x = pure x := by intro _; rfl) :
    PS X (.Assign [.Name y py] (.ListComp elt [⟨tg, iter, ifs, 0⟩] scope pos) spos) (tAsg (tLc wi g tt te (own.map (·.2))) (gName i)) := ps_setLc hc hN hy hyl hsw hi ok hg ht he hs
theorem ps_setLcXW (sh : Shared) (hstk : X.stack = X.env :: X.outer) (hfrm : X.env.frame = some X.env.locals) (tk : Takes X fun cls d _ H => Eel cls d H)
    (hc : X.calm = true) (hN : X.N.Nodup) (hy : X.N[i]? = some y) (hyl : X.env.scope.names.lookup y = some .local)
    (hsw : swapsWith (.ListComp elt [⟨tg, iter, ifs, 0⟩] scope pos) (some (.Name y py)) spos.line X.env = pure true) (hi : PI X tg iter wi) (ok : BlkOk X.N X.env.scope scope own) (_ : PG (gr0 X sh scope) tg g) (_ : PTs (gr0 X sh scope) ifs tt)
    (_ : Passes (L2.CX X.prog X.w) (Cx.blkX X sh (fun _ => none) scope (compEnvC scope [] 0 X.env) [] (fun _ _ => True)) Eel → PE (Cx.blkX X sh (fun _ => none) scope (compEnvC scope [] 0 X.env) [] (fun _ _ => True)) elt te)
    (hg : ∀ (s : Shared) (H : Hp) (C : Addr) (cl : List (Str × Addr)) (fp : List Addr), PG (X.blk s H scope (compEnvC scope cl C X.env) fp) tg g)
    (ht : ∀ (s : Shared) (H : Hp) (C : Addr) (cl : List (Str × Addr)) (fp : List Addr), PTs (X.blk s H scope (compEnvC scope cl C X.env) fp) ifs tt)
    (he : ∀ (s : Shared) (H : Hp) (C : Addr) (cl : List (Str × Addr)) (fp : List Addr) (xe : Value → Shared → Prop), Passes (L2.CX X.prog X.w) (Cx.blkX X s H scope (compEnvC scope cl C X.env) fp xe) Eel → PE (Cx.blkX X s H scope (compEnvC scope cl C X.env) fp xe) elt te)
    (hs : ∀ x, foldedSetIterable iter X.env x = pure x := by intro _; rfl) :
    PS X (.Assign [.Name y py] (.ListComp elt [⟨tg, iter, ifs, 0⟩] scope pos) spos) (tAsg (tLc wi g tt te (own.map (·.2))) (gName i)) := ps_setLcX hstk hfrm tk hc hN hy hyl hsw hi ok hg ht he hs
theorem pe_dcNW (sh : Shared) (hu : rm X) (hc : X.calm = true) (hN : X.N.Nodup) (hi : PI X tg iter wi) (ok : BlkOk X.N X.env.scope scope own) (_ : PG (gr0 X sh scope) tg g) (_ : PTs (gr0 X sh scope) ifs tt) (_ : PE (gr0 X sh scope) kx tk) (_ : PE (gr0 X sh scope) vx tv)
    (hg : ∀ (s : Shared) (H : Hp) (C : Addr) (cl : List (Str × Addr)) (fp : List Addr), PG (X.blk s H scope (compEnvC scope cl C X.env) fp) tg g)
    (ht : ∀ (s : Shared) (H : Hp) (C : Addr) (cl : List (Str × Addr)) (fp : List Addr), PTs (X.blk s H scope (compEnvC scope cl C X.env) fp) ifs tt)
    (hk : ∀ (s : Shared) (H : Hp) (C : Addr) (cl : List (Str × Addr)) (fp : List Addr), PE (X.blk s H scope (compEnvC scope cl C X.env) fp) kx tk)
    (he : ∀ (s : Shared) (H : Hp) (C : Addr) (cl : List (Str × Addr)) (fp : List Addr), PE (X.blk s H scope (compEnvC scope cl C X.env) fp) vx tv) (hs : ∀ x, foldedSetIterable iter X.env x = pure x := by intro _; rfl) :
    PE X (.DictComp kx vx [⟨tg, iter, ifs, 0⟩] scope pos) (tDcN X.prog X.w X.K wi g tt tk tv (own.map (·.2))) := pe_dcN hu hc hN hi ok hg ht hk he hs
end
end GT
set_option maxHeartbeats 2000000
namespace GT
open PySem PySem.Spec PyProof.Rows L2
local macro_rules | `(tactic| walk_at "v") => `(tactic| ((with_reducible show tVar _ _ _ _); refine rd_var rfl ?_))
local macro_rules | `(tactic| walk_at "s1") => `(tactic| with_reducible first | refine rd_cons ?_ | refine rd_nil ?_ | refine rd_c ?_ | refine rd_op ?_ | refine rd_seq ?_ | refine rd_fld ?_ | refine rd_asg ?_ | refine rd_gname ?_ | refine rd_I0 ?_ | refine rd_cb ?_ | refine rd_next ?_ | refine rd_drop ?_ | refine rd_ret ?_ | refine rd_mf ?_ | refine rd_cf ?_ | refine rd_ifS ?_ | refine rd_test ?_ | refine rd_kt ?_)
local macro_rules | `(tactic| walk_at "s2") => `(tactic| with_reducible first | refine rd_tup ?_ | refine rd_lst ?_ | refine rd_bm ?_ | refine rd_gcons ?_ | refine rd_gnil ?_ | refine rd_gsub ?_ | refine rd_dm ?_ | refine rd_sfld ?_ | refine rd_fa ?_ | refine rd_frz ?_ | refine rd_nf ?_ | refine rd_retN ?_ | refine rd_cont ?_ | refine rd_par ?_ | refine rd_un ?_ | refine rd_and ?_ | refine rd_or ?_ | refine rd_not ?_ | refine rd_tru ?_ | refine rd_B ?_ | refine rd_chain ?_ | refine rd_sl ?_ | refine rd_nopart ?_ | refine rd_part ?_ | refine rd_kpart ?_)
local macro_rules | `(tactic| walk_at "s3") => `(tactic| with_reducible first | refine rd_U ?_ | refine rd_eqi ?_ | refine rd_nei ?_ | refine rd_eqs ?_ | refine rd_nes ?_ | refine rd_isN ?_ | refine rd_notN ?_ | refine rd_max2 ?_ | refine rd_min2 ?_ | refine rd_int1 ?_ | refine rd_intb ?_ | refine rd_kbmS ?_ | refine rd_il ?_ | refine rd_it ?_ | refine rd_ir1 ?_ | refine rd_ir2 ?_ | refine rd_in ?_ | refine rd_for ?_ | refine rd_lc ?_ | refine rd_yes ?_ | refine rd_tt ?_ | refine rd_ff ?_ | refine rd_listRg ?_ | refine rd_andV ?_ | refine rd_orV ?_ | refine rd_notV ?_ | refine rd_ex ?_)
local macro_rules | `(tactic| walk_at "c") => `(tactic| first | exact TX.c_Channel (by assumption) | exact TX.c_State (by assumption) | exact TX.c_Message (by assumption) | exact TX.c_Replica (by assumption) | exact TX.c_Network (by assumption))
local macro_rules | `(tactic| walk_at "n") => `(tactic| first | exact TX.n_Channel_under_way (by assumption) | exact TX.n_State_cells (by assumption) | exact TX.n_Message_octets (by assumption) | exact TX.n_Message_place (by assumption) | exact TX.n_Message_known (by assumption) | exact TX.n_Replica_peer (by assumption) | exact TX.n_Replica_clock (by assumption) | exact TX.n_Replica_made (by assumption) | exact TX.n_Replica_state (by assumption) | exact TX.n_Replica_roots (by assumption) | exact TX.n_Replica_pending (by assumption) | exact TX.n_Replica_messages (by assumption) | exact TX.n_Network_replicas (by assumption) | exact TX.n_Network_channels (by assumption))
local macro_rules | `(tactic| walk_at "f") => `(tactic| ((with_reducible show KFld _ _ _ _ _); refine rd_kfld (by assumption) (by walk_at "c") (by walk_at "n") rfl ?_))
local macro_rules | `(tactic| walk_at "g") => `(tactic| ((with_reducible show KSf _ _ _ _ _ _); refine rd_ksf (by assumption) (by walk_at "c") (by walk_at "n") (by simp) ?_))
local macro_rules | `(tactic| walk_at "w") => `(tactic| repeat (first | walk_at "v" | walk_at "s1" | walk_at "f" | walk_at "s2" | walk_at "s3"))
section
variable {P : Program} {w : World} {K : PySem.W.Frag} {mg : Str → Option Value} {base : Heap}
theorem rm_of {k : Nat} {A : Around} (hr : Room k A) : A.units + 64 < cLine ∧ A.units + 1 < cLine ∧ A.units + 65 < cLine := by
  have := hr.un
  exact ⟨by omega, by omega, by omega⟩

/-! ### values -/
abbrev sp_target_of (P : Program) (w : World) (K : PySem.W.Frag) : Sp := fun vs H Q _ => ∃ x v, vs = [x] ∧ Im K H x (vlD v) ∧ ∀ y, Im K H y (tgD v) → Q y H
theorem ok_target_of (T : TX P K mg) : Ok P w K mg base (CX0) 1 ("target_of", none) p_target_of (sp_target_of P w K) := by
  refine T.ok 8 (d := d_target_of) rfl rfl rfl sc_target_of (fun _ _ _ _ _ _ us hl => match us, hl with | [_], _ => rfl) (fun vs H Q E h => ?_) fun cdv Ar outer sh H vs Q E hr h => ?_
  · obtain ⟨x, v, rfl, _⟩ := h; rfl
  · obtain ⟨x, v, rfl, hx, q⟩ := h
    obtain ⟨hu, hu1, hu65⟩ := rm_of hr
    refine ⟨_, PSs.nox (pss_cons (ps_if (pt_val (pe_callB call_isiD (by rfl) T.f_isinstance (by decide +kernel) (pa_cons (pv 0) (pa_cons (pe_bltn (v := .ty "tuple") (by rfl) T.f_tuple (by decide +kernel) rfl) pa_nil))))
      (pss_one (ps_ret (pe_ix ix_tup (pv 0) pe_int (fun _ _ => rfl))))
      pss_nil)
      (pss_one (ps_ret pe_non))), ?_⟩
    walk_at "w"
    refine ⟨x, vlD v, "tuple", rfl, hx, .inl rfl, rd_kt (rd_if (fun hb => ?_) fun hb => ?_)⟩
    · walk_at "w"
      cases v with
      | rf n => exact rd_ixI (k := pD n) hx rfl q
      | _ => cases hb
    · walk_at "w"
      cases v with
      | rf n => cases hb
      | _ => exact q _ .non
abbrev sp__law_target := sp_target_of
theorem ok__law_target (T : TX P K mg) : Ok P w K mg base (CX0) 1 ("_law_target", none) p__law_target (sp__law_target P w K) := by
  refine T.ok 66 (d := d__law_target) rfl rfl rfl sc__law_target (fun _ _ _ _ _ _ us hl => match us, hl with | [_], _ => rfl) (fun vs H Q E h => ?_) fun cdv Ar outer sh H vs Q E hr h => ?_
  · obtain ⟨x, v, rfl, _⟩ := h; rfl
  · obtain ⟨x, v, rfl, hx, q⟩ := h
    obtain ⟨hu, hu1, hu65⟩ := rm_of hr
    refine ⟨_, PSs.nox (pss_cons (ps_if (pt_val (pe_callB call_isiD (by rfl) T.f_isinstance (by decide +kernel) (pa_cons (pv 0) (pa_cons (pe_bltn (v := .ty "tuple") (by rfl) T.f_tuple (by decide +kernel) rfl) pa_nil))))
      (pss_one (ps_ret (pe_ix ix_tup (pv 0) pe_int (fun _ _ => rfl))))
      pss_nil)
      (pss_one (ps_ret pe_non))), ?_⟩
    walk_at "w"
    refine ⟨x, vlD v, "tuple", rfl, hx, .inl rfl, rd_kt (rd_if (fun hb => ?_) fun hb => ?_)⟩
    · walk_at "w"
      cases v with
      | rf n => exact rd_ixI (k := pD n) hx rfl q
      | _ => cases hb
    · walk_at "w"
      cases v with
      | rf n => cases hb
      | _ => exact q _ .non
theorem tg_non {H : Hp} {y : V} {v : Vl} (h : Im K H y (tgD v)) : decide (y = .non) = (v.tg == none) := by
  cases v with
  | rf n =>
    obtain ⟨a, xs, rfl, _⟩ := h.ref
    rfl
  | _ => rw [h.non']; rfl
abbrev sp_is_reference (P : Program) (w : World) (K : PySem.W.Frag) : Sp := fun vs H Q _ => ∃ x v, vs = [x] ∧ Im K H x (vlD v) ∧ Q (.bl v.tg.isSome) H
theorem ok_is_reference (T : TX P K mg) : Ok P w K mg base (CX0) 2 ("is_reference", none) p_is_reference (sp_is_reference P w K) := by
  refine T.ok 9 (d := d_is_reference) rfl rfl rfl sc_is_reference (fun _ _ _ _ _ _ us hl => match us, hl with | [_], _ => rfl) (fun vs H Q E h => ?_) fun cdv Ar outer sh H vs Q E hr h => ?_
  · obtain ⟨x, v, rfl, _⟩ := h; rfl
  · obtain ⟨x, v, rfl, hx, q⟩ := h
    obtain ⟨hu, hu1, hu65⟩ := rm_of hr
    refine ⟨_, PSs.nox (pss_one (ps_ret (pe_cmpR op_notN1 (pe_fn (ok_target_of T) T.g_target_of (hr.mono (by decide)) pass0 (pa_cons (pv 0) pa_nil)) pe_non (nomark _)))), ?_⟩
    walk_at "w"
    refine ⟨x, v, rfl, hx, fun y hy => ?_⟩
    walk_at "w"
    rw [tg_non hy]
    cases v <;> exact q
/-! ### stamps -/
abbrev sp_is_later (P : Program) (w : World) (K : PySem.W.Frag) : Sp := fun vs H Q _ => ∃ x y a b, vs = [x, y] ∧ Im K H x (pD a) ∧ Im K H y (pD b) ∧ Q (.bl (ltP b a)) H
theorem ok_is_later (T : TX P K mg) : Ok P w K mg base (CX0) 1 ("is_later", none) p_is_later (sp_is_later P w K) := by
  refine T.ok 21 (d := d_is_later) rfl rfl rfl sc_is_later (fun _ _ _ _ _ _ us hl => match us, hl with | [_, _], _ => rfl) (fun vs H Q E h => ?_) fun cdv Ar outer sh H vs Q E hr h => ?_
  · obtain ⟨x, y, a, b, rfl, _⟩ := h; rfl
  · obtain ⟨x, y, a, b, rfl, hx, hy, q⟩ := h
    obtain ⟨hu, hu1, hu65⟩ := rm_of hr
    refine ⟨_, PSs.nox (pss_one (ps_ret (pe_or (pe_cmpR op_isN1 (pv 1) pe_non (nomark _)) (pe_one (pe_cmpR (op_gtI hu) (pv 0) (pv 1) (nomark _)))))), ?_⟩
    walk_at "w"
    have ny : decide (y = V.non) = false := by
      obtain ⟨p, xs, rfl, _⟩ := hy.ref
      rfl
    refine rd_ifF ny ?_
    walk_at "w"
    exact ⟨pD a, pD b, hx, hy, al_p a b, nofun, dp_p a, by rw [lt_p]; exact q⟩
end
end GT
set_option maxHeartbeats 2000000
namespace GT
open PySem PySem.Spec PyProof.Rows L2
local macro_rules | `(tactic| walk_at "v") => `(tactic| ((with_reducible show tVar _ _ _ _); refine rd_var rfl ?_))
local macro_rules | `(tactic| walk_at "s1") => `(tactic| with_reducible first | refine rd_cons ?_ | refine rd_nil ?_ | refine rd_c ?_ | refine rd_op ?_ | refine rd_seq ?_ | refine rd_fld ?_ | refine rd_asg ?_ | refine rd_gname ?_ | refine rd_I0 ?_ | refine rd_cb ?_ | refine rd_next ?_ | refine rd_drop ?_ | refine rd_ret ?_ | refine rd_mf ?_ | refine rd_cf ?_ | refine rd_ifS ?_ | refine rd_test ?_ | refine rd_kt ?_)
local macro_rules | `(tactic| walk_at "s2") => `(tactic| with_reducible first | refine rd_tup ?_ | refine rd_lst ?_ | refine rd_bm ?_ | refine rd_gcons ?_ | refine rd_gnil ?_ | refine rd_gsub ?_ | refine rd_dm ?_ | refine rd_sfld ?_ | refine rd_fa ?_ | refine rd_frz ?_ | refine rd_nf ?_ | refine rd_retN ?_ | refine rd_cont ?_ | refine rd_par ?_ | refine rd_un ?_ | refine rd_and ?_ | refine rd_or ?_ | refine rd_not ?_ | refine rd_tru ?_ | refine rd_B ?_ | refine rd_chain ?_ | refine rd_sl ?_ | refine rd_nopart ?_ | refine rd_part ?_ | refine rd_kpart ?_)
local macro_rules | `(tactic| walk_at "s3") => `(tactic| with_reducible first | refine rd_U ?_ | refine rd_eqi ?_ | refine rd_nei ?_ | refine rd_eqs ?_ | refine rd_nes ?_ | refine rd_isN ?_ | refine rd_notN ?_ | refine rd_max2 ?_ | refine rd_min2 ?_ | refine rd_int1 ?_ | refine rd_intb ?_ | refine rd_kbmS ?_ | refine rd_il ?_ | refine rd_it ?_ | refine rd_ir1 ?_ | refine rd_ir2 ?_ | refine rd_in ?_ | refine rd_for ?_ | refine rd_lc ?_ | refine rd_yes ?_ | refine rd_tt ?_ | refine rd_ff ?_ | refine rd_listRg ?_ | refine rd_andV ?_ | refine rd_orV ?_ | refine rd_notV ?_ | refine rd_ex ?_)
local macro_rules | `(tactic| walk_at "c") => `(tactic| first | exact TX.c_Channel (by assumption) | exact TX.c_State (by assumption) | exact TX.c_Message (by assumption) | exact TX.c_Replica (by assumption) | exact TX.c_Network (by assumption))
local macro_rules | `(tactic| walk_at "n") => `(tactic| first | exact TX.n_Channel_under_way (by assumption) | exact TX.n_State_cells (by assumption) | exact TX.n_Message_octets (by assumption) | exact TX.n_Message_place (by assumption) | exact TX.n_Message_known (by assumption) | exact TX.n_Replica_peer (by assumption) | exact TX.n_Replica_clock (by assumption) | exact TX.n_Replica_made (by assumption) | exact TX.n_Replica_state (by assumption) | exact TX.n_Replica_roots (by assumption) | exact TX.n_Replica_pending (by assumption) | exact TX.n_Replica_messages (by assumption) | exact TX.n_Network_replicas (by assumption) | exact TX.n_Network_channels (by assumption))
local macro_rules | `(tactic| walk_at "f") => `(tactic| ((with_reducible show KFld _ _ _ _ _); refine rd_kfld (by assumption) (by walk_at "c") (by walk_at "n") rfl ?_))
local macro_rules | `(tactic| walk_at "g") => `(tactic| ((with_reducible show KSf _ _ _ _ _ _); refine rd_ksf (by assumption) (by walk_at "c") (by walk_at "n") (by simp) ?_))
local macro_rules | `(tactic| walk_at "w") => `(tactic| repeat (first | walk_at "v" | walk_at "s1" | walk_at "f" | walk_at "s2" | walk_at "s3"))
section
variable {P : Program} {w : World} {K : PySem.W.Frag} {mg : Str → Option Value} {base : Heap}
theorem Kp.wl {F : List Addr} {H H1 : Hp} {a : Addr} {xs : List V} {o : HO} (k : Kp F H H1) (e : H1 a = some (.lst xs)) (m : a ∈ F) : Kp F H (upd H1 a o) := k.wrf (by rw [e]; trivial) m
theorem Kp.wi {F : List Addr} {H H1 : Hp} {a C dx : Addr} {fs : List (Str × V)} {o : HO} (k : Kp F H H1) (e : H1 a = some (.ins C dx fs)) (m : a ∈ F) : Kp F H (upd H1 a o) := k.wrf (by rw [e]; trivial) m
theorem Kp.nil {F : List Addr} {H H1 : Hp} (k : Kp [] H H1) : Kp F H H1 := k.mono (by simp)
theorem paired_take {α β : Type} {R : α → β → Prop} {xs : List α} {ys : List β} (h : Paired R xs ys) : ∀ n, Paired R (xs.take n) (ys.take n) := by
  induction h with
  | nil => intro n; simp; exact .nil
  | cons a b ih =>
    intro n
    cases n with
    | zero => exact .nil
    | succ n => exact .cons a (ih n)
theorem paired_drop {α β : Type} {R : α → β → Prop} {xs : List α} {ys : List β} (h : Paired R xs ys) : ∀ n, Paired R (xs.drop n) (ys.drop n) := by
  induction h with
  | nil => intro n; simp; exact .nil
  | cons a b ih =>
    intro n
    cases n with
    | zero => exact .cons a b
    | succ n => exact ih n
theorem paired_app {α β : Type} {R : α → β → Prop} {xs xs' : List α} {ys ys' : List β} (h : Paired R xs ys) (h' : Paired R xs' ys') : Paired R (xs ++ xs') (ys ++ ys') := by
  induction h with
  | nil => exact h'
  | cons a b ih => exact .cons a ih
theorem paired_set {α β : Type} {R : α → β → Prop} {xs : List α} {ys : List β} {a : α} {b : β} (h : Paired R xs ys) (r : R a b) : ∀ n, Paired R (xs.set n a) (ys.set n b) := by
  induction h with
  | nil => intro n; exact .nil
  | cons x y ih =>
    intro n
    cases n with
    | zero => exact .cons r y
    | succ n => exact .cons x (ih n)
theorem atN {α : Type} {xs : List α} {i : Int} {v : α} (h0 : 0 ≤ i) (h : xs[i.toNat]? = some v) : atI xs i = some v := by
  have := atI_nat h
  rwa [Int.toNat_of_nonneg h0] at this
theorem ixI {n : Nat} {i : Int} (h0 : 0 ≤ i) (h : i < n) : ixN n i = some i.toNat := by
  unfold ixN
  rw [if_pos h0, if_pos h]
/-! ### channels -/
theorem cut_take {xs : List V} {i : Nat} (h : i ≤ xs.length) : cutV xs none (some (i : Int)) = xs.take i := by
  unfold cutV
  rw [HT.sIx_none, HT.sIx_nat, List.drop_zero, Nat.min_eq_left h, Nat.sub_zero]
theorem cut_drop {xs : List V} {i : Nat} : cutV xs (some (i : Int)) none = xs.drop i := by
  unfold cutV
  rw [HT.sIx_none, HT.sIx_nat]
  rcases Nat.le_total i xs.length with h | h
  · rw [Nat.min_eq_left h, List.take_of_length_le (by rw [List.length_drop]; exact Nat.le_refl _)]
  · rw [Nat.min_eq_right h, List.drop_eq_nil_of_le (Nat.le_refl _), List.drop_eq_nil_of_le h]
    simp
theorem cutT {xs : List V} {i : Int} (h0 : 0 ≤ i) (h : i ≤ xs.length) : cutV xs none (some i) = xs.take i.toNat := by
  have := cut_take (xs := xs) (i := i.toNat) (by omega)
  rwa [Int.toNat_of_nonneg h0] at this
theorem cutD {xs : List V} {i : Int} (h0 : 0 ≤ i) : cutV xs (some (i + 1)) none = xs.drop (i.toNat + 1) := by
  have := cut_drop (xs := xs) (i := i.toNat + 1)
  rwa [show ((i.toNat + 1 : Nat) : Int) = i + 1 by omega] at this
/-- rows of octets, each locked for good -/
abbrev RowsR (H : Hp) : List V → List (List Int) → Prop := Paired fun v r => Fz H v (r.map V.int)
theorem RowsR.get {H : Hp} {xs : List V} {rows : List (List Int)} (h : RowsR H xs rows) {i : Nat} {r : List Int} (e : rows[i]? = some r) : ∃ v, xs[i]? = some v ∧ Fz H v (r.map V.int) := by
  have hl := Paired.length h
  have hi := (List.getElem?_eq_some_iff.mp e).1
  obtain ⟨v, hv⟩ : ∃ v, xs[i]? = some v := ⟨xs[i]'(by omega), List.getElem?_eq_getElem _⟩
  obtain ⟨q, h1, h2⟩ := paired_get h hv
  rw [e] at h1
  cases h1
  exact ⟨v, hv, h2⟩
theorem rows_up {F : List Addr} {H H' : Hp} {xs : List V} {rows : List (List Int)} (k : Kp F H H') (h : RowsR H xs rows) : RowsR H' xs rows := Paired.mapP h fun _ _ z => z.up k
/-- a channel at c, its list at u -/
def ChA (K : PySem.W.Frag) (H : Hp) (c u : Addr) (rows : List (List Int)) : Prop := ∃ dx xs, H c = some (.ins (He.ga K "Channel") dx [("under_way", .ref u)]) ∧ H u = some (.lst xs) ∧ RowsR H xs rows
theorem ChA.up {F : List Addr} {H H' : Hp} {c u : Addr} {rows : List (List Int)} (h : ChA K H c u rows) (k : Kp F H H') (n1 : c ∉ F) (n2 : u ∉ F) : ChA K H' c u rows :=
  let ⟨dx, xs, a, b, r⟩ := h; ⟨dx, xs, k.get a n1, k.get b n2, rows_up k r⟩
theorem ChA.ne {H : Hp} {c u : Addr} {rows : List (List Int)} (h : ChA K H c u rows) : c ≠ u := fun e => by
  obtain ⟨dx, xs, a, b, _⟩ := h
  rw [e, b] at a
  cases a
abbrev sp_Channel_init (P : Program) (w : World) (K : PySem.W.Frag) : Sp := fun vs H Q _ => ∃ x dx, vs = [.ref x] ∧ H x = some (.ins (He.ga K "Channel") dx []) ∧ ∀ u H', H u = none → Kp [x] H H' → ChA K H' x u [] → Q .non H'
theorem ok_Channel_init (T : TX P K mg) : Ok P w K mg base (CX0) 1 ("Channel", some "__init__") p_Channel_init (sp_Channel_init P w K) := by
  refine T.ok 0 (d := d_Channel_init) rfl rfl rfl sc_Channel_init (fun _ _ _ _ _ _ us hl => match us, hl with | [_], _ => rfl) (fun vs H Q E h => ?_) fun cdv Ar outer sh H vs Q E hr h => ?_
  · obtain ⟨x, dx, rfl, _⟩ := h; rfl
  · obtain ⟨x, dx, rfl, hx, q⟩ := h
    obtain ⟨hu, hu1, hu65⟩ := rm_of hr
    refine ⟨_, PSs.nox (pss_one (ps_fld (pv 0) (pe_lst pa_nil) rfl)), ?_⟩
    walk_at "w"
    refine rd_klst (by decide) fun u H' hn k e => ?_
    walk_at "w"
    have hx' := k.get hx (by simp)
    walk_at "g"
    refine q u _ hn (k.mono (by simp) |>.wrf (by rw [hx']; trivial) (by simp)) ⟨dx, [], upd_same, ?_, .nil⟩
    rw [upd_ne (ne_of_none hx hn).symm]
    exact e
abbrev sp_Channel_check (P : Program) (w : World) (K : PySem.W.Frag) : Sp := fun vs H Q _ => ∃ (c u : Addr) (rows : List (List Int)) (i : Int), vs = [.ref c, .int i] ∧ ChA K H c u rows ∧ 0 ≤ i ∧ i < rows.length ∧ Q .non H
theorem ok_Channel_check (T : TX P K mg) : Ok P w K mg base (CX0) 1 ("Channel", some "check") p_Channel_check (sp_Channel_check P w K) := by
  refine T.ok 1 (d := d_Channel_check) rfl rfl rfl sc_Channel_check (fun _ _ _ _ _ _ us hl => match us, hl with | [_, _], _ => rfl) (fun vs H Q E h => ?_) fun cdv Ar outer sh H vs Q E hr h => ?_
  · obtain ⟨c, u, rows, i, rfl, _⟩ := h; rfl
  · obtain ⟨c, u, rows, i, rfl, ⟨dx, xs, hc, hl, hrr⟩, h0, h1, q⟩ := h
    obtain ⟨hu, hu1, hu65⟩ := rm_of hr
    refine ⟨_, PSs.nox (pss_one (ps_if (pt_not (pt_chain op_le op_lt pe_int (pv 1) (pe_callB call_lenQ (by rfl) T.f_len (by decide +kernel) (pa_cons (pe_fld (pv 0) rfl) pa_nil))))
      (pss_one ps_never)
      pss_nil)), ?_⟩
    walk_at "w"
    refine rd_ifT (decide_eq_true h0) ?_
    walk_at "w"
    refine rd_lenL (.inl (.inl hl)) ?_
    walk_at "w"
    refine rd_ifF (by rw [Paired.length hrr]; simpa using h1) ?_
    walk_at "w"
    exact q
/-- behind a change of the channel's list -/
abbrev ChP (K : PySem.W.Frag) (H : Hp) (c u : Addr) (rows' : List (List Int)) (N : Hp → Prop) : Prop := ∀ u' H', Kp [c, u] H H' → (u' = u ∨ H u' = none) → ChA K H' c u' rows' → N H'
abbrev sp_Channel_put (P : Program) (w : World) (K : PySem.W.Frag) : Sp := fun vs H Q _ => ∃ (c u a : Addr) (rows : List (List Int)) (os : List Int), vs = [.ref c, .ref a] ∧ ChA K H c u rows ∧ SqL K H a (os.map V.int) ∧ os.length ≤ 100000 ∧ rows.length < 1000 ∧ ChP K H c u (rows ++ [os]) fun H' => ∀ i, Q (.int i) H'
theorem ok_Channel_put (T : TX P K mg) : Ok P w K mg base (CX0) 1 ("Channel", some "put") p_Channel_put (sp_Channel_put P w K) := by
  refine T.ok 2 (d := d_Channel_put) rfl rfl rfl sc_Channel_put (fun _ _ _ _ _ _ us hl => match us, hl with | [_, _], _ => rfl) (fun vs H Q E h => ?_) fun cdv Ar outer sh H vs Q E hr h => ?_
  · obtain ⟨c, u, a, rows, os, rfl, _⟩ := h; rfl
  · obtain ⟨c, u, a, rows, os, rfl, ⟨dx, xs, hc, hl, hrr⟩, ha, hz, hz2, q⟩ := h
    obtain ⟨hu, hu1, hu65⟩ := rm_of hr
    refine ⟨_, PSs.nox (pss_cons (ps_expr (pe_bm PySem.F.plainAttrs_list PySem.F.slot_list_append PySem.F.type_list_append mt_append (pe_fld (pv 0) rfl) (pa_cons (pe_frz (pe_callTy call_listQ (by rfl) T.f_list (by decide +kernel) (pa_cons (pv 1) pa_nil))) pa_nil)))
      (pss_one (ps_ret (pe_callB call_lenQ (by rfl) T.f_len (by decide +kernel) (pa_cons (pe_fld (pv 0) rfl) pa_nil))))), ?_⟩
    walk_at "w"
    refine rd_kbmL (.inl (.inl hl)) ?_
    walk_at "w"
    refine rd_listL ha fun l H1 hn k e => rd_kfzL e hn k fun H2 k2 _ fz => ?_
    walk_at "w"
    have hl2 := k2.get hl (by simp)
    have hc2 := k2.get hc (by simp)
    have hne : c ≠ u := ne_of hc hl (by simp)
    refine rd_append hl2 (by rw [Paired.length hrr]; omega) ?_
    walk_at "w"
    have hc3 : upd H2 u (.lst (xs ++ [.ref l])) c = _ := (upd_ne hne).trans hc2
    walk_at "w"
    refine rd_lenL (.inl (.inl upd_same)) ?_
    have k3 : Kp [c, u] H (upd H2 u (.lst (xs ++ [.ref l]))) := k2.nil.wl hl2 (by simp)
    exact q u _ k3 (.inl rfl) ⟨dx, _, hc3, upd_same, Paired.snoc (rows_up k3 hrr) (fz.up (Kp.wl (F := [u]) Kp.refl hl2 (by simp)))⟩ _
abbrev sp_Channel_lose (P : Program) (w : World) (K : PySem.W.Frag) : Sp := fun vs H Q _ => ∃ (c u : Addr) (rows : List (List Int)) (i : Int), vs = [.ref c, .int i] ∧ ChA K H c u rows ∧ 0 ≤ i ∧ i < rows.length ∧ rows.length < 1000 ∧ ChP K H c u (rows.take i.toNat ++ rows.drop (i.toNat + 1)) fun H' => Q .non H'
theorem ok_Channel_lose (T : TX P K mg) : Ok P w K mg base (CX0) 2 ("Channel", some "lose") p_Channel_lose (sp_Channel_lose P w K) := by
  refine T.ok 3 (d := d_Channel_lose) rfl rfl rfl sc_Channel_lose (fun _ _ _ _ _ _ us hl => match us, hl with | [_, _], _ => rfl) (fun vs H Q E h => ?_) fun cdv Ar outer sh H vs Q E hr h => ?_
  · obtain ⟨c, u, rows, i, rfl, _⟩ := h; rfl
  · obtain ⟨c, u, rows, i, rfl, A, h0, h1, hz, q⟩ := h
    obtain ⟨dx, xs, hc, hl, hrr⟩ := id A
    have hlen := Paired.length hrr
    obtain ⟨hu, hu1, hu65⟩ := rm_of hr
    refine ⟨_, PSs.nox (pss_cons (ps_expr (pe_mt' (ok_Channel_check T) T.c_Channel T.m_Channel_check (hr.mono (by decide)) pass0 (pv 0) (pa_cons (pv 1) pa_nil)))
      (pss_one (ps_fld (pv 0) (pe_op op_catL (pe_slice sl_list (pe_fld (pv 0) rfl) po_none (po_some (pv 1))) (pe_slice sl_list (pe_fld (pv 0) rfl) (po_some (pe_op op_add (pv 1) pe_int)) po_none)) rfl))), ?_⟩
    walk_at "w"
    refine rd_kmf hc rfl ?_
    walk_at "w"
    refine ⟨c, u, rows, i, rfl, A, h0, h1, ?_⟩
    walk_at "w"
    refine rd_slL (.inl (.inl hl)) fun p1 H1 n1 k1 e1 => ?_
    have hc1 := k1.get hc (by simp)
    have hl1 := k1.get hl (by simp)
    walk_at "w"
    refine rd_slL (.inl (.inl hl1)) fun p2 H2 n2 k2 e2 => ?_
    have hc2 := k2.get hc1 (by simp)
    have hl2 := k2.get hl1 (by simp)
    refine rd_cat (.inl (k2.get e1 (by simp))) (.inl e2) ?_ fun p3 H3 n3 k3 e3 => ?_
    · have := cutV_length xs none (some i)
      have := cutV_length xs (some (i + 1)) none
      omega
    have hc3 := k3.get hc2 (by simp)
    walk_at "w"
    walk_at "g"
    have k : Kp [] H H3 := k1.trans (k2.trans k3)
    have kk : Kp [c, u] H (upd H3 c (.ins (He.ga K "Channel") dx (putF "under_way" (.ref p3) [("under_way", .ref u)]))) := k.nil.wi hc3 (by simp)
    refine q p3 _ kk (.inr (k1.none (k2.none n3))) ⟨dx, xs.take i.toNat ++ xs.drop (i.toNat + 1), upd_same, ?_, ?_⟩
    · rw [upd_ne (ne_of hc3 e3 (by simp)).symm, e3, cutT h0 (by omega), cutD h0]
    · exact rows_up kk (paired_app (paired_take hrr _) (paired_drop hrr _))
abbrev sp_Channel_double (P : Program) (w : World) (K : PySem.W.Frag) : Sp := fun vs H Q _ => ∃ (c u : Addr) (rows : List (List Int)) (i : Int) (r : List Int), vs = [.ref c, .int i] ∧ ChA K H c u rows ∧ 0 ≤ i ∧ rows[i.toNat]? = some r ∧ rows.length < 1000 ∧ r.length ≤ 100000 ∧ ChP K H c u (rows ++ [r]) fun H' => Q .non H'
theorem ok_Channel_double (T : TX P K mg) : Ok P w K mg base (CX0) 2 ("Channel", some "double") p_Channel_double (sp_Channel_double P w K) := by
  refine T.ok 4 (d := d_Channel_double) rfl rfl rfl sc_Channel_double (fun _ _ _ _ _ _ us hl => match us, hl with | [_, _], _ => rfl) (fun vs H Q E h => ?_) fun cdv Ar outer sh H vs Q E hr h => ?_
  · obtain ⟨c, u, rows, i, r, rfl, _⟩ := h; rfl
  · obtain ⟨c, u, rows, i, r, rfl, A, h0, h1, hz, hzr, q⟩ := h
    obtain ⟨dx, xs, hc, hl, hrr⟩ := id A
    have hi : i < rows.length := by have := (List.getElem?_eq_some_iff.mp h1).1; omega
    obtain ⟨v, hv, fv⟩ := hrr.get h1
    obtain ⟨a, o, rfl, ha⟩ := id fv
    obtain ⟨hu, hu1, hu65⟩ := rm_of hr
    refine ⟨_, PSs.nox (pss_cons (ps_expr (pe_mt' (ok_Channel_check T) T.c_Channel T.m_Channel_check (hr.mono (by decide)) pass0 (pv 0) (pa_cons (pv 1) pa_nil)))
      (pss_one (ps_expr (pe_bm PySem.F.plainAttrs_list PySem.F.slot_list_append PySem.F.type_list_append mt_append (pe_fld (pv 0) rfl) (pa_cons (pe_frz (pe_callTy call_listQ (by rfl) T.f_list (by decide +kernel) (pa_cons (pe_ix ix_list (pe_fld (pv 0) rfl) (pv 1) (fun _ _ => rfl)) pa_nil))) pa_nil))))), ?_⟩
    walk_at "w"
    refine rd_kmf hc rfl ?_
    walk_at "w"
    refine ⟨c, u, rows, i, rfl, A, h0, hi, ?_⟩
    walk_at "w"
    refine rd_kbmL (.inl (.inl hl)) ?_
    walk_at "w"
    refine rd_ixL (.inl (.inl hl)) (atN h0 hv) ?_
    walk_at "w"
    refine rd_listL fv.sq fun l H1 hn k e => rd_kfzL e hn k fun H2 k2 _ fz => ?_
    walk_at "w"
    have hl2 := k2.get hl (by simp)
    have hc2 := k2.get hc (by simp)
    have hne : c ≠ u := ne_of hc hl (by simp)
    refine rd_append hl2 (by rw [Paired.length hrr]; omega) ?_
    walk_at "w"
    have k3 : Kp [c, u] H (upd H2 u (.lst (xs ++ [.ref l]))) := k2.nil.wl hl2 (by simp)
    exact q u _ k3 (.inl rfl) ⟨dx, _, (upd_ne hne).trans hc2, upd_same, Paired.snoc (rows_up k3 hrr) (fz.up (Kp.wl (F := [u]) Kp.refl hl2 (by simp)))⟩
abbrev sp_Channel_exchange (P : Program) (w : World) (K : PySem.W.Frag) : Sp := fun vs H Q _ => ∃ (c u : Addr) (rows : List (List Int)) (i j : Int) (r t : List Int), vs = [.ref c, .int i, .int j] ∧ ChA K H c u rows ∧ 0 ≤ i ∧ rows[i.toNat]? = some r ∧ 0 ≤ j ∧ rows[j.toNat]? = some t ∧ ChP K H c u ((rows.set i.toNat t).set j.toNat r) fun H' => Q .non H'
theorem ok_Channel_exchange (T : TX P K mg) : Ok P w K mg base (CX0) 2 ("Channel", some "exchange") p_Channel_exchange (sp_Channel_exchange P w K) := by
  refine T.ok 5 (d := d_Channel_exchange) rfl rfl rfl sc_Channel_exchange (fun _ _ _ _ _ _ us hl => match us, hl with | [_, _, _], _ => rfl) (fun vs H Q E h => ?_) fun cdv Ar outer sh H vs Q E hr h => ?_
  · obtain ⟨c, u, rows, i, j, r, t, rfl, _⟩ := h; rfl
  · obtain ⟨c, u, rows, i, j, r, t, rfl, A, h0, h1, h2, h3, q⟩ := h
    obtain ⟨dx, xs, hc, hl, hrr⟩ := id A
    have hlen := Paired.length hrr
    have hi : i < rows.length := by have := (List.getElem?_eq_some_iff.mp h1).1; omega
    have hj : j < rows.length := by have := (List.getElem?_eq_some_iff.mp h3).1; omega
    obtain ⟨v, hv, fv⟩ := hrr.get h1
    obtain ⟨v', hv', fv'⟩ := hrr.get h3
    obtain ⟨hu, hu1, hu65⟩ := rm_of hr
    refine ⟨_, PSs.nox (pss_cons (ps_expr (pe_mt' (ok_Channel_check T) T.c_Channel T.m_Channel_check (hr.mono (by decide)) pass0 (pv 0) (pa_cons (pv 1) pa_nil)))
      (pss_cons (ps_expr (pe_mt' (ok_Channel_check T) T.c_Channel T.m_Channel_check (hr.mono (by decide)) pass0 (pv 0) (pa_cons (pv 2) pa_nil)))
      (pss_cons (ps_par (by rfl) sc_Channel_exchange.nd (i := 3) (j := 4) rfl rfl (by decide) rfl rfl (pa_cons (pe_ix ix_list (pe_fld (pv 0) rfl) (pv 1) (fun _ _ => rfl)) (pa_cons (pe_ix ix_list (pe_fld (pv 0) rfl) (pv 2) (fun _ _ => rfl)) pa_nil)) (by rfl))
      (pss_cons (ps_asg (pv 4) (pg_sub (pe_fld (pv 0) rfl) (pv 1) set_list))
      (pss_one (ps_asg (pv 3) (pg_sub (pe_fld (pv 0) rfl) (pv 2) set_list))))))), ?_⟩
    walk_at "w"
    refine rd_kmf hc rfl ?_
    walk_at "w"
    refine ⟨c, u, rows, i, rfl, A, h0, hi, ?_⟩
    walk_at "w"
    refine rd_kmf hc rfl ?_
    walk_at "w"
    refine ⟨c, u, rows, j, rfl, A, h2, hj, ?_⟩
    walk_at "w"
    refine rd_ixL (.inl (.inl hl)) (atN h0 hv) ?_
    walk_at "w"
    refine rd_ixL (.inl (.inl hl)) (atN h2 hv') ?_
    walk_at "w"
    refine ⟨_, _, rfl, ?_⟩
    walk_at "w"
    have hne : c ≠ u := ne_of hc hl (by simp)
    refine rd_setL hl (ixI h0 (by omega)) ?_
    have hc1 : upd H u (.lst (xs.set i.toNat v')) c = _ := (upd_ne hne).trans hc
    walk_at "w"
    refine rd_setL upd_same (ixI h2 (by simp; omega)) ?_
    walk_at "w"
    rw [upd_upd]
    have k3 : Kp [c, u] H (upd H u (.lst ((xs.set i.toNat v').set j.toNat v))) := Kp.refl.wl hl (by simp)
    exact q u _ k3 (.inl rfl) ⟨dx, _, (upd_ne hne).trans hc, upd_same, paired_set (paired_set (rows_up k3 hrr) (fv'.up k3) _) (fv.up k3) _⟩
abbrev sp_Channel_damage (P : Program) (w : World) (K : PySem.W.Frag) : Sp := fun vs H Q _ => ∃ (c u : Addr) (rows : List (List Int)) (i j o : Int) (r : List Int), vs = [.ref c, .int i, .int j, .int o] ∧ ChA K H c u rows ∧ 0 ≤ i ∧ rows[i.toNat]? = some r ∧ r.length ≤ 10000 ∧
  ChP K H c u (if 0 ≤ j ∧ j < r.length ∧ r[j.toNat]? ≠ some o then rows.set i.toNat (r.set j.toNat o) else rows) fun H' => ∀ b, Q (.bl b) H'
theorem ok_Channel_damage (T : TX P K mg) : Ok P w K mg base (CX0) 2 ("Channel", some "damage") p_Channel_damage (sp_Channel_damage P w K) := by
  refine T.ok 6 (d := d_Channel_damage) rfl rfl rfl sc_Channel_damage (fun _ _ _ _ _ _ us hl => match us, hl with | [_, _, _, _], _ => rfl) (fun vs H Q E h => ?_) fun cdv Ar outer sh H vs Q E hr h => ?_
  · obtain ⟨c, u, rows, i, j, o, r, rfl, _⟩ := h; rfl
  · obtain ⟨c, u, rows, i, j, o, r, rfl, A, h0, h1, hz, q⟩ := h
    obtain ⟨dx, xs, hc, hl, hrr⟩ := id A
    have hlen := Paired.length hrr
    have hi : i < rows.length := by have := (List.getElem?_eq_some_iff.mp h1).1; omega
    obtain ⟨v, hv, fv⟩ := hrr.get h1
    obtain ⟨a, oo, rfl, ha⟩ := id fv
    obtain ⟨hu, hu1, hu65⟩ := rm_of hr
    refine ⟨_, PSs.nox (pss_cons (ps_expr (pe_mt' (ok_Channel_check T) T.c_Channel T.m_Channel_check (hr.mono (by decide)) pass0 (pv 0) (pa_cons (pv 1) pa_nil)))
      (pss_cons (ps_set (i := 4) sc_Channel_damage.nd rfl (Or.inl rfl) (pe_ix ix_list (pe_fld (pv 0) rfl) (pv 1) (fun _ _ => rfl)))
      (pss_cons (ps_if (PW.pt (pw_or (pt_not (pt_chain op_le op_lt pe_int (pv 2) (pe_callB call_lenQ (by rfl) T.f_len (by decide +kernel) (pa_cons (pv 4) pa_nil)))) (pw_or1 (pt_cmpR op_eq (pe_ix ix_list (pv 4) (pv 2) (fun _ _ => rfl)) (pv 3) (nomark _)))))
      (pss_one (ps_ret pe_bl))
      pss_nil)
      (pss_cons (ps_asg (pe_frz (pe_op op_catL (pe_op op_catL (pe_slice sl_list (pv 4) po_none (po_some (pv 2))) (pe_lst (pa_cons (pv 3) pa_nil))) (pe_slice sl_list (pv 4) (po_some (pe_op op_add (pv 2) pe_int)) po_none))) (pg_sub (pe_fld (pv 0) rfl) (pv 1) set_list))
      (pss_one (ps_ret pe_bl)))))), ?_⟩
    walk_at "w"
    refine rd_kmf hc rfl ?_
    walk_at "w"
    refine ⟨c, u, rows, i, rfl, A, h0, hi, ?_⟩
    walk_at "w"
    refine rd_ixL (.inl (.inl hl)) (atN h0 hv) ?_
    walk_at "w"
    have no : ¬ (0 ≤ j ∧ j < r.length ∧ r[j.toNat]? ≠ some o) → ∀ b, Q (.bl b) H := fun hn b => by
      rw [if_neg hn] at q
      exact q u H Kp.refl (.inl rfl) A b
    refine rd_if (fun b0 => ?_) fun b0 => ?_
    rotate_left
    · walk_at "w"
      refine rd_ifT rfl ?_
      walk_at "w"
      exact no (fun z => by have := of_decide_eq_false b0; omega) _
    have hj0 := of_decide_eq_true b0
    walk_at "w"
    refine rd_lenL fv.sq ?_
    walk_at "w"
    rw [List.length_map]
    refine rd_if (fun b1 => ?_) fun b1 => ?_
    · walk_at "w"
      exact no (fun z => by
        have : ¬ j < r.length := by simpa using b1
        omega) _
    have hj1 : j < r.length := by simpa using b1
    obtain ⟨y, hy⟩ : ∃ y, r[j.toNat]? = some y := ⟨r[j.toNat]'(by omega), List.getElem?_eq_getElem _⟩
    walk_at "w"
    refine rd_ixL fv.sq (v := .int y) (atN hj0 (by rw [List.getElem?_map, hy]; rfl)) ?_
    walk_at "w"
    refine rd_if (fun b2 => ?_) fun b2 => ?_
    · walk_at "w"
      exact no (fun z => z.2.2 (by rw [hy, of_decide_eq_true b2])) _
    have yes : 0 ≤ j ∧ j < r.length ∧ r[j.toNat]? ≠ some o := ⟨hj0, hj1, by rw [hy]; intro z; cases z; simp at b2⟩
    rw [if_pos yes] at q
    walk_at "w"
    refine rd_slL fv.sq fun p1 H1 n1 k1 e1 => ?_
    walk_at "w"
    refine rd_klst (by simp) fun p2 H2 n2 k2 e2 => ?_
    refine rd_cat (.inl (k2.get e1 (by simp))) (.inl e2) ?_ fun p3 H3 n3 k3 e3 => ?_
    · have := cutV_length (r.map V.int) none (some j)
      rw [List.length_map] at this
      simp; omega
    walk_at "w"
    have kk : Kp [] H H3 := k1.trans (k2.trans k3)
    refine rd_slL (fv.up kk).sq fun p4 H4 n4 k4 e4 => ?_
    refine rd_cat (.inl (k4.get e3 (by simp))) (.inl e4) ?_ fun p5 H5 n5 k5 e5 => ?_
    · have h3 := cutV_length (r.map V.int) none (some j)
      have h4 := cutV_length (r.map V.int) (some (j + 1)) none
      rw [List.length_map] at h3 h4
      simp; omega
    have kH : Kp [] H H5 := kk.trans (k4.trans k5)
    refine rd_kfzL (H0 := H) e5 (kk.none (k4.none n5)) kH fun H6 k6 _ fz => ?_
    walk_at "w"
    have hc6 := k6.get hc (by simp)
    have hl6 := k6.get hl (by simp)
    walk_at "w"
    refine rd_setL hl6 (ixI h0 (by omega)) ?_
    walk_at "w"
    have hne : c ≠ u := ne_of hc hl (by simp)
    have k7 : Kp [c, u] H6 (upd H6 u (.lst (xs.set i.toNat (.ref p5)))) := Kp.refl.wl hl6 (by simp)
    have e : cutV (r.map V.int) none (some j) ++ [V.int o] ++ cutV (r.map V.int) (some (j + 1)) none = (r.set j.toNat o).map V.int := by
      rw [cutT hj0 (by simp; omega), cutD hj0, ← List.map_take, ← List.map_drop, List.set_eq_take_append_cons_drop, if_pos (by omega)]
      simp
    rw [e] at fz
    exact q u _ (k6.nil.trans k7) (.inl rfl) ⟨dx, _, (upd_ne hne).trans hc6, upd_same, paired_set (rows_up (k6.nil.trans k7) hrr) (fz.up k7) _⟩ _
abbrev sp_Channel_take (P : Program) (w : World) (K : PySem.W.Frag) : Sp := fun vs H Q _ => ∃ (c u : Addr) (rows : List (List Int)) (i : Int) (r : List Int), vs = [.ref c, .int i] ∧ ChA K H c u rows ∧ 0 ≤ i ∧ rows[i.toNat]? = some r ∧ rows.length < 1000 ∧
  ChP K H c u (rows.take i.toNat ++ rows.drop (i.toNat + 1)) fun H' => ∀ v, Fz H' v (r.map V.int) → Q v H'
theorem ok_Channel_take (T : TX P K mg) : Ok P w K mg base (CX0) 3 ("Channel", some "take") p_Channel_take (sp_Channel_take P w K) := by
  refine T.ok 7 (d := d_Channel_take) rfl rfl rfl sc_Channel_take (fun _ _ _ _ _ _ us hl => match us, hl with | [_, _], _ => rfl) (fun vs H Q E h => ?_) fun cdv Ar outer sh H vs Q E hr h => ?_
  · obtain ⟨c, u, rows, i, r, rfl, _⟩ := h; rfl
  · obtain ⟨c, u, rows, i, r, rfl, A, h0, h1, hz, q⟩ := h
    obtain ⟨dx, xs, hc, hl, hrr⟩ := id A
    have hlen := Paired.length hrr
    have hi : i < rows.length := by have := (List.getElem?_eq_some_iff.mp h1).1; omega
    obtain ⟨v, hv, fv⟩ := hrr.get h1
    obtain ⟨hu, hu1, hu65⟩ := rm_of hr
    refine ⟨_, PSs.nox (pss_cons (ps_expr (pe_mt' (ok_Channel_check T) T.c_Channel T.m_Channel_check (hr.mono (by decide)) pass0 (pv 0) (pa_cons (pv 1) pa_nil)))
      (pss_cons (ps_set (i := 2) sc_Channel_take.nd rfl (Or.inl rfl) (pe_ix ix_list (pe_fld (pv 0) rfl) (pv 1) (fun _ _ => rfl)))
      (pss_cons (ps_expr (pe_mt' (ok_Channel_lose T) T.c_Channel T.m_Channel_lose (hr.mono (by decide)) pass0 (pv 0) (pa_cons (pv 1) pa_nil)))
      (pss_one (ps_ret (pv 2)))))), ?_⟩
    walk_at "w"
    refine rd_kmf hc rfl ?_
    walk_at "w"
    refine ⟨c, u, rows, i, rfl, A, h0, hi, ?_⟩
    walk_at "w"
    refine rd_ixL (.inl (.inl hl)) (atN h0 hv) ?_
    walk_at "w"
    refine rd_kmf hc rfl ?_
    walk_at "w"
    refine ⟨c, u, rows, i, rfl, A, h0, hi, hz, fun u' H' k hn A' => ?_⟩
    walk_at "w"
    exact q u' H' k hn A' v (fv.up k)
end
end GT
set_option maxHeartbeats 2000000
namespace GT
open PySem PySem.Spec PyProof.Rows L2
/-! ### a replica -/
structure RAd where
  a : Addr
  s : Addr
  d : Addr
  r : Addr
  pe : Addr
  ms : Addr
structure Rep where
  peer : Int
  clock : Int
  made : Int
  cells : List (Ky × Cell)
  roots : List Nm
  pend : List Ch
  msgs : List (Nm × List Ch)
def RAd.own (A : RAd) : List Addr := [A.a, A.s, A.d, A.r, A.pe, A.ms]
abbrev repFs (A : RAd) (rp : Rep) : List (Str × V) := [("peer", .int rp.peer), ("clock", .int rp.clock), ("made", .int rp.made), ("state", .ref A.s), ("roots", .ref A.r), ("pending", .ref A.pe), ("messages", .ref A.ms)]
structure StT (P : Program) (w : World) (K : PySem.W.Frag) (H : Hp) (s d : Addr) (cs : List (Ky × Cell)) : Prop where
  st : ∃ dx, H s = some (.ins (He.ga K "State") dx [("cells", .ref d)])
  ce : DCe P w K H d cs
structure RepT (P : Program) (w : World) (K : PySem.W.Frag) (H : Hp) (A : RAd) (rp : Rep) : Prop where
  ob : ∃ dx, H A.a = some (.ins (He.ga K "Replica") dx (repFs A rp))
  st : StT P w K H A.s A.d rp.cells
  ro : LM K pD H A.r rp.roots
  pn : LM K chD H A.pe rp.pend
  me : DMs P w K H A.ms rp.msgs
  as : A.a ≠ A.s
  dm : A.d ≠ A.ms
  rp : A.r ≠ A.pe
section
variable {P : Program} {w : World} {K : PySem.W.Frag} {H H' : Hp} {A : RAd} {rp : Rep} {F : List Addr} {s d : Addr} {cs : List (Ky × Cell)}
theorem StT.up (h : StT P w K H s d cs) (k : Kp F H H') (n1 : s ∉ F) (n2 : d ∉ F) : StT P w K H' s d cs := ⟨let ⟨dx, e⟩ := h.st; ⟨dx, k.get e n1⟩, h.ce.up st_ce k n2⟩
theorem StT.ne (h : StT P w K H s d cs) : d ≠ s := let ⟨_, e⟩ := h.st; h.ce.ne_ins e
theorem RepT.nd (h : RepT P w K H A rp) : A.own.Nodup := by
  obtain ⟨⟨dx, ob⟩, ⟨⟨dx2, st⟩, ce⟩, ⟨xs, ro, _⟩, ⟨ys, pn, _⟩, me, n1, n2, n3⟩ := h
  have a1 := ce.ne_ins ob
  have a2 := ce.ne_ins st
  have a3 := ce.ne_lst ro
  have a4 := ce.ne_lst pn
  have b1 := me.ne_ins ob
  have b2 := me.ne_ins st
  have b3 := me.ne_lst ro
  have b4 := me.ne_lst pn
  have c1 : A.a ≠ A.r := ne_of ob ro (by simp)
  have c2 : A.a ≠ A.pe := ne_of ob pn (by simp)
  have c3 : A.s ≠ A.r := ne_of st ro (by simp)
  have c4 : A.s ≠ A.pe := ne_of st pn (by simp)
  unfold RAd.own
  simp only [List.nodup_cons, List.mem_cons, List.not_mem_nil, or_false, not_or, not_false_eq_true, List.nodup_nil, and_true]
  exact ⟨⟨n1, a1.symm, c1, c2, b1.symm⟩, ⟨a2.symm, c3, c4, b2.symm⟩, ⟨a3, a4, n2⟩, ⟨n3, b3.symm⟩, b4.symm⟩
theorem RepT.al (h : RepT P w K H A rp) {b : Addr} (hb : b ∈ A.own) : H b ≠ none := by
  obtain ⟨⟨dx, ob⟩, ⟨⟨dx2, st⟩, ce⟩, ⟨xs, ro, _⟩, ⟨ys, pn, _⟩, me, n1, n2, n3⟩ := h
  obtain ⟨φ, c⟩ := ce.ext
  obtain ⟨ψ, m⟩ := me.ext
  simp only [RAd.own, List.mem_cons, List.not_mem_nil, or_false] at hb
  rcases hb with rfl | rfl | rfl | rfl | rfl | rfl <;> simp [*]
/-- nothing of it is touched -/
theorem RepT.up (h : RepT P w K H A rp) (k : Kp F H H') (n : ∀ b ∈ A.own, b ∉ F) : RepT P w K H' A rp := by
  obtain ⟨⟨dx, ob⟩, st, ro, pn, me, n1, n2, n3⟩ := h
  have m : ∀ {b}, b ∈ A.own → b ∉ F := fun hb => n _ hb
  exact ⟨⟨dx, k.get ob (m (by simp [RAd.own]))⟩, st.up k (m (by simp [RAd.own])) (m (by simp [RAd.own])), ro.up k (m (by simp [RAd.own])), pn.up k (m (by simp [RAd.own])), me.up st_ms k (m (by simp [RAd.own])), n1, n2, n3⟩
theorem RepT.up0 (h : RepT P w K H A rp) (k : Kp [] H H') : RepT P w K H' A rp := h.up k (by simp)
/-- its numbers are written -/
theorem RepT.num (h : RepT P w K H A rp) {p c m : Int} {dx : Addr} : RepT P w K (upd H A.a (.ins (He.ga K "Replica") dx (repFs A { rp with peer := p, clock := c, made := m }))) A { rp with peer := p, clock := c, made := m } := by
  have nd := h.nd
  obtain ⟨⟨dx', ob⟩, st, ro, pn, me, n1, n2, n3⟩ := h
  have k : Kp [A.a] H (upd H A.a (.ins (He.ga K "Replica") dx (repFs A { rp with peer := p, clock := c, made := m }))) := Kp.refl.wi ob (by simp)
  simp only [RAd.own, List.nodup_cons, List.mem_cons, List.not_mem_nil, or_false, not_or] at nd
  obtain ⟨⟨a1, a2, a3, a4, a5⟩, -⟩ := nd
  exact ⟨⟨dx, upd_same⟩, st.up k (by simpa using Ne.symm a1) (by simpa using Ne.symm a2), ro.up k (by simpa using Ne.symm a3), pn.up k (by simpa using Ne.symm a4), me.up st_ms k (by simpa using Ne.symm a5), n1, n2, n3⟩
/-- its cells are changed -/
theorem RepT.cel (h : RepT P w K H A rp) (k : Kp [A.d] H H') (g : DCe P w K H' A.d cs) : RepT P w K H' A { rp with cells := cs } := by
  have nd := h.nd
  obtain ⟨⟨dx', ob⟩, ⟨⟨dx2, st⟩, ce⟩, ro, pn, me, n1, n2, n3⟩ := h
  simp only [RAd.own, List.nodup_cons, List.mem_cons, List.not_mem_nil, or_false, not_or] at nd
  obtain ⟨⟨a1, a2, a3, a4, a5⟩, ⟨b1, b2, b3, b4⟩, ⟨c1, c2, c3⟩, -⟩ := nd
  exact ⟨⟨dx', k.get ob (by simpa using a2)⟩, ⟨⟨dx2, k.get st (by simpa using b1)⟩, g⟩, ro.up k (by simpa using Ne.symm c1), pn.up k (by simpa using Ne.symm c2), me.up st_ms k (by simpa using Ne.symm c3), n1, n2, n3⟩
theorem RepT.rts (h : RepT P w K H A rp) (k : Kp [A.r] H H') {l : List Nm} (g : LM K pD H' A.r l) : RepT P w K H' A { rp with roots := l } := by
  have nd := h.nd
  obtain ⟨⟨dx', ob⟩, st, ro, pn, me, n1, n2, n3⟩ := h
  simp only [RAd.own, List.nodup_cons, List.mem_cons, List.not_mem_nil, or_false, not_or] at nd
  obtain ⟨⟨a1, a2, a3, a4, a5⟩, ⟨b1, b2, b3, b4⟩, ⟨c1, c2, c3⟩, ⟨d1, d2⟩, -⟩ := nd
  exact ⟨⟨dx', k.get ob (by simpa using a3)⟩, st.up k (by simpa using b2) (by simpa using c1), g, pn.up k (by simpa using Ne.symm d1), me.up st_ms k (by simpa using Ne.symm d2), n1, n2, n3⟩
theorem RepT.pnd (h : RepT P w K H A rp) (k : Kp [A.pe] H H') {l : List Ch} (g : LM K chD H' A.pe l) : RepT P w K H' A { rp with pend := l } := by
  have nd := h.nd
  obtain ⟨⟨dx', ob⟩, st, ro, pn, me, n1, n2, n3⟩ := h
  simp only [RAd.own, List.nodup_cons, List.mem_cons, List.not_mem_nil, or_false, not_or] at nd
  obtain ⟨⟨a1, a2, a3, a4, a5⟩, ⟨b1, b2, b3, b4⟩, ⟨c1, c2, c3⟩, ⟨d1, d2⟩, e1, -⟩ := nd
  exact ⟨⟨dx', k.get ob (by simpa using a4)⟩, st.up k (by simpa using b3) (by simpa using c2), ro.up k (by simpa using d1), g, me.up st_ms k (by simpa using Ne.symm e1), n1, n2, n3⟩
theorem RepT.msg (h : RepT P w K H A rp) (k : Kp [A.ms] H H') {l : List (Nm × List Ch)} (g : DMs P w K H' A.ms l) : RepT P w K H' A { rp with msgs := l } := by
  have nd := h.nd
  obtain ⟨⟨dx', ob⟩, st, ro, pn, me, n1, n2, n3⟩ := h
  simp only [RAd.own, List.nodup_cons, List.mem_cons, List.not_mem_nil, or_false, not_or] at nd
  obtain ⟨⟨a1, a2, a3, a4, a5⟩, ⟨b1, b2, b3, b4⟩, ⟨c1, c2, c3⟩, ⟨d1, d2⟩, e1, -⟩ := nd
  exact ⟨⟨dx', k.get ob (by simpa using a5)⟩, st.up k (by simpa using b4) (by simpa using c3), ro.up k (by simpa using d2), pn.up k (by simpa using e1), g, n1, n2, n3⟩
/-- another list for the pending ones -/
theorem RepT.pnew (h : RepT P w K H A rp) {p dx : Addr} {l : List Ch} (g : LM K chD H p l) (np : ∀ b ∈ A.own, b ≠ p) :
    RepT P w K (upd H A.a (.ins (He.ga K "Replica") dx (repFs { A with pe := p } { rp with pend := l }))) { A with pe := p } { rp with pend := l } := by
  have nd := h.nd
  obtain ⟨⟨dx', ob⟩, st, ro, pn, me, n1, n2, n3⟩ := h
  have k : Kp [A.a] H (upd H A.a (.ins (He.ga K "Replica") dx (repFs { A with pe := p } { rp with pend := l }))) := Kp.refl.wi ob (by simp)
  simp only [RAd.own, List.nodup_cons, List.mem_cons, List.not_mem_nil, or_false, not_or] at nd
  obtain ⟨⟨a1, a2, a3, a4, a5⟩, -⟩ := nd
  exact ⟨⟨dx, upd_same⟩, st.up k (by simpa using Ne.symm a1) (by simpa using Ne.symm a2), ro.up k (by simpa using Ne.symm a3), g.up k (by simpa using Ne.symm (np A.a (by simp [RAd.own]))), me.up st_ms k (by simpa using Ne.symm a5), n1, n2, np A.r (by simp [RAd.own])⟩
end
end GT
set_option maxHeartbeats 2000000
namespace GT
open PySem PySem.Spec PyProof.Rows L2
local macro_rules | `(tactic| walk_at "v") => `(tactic| ((with_reducible show tVar _ _ _ _); refine rd_var rfl ?_))
local macro_rules | `(tactic| walk_at "s1") => `(tactic| with_reducible first | refine rd_cons ?_ | refine rd_nil ?_ | refine rd_c ?_ | refine rd_op ?_ | refine rd_seq ?_ | refine rd_fld ?_ | refine rd_asg ?_ | refine rd_gname ?_ | refine rd_I0 ?_ | refine rd_cb ?_ | refine rd_next ?_ | refine rd_drop ?_ | refine rd_ret ?_ | refine rd_mf ?_ | refine rd_cf ?_ | refine rd_ifS ?_ | refine rd_test ?_ | refine rd_kt ?_)
local macro_rules | `(tactic| walk_at "s2") => `(tactic| with_reducible first | refine rd_tup ?_ | refine rd_lst ?_ | refine rd_bm ?_ | refine rd_gcons ?_ | refine rd_gnil ?_ | refine rd_gsub ?_ | refine rd_dm ?_ | refine rd_sfld ?_ | refine rd_fa ?_ | refine rd_frz ?_ | refine rd_nf ?_ | refine rd_retN ?_ | refine rd_cont ?_ | refine rd_par ?_ | refine rd_un ?_ | refine rd_and ?_ | refine rd_or ?_ | refine rd_not ?_ | refine rd_tru ?_ | refine rd_B ?_ | refine rd_chain ?_ | refine rd_sl ?_ | refine rd_nopart ?_ | refine rd_part ?_ | refine rd_kpart ?_)
local macro_rules | `(tactic| walk_at "s3") => `(tactic| with_reducible first | refine rd_U ?_ | refine rd_eqi ?_ | refine rd_nei ?_ | refine rd_eqs ?_ | refine rd_nes ?_ | refine rd_isN ?_ | refine rd_notN ?_ | refine rd_max2 ?_ | refine rd_min2 ?_ | refine rd_int1 ?_ | refine rd_intb ?_ | refine rd_kbmS ?_ | refine rd_il ?_ | refine rd_it ?_ | refine rd_ir1 ?_ | refine rd_ir2 ?_ | refine rd_in ?_ | refine rd_for ?_ | refine rd_lc ?_ | refine rd_yes ?_ | refine rd_tt ?_ | refine rd_ff ?_ | refine rd_listRg ?_ | refine rd_andV ?_ | refine rd_orV ?_ | refine rd_notV ?_ | refine rd_ex ?_)
local macro_rules | `(tactic| walk_at "c") => `(tactic| first | exact TX.c_Channel (by assumption) | exact TX.c_State (by assumption) | exact TX.c_Message (by assumption) | exact TX.c_Replica (by assumption) | exact TX.c_Network (by assumption))
local macro_rules | `(tactic| walk_at "n") => `(tactic| first | exact TX.n_Channel_under_way (by assumption) | exact TX.n_State_cells (by assumption) | exact TX.n_Message_octets (by assumption) | exact TX.n_Message_place (by assumption) | exact TX.n_Message_known (by assumption) | exact TX.n_Replica_peer (by assumption) | exact TX.n_Replica_clock (by assumption) | exact TX.n_Replica_made (by assumption) | exact TX.n_Replica_state (by assumption) | exact TX.n_Replica_roots (by assumption) | exact TX.n_Replica_pending (by assumption) | exact TX.n_Replica_messages (by assumption) | exact TX.n_Network_replicas (by assumption) | exact TX.n_Network_channels (by assumption))
local macro_rules | `(tactic| walk_at "f") => `(tactic| ((with_reducible show KFld _ _ _ _ _); refine rd_kfld (by assumption) (by walk_at "c") (by walk_at "n") rfl ?_))
local macro_rules | `(tactic| walk_at "g") => `(tactic| ((with_reducible show KSf _ _ _ _ _ _); refine rd_ksf (by assumption) (by walk_at "c") (by walk_at "n") (by simp) ?_))
local macro_rules | `(tactic| walk_at "w") => `(tactic| repeat (first | walk_at "v" | walk_at "s1" | walk_at "f" | walk_at "s2" | walk_at "s3"))
section
variable {P : Program} {w : World} {K : PySem.W.Frag} {mg : Str → Option Value} {base : Heap}
section
variable {H : Hp} {Q : VK} {a l : Addr} {ns : List Int}
theorem rd_setI (h : SqL K H l (ns.map V.int)) (hf : FewI ns) (q : ∀ a H1 f n, H a = none → Kp [] H H1 → H1 a = some (SetO w a f n) → n < 60 → (∀ k, f k = true ↔ k ∈ ns) → Q (.ref a) H1) : rSetI K w [.ref l] H Q :=
  ⟨l, ns, rfl, h, hf, fun a f n hn h6 e => q a _ f n hn (Kp.new hn) upd_same h6 e⟩
theorem rd_sortS {f : Int → Bool} {n : Nat} (h : H a = some (SetO w a f n)) (h6 : n < 60) (e : ∀ k, f k = true ↔ k ∈ ns) (q : ∀ (L : List Int) p H', H p = none → Kp [] H H' → H' p = some (.lst (L.map V.int)) → L.Pairwise (· < ·) → (∀ k, k ∈ L ↔ k ∈ ns) → L.length < 60 → Q (.ref p) H') : rSortedSet w [.ref a] H Q :=
  ⟨a, f, n, rfl, h, by omega, fun L p pw m hl hn => q L p _ hn (Kp.new hn) upd_same pw (fun k => (m k).trans (e k)) (by omega)⟩
end
/-! ### ranges -/
/-- n lies in one of the ranges -/
def Cov (rg : List Nm) (n : Int) : Prop := ∃ r ∈ rg, r.1 ≤ n ∧ n ≤ r.2
/-- a list of ranges at v -/
def RgA (K : PySem.W.Frag) (H : Hp) (v : V) (rg : List Nm) : Prop := LR K pD H v rg
theorem lr_up {α : Type} {f : α → D} {H H' : Hp} {v : V} {l : List α} (h : LR K f H v l) (k : Kp [] H H') : LR K f H' v l := let ⟨a, xs, e, x, y⟩ := h; ⟨a, xs, e, sql_kp k (by simp) x, y.up k⟩
theorem cov_snoc {rg : List Nm} {r : Nm} {n : Int} : Cov (rg ++ [r]) n ↔ Cov rg n ∨ (r.1 ≤ n ∧ n ≤ r.2) := by
  unfold Cov
  constructor
  · rintro ⟨x, hx, h⟩
    rcases List.mem_append.mp hx with hx | hx
    · exact .inl ⟨x, hx, h⟩
    · simp at hx; subst hx; exact .inr h
  · rintro (⟨x, hx, h⟩ | h)
    · exact ⟨x, List.mem_append_left _ hx, h⟩
    · exact ⟨r, by simp, h⟩
theorem take_snoc {α : Type} {l : List α} {i : Nat} {a : α} (h : l[i]? = some a) : l.take (i + 1) = l.take i ++ [a] := by
  rw [List.take_add_one, h]; rfl
theorem get_int {L : List Int} {i : Nat} {x : V} (h : (L.map V.int)[i]? = some x) : ∃ n, L[i]? = some n ∧ x = .int n := by
  rw [List.getElem?_map] at h
  cases e : L[i]? with
  | none => rw [e] at h; cases h
  | some n => rw [e] at h; cases h; exact ⟨n, rfl, rfl⟩
theorem ImA.set : ∀ {xs : List V} {ks : List D} {v : V} {k : D} {H : Hp} (n : Nat), ImA K H xs ks → Im K H v k → ImA K H (xs.set n v) (ks.set n k)
  | _, [], _, _, _, n, h, _ => by cases h; exact .nil
  | _, _ :: _, _, _, _, 0, h, g => by
    cases h with
    | cons a b => exact .cons g b
  | _, _ :: _, _, _, _, n + 1, h, g => by
    cases h with
    | cons a b => exact .cons a (ImA.set n b g)
abbrev sp_ranges_of (P : Program) (w : World) (K : PySem.W.Frag) : Sp := fun vs H Q _ => ∃ (l : Addr) (ns : List Int), vs = [.ref l] ∧ SqL K H l (ns.map V.int) ∧ FewI ns ∧
  ∀ p rg H', H p = none → Kp [] H H' → LM K pD H' p rg → (∀ n, Cov rg n ↔ n ∈ ns) → rg.length < 60 → (∀ r ∈ rg, r.1 ≤ r.2) → Q (.ref p) H'
theorem ok_ranges_of (T : TX P K mg) : Ok P w K mg base (CX0) 1 ("ranges_of", none) p_ranges_of (sp_ranges_of P w K) := by
  refine T.ok 10 (d := d_ranges_of) rfl rfl rfl sc_ranges_of (fun _ _ _ _ _ _ us hl => match us, hl with | [_], _ => rfl) (fun vs H Q E h => ?_) fun cdv Ar outer sh H vs Q E hr h => ?_
  · obtain ⟨l, ns, rfl, _⟩ := h; rfl
  · obtain ⟨l, ns, rfl, hl, hf, q⟩ := h
    obtain ⟨hu, hu1, hu65⟩ := rm_of hr
    refine ⟨_, PSs.nox (pss_cons (ps_set (i := 1) sc_ranges_of.nd rfl (Or.inl rfl) (pe_lst pa_nil))
      (pss_cons (ps_for PassesOwn.never rfl (pi_list (pe_callB (cr_sortedSet rfl) (by rfl) T.f_sorted (by decide +kernel) (pa_cons (pe_callTy (cr_setI rfl) (by rfl) T.f_set (by decide +kernel) (pa_cons (pv 0) pa_nil)) pa_nil))) (pg_name (i := 2) sc_ranges_of.nd rfl (Or.inl rfl))
      (pss_one (ps_if (PW.pt (pw_and (pt_tru (pv 1)) (pw_and1 (pt_cmpR op_eq (pe_ix ix_tup (pe_ix ix_list (pv 1) (pe_un un_neg pe_int) (fun _ _ => rfl)) pe_int (fun _ _ => rfl)) (pe_op op_sub (pv 2) pe_int) (nomark _)))))
      (pss_one (ps_asg (pe_tup (pa_cons (pe_ix ix_tup (pe_ix ix_list (pv 1) (pe_un un_neg pe_int) (fun _ _ => rfl)) pe_int (fun _ _ => rfl)) (pa_cons (pv 2) pa_nil))) (pg_sub (pv 1) (pe_un un_neg pe_int) set_list)))
      (pss_one (ps_expr (pe_bm PySem.F.plainAttrs_list PySem.F.slot_list_append PySem.F.type_list_append mt_append (pv 1) (pa_cons (pe_tup (pa_cons (pv 2) (pa_cons (pv 2) pa_nil))) pa_nil)))))))
      (pss_one (ps_ret (pv 1))))), ?_⟩
    walk_at "w"
    refine rd_klst (by simp) fun p H1 n1 k1 e1 => ?_
    walk_at "w"
    refine rd_setI (sql_kp k1 (by simp) hl) hf fun sa H2 sf sn n2 k2 e2 h6 es => ?_
    walk_at "w"
    refine rd_sortS e2 h6 es fun L pl H3 n3 k3 e3 pw hm hL => ?_
    have e1' := k3.get (k2.get e1 (by simp)) (by simp)
    have n1' : H2 p ≠ none := by rw [k2.get e1 (by simp)]; simp
    have npl : pl ≠ p := fun z => by rw [z, k2.get e1 (by simp)] at n3; cases n3
    have k03 := k1.trans (k2.trans k3)
    refine rd_kil (.inl (.inl e3)) ?_
    refine for_it (walk_list (xs := L.map V.int)) (fun i σ H' => ∃ x rg, σ = [some (.ref l), some (.ref p), x] ∧ Kp [] H H' ∧ H' pl = some (.lst (L.map V.int)) ∧ LM K pD H' p rg ∧ (∀ n, Cov rg n ↔ n ∈ L.take i) ∧ rg.length ≤ i ∧ (∀ r ∈ rg, r.1 ≤ r.2))
      ⟨none, [], rfl, k03, e3, ⟨[], e1', .nil⟩, fun n => by simp [Cov], by simp, by simp⟩ ?_ ?_ ?_
    · rintro i σ H' _ ⟨x, rg, -, -, h, -⟩
      exact .inl (.inl h)
    · rintro i x σ H' H'' hi ⟨x0, rg, rfl, kk, hpl, ⟨ys, hp, im⟩, cov, hlen, hle⟩ ⟨rfl, hx⟩
      obtain ⟨n, hn, rfl⟩ := get_int hx
      rw [List.length_map] at hi
      have ht : L.take (i + 1) = L.take i ++ [n] := take_snoc hn
      walk_at "w"
      refine rd_ktruL (.inl (.inl hp)) ?_
      have app : ∀ H2, Kp [] H'' H2 → ∀ v, Im K H2 v (pD (n, n)) → ∃ x rg', [some (V.ref l), some (V.ref p), some (V.int n)] = [some (V.ref l), some (V.ref p), x] ∧ Kp [] H (upd H2 p (.lst (ys ++ [v]))) ∧ upd H2 p (.lst (ys ++ [v])) pl = some (.lst (L.map V.int)) ∧ LM K pD (upd H2 p (.lst (ys ++ [v]))) p rg' ∧ (∀ m, Cov rg' m ↔ m ∈ L.take (i + 1)) ∧ rg'.length ≤ i + 1 ∧ (∀ r ∈ rg', r.1 ≤ r.2) := by
        intro H2 k2 v hv
        have kn : Kp [p] H2 (upd H2 p (.lst (ys ++ [v]))) := Kp.refl.wl (k2.get hp (by simp)) (by simp)
        refine ⟨_, rg ++ [(n, n)], rfl, (kk.trans k2).wrn n1, by rw [upd_ne npl]; exact k2.get hpl (by simp), ⟨_, upd_same, ?_⟩, fun m => ?_, by simp; omega, fun r hr => ?_⟩
        · rw [List.map_append]
          exact ImA.snoc ((im.up k2).up kn) (hv.up kn)
        · rw [cov_snoc, ht, List.mem_append, cov m]
          show (_ ∨ (n ≤ m ∧ m ≤ n)) ↔ (_ ∨ m ∈ [n])
          rw [List.mem_singleton]
          constructor
          · rintro (h | h)
            · exact .inl h
            · exact .inr (by omega)
          · rintro (h | h)
            · exact .inl h
            · exact .inr (by omega)
        · rcases List.mem_append.mp hr with h | h
          · exact hle r h
          · simp at h; subst h; exact Int.le_refl _
      refine rd_if (fun hb => ?_) fun hb => ?_
      · obtain ⟨r, rg0, rfl⟩ : ∃ r rg0, rg = rg0 ++ [r] := by
          rcases List.eq_nil_or_concat rg with e | ⟨rg0, r, e⟩
          · subst e
            rw [im.nil'] at hb
            cases hb
          · exact ⟨r, rg0, by simpa using e⟩
        obtain ⟨rv, hrv, ir⟩ : ∃ rv, ys[rg0.length]? = some rv ∧ Im K H'' rv (pD r) := im.getD (by simp)
        have yl : ys.length = rg0.length + 1 := by rw [ImA.mlen im]; simp
        have ix : ixN ys.length (-1) = some rg0.length := by
          unfold ixN
          rw [if_neg (by omega), if_pos (by omega), yl]
          congr 1
          omega
        have at1 : atI ys (-1) = some rv := by
          unfold atI
          rw [ix]
          exact hrv
        walk_at "w"
        refine rd_ixL (.inl (.inl hp)) at1 ?_
        walk_at "w"
        refine rd_ixI (k := .num r.2) ir rfl fun v hv => ?_
        cases hv.int
        walk_at "w"
        refine rd_if (fun hb2 => ?_) fun hb2 => ?_
        · have e2 : r.2 = n - 1 := of_decide_eq_true hb2
          walk_at "w"
          refine rd_ixL (.inl (.inl hp)) at1 ?_
          walk_at "w"
          refine rd_ixI (k := .num r.1) ir rfl fun v hv => ?_
          walk_at "w"
          refine rd_ktup (K := K) (ks := [.num r.1, .num n]) (.cons hv (.cons (.num n) .nil)) (by simp) fun v2 H2 k2 hv2 => ?_
          walk_at "w"
          refine rd_setL (k2.get hp (by simp)) ix ?_
          walk_at "w"
          have kn : Kp [p] H2 (upd H2 p (.lst (ys.set rg0.length v2))) := Kp.refl.wl (k2.get hp (by simp)) (by simp)
          refine ⟨_, rg0 ++ [(r.1, n)], rfl, (kk.trans k2).wrn n1, by rw [upd_ne npl]; exact k2.get hpl (by simp), ⟨_, upd_same, ?_⟩, fun m => ?_, by simp at hlen ⊢; omega, fun r' hr' => ?_⟩
          · have t := ImA.set rg0.length ((im.up k2).up kn) (hv2.up kn)
            rw [List.map_append] at t ⊢
            simpa [List.set_append, pD] using t
          · rw [ht, List.mem_append, ← cov m, cov_snoc, cov_snoc]
            have hr := hle r (by simp)
            show (_ ∨ (r.1 ≤ m ∧ m ≤ n)) ↔ ((_ ∨ (r.1 ≤ m ∧ m ≤ r.2)) ∨ m ∈ [n])
            rw [List.mem_singleton]
            constructor
            · rintro (h | h)
              · exact .inl (.inl h)
              · by_cases e : m = n
                · exact .inr e
                · exact .inl (.inr (by omega))
            · rintro ((h | h) | h)
              · exact .inl h
              · exact .inr (by omega)
              · exact .inr (by omega)
          · rcases List.mem_append.mp hr' with h | h
            · exact hle r' (by simp [h])
            · simp at h; subst h
              have hr := hle r (by simp)
              show r.1 ≤ n
              omega
        · walk_at "w"
          refine rd_kbmL (.inl (.inl hp)) ?_
          walk_at "w"
          refine rd_ktup (K := K) (ks := [.num n, .num n]) (.cons (.num n) (.cons (.num n) .nil)) (by simp) fun v H2 k2 hv => ?_
          walk_at "w"
          refine rd_append (k2.get hp (by simp)) (by rw [ImA.mlen im]; omega) ?_
          walk_at "w"
          exact app H2 k2 v hv
      · walk_at "w"
        walk_at "w"
        refine rd_kbmL (.inl (.inl hp)) ?_
        walk_at "w"
        refine rd_ktup (K := K) (ks := [.num n, .num n]) (.cons (.num n) (.cons (.num n) .nil)) (by simp) fun v H2 k2 hv => ?_
        walk_at "w"
        refine rd_append (k2.get hp (by simp)) (by rw [ImA.mlen im]; omega) ?_
        walk_at "w"
        exact app H2 k2 v hv
    · rintro σ H' ⟨x, rg, rfl, kk, hpl, lm, cov, hlen, hle⟩
      walk_at "w"
      rw [List.length_map] at hlen cov
      exact q p rg H' n1 kk lm (fun n => by rw [cov n, List.take_length, hm]) (by omega) hle
/-- a range of few numbers -/
theorem few_range {ns : List Int} (hf : FewI ns) {a b : Int} (h : ∀ n, a ≤ n → n ≤ b → n ∈ ns) : b - a < 60 := by
  rcases Int.lt_or_le b a with e | e
  · omega
  · have nd : ((List.range (b - a + 1).toNat).map fun (i : Nat) => a + (i : Int)).Nodup := by
      exact List.pairwise_map.mpr (List.nodup_range.imp fun h e => h (by omega))
    have := hf _ nd fun k hk => by
      obtain ⟨i, hi, rfl⟩ := List.mem_map.mp hk
      have := List.mem_range.mp hi
      exact h _ (by omega) (by omega)
    rw [List.length_map, List.length_range] at this
    omega
abbrev sp_numbers_of (P : Program) (w : World) (K : PySem.W.Frag) : Sp := fun vs H Q _ => ∃ (v : V) (rg : List Nm) (ns : List Int), vs = [v] ∧ RgA K H v rg ∧ (∀ n, Cov rg n → n ∈ ns) ∧ FewI ns ∧ rg.length ≤ 60 ∧ (∀ r ∈ rg, r.1 ≤ r.2 ∧ 0 ≤ r.1 ∧ r.2 < 1000) ∧
  ∀ p (L : List Int) H', H p = none → Kp [] H H' → H' p = some (.lst (L.map V.int)) → (∀ n, n ∈ L ↔ Cov rg n) → L.length < 60 → Q (.ref p) H'
theorem ok_numbers_of (T : TX P K mg) : Ok P w K mg base (CX0) 1 ("numbers_of", none) p_numbers_of (sp_numbers_of P w K) := by
  refine T.ok 11 (d := d_numbers_of) rfl rfl rfl sc_numbers_of (fun _ _ _ _ _ _ us hl => match us, hl with | [_], _ => rfl) (fun vs H Q E h => ?_) fun cdv Ar outer sh H vs Q E hr h => ?_
  · obtain ⟨l, rg, ns, rfl, _⟩ := h; rfl
  · obtain ⟨v, rg, ns, rfl, ⟨l, xs, rfl, hl, im⟩, hc, hf, hz, hb, q⟩ := h
    obtain ⟨hu, hu1, hu65⟩ := rm_of hr
    refine ⟨_, PSs.nox (pss_cons (ps_set (i := 1) sc_numbers_of.nd rfl (Or.inl rfl) (pe_lst pa_nil))
      (pss_cons (ps_for PassesOwn.never rfl (pi_list (pv 0)) (pg_tup (by rfl) (pgs_cons (pg_name (i := 2) sc_numbers_of.nd rfl (Or.inl rfl)) (pgs_cons (pg_name (i := 3) sc_numbers_of.nd rfl (Or.inl rfl)) pgs_nil)))
      (pss_one (ps_aug (i := 1) sc_numbers_of.nd rfl (Or.inl rfl) (pe_listRg rfl (by rfl) T.f_list (prg_2 (by rfl) T.f_range (pv 2) (pe_op op_add (pv 3) pe_int))) ip_extL)))
      (pss_one (ps_ret (pe_callB (cr_sortedSet rfl) (by rfl) T.f_sorted (by decide +kernel) (pa_cons (pe_callTy (cr_setI rfl) (by rfl) T.f_set (by decide +kernel) (pa_cons (pv 1) pa_nil)) pa_nil)))))), ?_⟩
    walk_at "w"
    refine rd_klst (by simp) fun p H1 n1 k1 e1 => ?_
    walk_at "w"
    refine rd_kil (sql_kp k1 (by simp) hl) ?_
    refine for_it (walk_list (xs := xs)) (fun i σ H' => ∃ x y L, σ = [some (.ref l), some (.ref p), x, y] ∧ Kp [] H H' ∧ H' p = some (.lst (L.map V.int)) ∧ (∀ n, n ∈ L ↔ Cov (rg.take i) n) ∧ L.length ≤ 60 * i)
      ⟨none, none, [], rfl, k1, e1, fun n => by simp [Cov], by simp⟩ ?_ ?_ ?_
    · rintro i σ H' _ ⟨x, y, L, -, k, -⟩
      exact sql_kp k (by simp) hl
    · rintro i x σ H' H'' hi ⟨x0, y0, L, rfl, kk, hp, hL, hlen⟩ ⟨rfl, hx⟩
      obtain ⟨r, hr1, hr2⟩ := im.at hx
      obtain ⟨a, ys, rfl, sq, im2⟩ := (hr2.up kk).ref
      obtain ⟨u1, u2, rfl, i1, i2⟩ := im2.two
      cases i1.int; cases i2.int
      have hrm : r ∈ rg := List.mem_of_getElem? hr1
      obtain ⟨b1, b2, b3⟩ := hb r hrm
      have b4 := few_range hf (fun n h1 h2 => hc n ⟨r, hrm, h1, h2⟩)
      walk_at "w"
      refine rd_gtup sq rfl ?_
      walk_at "w"
      refine rd_aug rfl ?_
      refine rd_listRg ?_
      walk_at "w"
      refine rd_krg b2 (by omega) (by omega) fun q0 H2 n2 k2 e2 => ?_
      refine ⟨p, q0, _, _, rfl, rfl, k2.get hp (by simp), e2, ?_, ?_⟩
      · rw [rgV_length, List.length_map]
        rw [ImA.mlen im] at hi
        exact sz1000' (by omega)
      walk_at "w"
      refine ⟨_, _, L ++ (List.range (r.2 + 1 - r.1).toNat).map (fun (i : Nat) => r.1 + (i : Int)), rfl, (kk.trans k2).wrn n1, ?_, fun n => ?_, ?_⟩
      · rw [upd_same]
        unfold rgV
        simp
      · rw [List.mem_append, hL n, take_snoc hr1, cov_snoc]
        refine or_congr Iff.rfl ⟨fun h => ?_, fun h => ?_⟩
        · obtain ⟨i, hi, rfl⟩ := List.mem_map.mp h
          have := List.mem_range.mp hi
          omega
        · exact List.mem_map.mpr ⟨(n - r.1).toNat, List.mem_range.mpr (by omega), by omega⟩
      · rw [List.length_append, List.length_map, List.length_range]
        omega
    · rintro σ H' ⟨x, y, L, rfl, kk, hp, hL, hlen⟩
      walk_at "w"
      rw [ImA.mlen im, List.take_length] at hL
      refine rd_setI (.inl (.inl hp)) (fun M h1 h2 => hf M h1 fun k hk => hc k ((hL k).mp (h2 k hk))) fun sa H2 sf sn n2 k2 e2 h6 es => ?_
      walk_at "w"
      refine rd_sortS e2 h6 es fun L2 pl H3 n3 k3 e3 pw hm hlen2 => ?_
      exact q pl L2 H3 (kk.none (k2.none n3)) (kk.trans (k2.trans k3)) e3 (fun n => (hm n).trans (hL n)) hlen2
end
end GT
set_option maxHeartbeats 2000000
namespace GT
open PySem PySem.Spec PyProof.Rows L2
local macro_rules | `(tactic| walk_at "v") => `(tactic| ((with_reducible show tVar _ _ _ _); refine rd_var rfl ?_))
local macro_rules | `(tactic| walk_at "s1") => `(tactic| with_reducible first | refine rd_cons ?_ | refine rd_nil ?_ | refine rd_c ?_ | refine rd_op ?_ | refine rd_seq ?_ | refine rd_fld ?_ | refine rd_asg ?_ | refine rd_gname ?_ | refine rd_I0 ?_ | refine rd_cb ?_ | refine rd_next ?_ | refine rd_drop ?_ | refine rd_ret ?_ | refine rd_mf ?_ | refine rd_cf ?_ | refine rd_ifS ?_ | refine rd_test ?_ | refine rd_kt ?_)
local macro_rules | `(tactic| walk_at "s2") => `(tactic| with_reducible first | refine rd_tup ?_ | refine rd_lst ?_ | refine rd_bm ?_ | refine rd_gcons ?_ | refine rd_gnil ?_ | refine rd_gsub ?_ | refine rd_dm ?_ | refine rd_sfld ?_ | refine rd_fa ?_ | refine rd_frz ?_ | refine rd_nf ?_ | refine rd_retN ?_ | refine rd_cont ?_ | refine rd_par ?_ | refine rd_un ?_ | refine rd_and ?_ | refine rd_or ?_ | refine rd_not ?_ | refine rd_tru ?_ | refine rd_B ?_ | refine rd_chain ?_ | refine rd_sl ?_ | refine rd_nopart ?_ | refine rd_part ?_ | refine rd_kpart ?_)
local macro_rules | `(tactic| walk_at "s3") => `(tactic| with_reducible first | refine rd_U ?_ | refine rd_eqi ?_ | refine rd_nei ?_ | refine rd_eqs ?_ | refine rd_nes ?_ | refine rd_isN ?_ | refine rd_notN ?_ | refine rd_max2 ?_ | refine rd_min2 ?_ | refine rd_int1 ?_ | refine rd_intb ?_ | refine rd_kbmS ?_ | refine rd_il ?_ | refine rd_it ?_ | refine rd_ir1 ?_ | refine rd_ir2 ?_ | refine rd_in ?_ | refine rd_for ?_ | refine rd_lc ?_ | refine rd_yes ?_ | refine rd_tt ?_ | refine rd_ff ?_ | refine rd_listRg ?_ | refine rd_andV ?_ | refine rd_orV ?_ | refine rd_notV ?_ | refine rd_ex ?_)
local macro_rules | `(tactic| walk_at "c") => `(tactic| first | exact TX.c_Channel (by assumption) | exact TX.c_State (by assumption) | exact TX.c_Message (by assumption) | exact TX.c_Replica (by assumption) | exact TX.c_Network (by assumption))
local macro_rules | `(tactic| walk_at "n") => `(tactic| first | exact TX.n_Channel_under_way (by assumption) | exact TX.n_State_cells (by assumption) | exact TX.n_Message_octets (by assumption) | exact TX.n_Message_place (by assumption) | exact TX.n_Message_known (by assumption) | exact TX.n_Replica_peer (by assumption) | exact TX.n_Replica_clock (by assumption) | exact TX.n_Replica_made (by assumption) | exact TX.n_Replica_state (by assumption) | exact TX.n_Replica_roots (by assumption) | exact TX.n_Replica_pending (by assumption) | exact TX.n_Replica_messages (by assumption) | exact TX.n_Network_replicas (by assumption) | exact TX.n_Network_channels (by assumption))
local macro_rules | `(tactic| walk_at "f") => `(tactic| ((with_reducible show KFld _ _ _ _ _); refine rd_kfld (by assumption) (by walk_at "c") (by walk_at "n") rfl ?_))
local macro_rules | `(tactic| walk_at "g") => `(tactic| ((with_reducible show KSf _ _ _ _ _ _); refine rd_ksf (by assumption) (by walk_at "c") (by walk_at "n") (by simp) ?_))
local macro_rules | `(tactic| walk_at "w") => `(tactic| repeat (first | walk_at "v" | walk_at "s1" | walk_at "f" | walk_at "s2" | walk_at "s3"))
section
variable {P : Program} {w : World} {K : PySem.W.Frag} {mg : Str → Option Value} {base : Heap}
theorem nodup_len {α : Type} [DecidableEq α] : ∀ {L ns : List α}, L.Nodup → (∀ k ∈ L, k ∈ ns) → L.length ≤ ns.length
  | [], _, _, _ => Nat.zero_le _
  | a :: L, ns, hn, h => by
    rw [List.nodup_cons] at hn
    have ha := h a List.mem_cons_self
    have := nodup_len (ns := ns.erase a) hn.2 fun k hk => (List.mem_erase_of_ne (fun e => hn.1 (by rw [← e]; exact hk))).mpr (h k (List.mem_cons_of_mem _ hk))
    rw [List.length_erase_of_mem ha] at this
    have := List.length_pos_of_mem ha
    simp
    omega
theorem few_len {ns : List Int} (h : ns.length < 60) : FewI ns := fun L h1 h2 => Nat.lt_of_le_of_lt (nodup_len h1 h2) h
/-- eight lists of ranges at v: of each sender's numbers -/
def Told (K : PySem.W.Frag) (H : Hp) (v : V) (S : Nm → Prop) : Prop := ∃ p xs, v = .ref p ∧ SqL K H p xs ∧ xs.length = 8 ∧ ∀ i : Nat, i < 8 → ∃ u rg, xs[i]? = some u ∧ RgA K H u rg ∧ (∀ n, Cov rg n ↔ S ((i : Int), n)) ∧ rg.length < 60 ∧ ∀ r ∈ rg, r.1 ≤ r.2
theorem told_up {H H' : Hp} {v : V} {S : Nm → Prop} (h : Told K H v S) (k : Kp [] H H') : Told K H' v S := by
  obtain ⟨p, xs, e, sq, hl, h⟩ := h
  refine ⟨p, xs, e, sql_kp k (by simp) sq, hl, fun i hi => ?_⟩
  obtain ⟨u, rg, h1, h2, h3⟩ := h i hi
  exact ⟨u, rg, h1, lr_up h2 k, h3⟩
abbrev sp_told (P : Program) (w : World) (K : PySem.W.Frag) : Sp := fun vs H Q _ => ∃ (A : RAd) (rp : Rep), vs = [.ref A.a] ∧ RepT P w K H A rp ∧
  (∀ k ∈ rp.msgs.map (·.1), 0 ≤ k.1 ∧ k.1 < 8) ∧ rp.msgs.length < 60 ∧ ∀ v H', Kp [] H H' → Told K H' v (fun k => k ∈ rp.msgs.map (·.1)) → Q v H'
/-- rows of numbers, new since H -/
def NRows (H0 H : Hp) (as : List Addr) (f : Nat → Int → Prop) (m : Nat) : Prop := as.Nodup ∧ (∀ a ∈ as, H0 a = none) ∧ ∀ (i : Nat) a, as[i]? = some a → ∃ ns : List Int, H a = some (.lst (ns.map V.int)) ∧ (∀ n, n ∈ ns ↔ f i n) ∧ ns.length ≤ m
theorem ok_told (T : TX P K mg) : Ok P w K mg base (CX0) 2 ("told", none) p_told (sp_told P w K) := by
  refine T.ok 12 (d := d_told) rfl rfl rfl sc_told (fun _ _ _ _ _ _ us hl => match us, hl with | [_], _ => rfl) (fun vs H Q E h => ?_) fun cdv Ar outer sh H vs Q E hr h => ?_
  · obtain ⟨A, rp, rfl, _⟩ := h; rfl
  · obtain ⟨A, rp, rfl, R, hk, hz, q⟩ := h
    obtain ⟨hu, hu1, hu65⟩ := rm_of hr
    refine ⟨_, PSs.nox (pss_cons (ps_setLcW (i := 1) (own := [("sender", 2)]) sh rfl sc_told.nd rfl rfl (sw_true rfl rfl rfl (by decide +kernel)) (pi_range1 (by rfl) T.f_range (pa_cons (pe_gi T.i_PEERS) pa_nil)) (blkOk_by (own := [("sender", 2)]) (N := n_told) (sc := defScope s_told) (by decide +kernel)) (pg_name (i := 2) sc_told.nd rfl (Or.inl rfl)) pts_nil (pe_lst pa_nil) (fun _ _ _ _ _ => (pg_name (i := 2) sc_told.nd rfl (Or.inl rfl))) (fun _ _ _ _ _ => pts_nil) (fun _ _ _ _ _ => (pe_lst pa_nil)))
      (pss_cons (ps_lock (ps_for PassesOwn.never rfl (pi_dn (pe_fld (pv 0) rfl)) (pg_tup (by rfl) (pgs_cons (pg_name (i := 2) sc_told.nd rfl (Or.inl rfl)) (pgs_cons (pg_name (i := 3) sc_told.nd rfl (Or.inl rfl)) pgs_nil)))
      (pss_one (ps_expr (pe_bm PySem.F.plainAttrs_list PySem.F.slot_list_append PySem.F.type_list_append mt_append (pe_ix ix_list (pv 1) (pv 2) (fun _ _ => rfl)) (pa_cons (pv 3) pa_nil))))))
      (pss_one (ps_ret (pe_lcW (own := [("row", 4)]) sh rfl sc_told.nd (pi_list (pv 1)) (blkOk_by (own := [("row", 4)]) (N := n_told) (sc := defScope s_told) (by decide +kernel)) (pg_name (i := 4) sc_told.nd rfl (Or.inl rfl)) pts_nil (pe_fn (ok_ranges_of T) T.g_ranges_of (hr.mono (by decide)) pass0 (pa_cons (pv 4) pa_nil)) (fun _ _ _ _ _ => (pg_name (i := 4) sc_told.nd rfl (Or.inl rfl))) (fun _ _ _ _ _ => pts_nil) (fun _ _ _ _ _ => (pe_fn (ok_ranges_of T) T.g_ranges_of (hr.mono (by decide)) pass0 (pa_cons (pv 4) pa_nil)))))))), ?_⟩
    walk_at "w"
    refine rd_kir1 (by decide) (by decide) fun p hp => ?_
    refine lc_it walk_range (fun i H' => Kp [] H H' ∧ ∃ as : List Addr, H' p = some (.lst (as.map V.ref)) ∧ as.length = i ∧ NRows (upd H p (.lst [])) H' as (fun _ _ => False) 0) ?_ (fun _ _ _ _ => trivial) ?_ ?_
    · exact ⟨Kp.new hp, [], upd_same, rfl, by simp, by simp, by simp⟩
    · rintro i x H1 _ hi ⟨k1, as, e1, hl, nd, hn, hr⟩ ⟨rfl, rfl⟩
      walk_at "w"
      refine ⟨rfl, ?_⟩
      walk_at "w"
      refine rd_klst (by simp) fun b H2 n2 k2 e2 => ?_
      have e1' := k2.get e1 (by simp)
      have hpb : p ≠ b := ne_of_none e1 n2
      refine ⟨_, e1', by rw [List.length_map, hl]; exact Nat.lt_of_lt_of_le (show i < 8 from hi) (by decide), (k1.trans k2).wrn hp, as ++ [b], by rw [upd_same]; simp, by simp [hl], ?_, ?_, ?_⟩
      · rw [List.nodup_append]
        refine ⟨nd, by simp, fun a ha c hc => ?_⟩
        simp at hc
        subst hc
        obtain ⟨j, hj⟩ := List.mem_iff_getElem?.mp ha
        obtain ⟨ns, h1, _⟩ := hr j a hj
        exact ne_of_none h1 n2
      · intro a ha
        rcases List.mem_append.mp ha with ha | ha
        · exact hn a ha
        · simp at ha; subst ha; rw [upd_ne hpb.symm]; exact k1.none n2
      · intro j a hj
        by_cases e : j < as.length
        · rw [List.getElem?_append_left e] at hj
          obtain ⟨ns, h1, h2⟩ := hr j a hj
          have hap : a ≠ p := fun z => by
            have := hn a (List.mem_of_getElem? hj)
            rw [z, upd_same] at this
            cases this
          exact ⟨ns, by rw [upd_ne hap]; exact k2.get h1 (by simp), h2⟩
        · rw [List.getElem?_append_right (by omega)] at hj
          have : j - as.length = 0 := by
            cases z : j - as.length with
            | zero => rfl
            | succ m => rw [z] at hj; simp at hj
          rw [this] at hj
          simp at hj
          subst hj
          exact ⟨[], by rw [upd_ne hpb.symm]; exact e2, by simp, by simp⟩
    · rintro H1 ⟨k1, as, e1, hl, nd, hn, hr⟩
      have R1 := R.up0 k1
      walk_at "w"
      obtain ⟨⟨dx, ob⟩, -, -, -, me, -⟩ := id R1
      obtain ⟨kvs, ⟨es, hes, hko, hkv⟩, prf⟩ := me
      have hav : A.a ≠ A.ms := by have := R1.nd; simp [RAd.own] at this; exact this.1.2.2.2.2
      have hpms : p ≠ A.ms := fun z => by rw [z] at hp; exact R.al (by simp [RAd.own]) hp
      have asd : ∀ a ∈ as, a ≠ p ∧ H a = none := fun a ha => by
        have := hn a ha
        by_cases z : a = p
        · rw [z, upd_same] at this; cases this
        · rw [upd_ne z] at this; exact ⟨z, this⟩
      have asm : ∀ a ∈ as, a ≠ A.ms := fun a ha z => R.al (b := A.ms) (by simp [RAd.own]) (by rw [← z]; exact (asd a ha).2)
      refine ⟨A.ms, _, hes, trivial, fun od => ?_⟩
      have ob1 : upd H1 A.ms (.frz od (DN P w A.ms es)) A.a = _ := (upd_ne hav).trans ob
      walk_at "w"
      refine rd_kin upd_same ?_
      have el : es.length = rp.msgs.length := by rw [← prF_len prf, ← hkv]; simp [kvE]
      refine for_it walk_n (fun i σ H' => ∃ x y, σ = [some (.ref A.a), some (.ref p), x, y, none] ∧ Kp as (upd H1 A.ms (.frz od (DN P w A.ms es))) H' ∧ H' A.ms = some (.frz od (DN P w A.ms es)) ∧ NRows (upd H p (.lst [])) H' as (fun j n => ((j : Int), n) ∈ (rp.msgs.take i).map (·.1)) i)
        ⟨none, none, rfl, Kp.refl, upd_same, nd, hn, fun j a ha => ?_⟩ ?_ ?_ ?_
      · obtain ⟨ns, h1, h2, h3⟩ := hr j a ha
        exact ⟨ns, by rw [upd_ne (asm a (List.mem_of_getElem? ha))]; exact h1, by simpa using h2, h3⟩
      · rintro i σ H' _ ⟨x, y, -, -, h, -⟩
        exact h
      · rintro i x σ H' H'' hi ⟨x0, y0, rfl, k2, hms, -, -, hr2⟩ ⟨rfl, e, he, rfl⟩
        have kL : Kp [A.ms] H1 (upd H1 A.ms (.frz od (DN P w A.ms es))) := Kp.wr (by rw [hes]; trivial) (by simp)
        have k12 : Kp (A.ms :: as) H1 H'' := (kL.mono (by simp)).trans (k2.mono fun b hb => List.mem_cons_of_mem _ hb)
        obtain ⟨kq, hq1, hq2, -⟩ := walkV (R := Rms K) (l := rp.msgs) hms (by rw [hkv]; exact prF_mono prf fun _ _ z => st_ms _ _ _ _ _ k12 z) (hko.up k12) he
        obtain ⟨b1, b2⟩ := hk kq.1 (List.mem_map_of_mem (List.mem_of_getElem? hq1))
        obtain ⟨ka, ys, ea, sq, im2⟩ := hq2.ref
        obtain ⟨u1, u2, rfl, i1, i2⟩ := im2.two
        cases i1.int; cases i2.int
        cases ea
        have hpas : p ∉ as := fun z => (asd p z).1 rfl
        have hp2 : H'' p = some (.lst (as.map V.ref)) := k2.get ((upd_ne hpms).trans e1) hpas
        obtain ⟨ra, hra⟩ : ∃ ra, as[kq.1.1.toNat]? = some ra := ⟨as[kq.1.1.toNat]'(by rw [hl]; show kq.1.1.toNat < 8; omega), List.getElem?_eq_getElem _⟩
        obtain ⟨ns, hn1, hn2, hn3⟩ := hr2 _ ra hra
        have ram : ra ∈ as := List.mem_of_getElem? hra
        walk_at "w"
        refine rd_gtup sq rfl ?_
        walk_at "w"
        refine rd_ixL (.inl (.inl hp2)) (v := .ref ra) (atN b1 (by rw [List.getElem?_map, hra]; rfl)) ?_
        refine rd_kbmL (.inl (.inl hn1)) ?_
        walk_at "w"
        refine rd_append hn1 (by rw [List.length_map]; omega) ?_
        walk_at "w"
        refine ⟨_, _, rfl, k2.wl hn1 ram, by rw [upd_ne (asm ra ram).symm]; exact hms, nd, hn, fun j a ha => ?_⟩
        have ht : (rp.msgs.take (i + 1)).map (·.1) = (rp.msgs.take i).map (·.1) ++ [kq.1] := by rw [take_snoc hq1, List.map_append]; rfl
        by_cases e : a = ra
        · subst e
          have ej : j = kq.1.1.toNat := by
            have l1 := (List.getElem?_eq_some_iff.mp ha)
            have l2 := (List.getElem?_eq_some_iff.mp hra)
            obtain ⟨l1, g1⟩ := l1
            obtain ⟨l2, g2⟩ := l2
            exact (List.getElem_inj nd).mp (g1.trans g2.symm)
          refine ⟨ns ++ [kq.1.2], by rw [upd_same]; simp, fun n => ?_, by simp; omega⟩
          show _ ↔ ((j : Int), n) ∈ (rp.msgs.take (i + 1)).map (·.1)
          have hn2' : n ∈ ns ↔ ((kq.1.1.toNat : Int), n) ∈ (rp.msgs.take i).map (·.1) := hn2 n
          rw [ht, List.mem_append, hn2', List.mem_append, ej]
          refine or_congr Iff.rfl ?_
          rw [List.mem_singleton, List.mem_singleton]
          constructor
          · rintro rfl
            exact Prod.ext (by simp; omega) rfl
          · intro z
            rw [← z]
        · obtain ⟨ns', h1, h2, h3⟩ := hr2 j a ha
          refine ⟨ns', by rw [upd_ne e]; exact h1, fun n => ?_, by omega⟩
          show _ ↔ ((j : Int), n) ∈ (rp.msgs.take (i + 1)).map (·.1)
          have h2' : n ∈ ns' ↔ ((j : Int), n) ∈ (rp.msgs.take i).map (·.1) := h2 n
          rw [ht, List.mem_append, h2', List.mem_singleton]
          refine ⟨.inl, fun z => z.elim id fun z => ?_⟩
          exfalso
          have ej : j = kq.1.1.toNat := by rw [← z]; simp
          rw [ej] at ha
          rw [hra] at ha
          exact e (Option.some.inj ha).symm
      · rintro σ H' ⟨x, y, rfl, k2, hms, -, -, hr2⟩
        refine ⟨hms, ?_⟩
        have k3 : Kp as H1 (upd H' A.ms (DN P w A.ms es)) := Kp.unlock hes trivial k2
        have k4 : Kp [] H (upd H' A.ms (DN P w A.ms es)) := ((k1.mono (by simp)).trans k3).weak fun b hb => .inr (asd b hb).2
        have hpas : p ∉ as := fun z => (asd p z).1 rfl
        have hp2 : upd H' A.ms (DN P w A.ms es) p = some (.lst (as.map V.ref)) := k3.get e1 hpas
        have hr3 : ∀ (i : Nat) a, as[i]? = some a → ∃ ns : List Int, upd H' A.ms (DN P w A.ms es) a = some (.lst (ns.map V.int)) ∧ (∀ n, n ∈ ns ↔ ((i : Int), n) ∈ rp.msgs.map (·.1)) ∧ ns.length ≤ es.length := fun i a ha => by
          obtain ⟨ns, h1, h2, h3⟩ := hr2 i a ha
          exact ⟨ns, by rw [upd_ne (asm a (List.mem_of_getElem? ha))]; exact h1, by rw [el, List.take_length] at h2; exact h2, h3⟩
        walk_at "w"
        refine rd_kil (.inl (.inl hp2)) ?_
        intro D hD
        generalize hHL : upd H' A.ms (DN P w A.ms es) = HL at *
        have fin : ∀ (i : Nat), i < 8 → ∃ a, as[i]? = some a := fun i hi => ⟨as[i]'(by rw [hl]; exact hi), List.getElem?_eq_getElem _⟩
        refine lc_it (walk_list (xs := as.map V.ref)) (fun i H2 => Kp [] HL H2 ∧ ∃ us : List V, H2 D = some (.lst us) ∧ us.length = i ∧ ∀ j : Nat, j < i → ∃ u rg, us[j]? = some u ∧ u ≠ .ref D ∧ RgA K H2 u rg ∧ (∀ n, Cov rg n ↔ ((j : Int), n) ∈ rp.msgs.map (·.1)) ∧ rg.length < 60 ∧ ∀ r ∈ rg, r.1 ≤ r.2)
          ⟨Kp.new hD, [], upd_same, rfl, fun j hj => absurd hj (by omega)⟩ (fun i H2 _ ⟨k, _⟩ => .inl (.inl (k.get hp2 (by simp)))) ?_ ?_
        · rintro i x H2 _ hi ⟨k5, us, eD, hul, hus⟩ ⟨rfl, hx⟩
          rw [List.length_map] at hi
          rw [List.getElem?_map] at hx
          obtain ⟨ra, hra, rfl⟩ := Option.map_eq_some_iff.mp hx
          obtain ⟨ns, h1, h2, h3⟩ := hr3 i ra hra
          walk_at "w"
          refine ⟨rfl, ?_⟩
          walk_at "w"
          refine ⟨ra, ns, rfl, .inl (.inl (k5.get h1 (by simp))), few_len (by omega), fun b rg H3 nb k6 lm cov hlen hle => ?_⟩
          have eD3 := k6.get eD (by simp)
          have kw : Kp [] HL (upd H3 D (.lst (us ++ [.ref b]))) := (k5.trans k6).wrn hD
          have kn : Kp [D] H3 (upd H3 D (.lst (us ++ [.ref b]))) := Kp.refl.wl eD3 (by simp)
          have nbD : b ≠ D := (ne_of_none eD nb).symm
          refine ⟨us, eD3, by rw [hul]; rw [hl] at hi; exact Nat.lt_of_lt_of_le (show i < 8 from hi) (by decide), kw, us ++ [.ref b], upd_same, by simp [hul], fun j hj => ?_⟩
          by_cases e : j < i
          · obtain ⟨u, rg', g1, g0, ⟨ua, ux, eu, g2, g2'⟩, g3⟩ := hus j e
            refine ⟨u, rg', by rw [List.getElem?_append_left (by omega)]; exact g1, g0, ⟨ua, ux, eu, ?_, (g2'.up k6).up kn⟩, g3⟩
            rcases g2 with g2 | g2
            · have nuD : ua ≠ D := fun z => g0 (by rw [eu, z])
              exact .inl (rd_kp kn (by simpa using nuD) (rd_kp k6 (by simp) g2))
            · exact .inr g2
          · have ej : j = i := by omega
            subst ej
            obtain ⟨ys, y1, y2⟩ := lm
            exact ⟨.ref b, rg, by rw [List.getElem?_append_right (by omega), hul]; simp, by simpa using nbD, ⟨b, ys, rfl, .inl (.inl (by rw [upd_ne nbD]; exact y1)), y2.up kn⟩, fun n => (cov n).trans (h2 n), hlen, hle⟩
        · rintro H2 ⟨k5, us, eD, hul, hus⟩
          rw [List.length_map, hl] at hul
          refine q _ H2 (k4.trans k5) ⟨D, us, rfl, .inl (.inl eD), hul, fun j hj => let ⟨u, rg, a, _, c⟩ := hus j (by rw [List.length_map, hl]; exact hj); ⟨u, rg, a, c⟩⟩
end
end GT
set_option maxHeartbeats 2000000
namespace GT
open PySem PySem.Spec PyProof.Rows L2
local macro_rules | `(tactic| walk_at "v") => `(tactic| ((with_reducible show tVar _ _ _ _); refine rd_var rfl ?_))
local macro_rules | `(tactic| walk_at "s1") => `(tactic| with_reducible first | refine rd_cons ?_ | refine rd_nil ?_ | refine rd_c ?_ | refine rd_op ?_ | refine rd_seq ?_ | refine rd_fld ?_ | refine rd_asg ?_ | refine rd_gname ?_ | refine rd_I0 ?_ | refine rd_cb ?_ | refine rd_next ?_ | refine rd_drop ?_ | refine rd_ret ?_ | refine rd_mf ?_ | refine rd_cf ?_ | refine rd_ifS ?_ | refine rd_test ?_ | refine rd_kt ?_)
local macro_rules | `(tactic| walk_at "s2") => `(tactic| with_reducible first | refine rd_tup ?_ | refine rd_lst ?_ | refine rd_bm ?_ | refine rd_gcons ?_ | refine rd_gnil ?_ | refine rd_gsub ?_ | refine rd_dm ?_ | refine rd_sfld ?_ | refine rd_fa ?_ | refine rd_frz ?_ | refine rd_nf ?_ | refine rd_retN ?_ | refine rd_cont ?_ | refine rd_par ?_ | refine rd_un ?_ | refine rd_and ?_ | refine rd_or ?_ | refine rd_not ?_ | refine rd_tru ?_ | refine rd_B ?_ | refine rd_chain ?_ | refine rd_sl ?_ | refine rd_nopart ?_ | refine rd_part ?_ | refine rd_kpart ?_)
local macro_rules | `(tactic| walk_at "s3") => `(tactic| with_reducible first | refine rd_U ?_ | refine rd_eqi ?_ | refine rd_nei ?_ | refine rd_eqs ?_ | refine rd_nes ?_ | refine rd_isN ?_ | refine rd_notN ?_ | refine rd_max2 ?_ | refine rd_min2 ?_ | refine rd_int1 ?_ | refine rd_intb ?_ | refine rd_kbmS ?_ | refine rd_il ?_ | refine rd_it ?_ | refine rd_ir1 ?_ | refine rd_ir2 ?_ | refine rd_in ?_ | refine rd_for ?_ | refine rd_lc ?_ | refine rd_yes ?_ | refine rd_tt ?_ | refine rd_ff ?_ | refine rd_listRg ?_ | refine rd_andV ?_ | refine rd_orV ?_ | refine rd_notV ?_ | refine rd_ex ?_)
local macro_rules | `(tactic| walk_at "c") => `(tactic| first | exact TX.c_Channel (by assumption) | exact TX.c_State (by assumption) | exact TX.c_Message (by assumption) | exact TX.c_Replica (by assumption) | exact TX.c_Network (by assumption))
local macro_rules | `(tactic| walk_at "n") => `(tactic| first | exact TX.n_Channel_under_way (by assumption) | exact TX.n_State_cells (by assumption) | exact TX.n_Message_octets (by assumption) | exact TX.n_Message_place (by assumption) | exact TX.n_Message_known (by assumption) | exact TX.n_Replica_peer (by assumption) | exact TX.n_Replica_clock (by assumption) | exact TX.n_Replica_made (by assumption) | exact TX.n_Replica_state (by assumption) | exact TX.n_Replica_roots (by assumption) | exact TX.n_Replica_pending (by assumption) | exact TX.n_Replica_messages (by assumption) | exact TX.n_Network_replicas (by assumption) | exact TX.n_Network_channels (by assumption))
local macro_rules | `(tactic| walk_at "f") => `(tactic| ((with_reducible show KFld _ _ _ _ _); refine rd_kfld (by assumption) (by walk_at "c") (by walk_at "n") rfl ?_))
local macro_rules | `(tactic| walk_at "g") => `(tactic| ((with_reducible show KSf _ _ _ _ _ _); refine rd_ksf (by assumption) (by walk_at "c") (by walk_at "n") (by simp) ?_))
local macro_rules | `(tactic| walk_at "w") => `(tactic| repeat (first | walk_at "v" | walk_at "s1" | walk_at "f" | walk_at "s2" | walk_at "s3"))
section
variable {P : Program} {w : World} {K : PySem.W.Frag} {mg : Str → Option Value} {base : Heap}
abbrev sp_outside (P : Program) (w : World) (K : PySem.W.Frag) : Sp := fun vs H Q _ => ∃ (n : Int) (v : V) (rg : List Nm), vs = [.int n, v] ∧ RgA K H v rg ∧ ∀ b : Bool, (b = true ↔ ¬ Cov rg n) → Q (.bl b) H
theorem ok_outside (T : TX P K mg) : Ok P w K mg base (CX0) 1 ("outside", none) p_outside (sp_outside P w K) := by
  refine T.ok 13 (d := d_outside) rfl rfl rfl sc_outside (fun _ _ _ _ _ _ us hl => match us, hl with | [_, _], _ => rfl) (fun vs H Q E h => ?_) fun cdv Ar outer sh H vs Q E hr h => ?_
  · obtain ⟨n, v, rg, rfl, _⟩ := h; rfl
  · obtain ⟨n, v, rg, rfl, ⟨l, xs, rfl, hl, im⟩, q⟩ := h
    obtain ⟨hu, hu1, hu65⟩ := rm_of hr
    refine ⟨_, PSs.nox (pss_cons (ps_for PassesOwn.never rfl (pi_list (pv 1)) (pg_tup (by rfl) (pgs_cons (pg_name (i := 2) sc_outside.nd rfl (Or.inl rfl)) (pgs_cons (pg_name (i := 3) sc_outside.nd rfl (Or.inl rfl)) pgs_nil)))
      (pss_one (ps_if (pt_chain op_le op_le (pv 2) (pv 0) (pv 3))
      (pss_one (ps_ret pe_bl))
      pss_nil)))
      (pss_one (ps_ret pe_bl))), ?_⟩
    walk_at "w"
    refine rd_kil hl ?_
    refine for_it (walk_list (xs := xs)) (fun i σ H' => ∃ x y, σ = [some (.int n), some (.ref l), x, y] ∧ H' = H ∧ ¬ Cov (rg.take i) n) ⟨none, none, rfl, rfl, by simp [Cov]⟩ ?_ ?_ ?_
    · rintro i σ H' _ ⟨x, y, -, rfl, -⟩
      exact hl
    · rintro i x σ H' H'' hi ⟨x0, y0, rfl, rfl, hc⟩ ⟨rfl, hx⟩
      obtain ⟨r, hr1, hr2⟩ := im.at hx
      obtain ⟨a, ys, rfl, sq, im2⟩ := hr2.ref
      obtain ⟨u1, u2, rfl, i1, i2⟩ := im2.two
      cases i1.int; cases i2.int
      walk_at "w"
      refine rd_gtup sq rfl ?_
      walk_at "w"
      refine rd_if (fun h1 => ?_) fun h1 => ?_
      · walk_at "w"
        refine rd_if (fun h2 => ?_) fun h2 => ?_
        · walk_at "w"
          exact q false ⟨fun z => (Bool.false_ne_true z).elim, fun z => (z ⟨r, List.mem_of_getElem? hr1, of_decide_eq_true h1, of_decide_eq_true h2⟩).elim⟩
        · walk_at "w"
          refine ⟨_, _, rfl, rfl, ?_⟩
          rw [take_snoc hr1, cov_snoc]
          exact fun z => z.elim hc fun z => of_decide_eq_false h2 z.2
      · walk_at "w"
        refine ⟨_, _, rfl, rfl, ?_⟩
        rw [take_snoc hr1, cov_snoc]
        exact fun z => z.elim hc fun z => of_decide_eq_false h1 z.1
    · rintro σ H' ⟨x, y, rfl, rfl, hc⟩
      walk_at "w"
      rw [ImA.mlen im, List.take_length] at hc
      exact q true ⟨fun _ => hc, fun _ => rfl⟩
abbrev sp_lacking (P : Program) (w : World) (K : PySem.W.Frag) : Sp := fun vs H Q _ => ∃ (v u : V) (S U : Nm → Prop) (l : List Nm), vs = [v, u] ∧ Told K H v S ∧ Told K H u U ∧ (∀ k, U k → k ∈ l) ∧ l.length < 60 ∧ (∀ k ∈ l, 0 ≤ k.2 ∧ k.2 < 1000) ∧
  ∀ p m H', H p = none → Kp [] H H' → LM K pD H' p m → (∀ k, k ∈ m → U k ∧ ¬ S k) → (∀ k, 0 ≤ k.1 → k.1 < 8 → U k → ¬ S k → k ∈ m) → m.length ≤ 480 → Q (.ref p) H'
theorem ok_lacking (T : TX P K mg) : Ok P w K mg base (CX0) 2 ("lacking", none) p_lacking (sp_lacking P w K) := by
  refine T.ok 14 (d := d_lacking) rfl rfl rfl sc_lacking (fun _ _ _ _ _ _ us hl => match us, hl with | [_, _], _ => rfl) (fun vs H Q E h => ?_) fun cdv Ar outer sh H vs Q E hr h => ?_
  · obtain ⟨v, u, S, U, l, rfl, _⟩ := h; rfl
  · obtain ⟨v, u, S, U, l, rfl, tS, tU, hl, hz, hb, q⟩ := h
    obtain ⟨hu, hu1, hu65⟩ := rm_of hr
    refine ⟨_, PSs.nox (pss_cons (ps_set (i := 2) sc_lacking.nd rfl (Or.inl rfl) (pe_lst pa_nil))
      (pss_cons (ps_for PassesOwn.never rfl (pi_range1 (by rfl) T.f_range (pa_cons (pe_gi T.i_PEERS) pa_nil)) (pg_name (i := 3) sc_lacking.nd rfl (Or.inl rfl))
      (pss_one (ps_for PassesOwn.never rfl (pi_list (pe_fn (ok_numbers_of T) T.g_numbers_of (hr.mono (by decide)) pass0 (pa_cons (pe_ix ix_list (pv 1) (pv 3) (fun _ _ => rfl)) pa_nil))) (pg_name (i := 4) sc_lacking.nd rfl (Or.inl rfl))
      (pss_one (ps_if (pt_val (pe_fn (ok_outside T) T.g_outside (hr.mono (by decide)) pass0 (pa_cons (pv 4) (pa_cons (pe_ix ix_list (pv 0) (pv 3) (fun _ _ => rfl)) pa_nil))))
      (pss_one (ps_expr (pe_bm PySem.F.plainAttrs_list PySem.F.slot_list_append PySem.F.type_list_append mt_append (pv 2) (pa_cons (pe_tup (pa_cons (pv 3) (pa_cons (pv 4) pa_nil))) pa_nil))))
      pss_nil)))))
      (pss_one (ps_ret (pv 2))))), ?_⟩
    walk_at "w"
    refine rd_klst (by simp) fun p H1 n1 k1 e1 => ?_
    walk_at "w"
    refine rd_kir1 (by decide) (by decide) ?_
    refine for_it walk_range (fun i σ H' => ∃ x y m, σ = [some v, some u, some (.ref p), x, y] ∧ Kp [] H H' ∧ LM K pD H' p m ∧ (∀ k ∈ m, U k ∧ ¬ S k) ∧ (∀ k : Nm, 0 ≤ k.1 → k.1 < i → U k → ¬ S k → k ∈ m) ∧ m.length ≤ 60 * i)
      ⟨none, none, [], rfl, k1, ⟨[], e1, .nil⟩, by simp, fun k h1 h2 => absurd h2 (by omega), by simp⟩ (fun _ _ _ _ _ => trivial) ?_ ?_
    · rintro i _ σ H' H'' hi ⟨x, y, m, rfl, kk, lm, m1, m2, m3⟩ ⟨rfl, rfl⟩
      have hi8 : i < 8 := hi
      obtain ⟨p1, xs1, rfl, sq1, l1, g1⟩ := told_up tS kk
      obtain ⟨p2, xs2, rfl, sq2, l2, g2⟩ := told_up tU kk
      obtain ⟨u1, rg1, a1, a2, a3, a4, a5⟩ := g1 i hi8
      obtain ⟨u2, rg2, b1, b2, b3, b4, b5⟩ := g2 i hi8
      walk_at "w"
      refine rd_ixL sq2 (v := u2) (atN (by omega) (by simpa using b1)) ?_
      walk_at "w"
      have cv : ∀ n, Cov rg2 n → ((i : Int), n) ∈ l := fun n hn => hl _ ((b3 n).mp hn)
      refine ⟨u2, rg2, l.map (·.2), rfl, b2, fun n hn => List.mem_map_of_mem (f := fun k : Nm => k.2) (cv n hn), few_len (by rw [List.length_map]; exact hz), by omega, fun r hr => ?_, fun pl L H2 n2 k2 e2 hL hL6 => ?_⟩
      · have hle := b5 r hr
        have c1 := hb _ (cv r.1 ⟨r, hr, Int.le_refl _, hle⟩)
        have c2 := hb _ (cv r.2 ⟨r, hr, hle, Int.le_refl _⟩)
        exact ⟨hle, c1.1, c2.2⟩
      refine rd_kil (.inl (.inl e2)) ?_
      obtain ⟨ys0, hp0, im0⟩ := lm
      have npl : pl ≠ p := (ne_of_none hp0 n2).symm
      refine for_it (walk_list (xs := L.map V.int)) (fun j σ H3 => ∃ y m', σ = [some (.ref p1), some (.ref p2), some (.ref p), some (.int (0 + (i : Int))), y] ∧ Kp [] H H3 ∧ H3 pl = some (.lst (L.map V.int)) ∧ LM K pD H3 p m' ∧ (∀ k ∈ m', U k ∧ ¬ S k) ∧ (∀ k : Nm, 0 ≤ k.1 → k.1 < i → U k → ¬ S k → k ∈ m') ∧
        (∀ n ∈ L.take j, ¬ S ((i : Int), n) → ((i : Int), n) ∈ m') ∧ m'.length ≤ 60 * i + j)
        ⟨y, m, rfl, kk.trans k2, e2, ⟨ys0, k2.get hp0 (by simp), im0.up k2⟩, m1, m2, by simp, by omega⟩ (fun j σ H3 _ ⟨_, _, _, _, h, _⟩ => .inl (.inl h)) ?_ ?_
      · rintro j x2 σ H3 H4 hj ⟨y2, m', rfl, k03, hpl, ⟨ys, hp, im⟩, c1, c2, c3, c4⟩ ⟨rfl, hx⟩
        obtain ⟨n, hn, rfl⟩ := get_int hx
        rw [List.length_map] at hj
        have hnU : U ((i : Int), n) := (b3 n).mp ((hL n).mp (List.mem_of_getElem? hn))
        obtain ⟨q1, zs1, eq1, sq3, l3, g3⟩ := told_up tS k03
        cases eq1
        obtain ⟨u3, rg3, d1, d2, d3, -⟩ := g3 i hi8
        walk_at "w"
        refine rd_ixL sq3 (v := u3) (atN (by omega) (by simpa using d1)) ?_
        walk_at "w"
        refine ⟨n, u3, rg3, rfl, d2, fun b hb' => ?_⟩
        walk_at "w"
        have ht : ∀ k, k ∈ L.take (j + 1) ↔ k ∈ L.take j ∨ k = n := fun k => by rw [take_snoc hn, List.mem_append, List.mem_singleton]
        refine rd_if (fun hbt => ?_) fun hbf => ?_
        · have hnS : ¬ S ((i : Int), n) := fun z => (hb'.mp hbt) ((d3 n).mpr z)
          walk_at "w"
          refine rd_kbmL (.inl (.inl hp)) ?_
          walk_at "w"
          refine rd_ktup (K := K) (ks := [.num (0 + (i : Int)), .num n]) (.cons (.num _) (.cons (.num n) .nil)) (by simp) fun v5 H5 k5 hv5 => ?_
          walk_at "w"
          refine rd_append (k5.get hp (by simp)) (by rw [ImA.mlen im]; omega) ?_
          walk_at "w"
          have kn : Kp [p] H5 (upd H5 p (.lst (ys ++ [v5]))) := Kp.refl.wl (k5.get hp (by simp)) (by simp)
          rw [show (0 : Int) + (i : Int) = (i : Int) by omega] at hv5
          refine ⟨_, m' ++ [((i : Int), n)], rfl, (k03.trans k5).wrn n1, by rw [upd_ne npl]; exact k5.get hpl (by simp), ⟨_, upd_same, ?_⟩, fun k hk => ?_, fun k h1 h2 h3 h4 => List.mem_append_left _ (c2 k h1 h2 h3 h4), fun k hk h3 => ?_, by simp; omega⟩
          · rw [List.map_append]
            exact ImA.snoc ((im.up k5).up kn) (hv5.up kn)
          · rcases List.mem_append.mp hk with hk | hk
            · exact c1 k hk
            · simp at hk; subst hk; exact ⟨hnU, hnS⟩
          · rcases (ht k).mp hk with hk | rfl
            · exact List.mem_append_left _ (c3 k hk h3)
            · simp
        · have hS : S ((i : Int), n) := by
            refine (d3 n).mp (Classical.byContradiction fun z => ?_)
            rw [hb'.mpr z] at hbf
            cases hbf
          walk_at "w"
          refine ⟨_, m', rfl, k03, hpl, ⟨ys, hp, im⟩, c1, c2, fun k hk h3 => ?_, by omega⟩
          rcases (ht k).mp hk with hk | rfl
          · exact c3 k hk h3
          · exact absurd hS h3
      · rintro σ H3 ⟨y2, m', rfl, k03, hpl, lm, c1, c2, c3, c4⟩
        rw [List.length_map, List.take_length] at c3
        rw [List.length_map] at c4
        refine ⟨_, _, m', rfl, k03, lm, c1, fun k h1 h2 h3 h4 => ?_, by omega⟩
        by_cases e : k.1 < i
        · exact c2 k h1 e h3 h4
        · have ek : k = ((i : Int), k.2) := Prod.ext (by show k.1 = _; omega) rfl
          rw [ek] at h3 h4 ⊢
          exact c3 _ ((hL _).mpr ((b3 _).mpr h3)) h4
    · rintro σ H' ⟨x, y, m, rfl, kk, lm, m1, m2, m3⟩
      walk_at "w"
      exact q p m H' n1 kk lm m1 (fun k h1 h2 h3 h4 => m2 k h1 (by simpa using h2) h3 h4) (by simpa using m3)
end
end GT
set_option maxHeartbeats 2000000
namespace GT
open PySem PySem.Spec PyProof.Rows L2
local macro_rules | `(tactic| walk_at "v") => `(tactic| ((with_reducible show tVar _ _ _ _); refine rd_var rfl ?_))
local macro_rules | `(tactic| walk_at "s1") => `(tactic| with_reducible first | refine rd_cons ?_ | refine rd_nil ?_ | refine rd_c ?_ | refine rd_op ?_ | refine rd_seq ?_ | refine rd_fld ?_ | refine rd_asg ?_ | refine rd_gname ?_ | refine rd_I0 ?_ | refine rd_cb ?_ | refine rd_next ?_ | refine rd_drop ?_ | refine rd_ret ?_ | refine rd_mf ?_ | refine rd_cf ?_ | refine rd_ifS ?_ | refine rd_test ?_ | refine rd_kt ?_)
local macro_rules | `(tactic| walk_at "s2") => `(tactic| with_reducible first | refine rd_tup ?_ | refine rd_lst ?_ | refine rd_bm ?_ | refine rd_gcons ?_ | refine rd_gnil ?_ | refine rd_gsub ?_ | refine rd_dm ?_ | refine rd_sfld ?_ | refine rd_fa ?_ | refine rd_frz ?_ | refine rd_nf ?_ | refine rd_retN ?_ | refine rd_cont ?_ | refine rd_par ?_ | refine rd_un ?_ | refine rd_and ?_ | refine rd_or ?_ | refine rd_not ?_ | refine rd_tru ?_ | refine rd_B ?_ | refine rd_chain ?_ | refine rd_sl ?_ | refine rd_nopart ?_ | refine rd_part ?_ | refine rd_kpart ?_)
local macro_rules | `(tactic| walk_at "s3") => `(tactic| with_reducible first | refine rd_U ?_ | refine rd_eqi ?_ | refine rd_nei ?_ | refine rd_eqs ?_ | refine rd_nes ?_ | refine rd_isN ?_ | refine rd_notN ?_ | refine rd_max2 ?_ | refine rd_min2 ?_ | refine rd_int1 ?_ | refine rd_intb ?_ | refine rd_kbmS ?_ | refine rd_il ?_ | refine rd_it ?_ | refine rd_ir1 ?_ | refine rd_ir2 ?_ | refine rd_in ?_ | refine rd_for ?_ | refine rd_lc ?_ | refine rd_yes ?_ | refine rd_tt ?_ | refine rd_ff ?_ | refine rd_listRg ?_ | refine rd_andV ?_ | refine rd_orV ?_ | refine rd_notV ?_ | refine rd_ex ?_)
local macro_rules | `(tactic| walk_at "c") => `(tactic| first | exact TX.c_Channel (by assumption) | exact TX.c_State (by assumption) | exact TX.c_Message (by assumption) | exact TX.c_Replica (by assumption) | exact TX.c_Network (by assumption))
local macro_rules | `(tactic| walk_at "n") => `(tactic| first | exact TX.n_Channel_under_way (by assumption) | exact TX.n_State_cells (by assumption) | exact TX.n_Message_octets (by assumption) | exact TX.n_Message_place (by assumption) | exact TX.n_Message_known (by assumption) | exact TX.n_Replica_peer (by assumption) | exact TX.n_Replica_clock (by assumption) | exact TX.n_Replica_made (by assumption) | exact TX.n_Replica_state (by assumption) | exact TX.n_Replica_roots (by assumption) | exact TX.n_Replica_pending (by assumption) | exact TX.n_Replica_messages (by assumption) | exact TX.n_Network_replicas (by assumption) | exact TX.n_Network_channels (by assumption))
local macro_rules | `(tactic| walk_at "f") => `(tactic| ((with_reducible show KFld _ _ _ _ _); refine rd_kfld (by assumption) (by walk_at "c") (by walk_at "n") rfl ?_))
local macro_rules | `(tactic| walk_at "g") => `(tactic| ((with_reducible show KSf _ _ _ _ _ _); refine rd_ksf (by assumption) (by walk_at "c") (by walk_at "n") (by simp) ?_))
local macro_rules | `(tactic| walk_at "w") => `(tactic| repeat (first | walk_at "v" | walk_at "s1" | walk_at "f" | walk_at "s2" | walk_at "s3"))
section
variable {P : Program} {w : World} {K : PySem.W.Frag} {mg : Str → Option Value} {base : Heap}
/-! ### a state -/
abbrev sp_State_init (P : Program) (w : World) (K : PySem.W.Frag) : Sp := fun vs H Q _ => ∃ x dx, vs = [.ref x] ∧ H x = some (.ins (He.ga K "State") dx []) ∧ ∀ d H', H d = none → Kp [x] H H' → StT P w K H' x d [] → Q .non H'
theorem ok_State_init (T : TX P K mg) : Ok P w K mg base (CX0) 1 ("State", some "__init__") p_State_init (sp_State_init P w K) := by
  refine T.ok 22 (d := d_State_init) rfl rfl rfl sc_State_init (fun _ _ _ _ _ _ us hl => match us, hl with | [_], _ => rfl) (fun vs H Q E h => ?_) fun cdv Ar outer sh H vs Q E hr h => ?_
  · obtain ⟨x, dx, rfl, _⟩ := h; rfl
  · obtain ⟨x, dx, rfl, hx, q⟩ := h
    obtain ⟨hu, hu1, hu65⟩ := rm_of hr
    refine ⟨_, PSs.nox (pss_one (ps_fld (pv 0) pe_dnewN rfl)), ?_⟩
    walk_at "w"
    refine rd_newN fun d H' hn k e => ?_
    walk_at "w"
    have hx' := k.get hx (by simp)
    walk_at "g"
    have kk : Kp [x] H (upd H' x (.ins (He.ga K "State") dx (putF "cells" (.ref d) []))) := k.nil.wi hx' (by simp)
    have k2 : Kp [x] H' (upd H' x (.ins (He.ga K "State") dx (putF "cells" (.ref d) []))) := Kp.refl.wi hx' (by simp)
    exact q d _ hn kk ⟨⟨dx, upd_same⟩, (DV.new e).up st_ce k2 (by simpa using (ne_of_none hx hn).symm)⟩
theorem ky_im {H : Hp} {x : V} {n : Nm} {f : Str} (h : Im K H x (pD n)) : ImA K H [x, .str f] [pD n, .text f] := .cons h (.cons (.text f) .nil)
abbrev sp_State_take (P : Program) (w : World) (K : PySem.W.Frag) : Sp := fun vs H Q _ => ∃ (s d : Addr) (cs : List (Ky × Cell)) (v : V) (c : Ch), vs = [.ref s, v] ∧ StT P w K H s d cs ∧ Im K H v (chD c) ∧ cs.length < 1000 ∧
  ∀ b H', Kp [d] H H' → StT P w K H' s d (takeC cs c) → Q (.bl b) H'
theorem ok_State_take (T : TX P K mg) : Ok P w K mg base (CX0) 2 ("State", some "take") p_State_take (sp_State_take P w K) := by
  refine T.ok 23 (d := d_State_take) rfl rfl rfl sc_State_take (fun _ _ _ _ _ _ us hl => match us, hl with | [_, _], _ => rfl) (fun vs H Q E h => ?_) fun cdv Ar outer sh H vs Q E hr h => ?_
  · obtain ⟨s, d, cs, v, c, rfl, _⟩ := h; rfl
  · obtain ⟨s, d, cs, v, c, rfl, S, hv, hz, q⟩ := h
    obtain ⟨⟨dx, hs⟩, ce⟩ := id S
    obtain ⟨hu, hu1, hu65⟩ := rm_of hr
    refine ⟨_, PSs.nox (pss_cons (ps_asg (pv 1) (pg_tup (by rfl) (pgs_cons (pg_name (i := 2) sc_State_take.nd rfl (Or.inl rfl)) (pgs_cons (pg_name (i := 3) sc_State_take.nd rfl (Or.inl rfl)) (pgs_cons (pg_name (i := 4) sc_State_take.nd rfl (Or.inl rfl)) (pgs_cons (pg_name (i := 5) sc_State_take.nd rfl (Or.inl rfl)) pgs_nil))))))
      (pss_cons (ps_set (i := 6) sc_State_take.nd rfl (Or.inl rfl) (pe_dm PySem.F.slot_dict_get PySem.F.type_dict_get (mt_getN hu) (pe_fld (pv 0) rfl) (pa_cons (pe_tup (pa_cons (pv 3) (pa_cons (pv 4) pa_nil))) pa_nil)))
      (pss_cons (ps_if (PW.pt (pw_and (pt_cmpR op_notN1 (pv 6) pe_non (nomark _)) (pw_and1 (pt_not (pt_val (pe_fn (ok_is_later T) T.g_is_later (hr.mono (by decide)) pass0 (pa_cons (pv 2) (pa_cons (pe_ix ix_tup (pv 6) pe_int (fun _ _ => rfl)) pa_nil))))))))
      (pss_one (ps_ret pe_bl))
      pss_nil)
      (pss_cons (ps_asg (pe_tup (pa_cons (pv 2) (pa_cons (pv 5) pa_nil))) (pg_sub (pe_fld (pv 0) rfl) (pe_tup (pa_cons (pv 3) (pa_cons (pv 4) pa_nil))) (set_dn hu)))
      (pss_one (ps_ret pe_bl)))))), ?_⟩
    walk_at "w"
    obtain ⟨a, xs, rfl, sq, im⟩ := hv.ref
    obtain ⟨v1, r1, rfl, i1, im⟩ := im.hd
    obtain ⟨v2, r2, rfl, i2, im⟩ := im.hd
    obtain ⟨v3, r3, rfl, i3, im⟩ := im.hd
    obtain ⟨v4, rfl, i4⟩ := im.one
    cases i3.str
    refine rd_gtup sq rfl ?_
    walk_at "w"
    refine rd_kdmV ce.r ?_
    walk_at "w"
    refine rd_ktup (ky_im i2) (by simp) fun kv H1 k1 hk => ?_
    walk_at "w"
    have ce1 := ce.up st_ce k1 (by simp)
    have hs1 := k1.get hs (by simp)
    have S1 : StT P w K H1 s d cs := S.up k1 (by simp) (by simp)
    refine rd_get1V ce1.r kF_ky (k := c.ky) hk (fun hn => ?_) fun o u ho hu' => ?_
    · have etk : takeC cs c = aput cs c.ky c.ce := by unfold takeC; rw [hn]
      walk_at "w"
      refine rd_ifF rfl ?_
      walk_at "w"
      refine rd_ktup (K := K) (ks := [pD c.st, vlD c.vl]) (.cons (i1.up k1) (.cons (i4.up k1) .nil)) (by simp) fun cv H5 k5 hcv => ?_
      walk_at "w"
      have hs5 := k5.get hs1 (by simp)
      walk_at "w"
      refine rd_ktup (ky_im ((i2.up k1).up k5)) (by simp) fun kv2 H6 k6 hk2 => ?_
      walk_at "w"
      have k7 := k5.trans k6
      refine rd_setV st_ce (ce1.up st_ce k7 (by simp)) kF_ky (k := c.ky) (A := c.ce) hk2 (hcv.up k6) (by omega) fun H7 kk7 ce7 => ?_
      walk_at "w"
      refine q _ H7 (k1.nil.trans (k7.nil.trans kk7)) ⟨⟨dx, kk7.get (k6.get hs5 (by simp)) (by simpa using S.ne.symm)⟩, ?_⟩
      rw [etk]
      exact ce7
    · have io : Im K H1 u (ceD o) := hu'
      obtain ⟨oa, oxs, rfl, osq, oim⟩ := io.ref
      obtain ⟨o1, o2, rfl, oi1, oi2⟩ := oim.two
      walk_at "w"
      refine rd_ifT rfl ?_
      walk_at "w"
      refine rd_ixI (k := pD o.1) io rfl fun y hy => ?_
      walk_at "w"
      refine ⟨v1, y, c.st, o.1, rfl, i1.up k1, hy, ?_⟩
      walk_at "w"
      refine rd_if (fun hb => ?_) fun hb => ?_
      · have hlt : ltP o.1 c.st = false := by simpa using hb
        have etk : takeC cs c = cs := by unfold takeC; rw [ho]; simp [hlt]
        walk_at "w"
        refine q _ H1 k1.nil ?_
        rw [etk]
        exact S1
      · have hlt : ltP o.1 c.st = true := by simpa using hb
        have etk : takeC cs c = aput cs c.ky c.ce := by unfold takeC; rw [ho]; simp [hlt]
        walk_at "w"
        refine rd_ktup (K := K) (ks := [pD c.st, vlD c.vl]) (.cons (i1.up k1) (.cons (i4.up k1) .nil)) (by simp) fun cv H5 k5 hcv => ?_
        walk_at "w"
        have hs5 := k5.get hs1 (by simp)
        walk_at "w"
        refine rd_ktup (ky_im ((i2.up k1).up k5)) (by simp) fun kv2 H6 k6 hk2 => ?_
        walk_at "w"
        have k7 := k5.trans k6
        refine rd_setV st_ce (ce1.up st_ce k7 (by simp)) kF_ky (k := c.ky) (A := c.ce) hk2 (hcv.up k6) (by omega) fun H7 kk7 ce7 => ?_
        walk_at "w"
        refine q _ H7 (k1.nil.trans (k7.nil.trans kk7)) ⟨⟨dx, kk7.get (k6.get hs5 (by simp)) (by simpa using S.ne.symm)⟩, ?_⟩
        rw [etk]
        exact ce7
abbrev sp_State_value (P : Program) (w : World) (K : PySem.W.Frag) : Sp := fun vs H Q _ => ∃ (s d : Addr) (cs : List (Ky × Cell)) (v : V) (n : Nm) (f : Str), vs = [.ref s, v, .str f] ∧ (∃ dx, H s = some (.ins (He.ga K "State") dx [("cells", .ref d)])) ∧ DVr P w K kyD (Rce K) H d cs ∧ Im K H v (pD n) ∧
  ∀ y H', Kp [] H H' → Im K H' y (vlD (vlC cs (n, f))) → Q y H'
theorem ok_State_value (T : TX P K mg) : Ok P w K mg base (CX0) 1 ("State", some "value") p_State_value (sp_State_value P w K) := by
  refine T.ok 24 (d := d_State_value) rfl rfl rfl sc_State_value (fun _ _ _ _ _ _ us hl => match us, hl with | [_, _, _], _ => rfl) (fun vs H Q E h => ?_) fun cdv Ar outer sh H vs Q E hr h => ?_
  · obtain ⟨s, d, cs, v, n, f, rfl, _⟩ := h; rfl
  · obtain ⟨s, d, cs, v, n, f, rfl, ⟨dx, hs⟩, ce, hv, q⟩ := h
    obtain ⟨hu, hu1, hu65⟩ := rm_of hr
    refine ⟨_, PSs.nox (pss_cons (ps_set (i := 3) sc_State_value.nd rfl (Or.inl rfl) (pe_dm PySem.F.slot_dict_get PySem.F.type_dict_get (mt_getN hu) (pe_fld (pv 0) rfl) (pa_cons (pe_tup (pa_cons (pv 1) (pa_cons (pv 2) pa_nil))) pa_nil)))
      (pss_cons (ps_if (pt_cmpR op_isN1 (pv 3) pe_non (nomark _))
      (pss_one (ps_ret pe_non))
      pss_nil)
      (pss_one (ps_ret (pe_ix ix_tup (pv 3) pe_int (fun _ _ => rfl)))))), ?_⟩
    walk_at "w"
    refine rd_kdmV ce ?_
    walk_at "w"
    refine rd_ktup (ky_im hv) (by simp) fun kv H1 k1 hk => ?_
    walk_at "w"
    refine rd_get1V (ce.up st_ce k1 (by simp)) kF_ky (k := (n, f)) hk (fun hn => ?_) fun o u ho hu' => ?_
    · have e : vlC cs (n, f) = .non := by unfold vlC; rw [hn]
      walk_at "w"
      refine rd_ifT rfl ?_
      walk_at "w"
      refine q _ H1 k1 ?_
      rw [e]
      exact .non
    · have e : vlC cs (n, f) = o.2 := by unfold vlC; rw [ho]
      have io : Im K H1 u (ceD o) := hu'
      obtain ⟨oa, oxs, rfl, osq, oim⟩ := io.ref
      walk_at "w"
      refine rd_ifF rfl ?_
      walk_at "w"
      refine rd_ixI (k := vlD o.2) io rfl fun y hy => ?_
      refine q _ H1 k1 ?_
      rw [e]
      exact hy
end
end GT
set_option maxHeartbeats 2000000
namespace GT
open PySem PySem.Spec PyProof.Rows L2
local macro_rules | `(tactic| walk_at "v") => `(tactic| ((with_reducible show tVar _ _ _ _); refine rd_var rfl ?_))
local macro_rules | `(tactic| walk_at "s1") => `(tactic| with_reducible first | refine rd_cons ?_ | refine rd_nil ?_ | refine rd_c ?_ | refine rd_op ?_ | refine rd_seq ?_ | refine rd_fld ?_ | refine rd_asg ?_ | refine rd_gname ?_ | refine rd_I0 ?_ | refine rd_cb ?_ | refine rd_next ?_ | refine rd_drop ?_ | refine rd_ret ?_ | refine rd_mf ?_ | refine rd_cf ?_ | refine rd_ifS ?_ | refine rd_test ?_ | refine rd_kt ?_)
local macro_rules | `(tactic| walk_at "s2") => `(tactic| with_reducible first | refine rd_tup ?_ | refine rd_lst ?_ | refine rd_bm ?_ | refine rd_gcons ?_ | refine rd_gnil ?_ | refine rd_gsub ?_ | refine rd_dm ?_ | refine rd_sfld ?_ | refine rd_fa ?_ | refine rd_frz ?_ | refine rd_nf ?_ | refine rd_retN ?_ | refine rd_cont ?_ | refine rd_par ?_ | refine rd_un ?_ | refine rd_and ?_ | refine rd_or ?_ | refine rd_not ?_ | refine rd_tru ?_ | refine rd_B ?_ | refine rd_chain ?_ | refine rd_sl ?_ | refine rd_nopart ?_ | refine rd_part ?_ | refine rd_kpart ?_)
local macro_rules | `(tactic| walk_at "s3") => `(tactic| with_reducible first | refine rd_U ?_ | refine rd_eqi ?_ | refine rd_nei ?_ | refine rd_eqs ?_ | refine rd_nes ?_ | refine rd_isN ?_ | refine rd_notN ?_ | refine rd_max2 ?_ | refine rd_min2 ?_ | refine rd_int1 ?_ | refine rd_intb ?_ | refine rd_kbmS ?_ | refine rd_il ?_ | refine rd_it ?_ | refine rd_ir1 ?_ | refine rd_ir2 ?_ | refine rd_in ?_ | refine rd_for ?_ | refine rd_lc ?_ | refine rd_yes ?_ | refine rd_tt ?_ | refine rd_ff ?_ | refine rd_listRg ?_ | refine rd_andV ?_ | refine rd_orV ?_ | refine rd_notV ?_ | refine rd_ex ?_)
local macro_rules | `(tactic| walk_at "c") => `(tactic| first | exact TX.c_Channel (by assumption) | exact TX.c_State (by assumption) | exact TX.c_Message (by assumption) | exact TX.c_Replica (by assumption) | exact TX.c_Network (by assumption))
local macro_rules | `(tactic| walk_at "n") => `(tactic| first | exact TX.n_Channel_under_way (by assumption) | exact TX.n_State_cells (by assumption) | exact TX.n_Message_octets (by assumption) | exact TX.n_Message_place (by assumption) | exact TX.n_Message_known (by assumption) | exact TX.n_Replica_peer (by assumption) | exact TX.n_Replica_clock (by assumption) | exact TX.n_Replica_made (by assumption) | exact TX.n_Replica_state (by assumption) | exact TX.n_Replica_roots (by assumption) | exact TX.n_Replica_pending (by assumption) | exact TX.n_Replica_messages (by assumption) | exact TX.n_Network_replicas (by assumption) | exact TX.n_Network_channels (by assumption))
local macro_rules | `(tactic| walk_at "f") => `(tactic| ((with_reducible show KFld _ _ _ _ _); refine rd_kfld (by assumption) (by walk_at "c") (by walk_at "n") rfl ?_))
local macro_rules | `(tactic| walk_at "g") => `(tactic| ((with_reducible show KSf _ _ _ _ _ _); refine rd_ksf (by assumption) (by walk_at "c") (by walk_at "n") (by simp) ?_))
local macro_rules | `(tactic| walk_at "w") => `(tactic| repeat (first | walk_at "v" | walk_at "s1" | walk_at "f" | walk_at "s2" | walk_at "s3"))
section
variable {P : Program} {w : World} {K : PySem.W.Frag} {mg : Str → Option Value} {base : Heap}
/-! ### the fields of a name -/
def fstep (cs : List (Ky × Cell)) (n : Nm) (k : Ky) : Option (Str × Vl) := if k.1 = n ∧ vlC cs k ≠ .non then some (k.2, vlC cs k) else none
abbrev skeys (cs : List (Ky × Cell)) : List Ky := srt kyD (cs.map (·.1))
def fieldsOf (cs : List (Ky × Cell)) (n : Nm) : List (Str × Vl) := (skeys cs).filterMap (fstep cs n)
abbrev FdP (K : PySem.W.Frag) (H : Hp) : List (Key × V) → List (Str × Vl) → Prop := Paired fun p q => p.1 = .inr q.1 ∧ Im K H p.2 (vlD q.2)
theorem fdP_up {F : List Addr} {H H' : Hp} {kvs : List (Key × V)} {l : List (Str × Vl)} (h : FdP K H kvs l) (k : Kp F H H') : FdP K H' kvs l := Paired.mapP h fun _ _ z => ⟨z.1, z.2.up k⟩
theorem fdP_none {H : Hp} {kvs : List (Key × V)} {l : List (Str × Vl)} {f : Str} (h : FdP K H kvs l) (n : f ∉ l.map (·.1)) : valV kvs (.inr f : Key) = none := by
  induction h with
  | nil => rfl
  | @cons p q ps qs h t ih =>
    simp only [List.map_cons, List.mem_cons, not_or] at n
    rw [valV_neg (by rw [h.1]; intro z; exact n.1 (Sum.inr.inj z).symm)]
    exact ih n.2
theorem fstep_new {cs : List (Ky × Cell)} {n : Nm} {l : List Ky} {i : Nat} {k : Ky} (nd : l.Nodup) (hk : l[i]? = some k) (e : k.1 = n) : k.2 ∉ ((l.take i).filterMap (fstep cs n)).map (·.1) := by
  intro h
  obtain ⟨q, hq, e2⟩ := List.mem_map.mp h
  obtain ⟨k', hk', e3⟩ := List.mem_filterMap.mp hq
  unfold fstep at e3
  split at e3
  · rename_i c
    cases e3
    have ek : k' = k := Prod.ext (by rw [c.1, e]) e2
    subst ek
    obtain ⟨j, hj⟩ := List.mem_iff_getElem?.mp hk'
    rw [List.getElem?_take] at hj
    split at hj
    · rename_i hji
      have l1 := List.getElem?_eq_some_iff.mp hj
      have l2 := List.getElem?_eq_some_iff.mp hk
      obtain ⟨l1, g1⟩ := l1
      obtain ⟨l2, g2⟩ := l2
      have := (List.getElem_inj nd).mp (g1.trans g2.symm)
      omega
    · cases hj
  · cases e3
theorem vl_non {H : Hp} {y : V} {v : Vl} (h : Im K H y (vlD v)) : decide (y = .non) = decide (v = .non) := by
  cases v with
  | non => rw [h.non']; rfl
  | txt s => rw [h.str]; rfl
  | num i => rw [h.int]; rfl
  | rf n =>
    obtain ⟨a, xs, rfl, _⟩ := h.ref
    rfl
theorem rd_dput {td ty tv : TE} {D : Ends} {σ : L2.St} {H : Hp} (h : tv σ H fun v H1 => td σ H1 fun x H2 => ty σ H2 fun y H3 => ∃ a H4, x = .ref a ∧ DPut H3 a y v H4 ∧ D.nx σ H4) : sDPut td ty tv D σ H := h
abbrev sp_State_fields (P : Program) (w : World) (K : PySem.W.Frag) : Sp := fun vs H Q _ => ∃ (s d : Addr) (cs : List (Ky × Cell)) (v : V) (n : Nm), vs = [.ref s, v] ∧ StT P w K H s d cs ∧ Im K H v (pD n) ∧ (cs.map (·.1)).Nodup ∧ cs.length < 1000 ∧
  ∀ p kvs H', H p = none → Kp [] H H' → H' p = some (.dK kvs) → FdP K H' kvs (fieldsOf cs n) → Q (.ref p) H'
theorem ok_State_fields (T : TX P K mg) : Ok P w K mg base (CX0) 2 ("State", some "fields") p_State_fields (sp_State_fields P w K) := by
  refine T.ok 25 (d := d_State_fields) rfl rfl rfl sc_State_fields (fun _ _ _ _ _ _ us hl => match us, hl with | [_, _], _ => rfl) (fun vs H Q E h => ?_) fun cdv Ar outer sh H vs Q E hr h => ?_
  · obtain ⟨s, d, cs, v, n, rfl, _⟩ := h; rfl
  · obtain ⟨s, d, cs, v, n, rfl, S, hv, nd, hz, q⟩ := h
    obtain ⟨⟨dx, hs⟩, ce⟩ := id S
    obtain ⟨hu, hu1, hu65⟩ := rm_of hr
    refine ⟨_, PSs.nox (pss_cons (ps_set (i := 2) sc_State_fields.nd rfl (Or.inl rfl) pe_dnewK)
      (pss_cons (ps_for PassesOwn.never rfl (pi_list (pe_callB (call_sortN hu rfl) (by rfl) T.f_sorted (by decide +kernel) (pa_cons (pe_fld (pv 0) rfl) pa_nil))) (pg_tup (by rfl) (pgs_cons (pg_name (i := 3) sc_State_fields.nd rfl (Or.inl rfl)) (pgs_cons (pg_name (i := 4) sc_State_fields.nd rfl (Or.inl rfl)) pgs_nil)))
      (pss_cons (ps_set (i := 5) sc_State_fields.nd rfl (Or.inl rfl) (pe_mt' (ok_State_value T) T.c_State T.m_State_value (hr.mono (by decide)) pass0 (pv 0) (pa_cons (pv 3) (pa_cons (pv 4) pa_nil))))
      (pss_one (ps_if (PW.pt (pw_and (pt_cmpR (op_eqI hu) (pv 3) (pv 1) (nomark _)) (pw_and1 (pt_cmpR op_notN1 (pv 5) pe_non (nomark _)))))
      (pss_one (ps_dput hu1 (pv 2) (pv 4) (pv 5) rfl))
      pss_nil))))
      (pss_one (ps_ret (pv 2))))), ?_⟩
    walk_at "w"
    intro p hp
    have k1 : Kp [] H (upd H p (.dK [])) := Kp.new hp
    have hs1 := k1.get hs (by simp)
    walk_at "w"
    refine rd_sortV (ce.up st_ce k1 (by simp)).r (srtOk_ky _) fun pl ys H2 n2 k2 e2 im => ?_
    have k02 := k1.trans k2
    have hp2 : H2 p = some (.dK []) := k2.get upd_same (by simp)
    have npl : pl ≠ p := (ne_of_none upd_same n2).symm
    refine rd_kil (.inl (.inl e2)) ?_
    refine for_it (walk_list (xs := ys)) (fun i σ H' => ∃ x y z kvs, σ = [some (.ref s), some v, some (.ref p), x, y, z] ∧ Kp [] H H' ∧ H' pl = some (.lst ys) ∧ H' p = some (.dK kvs) ∧ FdP K H' kvs (((skeys cs).take i).filterMap (fstep cs n)) ∧ ImA K H' ys ((skeys cs).map kyD))
      ⟨none, none, none, [], rfl, k02, e2, hp2, .nil, im⟩ (fun i σ H' _ ⟨_, _, _, _, _, _, h, _⟩ => .inl (.inl h)) ?_ ?_
    · rintro i x σ H' H'' hi ⟨x0, y0, z0, kvs, rfl, kk, hpl, hpp, fd, im'⟩ ⟨rfl, hx⟩
      obtain ⟨k, hk, ik⟩ := im'.at hx
      obtain ⟨a, zs, rfl, sq, im2⟩ := ik.ref
      obtain ⟨u1, u2, rfl, i1, i2⟩ := im2.two
      cases i2.str
      have hs' := kk.get hs (by simp)
      have hv' := hv.up kk
      walk_at "w"
      refine rd_gtup sq rfl ?_
      walk_at "w"
      refine rd_kmf hs' rfl ?_
      walk_at "w"
      refine ⟨s, d, cs, u1, k.1, k.2, rfl, ⟨dx, hs'⟩, (ce.up st_ce kk (by simp)).r, i1, fun y H3 k3 iy => ?_⟩
      walk_at "w"
      have hp3 := k3.get hpp (by simp)
      have kk3 := kk.trans k3
      have fd3 := fdP_up fd k3
      have ts : ((skeys cs).take (i + 1)).filterMap (fstep cs n) = ((skeys cs).take i).filterMap (fstep cs n) ++ (match fstep cs n k with | some z => [z] | none => []) := by
        rw [take_snoc hk, List.filterMap_append]
        congr 1
        cases h : fstep cs n k <;> simp [h]
      have stay : fstep cs n k = none → ∃ x y_1 z kvs, [some (V.ref s), some v, some (V.ref p), some u1, some (V.str k.2), some y] = [some (V.ref s), some v, some (V.ref p), x, y_1, z] ∧ Kp [] H H3 ∧ H3 pl = some (.lst ys) ∧ H3 p = some (.dK kvs) ∧ FdP K H3 kvs (((skeys cs).take (i + 1)).filterMap (fstep cs n)) ∧ ImA K H3 ys ((skeys cs).map kyD) := fun h => by
        rw [ts, h, List.append_nil]
        exact ⟨_, _, _, kvs, rfl, kk3, k3.get hpl (by simp), hp3, fd3, im'.up k3⟩
      refine rd_eqI (i1.up k3) (hv'.up k3) (shp_p _) (shp_p _) ?_
      walk_at "w"
      refine rd_if (fun hb => ?_) fun hb => ?_
      · have e1 : k.1 = n := pD_inj (of_decide_eq_true hb)
        walk_at "w"
        rw [vl_non iy]
        refine rd_if (fun hb2 => ?_) fun hb2 => ?_
        · have e2 : vlC cs k ≠ .non := by simpa using hb2
          have ef : fstep cs n k = some (k.2, vlC cs k) := by unfold fstep; rw [if_pos ⟨e1, e2⟩]
          have nk : valV kvs (.inr k.2 : Key) = none := fdP_none fd (fstep_new (srt_nd nd) hk e1)
          have kl : kvs.length < 1000 := by
            rw [Paired.length fd]
            have := List.length_filterMap_le (fstep cs n) ((skeys cs).take i)
            have h2 : ((skeys cs).take i).length ≤ (skeys cs).length := by rw [List.length_take]; omega
            have h3 : (skeys cs).length = cs.length := by rw [srt_len, List.length_map]
            omega
          walk_at "w"
          refine rd_dput ?_
          walk_at "w"
          refine ⟨p, _, rfl, DPut.k (k := .inr k.2) hp3 (Nat.lt_of_lt_of_le kl (by decide)), ?_⟩
          rw [putK_new _ nk]
          have kw : Kp [] H (upd H3 p (.dK (kvs ++ [(.inr k.2, y)]))) := kk3.wrn hp
          have kp : Kp [p] H3 (upd H3 p (.dK (kvs ++ [(.inr k.2, y)]))) := Kp.wr (by rw [hp3]; trivial) (by simp)
          refine ⟨_, _, _, _, rfl, kw, by rw [upd_ne npl]; exact k3.get hpl (by simp), upd_same, ?_, (im'.up k3).up kp⟩
          rw [ts, ef]
          exact Paired.snoc (fdP_up fd3 kp) ⟨rfl, iy.up kp⟩
        · walk_at "w"
          exact stay (by unfold fstep; rw [if_neg (fun z => z.2 (by simpa using hb2))])
      · walk_at "w"
        exact stay (by unfold fstep; rw [if_neg (fun z => of_decide_eq_false hb (by rw [z.1]))])
    · rintro σ H' ⟨x, y, z, kvs, rfl, kk, hpl, hpp, fd, im'⟩
      walk_at "w"
      rw [ImA.mlen im', List.take_length] at fd
      exact q p kvs H' hp kk hpp fd
end
end GT
set_option maxHeartbeats 2000000
namespace GT
open PySem PySem.Spec PyProof.Rows L2
local macro_rules | `(tactic| walk_at "v") => `(tactic| ((with_reducible show tVar _ _ _ _); refine rd_var rfl ?_))
local macro_rules | `(tactic| walk_at "s1") => `(tactic| with_reducible first | refine rd_cons ?_ | refine rd_nil ?_ | refine rd_c ?_ | refine rd_op ?_ | refine rd_seq ?_ | refine rd_fld ?_ | refine rd_asg ?_ | refine rd_gname ?_ | refine rd_I0 ?_ | refine rd_cb ?_ | refine rd_next ?_ | refine rd_drop ?_ | refine rd_ret ?_ | refine rd_mf ?_ | refine rd_cf ?_ | refine rd_ifS ?_ | refine rd_test ?_ | refine rd_kt ?_)
local macro_rules | `(tactic| walk_at "s2") => `(tactic| with_reducible first | refine rd_tup ?_ | refine rd_lst ?_ | refine rd_bm ?_ | refine rd_gcons ?_ | refine rd_gnil ?_ | refine rd_gsub ?_ | refine rd_dm ?_ | refine rd_sfld ?_ | refine rd_fa ?_ | refine rd_frz ?_ | refine rd_nf ?_ | refine rd_retN ?_ | refine rd_cont ?_ | refine rd_par ?_ | refine rd_un ?_ | refine rd_and ?_ | refine rd_or ?_ | refine rd_not ?_ | refine rd_tru ?_ | refine rd_B ?_ | refine rd_chain ?_ | refine rd_sl ?_ | refine rd_nopart ?_ | refine rd_part ?_ | refine rd_kpart ?_)
local macro_rules | `(tactic| walk_at "s3") => `(tactic| with_reducible first | refine rd_U ?_ | refine rd_eqi ?_ | refine rd_nei ?_ | refine rd_eqs ?_ | refine rd_nes ?_ | refine rd_isN ?_ | refine rd_notN ?_ | refine rd_max2 ?_ | refine rd_min2 ?_ | refine rd_int1 ?_ | refine rd_intb ?_ | refine rd_kbmS ?_ | refine rd_il ?_ | refine rd_it ?_ | refine rd_ir1 ?_ | refine rd_ir2 ?_ | refine rd_in ?_ | refine rd_for ?_ | refine rd_lc ?_ | refine rd_yes ?_ | refine rd_tt ?_ | refine rd_ff ?_ | refine rd_listRg ?_ | refine rd_andV ?_ | refine rd_orV ?_ | refine rd_notV ?_ | refine rd_ex ?_)
local macro_rules | `(tactic| walk_at "c") => `(tactic| first | exact TX.c_Channel (by assumption) | exact TX.c_State (by assumption) | exact TX.c_Message (by assumption) | exact TX.c_Replica (by assumption) | exact TX.c_Network (by assumption))
local macro_rules | `(tactic| walk_at "n") => `(tactic| first | exact TX.n_Channel_under_way (by assumption) | exact TX.n_State_cells (by assumption) | exact TX.n_Message_octets (by assumption) | exact TX.n_Message_place (by assumption) | exact TX.n_Message_known (by assumption) | exact TX.n_Replica_peer (by assumption) | exact TX.n_Replica_clock (by assumption) | exact TX.n_Replica_made (by assumption) | exact TX.n_Replica_state (by assumption) | exact TX.n_Replica_roots (by assumption) | exact TX.n_Replica_pending (by assumption) | exact TX.n_Replica_messages (by assumption) | exact TX.n_Network_replicas (by assumption) | exact TX.n_Network_channels (by assumption))
local macro_rules | `(tactic| walk_at "f") => `(tactic| ((with_reducible show KFld _ _ _ _ _); refine rd_kfld (by assumption) (by walk_at "c") (by walk_at "n") rfl ?_))
local macro_rules | `(tactic| walk_at "g") => `(tactic| ((with_reducible show KSf _ _ _ _ _ _); refine rd_ksf (by assumption) (by walk_at "c") (by walk_at "n") (by simp) ?_))
local macro_rules | `(tactic| walk_at "w") => `(tactic| repeat (first | walk_at "v" | walk_at "s1" | walk_at "f" | walk_at "s2" | walk_at "s3"))
section
variable {P : Program} {w : World} {K : PySem.W.Frag} {mg : Str → Option Value} {base : Heap}
/-! ### data behind an unlocking -/
theorem sqt_unl {H : Hp} {d a : Addr} {o : Obj} {u : HO} {xs : List V} (hd : H d = some (.frz o u)) (nt : ∀ ys, u ≠ .tup ys) (h : SqT K H a xs) : SqT K (upd H d u) a xs := by
  rcases h with (h | ⟨o', h⟩) | h
  · refine .inl (.inl ?_)
    rw [upd_ne (fun e => by rw [e, hd] at h; cases h)]
    exact h
  · refine .inl (.inr ⟨o', ?_⟩)
    rw [upd_ne (fun e => by rw [e, hd] at h; injection h with h; injection h with h1 h2; exact nt _ h2)]
    exact h
  · exact .inr h
mutual
theorem Im.unl {H : Hp} {d : Addr} {o : Obj} {u : HO} (hd : H d = some (.frz o u)) (nt : ∀ ys, u ≠ .tup ys) : ∀ (k : D) (v : V), Im K H v k → Im K (upd H d u) v k
  | .none, _, h => by cases h; exact .non
  | .num i, _, h => by cases h; exact .num i
  | .text x, _, h => by cases h; exact .text x
  | .tup ks, _, h => by
    cases h with
    | tup s a => exact .tup (sqt_unl hd nt s) (ImA.unl hd nt ks _ a)
theorem ImA.unl {H : Hp} {d : Addr} {o : Obj} {u : HO} (hd : H d = some (.frz o u)) (nt : ∀ ys, u ≠ .tup ys) : ∀ (ks : List D) (vs : List V), ImA K H vs ks → ImA K (upd H d u) vs ks
  | [], _, h => by cases h; exact .nil
  | k :: ks, _, h => by
    cases h with
    | cons a b => exact .cons (Im.unl hd nt k _ a) (ImA.unl hd nt ks _ b)
end
theorem dn_nt {d : Addr} {es : List En} : ∀ ys, DN P w d es ≠ .tup ys := fun ys e => by
  have e' : HO.ext _ = HO.tup ys := e
  cases e'
/-! ### sets of names, sorted -/
abbrev pr2 (n : Nm) : List Int := [n.1, n.2]
theorem pr2_inj {a b : Nm} (h : pr2 a = pr2 b) : a = b := by
  simp [pr2] at h
  exact Prod.ext h.1 h.2
theorem pk_of {H : Hp} : ∀ {l : List Nm} {xs : List V}, ImA K H xs (l.map pD) → ∃ ks : List PK, xs = ks.map (fun p => V.ref p.1) ∧ (∀ p ∈ ks, SqT K H p.1 (p.2.map V.int)) ∧ ks.map (·.2) = l.map pr2
  | [], _, h => by cases h; exact ⟨[], rfl, by simp, rfl⟩
  | n :: l, _, h => by
    obtain ⟨v, ws, rfl, a, b⟩ := h.hd
    obtain ⟨ks, e1, e2, e3⟩ := pk_of b
    obtain ⟨p, ys, rfl, sq, im⟩ := a.ref
    obtain ⟨u1, u2, rfl, i1, i2⟩ := im.two
    cases i1.int; cases i2.int
    refine ⟨(p, pr2 n) :: ks, by rw [e1]; rfl, fun q hq => ?_, by rw [List.map_cons, List.map_cons, e3]⟩
    rcases List.mem_cons.mp hq with rfl | hq
    · exact sq
    · exact e2 q hq
theorem pk_im {H : Hp} : ∀ {ks : List PK} {l : List Nm}, ks.map (·.2) = l.map pr2 → (∀ p ∈ ks, SqT K H p.1 (p.2.map V.int)) → ImA K H (ks.map fun p => V.ref p.1) (l.map pD)
  | [], [], _, _ => .nil
  | [], _ :: _, h, _ => by cases h
  | _ :: _, [], h, _ => by cases h
  | p :: ks, n :: l, h, g => by
    rw [List.map_cons, List.map_cons] at h
    injection h with h1 h2
    have s := g p List.mem_cons_self
    rw [h1] at s
    exact .cons (.tup s (.cons (.num _) (.cons (.num _) .nil))) (pk_im h2 fun q hq => g q (List.mem_cons_of_mem _ hq))
/-- the second parts, as names -/
theorem pk_names {ks : List PK} {l : List Nm} (h : ks.map (·.2) = l.map pr2) : ∀ {L : List PK}, (∀ p ∈ L, p ∈ ks) → ∃ N : List Nm, L.map (·.2) = N.map pr2 ∧ ∀ n ∈ N, n ∈ l
  | [], _ => ⟨[], rfl, by simp⟩
  | p :: L, g => by
    obtain ⟨N, h1, h2⟩ := pk_names h (L := L) fun q hq => g q (List.mem_cons_of_mem _ hq)
    have : p.2 ∈ l.map pr2 := by rw [← h]; exact List.mem_map_of_mem (g p List.mem_cons_self)
    obtain ⟨n, hn, e⟩ := List.mem_map.mp this
    refine ⟨n :: N, by rw [List.map_cons, List.map_cons, h1, e], fun m hm => ?_⟩
    rcases List.mem_cons.mp hm with rfl | hm
    · exact hn
    · exact h2 m hm
theorem nodup_pr2 {N : List Nm} (h : (N.map pr2).Nodup) : N.Nodup := (List.pairwise_map.mp h).imp fun h e => h (by rw [e])
theorem few_t {ks : List PK} {l nms : List Nm} (h : ks.map (·.2) = l.map pr2) (hn : ∀ n ∈ l, n ∈ nms) (hz : nms.length < 60) : FewT ks := fun L nd sub => by
  obtain ⟨N, h1, h2⟩ := pk_names h sub
  have e : L.length = N.length := by
    have := congrArg List.length h1
    simpa using this
  rw [e]
  rw [h1] at nd
  exact Nat.lt_of_le_of_lt (nodup_len (nodup_pr2 nd) fun k hk => hn k (h2 k hk)) hz
structure NmS (K : PySem.W.Frag) (H : Hp) (M : List PK) (l : List Nm) : Prop where
  t : ∀ p ∈ M, SqT K H p.1 (p.2.map V.int)
  n : ∃ N : List Nm, M.map (·.2) = N.map pr2 ∧ N.Nodup ∧ ∀ n, n ∈ N ↔ n ∈ l
section
variable {H : Hp} {Q : VK} {a : Addr} {l nms : List Nm} {xs : List V}
theorem rd_setNm (h : SqL K H a xs) (im : ImA K H xs (l.map pD)) (hn : ∀ n ∈ l, n ∈ nms) (hz : nms.length < 60) (q : ∀ b M H1, H b = none → Kp [] H H1 → H1 b = some (SetTO P w b M) → NmS K H1 M l → Q (.ref b) H1) : rSetT K P w [.ref a] H Q := by
  obtain ⟨ks, e1, e2, e3⟩ := pk_of im
  refine ⟨a, ks, rfl, by rw [← e1]; exact h, e2, few_t e3 hn hz, fun b L hb nd sub all => ?_⟩
  have k : Kp [] H (upd H b (SetTO P w b L)) := Kp.new hb
  obtain ⟨N, h1, h2⟩ := pk_names e3 sub
  refine q b L _ hb k upd_same ⟨fun p hp => sqt_kp k (e2 p (sub p hp)), N, h1, nodup_pr2 (by rw [← h1]; exact nd), fun n => ⟨h2 n, fun hn => ?_⟩⟩
  have : pr2 n ∈ ks.map (·.2) := by rw [e3]; exact List.mem_map_of_mem hn
  obtain ⟨p, hp, e⟩ := List.mem_map.mp this
  have := all p hp
  rw [e, h1] at this
  obtain ⟨m, hm, e⟩ := List.mem_map.mp this
  rw [← pr2_inj e]
  exact hm
theorem bd_ex : ∀ l : List Nm, (∀ n ∈ l, 0 ≤ n.1 ∧ 0 ≤ n.2) → ∃ B : Int, ∀ n ∈ l, TS.Bd B (pr2 n)
  | [], _ => ⟨0, by simp⟩
  | n :: l, h => by
    obtain ⟨B, hB⟩ := bd_ex l fun m hm => h m (List.mem_cons_of_mem _ hm)
    have hn := h n List.mem_cons_self
    refine ⟨max B (max (n.1 + 1) (n.2 + 1)), fun m hm => ?_⟩
    intro x hx
    rcases List.mem_cons.mp hm with rfl | hm
    · simp at hx
      rcases hx with rfl | rfl <;> omega
    · have := hB m hm x hx
      omega
theorem rd_sortNm {M : List PK} (h : H a = some (SetTO P w a M)) (s : NmS K H M l) (hp : ∀ n ∈ l, 0 ≤ n.1 ∧ 0 ≤ n.2) (q : ∀ p ys (m : List Nm) H', H p = none → Kp [] H H' → H' p = some (.lst ys) → ImA K H' ys (m.map pD) → (∀ n, n ∈ m ↔ n ∈ l) → m.length < 64 → Q (.ref p) H') : rSortedT K P w [.ref a] H Q := by
  obtain ⟨N, e1, nd, e2⟩ := s.n
  obtain ⟨B, hB⟩ := bd_ex N fun n hn => hp n ((e2 n).mp hn)
  have each : ∀ p ∈ M, ∃ n ∈ N, p.2 = pr2 n := fun p hm => by
    have : p.2 ∈ N.map pr2 := by rw [← e1]; exact List.mem_map_of_mem hm
    obtain ⟨n, h1, h2⟩ := List.mem_map.mp this
    exact ⟨n, h1, h2.symm⟩
  refine ⟨a, M, 2, B, rfl, h, s.t, by decide, fun p hm => ?_, fun L' p pm nd' lt pw hn => ?_⟩
  · obtain ⟨n, h1, h2⟩ := each p hm
    rw [h2]
    exact ⟨rfl, hB n h1⟩
  · obtain ⟨N', h1, h2⟩ := pk_names e1 (L := L') fun p hp => pm.mem_iff.mp hp
    have k : Kp [] H (upd H p (.lst (L'.map fun q => V.ref q.1))) := Kp.new hn
    refine q p _ N' _ hn k upd_same (pk_im h1 fun q hq => sqt_kp k (s.t q (pm.mem_iff.mp hq))) (fun n => ⟨fun z => (e2 n).mp (h2 n z), fun z => ?_⟩) ?_
    · have : pr2 n ∈ M.map (·.2) := by rw [e1]; exact List.mem_map_of_mem ((e2 n).mpr z)
      obtain ⟨r, hr, e⟩ := List.mem_map.mp this
      have : r.2 ∈ L'.map (·.2) := List.mem_map_of_mem (pm.mem_iff.mpr hr)
      rw [e, h1] at this
      obtain ⟨m, hm, e⟩ := List.mem_map.mp this
      rw [← pr2_inj e]
      exact hm
    · have := congrArg List.length h1
      simp at this
      omega
end
/-! ### names of a state -/
def NamesOf (cs : List (Ky × Cell)) (n : Nm) : Prop := (∃ e ∈ cs, e.1.1 = n) ∨ ∃ e ∈ cs, e.2.2 = .rf n
structure NmOk (nms : List Nm) : Prop where
  few : nms.length < 60
  pos : ∀ n ∈ nms, 0 ≤ n.1 ∧ 0 ≤ n.2
abbrev sp_State_names (P : Program) (w : World) (K : PySem.W.Frag) : Sp := fun vs H Q _ => ∃ (s d : Addr) (cs : List (Ky × Cell)) (nms : List Nm), vs = [.ref s] ∧ StT P w K H s d cs ∧ NmOk nms ∧ (∀ n, NamesOf cs n → n ∈ nms) ∧ (cs.map (·.1)).Nodup ∧ cs.length < 1000 ∧
  ∀ p ys (m : List Nm) H', H p = none → Kp [] H H' → H' p = some (.lst ys) → ImA K H' ys (m.map pD) → (∀ n, n ∈ m ↔ NamesOf cs n) → Q (.ref p) H'
theorem ok_State_names (T : TX P K mg) : Ok P w K mg base (CX0) 2 ("State", some "names") p_State_names (sp_State_names P w K) := by
  refine T.ok 26 (d := d_State_names) rfl rfl rfl sc_State_names (fun _ _ _ _ _ _ us hl => match us, hl with | [_], _ => rfl) (fun vs H Q E h => ?_) fun cdv Ar outer sh H vs Q E hr h => ?_
  · obtain ⟨s, d, cs, nms, rfl, _⟩ := h; rfl
  · obtain ⟨s, d, cs, nms, rfl, S, no, hn, nd, hz, q⟩ := h
    obtain ⟨⟨dx, hs⟩, ce⟩ := id S
    obtain ⟨kvs, ⟨es, hes, hko, hkv⟩, prf⟩ := ce
    have nsd : s ≠ d := S.ne.symm
    obtain ⟨hu, hu1, hu65⟩ := rm_of hr
    refine ⟨_, PSs.nox (pss_cons (ps_lock (ps_setLcW (i := 1) (own := [("name", 4), ("field", 5)]) sh rfl sc_State_names.nd rfl rfl (sw_true rfl rfl rfl (by decide +kernel)) (pi_dn (pe_fld (pv 0) rfl)) (blkOk_by (own := [("name", 4), ("field", 5)]) (N := n_State_names) (sc := defScope s_State_names) (by decide +kernel)) (pg_tup (by rfl) (pgs_cons (pg_name (i := 4) sc_State_names.nd rfl (Or.inl rfl)) (pgs_cons (pg_name (i := 5) sc_State_names.nd rfl (Or.inl rfl)) pgs_nil))) pts_nil (pv 4) (fun _ _ _ _ _ => (pg_tup (by rfl) (pgs_cons (pg_name (i := 4) sc_State_names.nd rfl (Or.inl rfl)) (pgs_cons (pg_name (i := 5) sc_State_names.nd rfl (Or.inl rfl)) pgs_nil)))) (fun _ _ _ _ _ => pts_nil) (fun _ _ _ _ _ => (pv 4))))
      (pss_cons (ps_lock (ps_for PassesOwn.never rfl (pi_dn (pe_fld (pv 0) rfl)) (pg_name (i := 2) sc_State_names.nd rfl (Or.inl rfl))
      (pss_cons (ps_set (i := 3) sc_State_names.nd rfl (Or.inl rfl) (pe_fn (ok_target_of T) T.g_target_of (hr.mono (by decide)) pass0 (pa_cons (pe_ix ix_tup (pe_ix (ix_dn hu) (pe_fld (pv 0) rfl) (pv 2) (fun _ _ => rfl)) pe_int (fun _ _ => rfl)) pa_nil)))
      (pss_one (ps_if (pt_cmpR op_notN1 (pv 3) pe_non (nomark _))
      (pss_one (ps_expr (pe_bm PySem.F.plainAttrs_list PySem.F.slot_list_append PySem.F.type_list_append mt_append (pv 1) (pa_cons (pv 3) pa_nil))))
      pss_nil)))))
      (pss_one (ps_ret (pe_callB (cr_sortedT rfl) (by rfl) T.f_sorted (by decide +kernel) (pa_cons (pe_callTy (cr_setT rfl hu) (by rfl) T.f_set (by decide +kernel) (pa_cons (pv 1) pa_nil)) pa_nil)))))), ?_⟩
    walk_at "w"
    refine ⟨d, _, hes, trivial, fun od => ?_⟩
    have hs1 : upd H d (.frz od (DN P w d es)) s = _ := (upd_ne nsd).trans hs
    walk_at "w"
    refine rd_kin upd_same ?_
    intro D hD
    have hDd : D ≠ d := fun z => by rw [z, upd_same] at hD; cases hD
    have hDH : H D = none := by rw [upd_ne hDd] at hD; exact hD
    have kL : Kp [d] H (upd H d (.frz od (DN P w d es))) := Kp.wr (by rw [hes]; trivial) (by simp)
    have el : es.length = cs.length := by rw [← prF_len prf, ← hkv]; simp [kvE]
    refine lc_it walk_n (fun i H' => Kp [] (upd H d (.frz od (DN P w d es))) H' ∧ ∃ xs, H' D = some (.lst xs) ∧ ImA K H' xs (((cs.take i).map (·.1.1)).map pD)) ⟨Kp.new hD, [], upd_same, .nil⟩ (fun i H' _ ⟨k, _⟩ => k.get upd_same (by simp)) ?_ ?_
    · rintro i x H' H'' hi ⟨k1, xs, e1, im⟩ ⟨rfl, e, he, rfl⟩
      have k2 : Kp [d] H H'' := kL.trans k1.nil
      obtain ⟨q0, hq1, hq2, -⟩ := walkV (R := Rce K) (l := cs) (k1.get upd_same (by simp)) (by rw [hkv]; exact prF_mono prf fun _ _ z => st_ce _ _ _ _ _ k2 z) (hko.up k2) he
      obtain ⟨ka, ys, ea, sq, im2⟩ := hq2.ref
      obtain ⟨u1, u2, rfl, i1, i2⟩ := im2.two
      cases ea
      walk_at "w"
      refine rd_gtup sq rfl ?_
      walk_at "w"
      refine ⟨rfl, ?_⟩
      walk_at "w"
      refine ⟨xs, e1, by rw [ImA.mlen im, List.length_map, List.length_take]; exact Nat.lt_of_le_of_lt (show min i cs.length ≤ 1000 by omega) (by decide), k1.wrn hD, _, upd_same, ?_⟩
      have kn : Kp [D] H'' (upd H'' D (.lst (xs ++ [u1]))) := Kp.refl.wl e1 (by simp)
      rw [take_snoc hq1, List.map_append, List.map_append]
      exact ImA.snoc (im.up kn) (i1.up kn)
    · rintro H' ⟨k1, xs, e1, im⟩
      walk_at "w"
      refine ⟨k1.get upd_same (by simp), ?_⟩
      have k2 : Kp [] H (upd H' d (DN P w d es)) := Kp.unlock hes trivial k1
      have im2 := ImA.unl (k1.get upd_same (by simp)) dn_nt _ _ im
      generalize hH2 : upd H' d (DN P w d es) = H2 at *
      have hes2 : H2 d = some (DN P w d es) := by rw [← hH2, upd_same]
      have e2 : H2 D = some (.lst xs) := by rw [← hH2, upd_ne hDd]; exact e1
      rw [el, List.take_length] at im2
      walk_at "w"
      refine ⟨d, _, hes2, trivial, fun od2 => ?_⟩
      have kL2 : Kp [d] H2 (upd H2 d (.frz od2 (DN P w d es))) := Kp.wr (by rw [hes2]; trivial) (by simp)
      have hs2 : upd H2 d (.frz od2 (DN P w d es)) s = _ := (upd_ne nsd).trans (k2.get hs (by simp))
      walk_at "w"
      refine rd_kin upd_same ?_
      refine for_it walk_n (fun i σ H' => ∃ x y, σ = [some (.ref s), some (.ref D), x, y, none, none] ∧ Kp [D] (upd H2 d (.frz od2 (DN P w d es))) H' ∧ ∃ (xs : List V) (l : List Nm), H' D = some (.lst xs) ∧ ImA K H' xs (l.map pD) ∧ (∀ n, n ∈ l ↔ (∃ e ∈ cs, e.1.1 = n) ∨ ∃ e ∈ cs.take i, e.2.2 = .rf n) ∧ l.length ≤ cs.length + i)
        ⟨none, none, rfl, Kp.refl, xs, cs.map (·.1.1), (upd_ne hDd).trans e2, im2.up kL2, fun n => by simp, by simp⟩ (fun i σ H' _ ⟨_, _, _, k, _⟩ => k.get upd_same (by simpa using hDd.symm)) ?_ ?_
      · rintro i x σ H' H'' hi ⟨x0, y0, rfl, k3, ws, l, eD, iml, hl1, hl2⟩ ⟨rfl, e, he, rfl⟩
        have k4 : Kp [D, d] H H'' := k2.nil.trans ((kL2.mono (by simp)).trans (k3.mono (by simp)))
        have hdz : H'' d = some (.frz od2 (DN P w d es)) := k3.get upd_same (by simpa using hDd.symm)
        have hs3 : H'' s = _ := k3.get hs2 (by simpa using ne_of_none hs hDH)
        obtain ⟨q0, hq1, hq2, hq3⟩ := walkV (R := Rce K) (l := cs) hdz (by rw [hkv]; exact prF_mono prf fun _ _ z => st_ce _ _ _ _ _ k4 z) (hko.up k4) he
        have dvr : DVr P w K kyD (Rce K) H'' d cs := ⟨kvs, ⟨es, .inr ⟨od2, hdz⟩, hko.up k4, hkv⟩, prF_mono prf fun _ _ z => st_ce _ _ _ _ _ k4 z⟩
        have hag : aget cs q0.1 = some q0.2 := aget_of_mem nd (List.mem_of_getElem? hq1)
        walk_at "w"
        refine rd_getV dvr kF_ky (k := q0.1) hq2 hag fun v hv => ?_
        walk_at "w"
        obtain ⟨ca, cxs, rfl, csq, cim⟩ := (show Im K H'' v (ceD q0.2) from hv).ref
        refine rd_ixI (k := vlD q0.2.2) hv rfl fun v2 hv2 => ?_
        walk_at "w"
        refine ⟨v2, q0.2.2, rfl, hv2, fun y hy => ?_⟩
        walk_at "w"
        rw [tg_non hy]
        cases hvl : q0.2.2 with
        | rf n =>
          refine rd_ifT rfl ?_
          walk_at "w"
          refine rd_kbmL (.inl (.inl eD)) ?_
          walk_at "w"
          refine rd_append eD (by rw [ImA.mlen iml]; rw [el] at hi; omega) ?_
          walk_at "w"
          have kn : Kp [D] H'' (upd H'' D (.lst (ws ++ [y]))) := Kp.refl.wl eD (by simp)
          refine ⟨_, _, rfl, k3.wl eD (by simp), ws ++ [y], l ++ [n], upd_same, ?_, fun m => ?_, by simp; omega⟩
          · rw [List.map_append]
            rw [hvl] at hy
            exact ImA.snoc (iml.up kn) ((show Im K H'' y (pD n) from hy).up kn)
          · rw [List.mem_append, hl1 m, take_snoc hq1, or_assoc]
            refine or_congr Iff.rfl ⟨fun z => ?_, fun ⟨e, he, ev⟩ => ?_⟩
            · rcases z with ⟨e, he, ev⟩ | z
              · exact ⟨e, List.mem_append_left _ he, ev⟩
              · rw [List.mem_singleton] at z
                exact ⟨q0, by simp, by rw [hvl, z]⟩
            · rcases List.mem_append.mp he with he | he
              · exact .inl ⟨e, he, ev⟩
              · simp at he
                subst he
                rw [hvl] at ev
                injection ev with ev
                exact .inr (by simp [ev])
        | _ =>
          refine rd_ifF rfl ?_
          walk_at "w"
          refine ⟨_, _, rfl, k3, ws, l, eD, iml, fun m => ?_, by omega⟩
          rw [hl1 m, take_snoc hq1]
          refine or_congr Iff.rfl ⟨fun ⟨e, he, ev⟩ => ⟨e, List.mem_append_left _ he, ev⟩, fun ⟨e, he, ev⟩ => ?_⟩
          rcases List.mem_append.mp he with he | he
          · exact ⟨e, he, ev⟩
          · simp at he
            subst he
            rw [hvl] at ev
            cases ev
      · rintro σ H' ⟨x, y, rfl, k3, ws, l, eD, iml, hl1, hl2⟩
        refine ⟨k3.get upd_same (by simpa using hDd.symm), ?_⟩
        have k4 : Kp [D] H2 (upd H' d (DN P w d es)) := Kp.unlock hes2 trivial k3
        have k5 : Kp [] H (upd H' d (DN P w d es)) := (k2.nil.trans k4).weak fun b hb => .inr (by simp at hb; rw [hb]; exact hDH)
        have iml2 := ImA.unl (k3.get upd_same (by simpa using hDd.symm)) dn_nt _ _ iml
        rw [el, List.take_length] at hl1
        have eD2 : upd H' d (DN P w d es) D = some (.lst ws) := (upd_ne hDd).trans eD
        walk_at "w"
        have hln : ∀ n ∈ l, n ∈ nms := fun n h => hn n ((hl1 n).mp h)
        refine rd_setNm (.inl (.inl eD2)) iml2 hln no.few fun b M H5 nb k6 eb ns => ?_
        walk_at "w"
        refine rd_sortNm eb ns (fun n h => no.pos n (hln n h)) fun p ys m H6 np k7 ep imp hm _ => ?_
        exact q p ys m H6 (k5.none (k6.none np)) (k5.trans (k6.trans k7)) ep imp (fun n => (hm n).trans (hl1 n))
end
end GT
set_option maxHeartbeats 2000000
namespace GT
open PySem PySem.Spec PyProof.Rows L2
local macro_rules | `(tactic| walk_at "v") => `(tactic| ((with_reducible show tVar _ _ _ _); refine rd_var rfl ?_))
local macro_rules | `(tactic| walk_at "s1") => `(tactic| with_reducible first | refine rd_cons ?_ | refine rd_nil ?_ | refine rd_c ?_ | refine rd_op ?_ | refine rd_seq ?_ | refine rd_fld ?_ | refine rd_asg ?_ | refine rd_gname ?_ | refine rd_I0 ?_ | refine rd_cb ?_ | refine rd_next ?_ | refine rd_drop ?_ | refine rd_ret ?_ | refine rd_mf ?_ | refine rd_cf ?_ | refine rd_ifS ?_ | refine rd_test ?_ | refine rd_kt ?_)
local macro_rules | `(tactic| walk_at "s2") => `(tactic| with_reducible first | refine rd_tup ?_ | refine rd_lst ?_ | refine rd_bm ?_ | refine rd_gcons ?_ | refine rd_gnil ?_ | refine rd_gsub ?_ | refine rd_dm ?_ | refine rd_sfld ?_ | refine rd_fa ?_ | refine rd_frz ?_ | refine rd_nf ?_ | refine rd_retN ?_ | refine rd_cont ?_ | refine rd_par ?_ | refine rd_un ?_ | refine rd_and ?_ | refine rd_or ?_ | refine rd_not ?_ | refine rd_tru ?_ | refine rd_B ?_ | refine rd_chain ?_ | refine rd_sl ?_ | refine rd_nopart ?_ | refine rd_part ?_ | refine rd_kpart ?_)
local macro_rules | `(tactic| walk_at "s3") => `(tactic| with_reducible first | refine rd_U ?_ | refine rd_eqi ?_ | refine rd_nei ?_ | refine rd_eqs ?_ | refine rd_nes ?_ | refine rd_isN ?_ | refine rd_notN ?_ | refine rd_max2 ?_ | refine rd_min2 ?_ | refine rd_int1 ?_ | refine rd_intb ?_ | refine rd_kbmS ?_ | refine rd_il ?_ | refine rd_it ?_ | refine rd_ir1 ?_ | refine rd_ir2 ?_ | refine rd_in ?_ | refine rd_for ?_ | refine rd_lc ?_ | refine rd_yes ?_ | refine rd_tt ?_ | refine rd_ff ?_ | refine rd_listRg ?_ | refine rd_andV ?_ | refine rd_orV ?_ | refine rd_notV ?_ | refine rd_ex ?_)
local macro_rules | `(tactic| walk_at "c") => `(tactic| first | exact TX.c_Channel (by assumption) | exact TX.c_State (by assumption) | exact TX.c_Message (by assumption) | exact TX.c_Replica (by assumption) | exact TX.c_Network (by assumption))
local macro_rules | `(tactic| walk_at "n") => `(tactic| first | exact TX.n_Channel_under_way (by assumption) | exact TX.n_State_cells (by assumption) | exact TX.n_Message_octets (by assumption) | exact TX.n_Message_place (by assumption) | exact TX.n_Message_known (by assumption) | exact TX.n_Replica_peer (by assumption) | exact TX.n_Replica_clock (by assumption) | exact TX.n_Replica_made (by assumption) | exact TX.n_Replica_state (by assumption) | exact TX.n_Replica_roots (by assumption) | exact TX.n_Replica_pending (by assumption) | exact TX.n_Replica_messages (by assumption) | exact TX.n_Network_replicas (by assumption) | exact TX.n_Network_channels (by assumption))
local macro_rules | `(tactic| walk_at "f") => `(tactic| ((with_reducible show KFld _ _ _ _ _); refine rd_kfld (by assumption) (by walk_at "c") (by walk_at "n") rfl ?_))
local macro_rules | `(tactic| walk_at "g") => `(tactic| ((with_reducible show KSf _ _ _ _ _ _); refine rd_ksf (by assumption) (by walk_at "c") (by walk_at "n") (by simp) ?_))
local macro_rules | `(tactic| walk_at "w") => `(tactic| repeat (first | walk_at "v" | walk_at "s1" | walk_at "f" | walk_at "s2" | walk_at "s3"))
/-! ### what is reached from the roots -/
def addN (l : List Nm) (t : Nm) : List Nm := if t ∈ l then l else l ++ [t]
def addV (l : List Nm) (v : Vl) : List Nm := match v with
  | .rf t => addN l t
  | _ => l
def stepN (cs : List (Ky × Cell)) (l : List Nm) (n : Nm) : List Nm := (fieldsOf cs n).foldl (fun l p => addV l p.2) l
inductive Reach (cs : List (Ky × Cell)) : List Nm → Nat → List Nm → Prop
  | done {l : List Nm} {i : Nat} : l.length ≤ i → Reach cs l i l
  | step {l r : List Nm} {i : Nat} {n : Nm} : l[i]? = some n → Reach cs (stepN cs l n) (i + 1) r → Reach cs l i r
def rootsN (roots : List Nm) : List Nm := roots.foldl addN []
theorem Reach.det {cs : List (Ky × Cell)} {l r : List Nm} {i : Nat} (h : Reach cs l i r) : ∀ {r'}, Reach cs l i r' → r = r' := by
  induction h with
  | done h =>
    intro r' h'
    cases h' with
    | done _ => rfl
    | step e _ =>
      have := (List.getElem?_eq_some_iff.mp e).1
      omega
  | step e _ ih =>
    intro r' h'
    cases h' with
    | done h =>
      have := (List.getElem?_eq_some_iff.mp e).1
      omega
    | step e' h' =>
      rw [e] at e'
      cases e'
      exact ih h'
theorem addN_mem {l : List Nm} {t n : Nm} : n ∈ addN l t ↔ n ∈ l ∨ n = t := by
  unfold addN
  split
  · rename_i h
    exact ⟨.inl, fun z => z.elim id fun z => by rw [z]; exact h⟩
  · rw [List.mem_append, List.mem_singleton]
theorem addN_nd {l : List Nm} (h : l.Nodup) (t : Nm) : (addN l t).Nodup := by
  unfold addN
  split
  · exact h
  · rename_i e
    rw [List.nodup_append]
    exact ⟨h, by simp, fun a ha b hb => by simp at hb; subst hb; exact fun z => e (by rw [← z]; exact ha)⟩
/-- l' goes on from l -/
def Goes (l l' : List Nm) : Prop := ∃ m, l' = l ++ m
theorem addN_goes (l : List Nm) (t : Nm) : Goes l (addN l t) := by
  unfold addN
  split
  · exact ⟨[], by simp⟩
  · exact ⟨[t], rfl⟩
theorem Goes.trans {a b c : List Nm} (h : Goes a b) (g : Goes b c) : Goes a c := by
  obtain ⟨m, rfl⟩ := h
  obtain ⟨m', rfl⟩ := g
  exact ⟨m ++ m', by simp⟩
theorem addV_goes (l : List Nm) (v : Vl) : Goes l (addV l v) := by
  unfold addV
  split
  · exact addN_goes _ _
  · exact ⟨[], by simp⟩
theorem addV_nd {l : List Nm} (h : l.Nodup) (v : Vl) : (addV l v).Nodup := by
  unfold addV
  split
  · exact addN_nd h _
  · exact h
theorem addV_mem {l : List Nm} {v : Vl} {n : Nm} : n ∈ addV l v ↔ n ∈ l ∨ v = .rf n := by
  unfold addV
  split
  · rw [addN_mem]
    exact or_congr Iff.rfl ⟨fun z => by rw [z], fun z => by injection z with z; exact z.symm⟩
  · rename_i h
    exact ⟨.inl, fun z => z.elim id fun z => (h n z).elim⟩
theorem fold_goes : ∀ (fs : List (Str × Vl)) (l : List Nm), Goes l (fs.foldl (fun l p => addV l p.2) l)
  | [], l => ⟨[], by simp⟩
  | p :: fs, l => (addV_goes l p.2).trans (fold_goes fs _)
theorem fold_nd : ∀ (fs : List (Str × Vl)) {l : List Nm}, l.Nodup → (fs.foldl (fun l p => addV l p.2) l).Nodup
  | [], _, h => h
  | p :: fs, _, h => fold_nd fs (addV_nd h p.2)
theorem fold_mem : ∀ (fs : List (Str × Vl)) {l : List Nm} {n : Nm}, n ∈ fs.foldl (fun l p => addV l p.2) l ↔ n ∈ l ∨ ∃ p ∈ fs, p.2 = .rf n
  | [], _, _ => by simp
  | p :: fs, l, n => by
    rw [List.foldl_cons, fold_mem fs, addV_mem]
    simp [or_assoc]
theorem roots_mem : ∀ {rs l : List Nm} {n : Nm}, n ∈ rs.foldl addN l ↔ n ∈ l ∨ n ∈ rs
  | [], _, _ => by simp
  | r :: rs, l, n => by
    rw [List.foldl_cons, roots_mem, addN_mem]
    simp [or_assoc]
theorem roots_nd : ∀ {rs l : List Nm}, l.Nodup → (rs.foldl addN l).Nodup
  | [], _, h => h
  | r :: rs, l, h => roots_nd (rs := rs) (l := addN l r) (addN_nd h r)
/-- a field's target is a name of the cells -/
theorem fields_names {cs : List (Ky × Cell)} {n t : Nm} {p : Str × Vl} (h : p ∈ fieldsOf cs n) (e : p.2 = .rf t) : NamesOf cs t := by
  obtain ⟨k, hk, ek⟩ := List.mem_filterMap.mp h
  unfold fstep at ek
  split at ek
  · cases ek
    unfold vlC at e
    cases q : aget cs k with
    | none => rw [q] at e; cases e
    | some c => rw [q] at e; exact .inr ⟨(k, c), aget_mem q, e⟩
  · cases ek
theorem step_mem {cs : List (Ky × Cell)} {l nms : List Nm} {n : Nm} (hl : ∀ n ∈ l, n ∈ nms) (hc : ∀ n, NamesOf cs n → n ∈ nms) : ∀ m ∈ stepN cs l n, m ∈ nms := fun m hm => by
  rcases fold_mem _ |>.mp hm with h | ⟨p, hp, e⟩
  · exact hl m h
  · exact hc m (fields_names hp e)
/-- all targets of what is reached are reached -/
theorem Reach.goes {cs : List (Ky × Cell)} {l r : List Nm} {i : Nat} (h : Reach cs l i r) : Goes l r := by
  induction h with
  | done _ => exact ⟨[], by simp⟩
  | step _ _ ih => exact (fold_goes _ _).trans ih
theorem Reach.nd {cs : List (Ky × Cell)} {l r : List Nm} {i : Nat} (h : Reach cs l i r) (n : l.Nodup) : r.Nodup := by
  induction h with
  | done _ => exact n
  | step _ _ ih => exact ih (fold_nd _ n)
theorem Reach.sub {cs : List (Ky × Cell)} {l r nms : List Nm} {i : Nat} (h : Reach cs l i r) (hl : ∀ n ∈ l, n ∈ nms) (hc : ∀ n, NamesOf cs n → n ∈ nms) : ∀ n ∈ r, n ∈ nms := by
  induction h with
  | done _ => exact hl
  | step _ _ ih => exact ih (step_mem hl hc)
theorem Reach.closed {cs : List (Ky × Cell)} {l r : List Nm} {i : Nat} (h : Reach cs l i r) : ∀ (j : Nat) n, i ≤ j → r[j]? = some n → ∀ p ∈ fieldsOf cs n, ∀ t, p.2 = .rf t → t ∈ r := by
  induction h with
  | done hl =>
    intro j n hj hn
    have := (List.getElem?_eq_some_iff.mp hn).1
    omega
  | @step l r i n0 e h ih =>
    intro j n hj hn p hp t ht
    by_cases ej : j = i
    · subst ej
      have g := (fold_goes (fieldsOf cs n0) l).trans h.goes
      have en : n = n0 := by
        obtain ⟨m, em⟩ := g
        have := (List.getElem?_eq_some_iff.mp e).1
        rw [em, List.getElem?_append_left this, e] at hn
        exact (Option.some.inj hn).symm
      subst en
      have : t ∈ stepN cs l n := (fold_mem _).mpr (.inr ⟨p, hp, ht⟩)
      obtain ⟨m, em⟩ := h.goes
      rw [em]
      exact List.mem_append_left _ this
    · exact ih j n (by omega) hn p hp t ht
section
variable {P : Program} {w : World} {K : PySem.W.Frag} {mg : Str → Option Value} {base : Heap}
abbrev Rany : HR Unit := fun _ _ _ => True
theorem st_any : Stays Rany := fun _ _ _ _ _ _ h => h
/-- a dict whose keys are these names -/
abbrev FN (P : Program) (w : World) (K : PySem.W.Frag) (H : Hp) (p : Addr) (l : List Nm) : Prop := DV P w K pD Rany H p (l.map fun n => (n, ()))
theorem unit_get {l : List Nm} {n : Nm} : (aget (l.map fun n => (n, ())) n).isSome = true ↔ n ∈ l := by
  rw [aget_isSome, List.map_map]
  simp [Function.comp_def]
theorem rd_addN {Q : VK} {H : Hp} {p : Addr} {l : List Nm} {y v : V} {n : Nm} (h : FN P w K H p l) (im : Im K H y (pD n)) (hz : l.length < 1000) (q : ∀ z H', Kp [p] H H' → FN P w K H' p (addN l n) → Q z H') : rSetdN P w K (.ref p) [y, v] H Q := by
  refine rd_setdV st_any h kF_p im (A := ()) trivial (by simp; omega) (fun B z hb _ => ?_) fun hn H' k h' => ?_
  · have : n ∈ l := unit_get.mp (by rw [hb]; rfl)
    refine q z H Kp.refl ?_
    unfold addN
    rw [if_pos this]
    exact h
  · have : n ∉ l := fun z => by
      have := unit_get.mpr z
      rw [hn] at this
      cases this
    refine q v H' k ?_
    unfold addN
    rw [if_neg this]
    show DV P w K pD Rany H' p ((l ++ [n]).map fun n => (n, ()))
    rw [List.map_append]
    exact h'
def KIv (R : It → Hp → Prop) : VK := fun x H1 => ∃ d o kvs, x = .ref d ∧ H1 d = some (.frz o (.dK kvs)) ∧ R (Itd d o kvs) H1
theorem rd_ivals {te : TE} {σ : L2.St} {H : Hp} {R : It → Hp → Prop} (h : te σ H (KIv R)) : iVals te σ H R := h
abbrev sp_reachable (P : Program) (w : World) (K : PySem.W.Frag) : Sp := fun vs H Q _ => ∃ (s d r : Addr) (cs : List (Ky × Cell)) (xs : List V) (roots nms : List Nm), vs = [.ref s, .ref r] ∧ StT P w K H s d cs ∧ SqL K H r xs ∧ ImA K H xs (roots.map pD) ∧ NmOk nms ∧ (∀ n, NamesOf cs n → n ∈ nms) ∧ (∀ n ∈ roots, n ∈ nms) ∧ (cs.map (·.1)).Nodup ∧ cs.length < 1000 ∧ roots.length < 1000 ∧
  ∀ p ys L H', H p = none → Kp [] H H' → H' p = some (.lst ys) → ImA K H' ys (L.map pD) → Reach cs (rootsN roots) 0 L → Q (.ref p) H'
theorem ok_reachable (T : TX P K mg) : Ok P w K mg base (CX0) 3 ("reachable", none) p_reachable (sp_reachable P w K) := by
  refine T.ok 17 (d := d_reachable) rfl rfl rfl sc_reachable (fun _ _ _ _ _ _ us hl => match us, hl with | [_, _], _ => rfl) (fun vs H Q E h => ?_) fun cdv Ar outer sh H vs Q E hr h => ?_
  · obtain ⟨s, d, r, cs, xs, roots, nms, rfl, _⟩ := h; rfl
  · obtain ⟨s, d, r, cs, xs, roots, nms, rfl, S, hr0, im, no, hn, hrn, nd, hz, hzr, q⟩ := h
    obtain ⟨⟨dx, hs⟩, ce⟩ := id S
    obtain ⟨hu, hu1, hu65⟩ := rm_of hr
    refine ⟨_, PSs.nox (pss_cons (ps_set (i := 2) sc_reachable.nd rfl (Or.inl rfl) pe_dnewN)
      (pss_cons (ps_for PassesOwn.never rfl (pi_list (pv 1)) (pg_name (i := 3) sc_reachable.nd rfl (Or.inl rfl))
      (pss_one (ps_expr (pe_dm PySem.F.slot_dict_setdefault PySem.F.type_dict_setdefault (mt_setdN hu) (pv 2) (pa_cons (pv 3) (pa_cons (pe_callB call_lenN (by rfl) T.f_len (by decide +kernel) (pa_cons (pv 2) pa_nil)) pa_nil))))))
      (pss_cons (ps_set (i := 4) sc_reachable.nd rfl (Or.inl rfl) pe_int)
      (pss_cons (ps_while PassesOwn.never (pt_cmpR op_lt (pv 4) (pe_callB call_lenN (by rfl) T.f_len (by decide +kernel) (pa_cons (pv 2) pa_nil)) (nomark _))
      (pss_cons (ps_for PassesOwn.never rfl (pi_values (pe_frz (pe_mt' (ok_State_fields T) T.c_State T.m_State_fields (hr.mono (by decide)) pass0 (pv 0) (pa_cons (pe_ix ix_list (pe_callTy (call_listN rfl) (by rfl) T.f_list (by decide +kernel) (pa_cons (pv 2) pa_nil)) (pv 4) (fun _ _ => rfl)) pa_nil)))) (pg_name (i := 5) sc_reachable.nd rfl (Or.inl rfl))
      (pss_cons (ps_set (i := 6) sc_reachable.nd rfl (Or.inl rfl) (pe_fn (ok_target_of T) T.g_target_of (hr.mono (by decide)) pass0 (pa_cons (pv 5) pa_nil)))
      (pss_one (ps_if (pt_cmpR op_notN1 (pv 6) pe_non (nomark _))
      (pss_one (ps_expr (pe_dm PySem.F.slot_dict_setdefault PySem.F.type_dict_setdefault (mt_setdN hu) (pv 2) (pa_cons (pv 6) (pa_cons (pe_callB call_lenN (by rfl) T.f_len (by decide +kernel) (pa_cons (pv 2) pa_nil)) pa_nil)))))
      pss_nil))))
      (pss_one (ps_aug (i := 4) sc_reachable.nd rfl (Or.inl rfl) pe_int ip_add))))
      (pss_one (ps_ret (pe_callTy (call_listN rfl) (by rfl) T.f_list (by decide +kernel) (pa_cons (pv 2) pa_nil)))))))), ?_⟩
    walk_at "w"
    refine rd_newN fun p H1 n1 k1 e1 => ?_
    walk_at "w"
    refine rd_kil (sql_kp k1 (by simp) hr0) ?_
    refine for_it (walk_list (xs := xs)) (fun i σ H' => ∃ x, σ = [some (.ref s), some (.ref r), some (.ref p), x, none, none, none] ∧ Kp [] H H' ∧ FN P w K H' p ((roots.take i).foldl addN [])) ⟨none, rfl, k1, DV.new e1⟩ (fun i σ H' _ ⟨_, _, k, _⟩ => sql_kp k (by simp) hr0) ?_ ?_
    · rintro i x σ H' H'' hi ⟨x0, rfl, kk, fn⟩ ⟨rfl, hx⟩
      obtain ⟨n, hn1, hn2⟩ := im.at hx
      walk_at "w"
      refine rd_kdmV fn.r ?_
      walk_at "w"
      refine rd_lenV fn.r ?_
      walk_at "w"
      have hlen : ((roots.take i).foldl addN []).length < 1000 := Nat.lt_trans (Nat.lt_of_le_of_lt (nodup_len (roots_nd List.nodup_nil) fun n hm => hrn n (List.mem_of_mem_take ((roots_mem.mp hm).resolve_left (by simp)))) no.few) (by decide)
      refine rd_addN fn (hn2.up kk) hlen fun z H2 k2 fn2 => ?_
      walk_at "w"
      refine ⟨_, rfl, (kk.nil.trans k2).weak fun b hb => .inr (by simp at hb; rw [hb]; exact n1), ?_⟩
      rw [take_snoc hn1, List.foldl_append]
      exact fn2
    · rintro σ H' ⟨x, rfl, kk, fn⟩
      rw [ImA.mlen im, List.take_length] at fn
      walk_at "w"
      refine ⟨fun m σ H' => ∃ (i : Nat) (l : List Nm) (x y z : Option V), σ = [some (.ref s), some (.ref r), some (.ref p), x, some (.int i), y, z] ∧ m = 60 - i ∧ Kp [] H H' ∧ FN P w K H' p l ∧ l.Nodup ∧ (∀ n ∈ l, n ∈ nms) ∧ ∀ L, Reach cs l i L → Reach cs (rootsN roots) 0 L,
        ⟨60, 0, _, _, _, _, rfl, rfl, kk, fn, roots_nd List.nodup_nil, fun n hm => hrn n ((roots_mem.mp hm).resolve_left (by simp)), fun L h => h⟩, ?_⟩
      rintro m σ H1 ⟨i, l, x1, y1, z1, rfl, rfl, k2, fn1, lnd, lsub, lr⟩
      have ll : l.length < 60 := Nat.lt_of_le_of_lt (nodup_len lnd lsub) no.few
      walk_at "w"
      refine rd_lenV fn1.r ?_
      walk_at "w"
      rw [List.length_map]
      refine rd_if (fun hb => ?_) fun hb => ?_
      · have hil : i < l.length := by have := of_decide_eq_true hb; omega
        obtain ⟨n, hni⟩ : ∃ n, l[i]? = some n := ⟨l[i], List.getElem?_eq_getElem _⟩
        refine ⟨fun σ' H' => ∃ (x y z : Option V), σ' = [some (.ref s), some (.ref r), some (.ref p), x, some (.int (i + 1 : Nat)), y, z] ∧ Kp [] H H' ∧ FN P w K H' p (stepN cs l n), fun σ' H' ⟨x, y, z, e, k, f⟩ => ⟨60 - (i + 1), by omega, i + 1, stepN cs l n, x, y, z, e, rfl, k, f, fold_nd _ lnd, step_mem lsub hn, fun L h => lr L (.step hni h)⟩, ?_⟩
        walk_at "w"
        refine rd_ivals ?_
        walk_at "w"
        have hs1 := k2.get hs (by simp)
        refine rd_kmf hs1 rfl ?_
        walk_at "w"
        refine rd_listV fn1.r fun q0 ys H2 n2 k3 e2 im2 => ?_
        rw [List.map_map] at im2
        obtain ⟨nv, hnv, inv⟩ : ∃ nv, ys[i]? = some nv ∧ Im K H2 nv (pD n) := im2.getD (by simp [Function.comp_def, hni])
        walk_at "w"
        refine rd_ixL (.inl (.inl e2)) (atN (by omega) (by simpa using hnv)) ?_
        walk_at "w"
        have k23 := k2.trans k3
        refine ⟨s, d, cs, nv, n, rfl, S.up k23 (by simp) (by simp), inv, nd, hz, fun fp kvs H3 n3 k4 e3 fd => ?_⟩
        walk_at "w"
        refine ⟨fp, _, e3, trivial, fun o => ⟨fp, o, kvs, rfl, upd_same, ?_⟩⟩
        have n3' : H fp = none := k23.none n3
        have k5 : Kp [] H (upd H3 fp (.frz o (.dK kvs))) := (k23.trans k4).wrn n3'
        have kf : Kp [fp] H3 (upd H3 fp (.frz o (.dK kvs))) := Kp.wr (by rw [e3]; trivial) (by simp)
        have fn3 : FN P w K H2 p l := fn1.up st_any k3 (by simp)
        have npf : p ≠ fp := fun z => by
          obtain ⟨φ, e⟩ := fn3.ext
          rw [z, n3] at e
          cases e
        have fn5 : FN P w K (upd H3 fp (.frz o (.dK kvs))) p l := (fn3.up st_any k4 (by simp)).up st_any kf (by simpa using npf)
        have hlf : (fieldsOf cs n).length ≤ cs.length := by
          have h1 := List.length_filterMap_le (fstep cs n) (skeys cs)
          have h3 : (skeys cs).length = cs.length := by rw [srt_len, List.length_map]
          unfold fieldsOf
          omega
        have ek := Paired.length fd
        refine for_it walk_values (fun j σ H' => ∃ (x y z : Option V), σ = [some (.ref s), some (.ref r), some (.ref p), x, some (.int i), y, z] ∧ Kp [] H H' ∧ H' fp = some (.frz o (.dK kvs)) ∧ FN P w K H' p (((fieldsOf cs n).take j).foldl (fun l p => addV l p.2) l) ∧ FdP K H' kvs (fieldsOf cs n))
          ⟨_, _, _, rfl, k5, upd_same, fn5, fdP_up fd kf⟩ (fun j σ H' _ ⟨_, _, _, _, _, h, _⟩ => h) ?_ ?_
        · rintro j x σ H' H'' hj ⟨x2, y2, z2, rfl, kk, hfp, fn', fd'⟩ ⟨rfl, kx, hkx⟩
          obtain ⟨q0, hq0, hq1, hq2⟩ := paired_get fd' hkx
          have ts : (fieldsOf cs n).take (j + 1) = (fieldsOf cs n).take j ++ [q0] := take_snoc hq0
          have lsub' : ∀ m ∈ ((fieldsOf cs n).take j).foldl (fun l p => addV l p.2) l, m ∈ nms := fun m hm => by
            rcases (fold_mem _).mp hm with h | ⟨p, hp, e⟩
            · exact lsub m h
            · exact hn m (fields_names (List.mem_of_mem_take hp) e)
          have ll' : (((fieldsOf cs n).take j).foldl (fun l p => addV l p.2) l).length < 1000 := Nat.lt_trans (Nat.lt_of_le_of_lt (nodup_len (fold_nd _ lnd) lsub') no.few) (by decide)
          walk_at "w"
          refine ⟨x, q0.2, rfl, hq2, fun y hy => ?_⟩
          walk_at "w"
          rw [tg_non hy]
          cases hvl : q0.2 with
          | rf t =>
            rw [hvl] at hy
            refine rd_ifT rfl ?_
            walk_at "w"
            refine rd_kdmV fn'.r ?_
            walk_at "w"
            refine rd_lenV fn'.r ?_
            walk_at "w"
            refine rd_addN fn' (show Im K H'' y (pD t) from hy) ll' fun z H6 k6 fn6 => ?_
            walk_at "w"
            refine ⟨_, _, _, rfl, (kk.nil.trans k6).weak fun b hb => .inr (by simp at hb; rw [hb]; exact n1), k6.get hfp (by simpa using npf.symm), ?_, fdP_up fd' k6⟩
            rw [ts, List.foldl_append]
            show FN P w K H6 p (addV _ q0.2)
            rw [hvl]
            exact fn6
          | _ =>
            refine rd_ifF rfl ?_
            walk_at "w"
            refine ⟨_, _, _, rfl, kk, hfp, ?_, fd'⟩
            rw [ts, List.foldl_append]
            show FN P w K H'' p (addV _ q0.2)
            rw [hvl]
            exact fn'
        · rintro σ H' ⟨x2, y2, z2, rfl, kk, hfp, fn', fd'⟩
          rw [ek, List.take_length] at fn'
          walk_at "w"
          refine rd_aug rfl ?_
          walk_at "w"
          refine ⟨_, _, rfl, rfl, ?_⟩
          exact ⟨x2, y2, z2, by simp, kk, fn'⟩
      · walk_at "w"
        refine rd_listV fn1.r fun q0 ys H2 n2 k3 e2 im2 => ?_
        have el : (l.map fun n => (n, ())).map (·.1) = l := by rw [List.map_map]; exact List.map_id' l
        rw [el] at im2
        exact q q0 ys l H2 (k2.none n2) (k2.trans k3) e2 im2 (lr l (.done (by have := of_decide_eq_false hb; omega)))
end
end GT
set_option maxHeartbeats 2000000
namespace GT
open PySem PySem.Spec PyProof.Rows L2
local macro_rules | `(tactic| walk_at "v") => `(tactic| ((with_reducible show tVar _ _ _ _); refine rd_var rfl ?_))
local macro_rules | `(tactic| walk_at "s1") => `(tactic| with_reducible first | refine rd_cons ?_ | refine rd_nil ?_ | refine rd_c ?_ | refine rd_op ?_ | refine rd_seq ?_ | refine rd_fld ?_ | refine rd_asg ?_ | refine rd_gname ?_ | refine rd_I0 ?_ | refine rd_cb ?_ | refine rd_next ?_ | refine rd_drop ?_ | refine rd_ret ?_ | refine rd_mf ?_ | refine rd_cf ?_ | refine rd_ifS ?_ | refine rd_test ?_ | refine rd_kt ?_)
local macro_rules | `(tactic| walk_at "s2") => `(tactic| with_reducible first | refine rd_tup ?_ | refine rd_lst ?_ | refine rd_bm ?_ | refine rd_gcons ?_ | refine rd_gnil ?_ | refine rd_gsub ?_ | refine rd_dm ?_ | refine rd_sfld ?_ | refine rd_fa ?_ | refine rd_frz ?_ | refine rd_nf ?_ | refine rd_retN ?_ | refine rd_cont ?_ | refine rd_par ?_ | refine rd_un ?_ | refine rd_and ?_ | refine rd_or ?_ | refine rd_not ?_ | refine rd_tru ?_ | refine rd_B ?_ | refine rd_chain ?_ | refine rd_sl ?_ | refine rd_nopart ?_ | refine rd_part ?_ | refine rd_kpart ?_)
local macro_rules | `(tactic| walk_at "s3") => `(tactic| with_reducible first | refine rd_U ?_ | refine rd_eqi ?_ | refine rd_nei ?_ | refine rd_eqs ?_ | refine rd_nes ?_ | refine rd_isN ?_ | refine rd_notN ?_ | refine rd_max2 ?_ | refine rd_min2 ?_ | refine rd_int1 ?_ | refine rd_intb ?_ | refine rd_kbmS ?_ | refine rd_il ?_ | refine rd_it ?_ | refine rd_ir1 ?_ | refine rd_ir2 ?_ | refine rd_in ?_ | refine rd_for ?_ | refine rd_lc ?_ | refine rd_yes ?_ | refine rd_tt ?_ | refine rd_ff ?_ | refine rd_listRg ?_ | refine rd_andV ?_ | refine rd_orV ?_ | refine rd_notV ?_ | refine rd_ex ?_)
local macro_rules | `(tactic| walk_at "c") => `(tactic| first | exact TX.c_Channel (by assumption) | exact TX.c_State (by assumption) | exact TX.c_Message (by assumption) | exact TX.c_Replica (by assumption) | exact TX.c_Network (by assumption))
local macro_rules | `(tactic| walk_at "n") => `(tactic| first | exact TX.n_Channel_under_way (by assumption) | exact TX.n_State_cells (by assumption) | exact TX.n_Message_octets (by assumption) | exact TX.n_Message_place (by assumption) | exact TX.n_Message_known (by assumption) | exact TX.n_Replica_peer (by assumption) | exact TX.n_Replica_clock (by assumption) | exact TX.n_Replica_made (by assumption) | exact TX.n_Replica_state (by assumption) | exact TX.n_Replica_roots (by assumption) | exact TX.n_Replica_pending (by assumption) | exact TX.n_Replica_messages (by assumption) | exact TX.n_Network_replicas (by assumption) | exact TX.n_Network_channels (by assumption))
local macro_rules | `(tactic| walk_at "f") => `(tactic| ((with_reducible show KFld _ _ _ _ _); refine rd_kfld (by assumption) (by walk_at "c") (by walk_at "n") rfl ?_))
local macro_rules | `(tactic| walk_at "g") => `(tactic| ((with_reducible show KSf _ _ _ _ _ _); refine rd_ksf (by assumption) (by walk_at "c") (by walk_at "n") (by simp) ?_))
local macro_rules | `(tactic| walk_at "w") => `(tactic| repeat (first | walk_at "v" | walk_at "s1" | walk_at "f" | walk_at "s2" | walk_at "s3"))
/-! ### the graph, numbered -/
theorem dc_it {P : Program} {w : World} {K : PySem.W.Frag} {J : It} {n : Nat} {G : Hp → Prop} {Y : Nat → Hp → V → Hp → Prop} (wk : Walk J n G Y) {g : TG} {tt : TT} {tk tv : TE} {vs : List Nat} {σ : L2.St} {H1 : Hp} {D : Addr} {Qd : Hp → Prop} (Pv : Nat → Hp → Prop) (h0 : Pv 0 H1) (hG : ∀ i H, i ≤ n → Pv i H → G H)
    (hs : ∀ i x H H', i < n → Pv i H → Y i H x H' → g x (wipe σ vs) H' fun σ2 H2 => wipe σ2 vs = wipe σ vs ∧ tt σ2 H2 fun b H3 =>
      if b = true then tk σ2 H3 fun y H4 => tv σ2 H4 fun z H5 => ∃ kvs k, DM P w K H5 D kvs ∧ Im K H5 y k ∧ (∃ ks, k = .tup ks) ∧ k.depth ≤ 8 ∧ kvs.length < sizeLine ∧ ∀ H6, Kp [D] H5 H6 → DM P w K H6 D (putK kvs k z) → Pv (i + 1) H6 else Pv (i + 1) H3) (hd : ∀ H, Pv n H → Qd H) :
    ∃ W : Nat → Nat → Hp → Prop, (∃ m, W 0 m H1) ∧ ∀ i m H, W i m H →
      (J.stop i H ∧ Qd H) ∨ (J.go i H ∧ ∃ Nx : Hp → Prop, (∀ H', Nx H' → ∃ m', m' < m ∧ W (i + 1) m' H') ∧ ∀ x H', J.yld i H x H' → g x (wipe σ vs) H' fun σ2 H2 => wipe σ2 vs = wipe σ vs ∧ tt σ2 H2 fun b H3 =>
        if b = true then tk σ2 H3 fun y H4 => tv σ2 H4 fun z H5 => ∃ kvs k, DM P w K H5 D kvs ∧ Im K H5 y k ∧ (∃ ks, k = .tup ks) ∧ k.depth ≤ 8 ∧ kvs.length < sizeLine ∧ ∀ H6, Kp [D] H5 H6 → DM P w K H6 D (putK kvs k z) → Nx H6 else Nx H3) := by
  refine ⟨fun i m H => m = n - i ∧ i ≤ n ∧ Pv i H, ⟨n, by simp, Nat.zero_le _, h0⟩, ?_⟩
  rintro i m H ⟨rfl, hi, p⟩
  have q := hG i H hi p
  by_cases hlt : i < n
  · refine .inr ⟨wk.goes i H hlt q, Pv (i + 1), fun H' p' => ⟨n - (i + 1), by omega, rfl, hlt, p'⟩, fun x H' y => hs i x H H' hlt p (wk.yields i H x H' hlt q y)⟩
  · have e : i = n := by omega
    subst e
    exact .inl ⟨wk.stops H q, hd H p⟩
def KEn (K : PySem.W.Frag) (R : It → Hp → Prop) : List V → Hp → Prop := fun vs H1 => ∃ a xs, vs = [.ref a] ∧ SqL K H1 a xs ∧ R (Ite K a) H1
theorem rd_enum {K : PySem.W.Frag} {tA : TA} {σ : L2.St} {H : Hp} {R : It → Hp → Prop} (h : tA σ H (KEn K R)) : iEnum K tA σ H R := h
theorem rd_dcN {P : Program} {w : World} {K : PySem.W.Frag} {wi : TI} {g : TG} {tt : TT} {tk tv : TE} {vs : List Nat} {σ : L2.St} {H : Hp} {Q : VK} (h : wi σ H fun J H0 => ∀ D H1, H0 D = none → Kp [] H0 H1 → DM P w K H1 D [] → ∃ W : Nat → Nat → Hp → Prop, (∃ m, W 0 m H1) ∧ ∀ i m H, W i m H →
  (J.stop i H ∧ Q (.ref D) H) ∨ (J.go i H ∧ ∃ Nx : Hp → Prop, (∀ H', Nx H' → ∃ m', m' < m ∧ W (i + 1) m' H') ∧ ∀ x H', J.yld i H x H' → g x (wipe σ vs) H' fun σ2 H2 => wipe σ2 vs = wipe σ vs ∧ tt σ2 H2 fun b H3 =>
    if b = true then tk σ2 H3 fun y H4 => tv σ2 H4 fun z H5 => ∃ kvs k, DM P w K H5 D kvs ∧ Im K H5 y k ∧ (∃ ks, k = .tup ks) ∧ k.depth ≤ 8 ∧ kvs.length < sizeLine ∧ ∀ H6, Kp [D] H5 H6 → DM P w K H6 D (putK kvs k z) → Nx H6 else Nx H3)) : tDcN P w K wi g tt tk tv vs σ H Q := h
def KKy (R : It → Hp → Prop) : VK := fun x H1 => ∃ d o, x = .ref d ∧ ((∃ kvs, H1 d = some (.frz o (.dK kvs)) ∧ R (Itk d o kvs) H1) ∨ ∃ kvs, H1 d = some (.frz o (.dT kvs)) ∧ R (Itkt d o kvs) H1)
theorem rd_ikeys {te : TE} {σ : L2.St} {H : Hp} {R : It → Hp → Prop} (h : te σ H (KKy R)) : iKeys te σ H R := h
theorem rd_dget {td ty : TE} {σ : L2.St} {H : Hp} {Q : VK} (h : td σ H fun x H1 => ty σ H1 fun y H2 => ∃ a v, x = .ref a ∧ DGet H2 a y (some v) ∧ Q v H2) : tDGet td ty σ H Q := h
def ixOf (L : List Nm) (n : Nm) : Int := (L.idxOf n : Nat)
theorem ix_at {L : List Nm} {j : Nat} {n : Nm} (nd : L.Nodup) (h : L[j]? = some n) : ixOf L n = j := by
  obtain ⟨hj, e⟩ := List.getElem?_eq_some_iff.mp h
  unfold ixOf
  rw [← e, nd.idxOf_getElem]
def numV (ix : Nm → Int) (v : Vl) : D := match v with
  | .rf n => .tup [.text "ref", .num (ix n)]
  | v => vlD v
def thing (cs : List (Ky × Cell)) (L : List Nm) (n : Nm) : List D := (fieldsOf cs n).map fun p => .tup [.text p.1, numV (ixOf L) p.2]
theorem fields_nd {cs : List (Ky × Cell)} (nd : (cs.map (·.1)).Nodup) (n : Nm) : ((fieldsOf cs n).map (·.1)).Nodup := by
  refine List.pairwise_map.mpr (List.pairwise_filterMap.mpr ((srt_nd nd).imp ?_))
  intro a b hab p hp q hq e
  unfold fstep at hp hq
  split at hp
  · rename_i c1
    split at hq
    · rename_i c2
      cases hp
      cases hq
      exact hab (Prod.ext (c1.1.trans c2.1.symm) e)
    · cases hq
  · cases hp
theorem valV_at {kvs : List (Key × V)} {i : Nat} {k : Key} {v : V} (nd : (kvs.map (·.1)).Nodup) (h : kvs[i]? = some (k, v)) : valV kvs k = some v := by
  induction kvs generalizing i with
  | nil => simp at h
  | cons p r ih =>
    rw [List.map_cons, List.nodup_cons] at nd
    cases i with
    | zero => simp at h; rw [h]; exact valV_pos rfl
    | succ i =>
      have h' : r[i]? = some (k, v) := by simpa using h
      rw [valV_neg (fun e => nd.1 (by rw [e]; exact List.mem_map_of_mem (f := fun x : Key × V => x.1) (List.mem_of_getElem? h')))]
      exact ih nd.2 h'
section
variable {P : Program} {w : World} {K : PySem.W.Frag} {mg : Str → Option Value} {base : Heap}
theorem fdP_nd {H : Hp} {kvs : List (Key × V)} {l : List (Str × Vl)} (h : FdP K H kvs l) (nd : (l.map (·.1)).Nodup) : (kvs.map (·.1)).Nodup := by
  have e : kvs.map (·.1) = (l.map (·.1)).map (Sum.inr : Str → Key) := by
    induction h with
    | nil => rfl
    | cons a b ih =>
      simp only [List.map_cons, a.1]
      rw [ih (List.nodup_cons.mp nd).2]
  rw [e]
  exact List.pairwise_map.mpr (nd.imp fun hab z => hab (Sum.inr.inj z))
theorem prf_put_nu {kvs : List (D × V)} {nums : List (Nm × Int)} {n : Nm} {i : Int} {H H' : Hp} (h : PrF pD (Rnu H) kvs nums) : PrF pD (Rnu H') (putK kvs (pD n) (.int i)) (aput nums n i) := prF_put kF_p.inj h n rfl
/-- the things of these names -/
abbrev ThP (K : PySem.W.Frag) (H : Hp) (cs : List (Ky × Cell)) (L : List Nm) : List V → List Nm → Prop := Paired (fun x n => ∃ ys, Fz H x ys ∧ ImA K H ys (thing cs L n))
/-- the graph's data at v -/
def GrA (K : PySem.W.Frag) (H : Hp) (v : V) (roots L : List Nm) (cs : List (Ky × Cell)) : Prop := ∃ t a b xs, v = .ref t ∧ SqT K H t [.ref a, .ref b] ∧ SqL K H a (roots.map fun n => .int (ixOf L n)) ∧ SqL K H b xs ∧ Paired (fun x n => ∃ ys, Fz H x ys ∧ ImA K H ys (thing cs L n)) xs L
theorem grA_up {H H' : Hp} {v : V} {roots L : List Nm} {cs : List (Ky × Cell)} (h : GrA K H v roots L cs) (k : Kp [] H H') : GrA K H' v roots L cs :=
  let ⟨t, a, b, xs, e, s1, s2, s3, pr⟩ := h; ⟨t, a, b, xs, e, sqt_kp k s1, sql_kp k (by simp) s2, sql_kp k (by simp) s3, Paired.mapP pr fun _ _ ⟨ys, x, y⟩ => ⟨ys, x.up k, y.up k⟩⟩
abbrev sp_numbered_value (P : Program) (w : World) (K : PySem.W.Frag) : Sp := fun vs H Q _ => ∃ (x : V) (v : Vl) (d : Addr) (nums : List (Nm × Int)) (ix : Nm → Int), vs = [x, .ref d] ∧ Im K H x (vlD v) ∧ DVr P w K pD Rnu H d nums ∧ (∀ n, v = .rf n → aget nums n = some (ix n)) ∧
  ∀ y H', Kp [] H H' → Im K H' y (numV ix v) → Q y H'
theorem ok_numbered_value (T : TX P K mg) : Ok P w K mg base (CX0) 2 ("numbered_value", none) p_numbered_value (sp_numbered_value P w K) := by
  refine T.ok 18 (d := d_numbered_value) rfl rfl rfl sc_numbered_value (fun _ _ _ _ _ _ us hl => match us, hl with | [_, _], _ => rfl) (fun vs H Q E h => ?_) fun cdv Ar outer sh H vs Q E hr h => ?_
  · obtain ⟨x, v, d, nums, ix, rfl, _⟩ := h; rfl
  · obtain ⟨x, v, d, nums, ix, rfl, hx, dv, hi, q⟩ := h
    obtain ⟨hu, hu1, hu65⟩ := rm_of hr
    refine ⟨_, PSs.nox (pss_cons (ps_set (i := 2) sc_numbered_value.nd rfl (Or.inl rfl) (pe_fn (ok_target_of T) T.g_target_of (hr.mono (by decide)) pass0 (pa_cons (pv 0) pa_nil)))
      (pss_cons (ps_if (pt_cmpR op_isN1 (pv 2) pe_non (nomark _))
      (pss_one (ps_ret (pv 0)))
      pss_nil)
      (pss_one (ps_ret (pe_tup (pa_cons (pe_gs T.s_REF) (pa_cons (pe_ix (ix_dn hu) (pv 1) (pv 2) (fun _ _ => rfl)) pa_nil))))))), ?_⟩
    walk_at "w"
    refine ⟨x, v, rfl, hx, fun y hy => ?_⟩
    walk_at "w"
    rw [tg_non hy]
    cases v with
    | rf n =>
      refine rd_ifF rfl ?_
      walk_at "w"
      refine rd_getV dv kF_p (k := n) (show Im K H y (pD n) from hy) (hi n rfl) fun z hz => ?_
      rw [show z = .int (ix n) from hz]
      walk_at "w"
      exact rd_ktup (K := K) (ks := [.text "ref", .num (ix n)]) (.cons (.text _) (.cons (.num _) .nil)) (by simp) fun v H1 k1 h1 => q v H1 k1 h1
    | _ =>
      refine rd_ifT rfl ?_
      walk_at "w"
      exact q x H Kp.refl hx
abbrev sp_numbered (P : Program) (w : World) (K : PySem.W.Frag) : Sp := fun vs H Q _ => ∃ (s d r : Addr) (cs : List (Ky × Cell)) (xs : List V) (roots nms : List Nm), vs = [.ref s, .ref r] ∧ StT P w K H s d cs ∧ SqL K H r xs ∧ ImA K H xs (roots.map pD) ∧ NmOk nms ∧ (∀ n, NamesOf cs n → n ∈ nms) ∧ (∀ n ∈ roots, n ∈ nms) ∧ (cs.map (·.1)).Nodup ∧ cs.length < 1000 ∧ roots.length < 1000 ∧
  ∀ v L H', Kp [] H H' → Reach cs (rootsN roots) 0 L → GrA K H' v roots L cs → Q v H'
theorem ok_numbered (T : TX P K mg) : Ok P w K mg base (CX0) 4 ("numbered", none) p_numbered (sp_numbered P w K) := by
  refine T.ok 19 (d := d_numbered) rfl rfl rfl sc_numbered (fun _ _ _ _ _ _ us hl => match us, hl with | [_, _], _ => rfl) (fun vs H Q E h => ?_) fun cdv Ar outer sh H vs Q E hr h => ?_
  · obtain ⟨s, d, r, cs, xs, roots, nms, rfl, _⟩ := h; rfl
  · obtain ⟨s, d, r, cs, xs, roots, nms, rfl, S, hr0, im, no, hn, hrn, nd, hz, hzr, q⟩ := h
    obtain ⟨⟨dx, hs⟩, ce⟩ := id S
    obtain ⟨hu, hu1, hu65⟩ := rm_of hr
    refine ⟨_, PSs.nox (pss_cons (ps_set (i := 2) sc_numbered.nd rfl (Or.inl rfl) (pe_fn (ok_reachable T) T.g_reachable (hr.mono (by decide)) pass0 (pa_cons (pv 0) (pa_cons (pv 1) pa_nil))))
      (pss_cons (ps_set (i := 3) sc_numbered.nd rfl (Or.inr rfl) (pe_dcNW sh hu rfl sc_numbered.nd (pi_enum (by rfl) T.f_enumerate (pa_cons (pv 2) pa_nil)) (blkOk_by (own := [("number", 7), ("name", 5)]) (N := n_numbered) (sc := defScope s_numbered) (by decide +kernel)) (pg_tup (by rfl) (pgs_cons (pg_name (i := 7) sc_numbered.nd rfl (Or.inl rfl)) (pgs_cons (pg_name (i := 5) sc_numbered.nd rfl (Or.inl rfl)) pgs_nil))) pts_nil (pv 5) (pv 7) (fun _ _ _ _ _ => (pg_tup (by rfl) (pgs_cons (pg_name (i := 7) sc_numbered.nd rfl (Or.inl rfl)) (pgs_cons (pg_name (i := 5) sc_numbered.nd rfl (Or.inl rfl)) pgs_nil)))) (fun _ _ _ _ _ => pts_nil) (fun _ _ _ _ _ => (pv 5)) (fun _ _ _ _ _ => (pv 7))))
      (pss_cons (ps_set (i := 4) sc_numbered.nd rfl (Or.inl rfl) (pe_lst pa_nil))
      (pss_cons (ps_for PassesOwn.never rfl (pi_list (pv 2)) (pg_name (i := 5) sc_numbered.nd rfl (Or.inl rfl))
      (pss_cons (ps_set (i := 6) sc_numbered.nd rfl (Or.inr rfl) (pe_frz (pe_mt' (ok_State_fields T) T.c_State T.m_State_fields (hr.mono (by decide)) pass0 (pv 0) (pa_cons (pv 5) pa_nil))))
      (pss_one (ps_expr (pe_bm PySem.F.plainAttrs_list PySem.F.slot_list_append PySem.F.type_list_append mt_append (pv 4) (pa_cons (pe_frz (pe_lcW (own := [("field", 8)]) sh rfl sc_numbered.nd (pi_keys (pv 6)) (blkOk_by (own := [("field", 8)]) (N := n_numbered) (sc := defScope s_numbered) (by decide +kernel)) (pg_name (i := 8) sc_numbered.nd rfl (Or.inl rfl)) pts_nil (pe_tup (pa_cons (pv 8) (pa_cons (pe_fn (ok_numbered_value T) T.g_numbered_value (hr.mono (by decide)) pass0 (pa_cons (pe_dget hu1 (pv 6) (pv 8) (fun _ _ => rfl)) (pa_cons (pv 3) pa_nil))) pa_nil))) (fun _ _ _ _ _ => (pg_name (i := 8) sc_numbered.nd rfl (Or.inl rfl))) (fun _ _ _ _ _ => pts_nil) (fun _ _ _ _ _ => (pe_tup (pa_cons (pv 8) (pa_cons (pe_fn (ok_numbered_value T) T.g_numbered_value (hr.mono (by decide)) pass0 (pa_cons (pe_dget hu1 (pv 6) (pv 8) (fun _ _ => rfl)) (pa_cons (pv 3) pa_nil))) pa_nil)))))) pa_nil))))))
      (pss_one (ps_ret (pe_tup (pa_cons (pe_lcW (own := [("name", 5)]) sh rfl sc_numbered.nd (pi_list (pv 1)) (blkOk_by (own := [("name", 5)]) (N := n_numbered) (sc := defScope s_numbered) (by decide +kernel)) (pg_name (i := 5) sc_numbered.nd rfl (Or.inl rfl)) pts_nil (pe_ix (ix_dn hu) (pv 3) (pv 5) (fun _ _ => rfl)) (fun _ _ _ _ _ => (pg_name (i := 5) sc_numbered.nd rfl (Or.inl rfl))) (fun _ _ _ _ _ => pts_nil) (fun _ _ _ _ _ => (pe_ix (ix_dn hu) (pv 3) (pv 5) (fun _ _ => rfl)))) (pa_cons (pv 4) pa_nil))))))))), ?_⟩
    walk_at "w"
    refine ⟨s, d, r, cs, xs, roots, nms, rfl, S, hr0, im, no, hn, hrn, nd, hz, hzr, fun p ys L H1 n1 k1 e1 imL rch => ?_⟩
    have Lnd : L.Nodup := rch.nd (roots_nd List.nodup_nil)
    have Lsub : ∀ n ∈ L, n ∈ nms := rch.sub (fun n hm => hrn n ((roots_mem.mp hm).resolve_left (by simp))) hn
    have Llen : L.length < 60 := Nat.lt_of_le_of_lt (nodup_len Lnd Lsub) no.few
    walk_at "w"
    refine rd_dcN ?_
    refine rd_enum ?_
    walk_at "w"
    refine ⟨p, ys, rfl, .inl (.inl e1), ?_⟩
    intro D H2 nD k2 dm
    refine dc_it (walk_enum (xs := ys)) (fun i H' => Kp [] H1 H' ∧ ∃ nums, DV P w K pD Rnu H' D nums ∧ (∀ (j : Nat) n, j < i → L[j]? = some n → aget nums n = some (j : Int)) ∧ nums.length ≤ i) ⟨k2, [], DV.new dm, fun j n hj => absurd hj (by omega), by simp⟩ (fun i H' _ ⟨k, _⟩ => .inl (.inl (k.get e1 (by simp)))) ?_ ?_
    · rintro i x H3 H4 hi ⟨k3, nums, dv, hj, hl⟩ ⟨tt0, x1, y1, rfl, nt, rfl, ex, ey⟩
      cases ex
      have k4 : Kp [] H3 (upd H3 tt0 (.tup [.int (i : Nat), y1])) := Kp.new nt
      obtain ⟨n, hn1, hn2⟩ := ImA.at (imL.up (k3.trans k4)) ey
      walk_at "w"
      refine rd_gtup (.inl (.inl upd_same)) rfl ?_
      walk_at "w"
      refine ⟨rfl, ?_⟩
      walk_at "w"
      obtain ⟨kvs, dmk, prf⟩ := dv.up st_nu k4 (by simp)
      have kl : kvs.length ≤ i := by rw [prF_len prf]; exact hl
      have il : i < L.length := (List.getElem?_eq_some_iff.mp hn1).1
      refine ⟨kvs, pD n, dmk, hn2, tp_p n, dp_p n, Nat.lt_of_lt_of_le (show kvs.length < 60 by omega) (by decide), fun H6 k6 dm6 => ?_⟩
      refine ⟨((k3.trans k4).nil.trans k6).weak fun b hb => .inr (by simp at hb; rw [hb]; exact nD), aput nums n (i : Int), ⟨_, dm6, prf_put_nu prf⟩, fun j m hj' hm => ?_, by have := aput_len nums n (i : Int); omega⟩
      rw [aget_put]
      by_cases e : m = n
      · rw [if_pos e]
        subst e
        have := (List.getElem_inj Lnd).mp ((List.getElem?_eq_some_iff.mp hm).2.trans (List.getElem?_eq_some_iff.mp hn1).2.symm)
        rw [this]
      · rw [if_neg e]
        refine hj j m ?_ hm
        rcases Nat.lt_or_ge j i with z | z
        · exact z
        · have : j = i := by omega
          rw [this, hn1] at hm
          exact absurd (Option.some.inj hm).symm e
    · rintro H3 ⟨k3, nums, dv, hj, hl⟩
      have ysl : ys.length = L.length := ImA.mlen imL
      have nix : ∀ n ∈ L, aget nums n = some (ixOf L n) := fun n hm => by
        obtain ⟨j, hj'⟩ := List.mem_iff_getElem?.mp hm
        rw [hj j n (by rw [ysl]; exact (List.getElem?_eq_some_iff.mp hj').1) hj', ix_at Lnd hj']
      walk_at "w"
      refine rd_klst (by simp) fun th H4 n4 k4 e4 => ?_
      walk_at "w"
      have k34 := k3.trans k4
      have k04 := k1.trans k34
      have nth : H th = none := k1.none (k3.none n4)
      have npt : p ≠ th := ne_of_none (k3.get e1 (by simp)) n4
      have nDt : D ≠ th := fun z => by
        obtain ⟨φ, e⟩ := dv.ext
        rw [z, n4] at e
        cases e
      have flen : ∀ n, (fieldsOf cs n).length < 1000 := fun n => by
        have h1 := List.length_filterMap_le (fstep cs n) (skeys cs)
        have h3 : (skeys cs).length = cs.length := by rw [srt_len, List.length_map]
        unfold fieldsOf
        omega
      refine rd_kil (.inl (.inl (k34.get e1 (by simp)))) ?_
      refine for_it (walk_list (xs := ys)) (fun i σ H' => ∃ x y z u zs, σ = [some (.ref s), some (.ref r), some (.ref p), some (.ref D), some (.ref th), x, y, z, u] ∧ Kp [] H H' ∧ H' p = some (.lst ys) ∧ ImA K H' ys (L.map pD) ∧ DV P w K pD Rnu H' D nums ∧ H' th = some (.lst zs) ∧ ThP K H' cs L zs (L.take i))
        ⟨_, _, _, _, [], rfl, k04, k34.get e1 (by simp), imL.up k34, dv.up st_nu k4 (by simp), e4, .nil⟩ (fun i σ H' _ ⟨_, _, _, _, _, _, _, h, _⟩ => .inl (.inl h)) ?_ ?_
      · rintro i x σ _ H5 hi ⟨x0, y0, z0, u0, zs, rfl, k5, hp5, im5, dv5, ht5, th5⟩ ⟨rfl, hx⟩
        obtain ⟨n, hn1, hn2⟩ := im5.at hx
        have hs5 := k5.get hs (by simp)
        walk_at "w"
        refine rd_kmf hs5 rfl ?_
        walk_at "w"
        refine ⟨s, d, cs, x, n, rfl, S.up k5 (by simp) (by simp), hn2, nd, hz, fun fp kvs H7 n7 k7 e7 fd => ?_⟩
        walk_at "w"
        refine ⟨fp, _, e7, trivial, fun o => ?_⟩
        have kf : Kp [] H5 (upd H7 fp (.frz o (.dK kvs))) := k7.wrn n7
        have f8 : upd H7 fp (.frz o (.dK kvs)) fp = some (.frz o (.dK kvs)) := upd_same
        have fd8 := fdP_up fd (Kp.wr (F := [fp]) (p := fp) (o := .frz o (.dK kvs)) (by rw [e7]; trivial) (by simp))
        generalize upd H7 fp (.frz o (.dK kvs)) = H8 at kf f8 fd8 ⊢
        walk_at "w"
        refine rd_kbmL (.inl (.inl (kf.get ht5 (by simp)))) ?_
        walk_at "w"
        refine rd_ikeys ?_
        walk_at "w"
        refine ⟨fp, o, rfl, .inl ⟨kvs, f8, ?_⟩⟩
        intro q0 nq0
        have kvl := Paired.length fd8
        have fl := flen n
        refine lc_it walk_keys (fun j H9 => Kp [] H8 H9 ∧ ∃ acc, H9 q0 = some (.lst acc) ∧ ImA K H9 acc (((fieldsOf cs n).take j).map (fun p => NestedKey.tup [.text p.1, numV (ixOf L) p.2])) ∧ acc.length ≤ j) ⟨Kp.new nq0, [], upd_same, .nil, by simp⟩ (fun j H9 _ ⟨k, _⟩ => k.get f8 (by simp)) ?_ ?_
        · rintro j x9 _ H9 hj ⟨k9, acc, hq, imq, hl⟩ ⟨rfl, kx, vx, hkx, rfl⟩
          obtain ⟨⟨f, vl⟩, hf1, hf2, hf3⟩ := paired_get (fdP_up fd8 k9) hkx
          have hf2 : kx = .inr f := hf2
          subst hf2
          walk_at "w"
          refine ⟨rfl, ?_⟩
          walk_at "w"
          refine rd_dget ?_
          walk_at "w"
          refine ⟨fp, vx, rfl, .inl ⟨kvs, .inr f, .inr ⟨o, k9.get f8 (by simp)⟩, rfl, (valV_at (fdP_nd fd8 (fields_nd nd n)) hkx).symm⟩, ?_⟩
          walk_at "w"
          refine ⟨vx, vl, D, nums, ixOf L, rfl, hf3, (dv5.up st_nu (kf.trans k9) (by simp)).r, fun t ht => nix t (rch.closed i n (Nat.zero_le _) hn1 (f, vl) (List.mem_of_getElem? hf1) t ht), fun y H10 k10 im10 => ?_⟩
          walk_at "w"
          refine rd_ktup (K := K) (ks := [.text f, numV (ixOf L) vl]) (.cons (.text _) (.cons im10 .nil)) (by simp) fun v11 H11 k11 im11 => ?_
          have k911 := (k9.trans k10).trans k11
          have kw : Kp [q0] H11 (upd H11 q0 (.lst (acc ++ [v11]))) := Kp.refl.wl (k11.get (k10.get hq (by simp)) (by simp)) (by simp)
          refine ⟨acc, k11.get (k10.get hq (by simp)) (by simp), Nat.lt_of_lt_of_le (show acc.length < 1000 by omega) (by decide), k911.wrn nq0, acc ++ [v11], upd_same, ?_, by simp; omega⟩
          rw [take_snoc hf1, List.map_append]
          exact ImA.snoc (((imq.up k10).up k11).up kw) (im11.up kw)
        · rintro H9 ⟨k9, acc, hq, imq, hl⟩
          refine ⟨q0, _, hq, trivial, fun o2 => ?_⟩
          have k10 : Kp [] H8 (upd H9 q0 (.frz o2 (.lst acc))) := k9.wrn nq0
          have e10 : Fz (upd H9 q0 (.frz o2 (.lst acc))) (.ref q0) acc := Fz.new
          have im10 := imq.up (Kp.wr (F := [q0]) (p := q0) (o := .frz o2 (.lst acc)) (by rw [hq]; trivial) (by simp))
          rw [kvl, List.take_length] at im10
          generalize upd H9 q0 (.frz o2 (.lst acc)) = H10 at k10 e10 im10 ⊢
          walk_at "w"
          have k510 := kf.trans k10
          have ht10 := k510.get ht5 (by simp)
          have zl : zs.length ≤ L.length := by
            rw [Paired.length th5, List.length_take]
            omega
          refine rd_append ht10 (by omega) ?_
          walk_at "w"
          have kw : Kp [th] H10 (upd H10 th (.lst (zs ++ [.ref q0]))) := Kp.refl.wl ht10 (by simp)
          refine ⟨_, _, _, _, _, rfl, (k5.trans k510).wrn nth, by rw [upd_ne npt]; exact k510.get hp5 (by simp), (im5.up k510).up kw, (dv5.up st_nu k510 (by simp)).up st_nu kw (by simpa using nDt), upd_same, ?_⟩
          rw [take_snoc hn1]
          exact Paired.snoc (Paired.mapP th5 fun _ _ ⟨ys, a, b⟩ => ⟨ys, (a.up k510).up kw, (b.up k510).up kw⟩) ⟨acc, e10.up kw, im10.up kw⟩
      · rintro σ H5 ⟨x0, y0, z0, u0, zs, rfl, k5, hp5, im5, dv5, ht5, th5⟩
        rw [ysl, List.take_length] at th5
        walk_at "w"
        refine rd_kil (sql_kp k5 (by simp) hr0) ?_
        intro q0 nq0
        refine lc_it (walk_list (xs := xs)) (fun j H6 => Kp [] H5 H6 ∧ H6 q0 = some (.lst ((roots.take j).map fun n => .int (ixOf L n)))) ⟨Kp.new nq0, upd_same⟩ (fun j H6 _ ⟨k, _⟩ => sql_kp (k5.trans k) (by simp) hr0) ?_ ?_
        · rintro j x _ H6 hj ⟨k6, hq⟩ ⟨rfl, hx⟩
          obtain ⟨n, hn1, hn2⟩ := (im.up (k5.trans k6)).at hx
          walk_at "w"
          refine ⟨rfl, ?_⟩
          walk_at "w"
          have hnL : n ∈ L := by
            obtain ⟨m, em⟩ := rch.goes
            rw [em]
            exact List.mem_append_left _ (roots_mem.mpr (.inr (List.mem_of_getElem? hn1)))
          refine rd_getV (dv5.up st_nu k6 (by simp)).r kF_p hn2 (nix n hnL) fun z hz => ?_
          refine ⟨_, hq, Nat.lt_of_lt_of_le (show _ < 1000 by rw [List.length_map, List.length_take]; omega) (by decide), k6.wrn nq0, ?_⟩
          rw [show z = .int (ixOf L n) from hz, take_snoc hn1, List.map_append]
          exact upd_same
        · rintro H6 ⟨k6, hq⟩
          rw [ImA.mlen im, List.take_length] at hq
          walk_at "w"
          refine rd_ktup' (K := K) (by simp) fun t H7 n7 k7 st => ?_
          have k57 := k6.trans k7
          exact q _ L H7 (k5.trans k57) rch ⟨t, q0, th, zs, rfl, st, .inl (.inl (k7.get hq (by simp))), .inl (.inl (k57.get ht5 (by simp))), Paired.mapP th5 fun _ _ ⟨ys, a, b⟩ => ⟨ys, a.up k57, b.up k57⟩⟩
end
end GT
set_option maxHeartbeats 2000000
namespace GT
open PySem PySem.Spec PyProof.Rows L2
local macro_rules | `(tactic| walk_at "v") => `(tactic| ((with_reducible show tVar _ _ _ _); refine rd_var rfl ?_))
local macro_rules | `(tactic| walk_at "s1") => `(tactic| with_reducible first | refine rd_cons ?_ | refine rd_nil ?_ | refine rd_c ?_ | refine rd_op ?_ | refine rd_seq ?_ | refine rd_fld ?_ | refine rd_asg ?_ | refine rd_gname ?_ | refine rd_I0 ?_ | refine rd_cb ?_ | refine rd_next ?_ | refine rd_drop ?_ | refine rd_ret ?_ | refine rd_mf ?_ | refine rd_cf ?_ | refine rd_ifS ?_ | refine rd_test ?_ | refine rd_kt ?_)
local macro_rules | `(tactic| walk_at "s2") => `(tactic| with_reducible first | refine rd_tup ?_ | refine rd_lst ?_ | refine rd_bm ?_ | refine rd_gcons ?_ | refine rd_gnil ?_ | refine rd_gsub ?_ | refine rd_dm ?_ | refine rd_sfld ?_ | refine rd_fa ?_ | refine rd_frz ?_ | refine rd_nf ?_ | refine rd_retN ?_ | refine rd_cont ?_ | refine rd_par ?_ | refine rd_un ?_ | refine rd_and ?_ | refine rd_or ?_ | refine rd_not ?_ | refine rd_tru ?_ | refine rd_B ?_ | refine rd_chain ?_ | refine rd_sl ?_ | refine rd_nopart ?_ | refine rd_part ?_ | refine rd_kpart ?_)
local macro_rules | `(tactic| walk_at "s3") => `(tactic| with_reducible first | refine rd_U ?_ | refine rd_eqi ?_ | refine rd_nei ?_ | refine rd_eqs ?_ | refine rd_nes ?_ | refine rd_isN ?_ | refine rd_notN ?_ | refine rd_max2 ?_ | refine rd_min2 ?_ | refine rd_int1 ?_ | refine rd_intb ?_ | refine rd_kbmS ?_ | refine rd_il ?_ | refine rd_it ?_ | refine rd_ir1 ?_ | refine rd_ir2 ?_ | refine rd_in ?_ | refine rd_for ?_ | refine rd_lc ?_ | refine rd_yes ?_ | refine rd_tt ?_ | refine rd_ff ?_ | refine rd_listRg ?_ | refine rd_andV ?_ | refine rd_orV ?_ | refine rd_notV ?_ | refine rd_ex ?_)
local macro_rules | `(tactic| walk_at "c") => `(tactic| first | exact TX.c_Channel (by assumption) | exact TX.c_State (by assumption) | exact TX.c_Message (by assumption) | exact TX.c_Replica (by assumption) | exact TX.c_Network (by assumption))
local macro_rules | `(tactic| walk_at "n") => `(tactic| first | exact TX.n_Channel_under_way (by assumption) | exact TX.n_State_cells (by assumption) | exact TX.n_Message_octets (by assumption) | exact TX.n_Message_place (by assumption) | exact TX.n_Message_known (by assumption) | exact TX.n_Replica_peer (by assumption) | exact TX.n_Replica_clock (by assumption) | exact TX.n_Replica_made (by assumption) | exact TX.n_Replica_state (by assumption) | exact TX.n_Replica_roots (by assumption) | exact TX.n_Replica_pending (by assumption) | exact TX.n_Replica_messages (by assumption) | exact TX.n_Network_replicas (by assumption) | exact TX.n_Network_channels (by assumption))
local macro_rules | `(tactic| walk_at "f") => `(tactic| ((with_reducible show KFld _ _ _ _ _); refine rd_kfld (by assumption) (by walk_at "c") (by walk_at "n") rfl ?_))
local macro_rules | `(tactic| walk_at "g") => `(tactic| ((with_reducible show KSf _ _ _ _ _ _); refine rd_ksf (by assumption) (by walk_at "c") (by walk_at "n") (by simp) ?_))
local macro_rules | `(tactic| walk_at "w") => `(tactic| repeat (first | walk_at "v" | walk_at "s1" | walk_at "f" | walk_at "s2" | walk_at "s3"))
/-! ### graphs compared -/
def thD (cs : List (Ky × Cell)) (L : List Nm) : PyData := .list (L.map fun n => .list (NestedKey.datas (thing cs L n)))
def grD (roots : List Nm) (cs : List (Ky × Cell)) (L : List Nm) : PyData := .tuple [.list (roots.map fun n => .int (ixOf L n)), thD cs L]
/-- values, fields that may be told -/
def VlOk (v : Vl) : Prop := Shp (vlD v)
def StrOk (z : Str) : Prop := PyData.canLay0 (.str z) = true
def CsOk (cs : List (Ky × Cell)) : Prop := ∀ p ∈ cs, StrOk p.1.2 ∧ VlOk p.2.2
theorem dp_ints {K : PySem.W.Frag} {H : Hp} : ∀ (ns : List Int), DpAll K H (ns.map V.int) (ns.map PyData.int)
  | [] => .nil
  | n :: ns => .cons (.int n) (dp_ints ns)
theorem dp_pair {K : PySem.W.Frag} {H : Hp} {α : Type} {R : V → α → Prop} {f : α → PyData} (hR : ∀ v a, R v a → Dp K H v (f a)) {xs : List V} {l : List α} (h : Paired R xs l) : DpAll K H xs (l.map f) := by
  induction h with
  | nil => exact .nil
  | cons a _ ih => exact .cons (hR _ _ a) ih
theorem fz_dp {K : PySem.W.Frag} {H : Hp} {v : V} {ys : List V} {ks : List D} (h : Fz H v ys) (im : ImA K H ys ks) : Dp K H v (.list (NestedKey.datas ks)) := by
  obtain ⟨a, o, rfl, e⟩ := h
  exact .lst (Fz.sq ⟨a, o, rfl, e⟩) (ImA.dp _ _ im)
theorem thP_dp {K : PySem.W.Frag} {H : Hp} {cs : List (Ky × Cell)} {L : List Nm} {b : Addr} {xs : List V} (s : SqL K H b xs) (h : ThP K H cs L xs L) : Dp K H (.ref b) (thD cs L) :=
  .lst s (dp_pair (f := fun n => .list (NestedKey.datas (thing cs L n))) (fun _ _ ⟨_, a, b⟩ => fz_dp a b) h)
theorem grA_dp {K : PySem.W.Frag} {H : Hp} {v : V} {roots L : List Nm} {cs : List (Ky × Cell)} (h : GrA K H v roots L cs) : Dp K H v (grD roots cs L) := by
  obtain ⟨t, a, b, xs, rfl, s1, s2, s3, pr⟩ := h
  refine .tup s1 (.cons (.lst s2 ?_) (.cons (thP_dp s3 pr) .nil))
  have := dp_ints (K := K) (H := H) (roots.map fun n => ixOf L n)
  rw [List.map_map, List.map_map] at this
  exact this
theorem eqv_self (d : D) : PyData.eqv d.data d.data = true := by
  rw [eqv_data, ← NestedKey.decide_eq]
  exact decide_eq_true rfl
theorem eqvAll_self : ∀ {l : List PyData}, (∀ d ∈ l, PyData.eqv d d = true) → PyData.eqvAll l l = true
  | [], _ => rfl
  | d :: l, h => by
    rw [PyData.eqvAll, h d List.mem_cons_self, eqvAll_self fun e he => h e (List.mem_cons_of_mem _ he)]
    rfl
theorem eqv_list {l : List PyData} (h : ∀ d ∈ l, PyData.eqv d d = true) : PyData.eqv (.list l) (.list l) = true := by
  rw [PyData.eqv]
  exact eqvAll_self h
theorem eqv_datasL (ks : List D) : PyData.eqv (.list (NestedKey.datas ks)) (.list (NestedKey.datas ks)) = true := eqv_list fun d hd => by
  rw [datas_map] at hd
  obtain ⟨k, _, rfl⟩ := List.mem_map.mp hd
  exact eqv_self k
theorem thD_self (cs : List (Ky × Cell)) (L : List Nm) : PyData.eqv (thD cs L) (thD cs L) = true := eqv_list fun d hd => by
  obtain ⟨n, _, rfl⟩ := List.mem_map.mp hd
  exact eqv_datasL _
theorem grD_self (roots : List Nm) (cs : List (Ky × Cell)) (L : List Nm) : PyData.eqv (grD roots cs L) (grD roots cs L) = true := by
  unfold grD
  rw [PyData.eqv]
  refine eqvAll_self fun d hd => ?_
  simp only [List.mem_cons, List.not_mem_nil, or_false] at hd
  rcases hd with rfl | rfl
  · refine eqv_list fun d hd => ?_
    obtain ⟨n, _, rfl⟩ := List.mem_map.mp hd
    exact eqv_self (.num _)
  · exact thD_self cs L
theorem lay_all : ∀ {l : List PyData}, (∀ d ∈ l, PyData.canLay0 d = true) → PyData.canLayAll0 l = true
  | [], _ => rfl
  | d :: l, h => by
    rw [PyData.canLayAll0, h d List.mem_cons_self, lay_all fun e he => h e (List.mem_cons_of_mem _ he)]
    rfl
theorem lay_list {l : List PyData} (h : ∀ d ∈ l, PyData.canLay0 d = true) : PyData.canLay0 (.list l) = true := by
  rw [PyData.canLay0]
  exact lay_all h
theorem dep_all {n : Nat} : ∀ {l : List PyData}, (∀ d ∈ l, d.depth ≤ n) → PyData.depthAll l ≤ n
  | [], _ => by rw [PyData.depthAll]; omega
  | d :: l, h => by
    rw [PyData.depthAll]
    exact Nat.max_le.mpr ⟨h d List.mem_cons_self, dep_all fun e he => h e (List.mem_cons_of_mem _ he)⟩
theorem dep_list {n : Nat} {l : List PyData} (h : ∀ d ∈ l, d.depth ≤ n) : (PyData.list l).depth ≤ n + 1 := by
  rw [PyData.depth]
  have := dep_all h
  omega
theorem fields_ok {cs : List (Ky × Cell)} (ok : CsOk cs) {n : Nm} {p : Str × Vl} (h : p ∈ fieldsOf cs n) : StrOk p.1 ∧ VlOk p.2 := by
  obtain ⟨k, hk, e⟩ := List.mem_filterMap.mp h
  unfold fstep at e
  split at e
  · rename_i c
    cases e
    have hkm : k ∈ cs.map (·.1) := srt_mem.mp hk
    obtain ⟨o, ho⟩ := Option.isSome_iff_exists.mp (aget_isSome.mpr hkm)
    have := ok _ (aget_mem ho)
    refine ⟨this.1, ?_⟩
    unfold vlC
    rw [ho]
    exact this.2
  · cases e
theorem th_lay {cs : List (Ky × Cell)} (ok : CsOk cs) (L : List Nm) (n : Nm) : PyData.canLay0 (.list (NestedKey.datas (thing cs L n))) = true ∧ (PyData.list (NestedKey.datas (thing cs L n))).depth ≤ 9 := by
  have key : ∀ d ∈ NestedKey.datas (thing cs L n), PyData.canLay0 d = true ∧ d.depth ≤ 8 := fun d hd => by
    rw [datas_map] at hd
    obtain ⟨k, hk, rfl⟩ := List.mem_map.mp hd
    obtain ⟨p, hp, rfl⟩ := List.mem_map.mp hk
    obtain ⟨a, b⟩ := fields_ok ok hp
    have hv : PyData.canLay0 (numV (ixOf L) p.2).data = true ∧ (numV (ixOf L) p.2).data.depth ≤ 3 := by
      cases e : p.2 with
      | rf t =>
        refine ⟨?_, by rw [depth_data]; simp [numV, vlD, NestedKey.depth, NestedKey.depthAll]⟩
        show PyData.canLay0 (.tuple [.str "ref", .int (ixOf L t)]) = true
        rw [PyData.canLay0, PyData.canLayAll0, PyData.canLayAll0, PyData.canLayAll0, PyData.canLay0, PyData.canLay0, Bool.and_true, Bool.and_true]
        decide +kernel
      | non => exact ⟨rfl, by rw [depth_data]; simp [numV, vlD, NestedKey.depth, NestedKey.depthAll]⟩
      | txt s => rw [e] at b; exact ⟨SeqAt.canLay_of_shaped b, by rw [depth_data]; simp [numV, vlD, NestedKey.depth, NestedKey.depthAll]⟩
      | num i => exact ⟨rfl, by rw [depth_data]; simp [numV, vlD, NestedKey.depth, NestedKey.depthAll]⟩
    refine ⟨?_, ?_⟩
    · show PyData.canLay0 (.tuple [.str p.1, (numV (ixOf L) p.2).data]) = true
      rw [PyData.canLay0]
      refine lay_all fun d hd => ?_
      simp only [List.mem_cons, List.not_mem_nil, or_false] at hd
      rcases hd with rfl | rfl
      · exact a
      · exact hv.1
    · show (PyData.tuple [.str p.1, (numV (ixOf L) p.2).data]).depth ≤ 8
      rw [PyData.depth]
      have : PyData.depthAll [.str p.1, (numV (ixOf L) p.2).data] ≤ 3 := dep_all fun d hd => by
        simp only [List.mem_cons, List.not_mem_nil, or_false] at hd
        rcases hd with rfl | rfl
        · rw [PyData.depth]; omega
        · exact hv.2
      omega
  exact ⟨lay_list fun d hd => (key d hd).1, dep_list fun d hd => (key d hd).2⟩
theorem thD_lay {cs : List (Ky × Cell)} (ok : CsOk cs) (L : List Nm) (L' : List Nm) : PyData.canLay0 (.list (L'.map fun n => .list (NestedKey.datas (thing cs L n)))) = true ∧ (PyData.list (L'.map fun n => .list (NestedKey.datas (thing cs L n)))).depth ≤ 10 :=
  ⟨lay_list fun d hd => by obtain ⟨n, _, rfl⟩ := List.mem_map.mp hd; exact (th_lay ok L n).1, dep_list fun d hd => by obtain ⟨n, _, rfl⟩ := List.mem_map.mp hd; exact (th_lay ok L n).2⟩
theorem shp_of {d : PyData} (h : PyData.canLay0 d = true) (g : d.depth ≤ 64) : SeqAt.shaped d = true := by
  unfold SeqAt.shaped
  rw [h, decide_eq_true g]
  rfl
theorem thD_shp {cs : List (Ky × Cell)} (ok : CsOk cs) (L : List Nm) : SeqAt.shaped (thD cs L) = true := shp_of (thD_lay ok L L).1 (by have := (thD_lay ok L L).2; unfold thD; omega)
theorem grD_shp {cs : List (Ky × Cell)} (ok : CsOk cs) (roots L : List Nm) : SeqAt.shaped (grD roots cs L) = true := by
  unfold grD
  refine shp_of ?_ ?_
  · rw [PyData.canLay0]
    refine lay_all fun d hd => ?_
    simp only [List.mem_cons, List.not_mem_nil, or_false] at hd
    rcases hd with rfl | rfl
    · exact lay_list fun d hd => by obtain ⟨n, _, rfl⟩ := List.mem_map.mp hd; rfl
    · exact (thD_lay ok L L).1
  · rw [PyData.depth]
    have : PyData.depthAll [.list (roots.map fun n => .int (ixOf L n)), thD cs L] ≤ 10 := dep_all fun d hd => by
      simp only [List.mem_cons, List.not_mem_nil, or_false] at hd
      rcases hd with rfl | rfl
      · exact Nat.le_trans (dep_list (n := 1) fun d hd => by obtain ⟨n, _, rfl⟩ := List.mem_map.mp hd; rw [PyData.depth]; omega) (by omega)
      · exact (thD_lay ok L L).2
    omega
/-! the same cells: the same fields, the same reach -/
theorem fields_same {cs cs' : List (Ky × Cell)} (n1 : (cs.map (·.1)).Nodup) (n2 : (cs'.map (·.1)).Nodup) (h : ∀ k, aget cs k = aget cs' k) : fieldsOf cs = fieldsOf cs' := by
  funext n
  have e1 : skeys cs = skeys cs' := srt_eq (fun _ _ => tk_ky_inj) (perm_of_nodup n1 n2 fun k => by rw [← aget_isSome, ← aget_isSome, h])
  have e2 : vlC cs = vlC cs' := by funext k; unfold vlC; rw [h]
  have e3 : fstep cs n = fstep cs' n := by funext k; unfold fstep; rw [e2]
  unfold fieldsOf
  rw [e1, e3]
theorem Reach.same {cs cs' : List (Ky × Cell)} (h : fieldsOf cs = fieldsOf cs') {l r : List Nm} {i : Nat} (R : Reach cs l i r) : Reach cs' l i r := by
  induction R with
  | done e => exact .done e
  | step e _ ih =>
    refine .step e ?_
    unfold stepN at ih ⊢
    rw [← h]
    exact ih
theorem thing_same {cs cs' : List (Ky × Cell)} (h : fieldsOf cs = fieldsOf cs') (L : List Nm) : thing cs L = thing cs' L := by
  funext n
  unfold thing
  rw [h]
theorem grD_same {cs cs' : List (Ky × Cell)} (h : fieldsOf cs = fieldsOf cs') (roots L : List Nm) : grD roots cs L = grD roots cs' L := by
  unfold grD thD
  rw [thing_same h]
section
variable {P : Program} {w : World} {K : PySem.W.Frag} {mg : Str → Option Value} {base : Heap}
theorem rd_eqSelf {K : PySem.W.Frag} {H : Hp} {Q : VK} {x y : V} {d : PyData} (h1 : Dp K H x d) (h2 : Dp K H y d) (s : SeqAt.shaped d = true) (r : PyData.eqv d d = true) (q : Q (.bl true) H) : rEqD K x y H Q := ⟨d, d, h1, h2, s, s, by rw [r]; exact q⟩
abbrev sp_are_alike (P : Program) (w : World) (K : PySem.W.Frag) : Sp := fun vs H Q _ => ∃ (s d r s' d' r' : Addr) (cs cs' : List (Ky × Cell)) (xs xs' : List V) (roots nms : List Nm), vs = [.ref s, .ref r, .ref s', .ref r'] ∧ StT P w K H s d cs ∧ StT P w K H s' d' cs' ∧ SqL K H r xs ∧ SqL K H r' xs' ∧ ImA K H xs (roots.map pD) ∧ ImA K H xs' (roots.map pD) ∧ NmOk nms ∧ (∀ n, NamesOf cs n → n ∈ nms) ∧ (∀ n, NamesOf cs' n → n ∈ nms) ∧ (∀ n ∈ roots, n ∈ nms) ∧ (cs.map (·.1)).Nodup ∧ (cs'.map (·.1)).Nodup ∧ cs.length < 1000 ∧ cs'.length < 1000 ∧ roots.length < 1000 ∧ CsOk cs ∧ fieldsOf cs = fieldsOf cs' ∧
  ∀ H', Kp [] H H' → Q (.bl true) H'
theorem ok_are_alike (T : TX P K mg) : Ok P w K mg base (CX0) 5 ("are_alike", none) p_are_alike (sp_are_alike P w K) := by
  refine T.ok 20 (d := d_are_alike) rfl rfl rfl sc_are_alike (fun _ _ _ _ _ _ us hl => match us, hl with | [_, _, _, _], _ => rfl) (fun vs H Q E h => ?_) fun cdv Ar outer sh H vs Q E hr h => ?_
  · obtain ⟨s, d, r, s', d', r', cs, cs', xs, xs', roots, nms, rfl, _⟩ := h; rfl
  · obtain ⟨s, d, r, s', d', r', cs, cs', xs, xs', roots, nms, rfl, S, S', hr0, hr1, im, im', no, hn, hn', hrn, nd, nd', hz, hz', hzr, ok, hf, q⟩ := h
    obtain ⟨hu, hu1, hu65⟩ := rm_of hr
    refine ⟨_, PSs.nox (pss_one (ps_ret (pe_cmpR (op_eqD hu) (pe_fn (ok_numbered T) T.g_numbered (hr.mono (by decide)) pass0 (pa_cons (pv 0) (pa_cons (pv 1) pa_nil))) (pe_fn (ok_numbered T) T.g_numbered (hr.mono (by decide)) pass0 (pa_cons (pv 2) (pa_cons (pv 3) pa_nil))) (nomark _)))), ?_⟩
    walk_at "w"
    refine ⟨s, d, r, cs, xs, roots, nms, rfl, S, hr0, im, no, hn, hrn, nd, hz, hzr, fun v L H1 k1 rch gr => ?_⟩
    walk_at "w"
    refine ⟨s', d', r', cs', xs', roots, nms, rfl, S'.up k1 (by simp) (by simp), sql_kp k1 (by simp) hr1, im'.up k1, no, hn', hrn, nd', hz', hzr, fun v' L' H2 k2 rch' gr' => ?_⟩
    have eL : L = L' := (rch.same hf).det rch'
    subst eL
    refine rd_eqSelf (grA_dp (grA_up gr k2)) (by rw [grD_same hf]; exact grA_dp gr') (grD_shp ok _ _) (grD_self _ _ _) ?_
    exact q H2 (k1.trans k2)
end
end GT
set_option maxHeartbeats 2000000
namespace GT
open PySem PySem.Spec PyProof.Rows L2
local macro_rules | `(tactic| walk_at "v") => `(tactic| ((with_reducible show tVar _ _ _ _); refine rd_var rfl ?_))
local macro_rules | `(tactic| walk_at "s1") => `(tactic| with_reducible first | refine rd_cons ?_ | refine rd_nil ?_ | refine rd_c ?_ | refine rd_op ?_ | refine rd_seq ?_ | refine rd_fld ?_ | refine rd_asg ?_ | refine rd_gname ?_ | refine rd_I0 ?_ | refine rd_cb ?_ | refine rd_next ?_ | refine rd_drop ?_ | refine rd_ret ?_ | refine rd_mf ?_ | refine rd_cf ?_ | refine rd_ifS ?_ | refine rd_test ?_ | refine rd_kt ?_)
local macro_rules | `(tactic| walk_at "s2") => `(tactic| with_reducible first | refine rd_tup ?_ | refine rd_lst ?_ | refine rd_bm ?_ | refine rd_gcons ?_ | refine rd_gnil ?_ | refine rd_gsub ?_ | refine rd_dm ?_ | refine rd_sfld ?_ | refine rd_fa ?_ | refine rd_frz ?_ | refine rd_nf ?_ | refine rd_retN ?_ | refine rd_cont ?_ | refine rd_par ?_ | refine rd_un ?_ | refine rd_and ?_ | refine rd_or ?_ | refine rd_not ?_ | refine rd_tru ?_ | refine rd_B ?_ | refine rd_chain ?_ | refine rd_sl ?_ | refine rd_nopart ?_ | refine rd_part ?_ | refine rd_kpart ?_)
local macro_rules | `(tactic| walk_at "s3") => `(tactic| with_reducible first | refine rd_U ?_ | refine rd_eqi ?_ | refine rd_nei ?_ | refine rd_eqs ?_ | refine rd_nes ?_ | refine rd_isN ?_ | refine rd_notN ?_ | refine rd_max2 ?_ | refine rd_min2 ?_ | refine rd_int1 ?_ | refine rd_intb ?_ | refine rd_kbmS ?_ | refine rd_il ?_ | refine rd_it ?_ | refine rd_ir1 ?_ | refine rd_ir2 ?_ | refine rd_in ?_ | refine rd_for ?_ | refine rd_lc ?_ | refine rd_yes ?_ | refine rd_tt ?_ | refine rd_ff ?_ | refine rd_listRg ?_ | refine rd_andV ?_ | refine rd_orV ?_ | refine rd_notV ?_ | refine rd_ex ?_)
local macro_rules | `(tactic| walk_at "c") => `(tactic| first | exact TX.c_Channel (by assumption) | exact TX.c_State (by assumption) | exact TX.c_Message (by assumption) | exact TX.c_Replica (by assumption) | exact TX.c_Network (by assumption))
local macro_rules | `(tactic| walk_at "n") => `(tactic| first | exact TX.n_Channel_under_way (by assumption) | exact TX.n_State_cells (by assumption) | exact TX.n_Message_octets (by assumption) | exact TX.n_Message_place (by assumption) | exact TX.n_Message_known (by assumption) | exact TX.n_Replica_peer (by assumption) | exact TX.n_Replica_clock (by assumption) | exact TX.n_Replica_made (by assumption) | exact TX.n_Replica_state (by assumption) | exact TX.n_Replica_roots (by assumption) | exact TX.n_Replica_pending (by assumption) | exact TX.n_Replica_messages (by assumption) | exact TX.n_Network_replicas (by assumption) | exact TX.n_Network_channels (by assumption))
local macro_rules | `(tactic| walk_at "f") => `(tactic| ((with_reducible show KFld _ _ _ _ _); refine rd_kfld (by assumption) (by walk_at "c") (by walk_at "n") rfl ?_))
local macro_rules | `(tactic| walk_at "g") => `(tactic| ((with_reducible show KSf _ _ _ _ _ _); refine rd_ksf (by assumption) (by walk_at "c") (by walk_at "n") (by simp) ?_))
local macro_rules | `(tactic| walk_at "w") => `(tactic| repeat (first | walk_at "v" | walk_at "s1" | walk_at "f" | walk_at "s2" | walk_at "s3"))
/-! ### the law's own reach and graph -/
def kstep (cs : List (Ky × Cell)) (n : Nm) (l : List Nm) (k : Ky) : List Nm := if k.1 = n then addV l (vlC cs k) else l
theorem kstep_fold (cs : List (Ky × Cell)) (l : List Nm) (n : Nm) : (skeys cs).foldl (kstep cs n) l = stepN cs l n := by
  unfold stepN fieldsOf
  rw [List.foldl_filterMap]
  congr 1
  funext l k
  unfold kstep fstep
  by_cases h : k.1 = n
  · rw [if_pos h]
    by_cases g : vlC cs k = .non
    · rw [if_neg (fun z => z.2 g), g]
      rfl
    · rw [if_pos ⟨h, g⟩]
  · rw [if_neg h, if_neg (fun z => h z.1)]
theorem kstep_nd {cs : List (Ky × Cell)} {n : Nm} {l : List Nm} (h : l.Nodup) (k : Ky) : (kstep cs n l k).Nodup := by
  unfold kstep
  split
  · exact addV_nd h _
  · exact h
theorem kfold_nd {cs : List (Ky × Cell)} {n : Nm} : ∀ (ks : List Ky) {l : List Nm}, l.Nodup → (ks.foldl (kstep cs n) l).Nodup
  | [], _, h => h
  | k :: ks, _, h => kfold_nd ks (kstep_nd h k)
theorem kstep_goes (cs : List (Ky × Cell)) (n : Nm) (l : List Nm) (k : Ky) : Goes l (kstep cs n l k) := by
  unfold kstep
  split
  · exact addV_goes _ _
  · exact ⟨[], by simp⟩
theorem kfold_goes {cs : List (Ky × Cell)} {n : Nm} : ∀ (ks : List Ky) (l : List Nm), Goes l (ks.foldl (kstep cs n) l)
  | [], l => ⟨[], by simp⟩
  | k :: ks, l => (kstep_goes cs n l k).trans (kfold_goes ks _)
theorem vlC_names {cs : List (Ky × Cell)} {k : Ky} {t : Nm} (h : vlC cs k = .rf t) : NamesOf cs t := by
  unfold vlC at h
  cases q : aget cs k with
  | none => rw [q] at h; cases h
  | some c => rw [q] at h; exact .inr ⟨(k, c), aget_mem q, h⟩
theorem kfold_sub {cs : List (Ky × Cell)} {n : Nm} {nms : List Nm} (hc : ∀ n, NamesOf cs n → n ∈ nms) : ∀ (ks : List Ky) {l : List Nm}, (∀ n ∈ l, n ∈ nms) → ∀ m ∈ ks.foldl (kstep cs n) l, m ∈ nms
  | [], _, h => h
  | k :: ks, l, h => kfold_sub hc ks fun m hm => by
    unfold kstep at hm
    split at hm
    · rcases addV_mem.mp hm with z | z
      · exact h m z
      · exact hc m (vlC_names z)
    · exact h m hm
theorem addN_in {l : List Nm} {t : Nm} (h : t ∈ l) : addN l t = l := by unfold addN; rw [if_pos h]
theorem addN_out {l : List Nm} {t : Nm} (h : t ∉ l) : addN l t = l ++ [t] := by unfold addN; rw [if_neg h]
theorem Goes.at {l m : List Nm} (h : Goes l m) {i : Nat} {n : Nm} (e : l[i]? = some n) : m[i]? = some n := by
  obtain ⟨r, rfl⟩ := h
  rw [List.getElem?_append_left (List.getElem?_eq_some_iff.mp e).1]
  exact e
theorem not_take {L : List Nm} {j : Nat} {n : Nm} (nd : L.Nodup) (h : L[j]? = some n) : n ∉ L.take j := fun m => by
  obtain ⟨i, hi⟩ := List.mem_iff_getElem?.mp m
  rw [List.getElem?_take] at hi
  split at hi
  · rename_i c
    obtain ⟨h1, e1⟩ := List.getElem?_eq_some_iff.mp h
    obtain ⟨h2, e2⟩ := List.getElem?_eq_some_iff.mp hi
    have := (List.getElem_inj nd).mp (e2.trans e1.symm)
    omega
  · cases hi
section
variable {P : Program} {w : World} {K : PySem.W.Frag} {mg : Str → Option Value} {base : Heap}
theorem rd_notInP {H : Hp} {Q : VK} {p : Addr} {l : List Nm} {x : V} {n : Nm} (h : LR K pD H (.ref p) l) (i : Im K H x (pD n)) (q : Q (.bl (!decide (n ∈ l))) H) : rNotInI K x (.ref p) H Q := by
  obtain ⟨a, xs, e, sq, im⟩ := h
  cases e
  refine ⟨p, xs, _, _, rfl, sq, im, i, shp_p n, shpL_p l, ?_⟩
  rw [decide_eq_decide.mpr (mem_p (l := l) (n := n))]
  exact q
theorem rd_inP {H : Hp} {Q : VK} {p : Addr} {l : List Nm} {x : V} {n : Nm} (h : LR K pD H (.ref p) l) (i : Im K H x (pD n)) (q : Q (.bl (decide (n ∈ l))) H) : rInI K x (.ref p) H Q := by
  obtain ⟨a, xs, e, sq, im⟩ := h
  cases e
  refine ⟨p, xs, _, _, rfl, sq, im, i, shp_p n, shpL_p l, ?_⟩
  rw [decide_eq_decide.mpr (mem_p (l := l) (n := n))]
  exact q
theorem rd_indexP {H : Hp} {Q : VK} {p : Addr} {l : List Nm} {x : V} {n : Nm} (h : LR K pD H (.ref p) l) (i : Im K H x (pD n)) (nd : l.Nodup) (m : n ∈ l) (q : Q (.int (ixOf l n)) H) : rIndexI K (.ref p) [x] H Q := by
  obtain ⟨a, xs, e, sq, im⟩ := h
  cases e
  obtain ⟨j, hj⟩ := List.mem_iff_getElem?.mp m
  refine ⟨p, xs, _, x, _, j, rfl, rfl, sq, im, i, shp_p n, shpL_p l, by rw [List.getElem?_map, hj]; rfl, ?_, by rw [← ix_at nd hj]; exact q⟩
  rw [← List.map_take]
  exact fun z => not_take nd hj (mem_p.mp z)
theorem rd_appM {α : Type} {f : α → D} {H : Hp} {Q : VK} {p : Addr} {l : List α} {v : V} {a : α} (h : LM K f H p l) (i : Im K H v (f a)) (hz : l.length < 100000) (q : ∀ H', Kp [p] H H' → LM K f H' p (l ++ [a]) → Q .non H') : rAppend (.ref p) [v] H Q := by
  obtain ⟨xs, e, im⟩ := h
  have k : Kp [p] H (upd H p (.lst (xs ++ [v]))) := Kp.refl.wl e (by simp)
  refine rd_append e (by rw [ImA.mlen im]; exact hz) (q _ k ⟨_, upd_same, ?_⟩)
  rw [List.map_append]
  exact ImA.snoc (im.up k) (i.up k)
abbrev sp__law_reach (P : Program) (w : World) (K : PySem.W.Frag) : Sp := fun vs H Q _ => ∃ (d r : Addr) (cs : List (Ky × Cell)) (xs : List V) (roots nms : List Nm), vs = [.ref d, .ref r] ∧ DCe P w K H d cs ∧ SqL K H r xs ∧ ImA K H xs (roots.map pD) ∧ NmOk nms ∧ (∀ n, NamesOf cs n → n ∈ nms) ∧ (∀ n ∈ roots, n ∈ nms) ∧ (cs.map (·.1)).Nodup ∧ cs.length < 1000 ∧ roots.length < 1000 ∧
  ∀ p L H', H p = none → Kp [] H H' → LM K pD H' p L → Reach cs (rootsN roots) 0 L → Q (.ref p) H'
theorem ok__law_reach (T : TX P K mg) : Ok P w K mg base (CX0) 2 ("_law_reach", none) p__law_reach (sp__law_reach P w K) := by
  refine T.ok 70 (d := d__law_reach) rfl rfl rfl sc__law_reach (fun _ _ _ _ _ _ us hl => match us, hl with | [_, _], _ => rfl) (fun vs H Q E h => ?_) fun cdv Ar outer sh H vs Q E hr h => ?_
  · obtain ⟨d, r, cs, xs, roots, nms, rfl, _⟩ := h; rfl
  · obtain ⟨d, r, cs, xs, roots, nms, rfl, ce, hr0, im, no, hn, hrn, nd, hz, hzr, q⟩ := h
    obtain ⟨hu, hu1, hu65⟩ := rm_of hr
    refine ⟨_, PSs.nox (pss_cons (ps_set (i := 2) sc__law_reach.nd rfl (Or.inl rfl) (pe_lst pa_nil))
      (pss_cons (ps_for PassesOwn.never rfl (pi_list (pv 1)) (pg_name (i := 3) sc__law_reach.nd rfl (Or.inl rfl))
      (pss_one (ps_if (pt_cmpR (op_notInI hu65) (pv 3) (pv 2) (by with_unfolding_all rfl))
      (pss_one (ps_expr (pe_bm PySem.F.plainAttrs_list PySem.F.slot_list_append PySem.F.type_list_append mt_append (pv 2) (pa_cons (pv 3) pa_nil))))
      pss_nil)))
      (pss_cons (ps_set (i := 4) sc__law_reach.nd rfl (Or.inl rfl) pe_int)
      (pss_cons (ps_while PassesOwn.never (pt_cmpR op_lt (pv 4) (pe_callB call_lenQ (by rfl) T.f_len (by decide +kernel) (pa_cons (pv 2) pa_nil)) (nomark _))
      (pss_cons (ps_for PassesOwn.never rfl (pi_list (pe_callB (call_sortN hu rfl) (by rfl) T.f_sorted (by decide +kernel) (pa_cons (pv 0) pa_nil))) (pg_name (i := 5) sc__law_reach.nd rfl (Or.inl rfl))
      (pss_cons (ps_set (i := 6) sc__law_reach.nd rfl (Or.inl rfl) (pe_fn (ok__law_target T) T.g__law_target (hr.mono (by decide)) pass0 (pa_cons (pe_ix ix_tup (pe_ix (ix_dn hu) (pv 0) (pv 5) (fun _ _ => rfl)) pe_int (fun _ _ => rfl)) pa_nil)))
      (pss_one (ps_if (PW.pt (pw_and (pt_cmpR (op_eqI hu) (pe_ix ix_tup (pv 5) pe_int (fun _ _ => rfl)) (pe_ix ix_list (pv 2) (pv 4) (fun _ _ => rfl)) (nomark _)) (pw_and (pt_cmpR op_notN1 (pv 6) pe_non (nomark _)) (pw_and1 (pt_cmpR (op_notInI hu65) (pv 6) (pv 2) (by with_unfolding_all rfl))))))
      (pss_one (ps_expr (pe_bm PySem.F.plainAttrs_list PySem.F.slot_list_append PySem.F.type_list_append mt_append (pv 2) (pa_cons (pv 6) pa_nil))))
      pss_nil))))
      (pss_one (ps_set (i := 4) sc__law_reach.nd rfl (Or.inl rfl) (pe_op op_add (pv 4) pe_int)))))
      (pss_one (ps_ret (pv 2))))))), ?_⟩
    walk_at "w"
    refine rd_klst (by simp) fun p H1 n1 k1 e1 => ?_
    walk_at "w"
    refine rd_kil (sql_kp k1 (by simp) hr0) ?_
    refine for_it (walk_list (xs := xs)) (fun i σ H' => ∃ x, σ = [some (.ref d), some (.ref r), some (.ref p), x, none, none, none] ∧ Kp [] H H' ∧ LM K pD H' p ((roots.take i).foldl addN [])) ⟨none, rfl, k1, [], e1, .nil⟩ (fun i σ H' _ ⟨_, _, k, _⟩ => sql_kp k (by simp) hr0) ?_ ?_
    · rintro i x σ _ H' hi ⟨x0, rfl, kk, fn⟩ ⟨rfl, hx⟩
      obtain ⟨n, hn1, hn2⟩ := (im.up kk).at hx
      have hlen : ((roots.take i).foldl addN []).length < 1000 := Nat.lt_trans (Nat.lt_of_le_of_lt (nodup_len (roots_nd List.nodup_nil) fun n hm => hrn n (List.mem_of_mem_take ((roots_mem.mp hm).resolve_left (by simp)))) no.few) (by decide)
      walk_at "w"
      refine rd_notInP fn.r hn2 ?_
      walk_at "w"
      refine rd_if (fun hb => ?_) fun hb => ?_
      · have hb : n ∉ (roots.take i).foldl addN [] := by simpa using hb
        obtain ⟨ys, e, _⟩ := id fn
        walk_at "w"
        refine rd_kbmL (.inl (.inl e)) ?_
        walk_at "w"
        refine rd_appM fn hn2 (by omega) fun H2 k2 fn2 => ?_
        walk_at "w"
        refine ⟨_, rfl, (kk.nil.trans k2).weak fun b hb => .inr (by simp at hb; rw [hb]; exact n1), ?_⟩
        rw [take_snoc hn1, List.foldl_append]
        show LM K pD H2 p (addN _ n)
        rw [addN_out hb]
        exact fn2
      · have hb : n ∈ (roots.take i).foldl addN [] := by simpa using hb
        walk_at "w"
        refine ⟨_, rfl, kk, ?_⟩
        rw [take_snoc hn1, List.foldl_append]
        show LM K pD H' p (addN _ n)
        rw [addN_in hb]
        exact fn
    · rintro σ H' ⟨x, rfl, kk, fn⟩
      rw [ImA.mlen im, List.take_length] at fn
      walk_at "w"
      refine ⟨fun m σ H' => ∃ (i : Nat) (l : List Nm) (x y z : Option V), σ = [some (.ref d), some (.ref r), some (.ref p), x, some (.int i), y, z] ∧ m = 60 - i ∧ Kp [] H H' ∧ LM K pD H' p l ∧ l.Nodup ∧ (∀ n ∈ l, n ∈ nms) ∧ ∀ L, Reach cs l i L → Reach cs (rootsN roots) 0 L,
        ⟨60, 0, _, _, _, _, rfl, rfl, kk, fn, roots_nd List.nodup_nil, fun n hm => hrn n ((roots_mem.mp hm).resolve_left (by simp)), fun L h => h⟩, ?_⟩
      rintro m σ H1 ⟨i, l, x1, y1, z1, rfl, rfl, k2, fn1, lnd, lsub, lr⟩
      have ll : l.length < 60 := Nat.lt_of_le_of_lt (nodup_len lnd lsub) no.few
      obtain ⟨ps, ep, imp⟩ := id fn1
      walk_at "w"
      refine rd_lenL (.inl (.inl ep)) ?_
      walk_at "w"
      rw [ImA.mlen imp]
      refine rd_if (fun hb => ?_) fun hb => ?_
      · have hil : i < l.length := by have := of_decide_eq_true hb; omega
        obtain ⟨n, hni⟩ : ∃ n, l[i]? = some n := ⟨l[i], List.getElem?_eq_getElem _⟩
        refine ⟨fun σ' H' => ∃ (x y z : Option V), σ' = [some (.ref d), some (.ref r), some (.ref p), x, some (.int (i + 1 : Nat)), y, z] ∧ Kp [] H H' ∧ LM K pD H' p (stepN cs l n), fun σ' H' ⟨x, y, z, e, k, f⟩ => ⟨60 - (i + 1), by omega, i + 1, stepN cs l n, x, y, z, e, rfl, k, f, fold_nd _ lnd, step_mem lsub hn, fun L h => lr L (.step hni h)⟩, ?_⟩
        walk_at "w"
        have ce1 := ce.up st_ce k2 (by simp)
        refine rd_sortV ce1.r (srtOk_ky _) fun pl ys H2 n2 k3 e2 im2 => ?_
        have npl : pl ≠ p := (ne_of_none ep n2).symm
        refine rd_kil (.inl (.inl e2)) ?_
        refine for_it (walk_list (xs := ys)) (fun j σ H' => ∃ (x y z : Option V), σ = [some (.ref d), some (.ref r), some (.ref p), x, some (.int i), y, z] ∧ Kp [] H H' ∧ H' pl = some (.lst ys) ∧ ImA K H' ys ((skeys cs).map kyD) ∧ LM K pD H' p (((skeys cs).take j).foldl (kstep cs n) l))
          ⟨_, _, _, rfl, k2.trans k3, e2, im2, fn1.up k3 (by simp)⟩ (fun j σ H' _ ⟨_, _, _, _, _, h, _⟩ => .inl (.inl h)) ?_ ?_
        · rintro j x σ _ H' hj ⟨x2, y2, z2, rfl, kk, hpl, imk, fn'⟩ ⟨rfl, hx⟩
          obtain ⟨k, hk, ik⟩ := imk.at hx
          have hkm : k ∈ cs.map (·.1) := srt_mem.mp (List.mem_of_getElem? hk)
          obtain ⟨A, hA⟩ := Option.isSome_iff_exists.mp (aget_isSome.mpr hkm)
          have hv : vlC cs k = A.2 := by unfold vlC; rw [hA]
          have ce2 := ce.up st_ce kk (by simp)
          walk_at "w"
          refine rd_getV ce2.r kF_ky ik hA fun v iv => ?_
          walk_at "w"
          refine rd_ixI (k := vlD A.2) iv rfl fun v2 iv2 => ?_
          walk_at "w"
          refine ⟨v2, A.2, rfl, iv2, fun y hy => ?_⟩
          walk_at "w"
          refine rd_ixI (k := pD k.1) ik rfl fun v3 iv3 => ?_
          walk_at "w"
          obtain ⟨ps', ep', imp'⟩ := id fn'
          have hni' := (kfold_goes (cs := cs) (n := n) ((skeys cs).take j) l).at hni
          obtain ⟨nv, hnv, inv⟩ : ∃ nv, ps'[i]? = some nv ∧ Im K H' nv (pD n) := imp'.getD (by rw [List.getElem?_map, hni']; rfl)
          refine rd_ixL (.inl (.inl ep')) (atN (by omega) (by simpa using hnv)) ?_
          refine rd_eqI iv3 inv (shp_p _) (shp_p _) ?_
          walk_at "w"
          have ts : ((skeys cs).take (j + 1)).foldl (kstep cs n) l = kstep cs n (((skeys cs).take j).foldl (kstep cs n) l) k := by rw [take_snoc hk, List.foldl_append]; rfl
          refine rd_if (fun hb => ?_) fun hb => ?_
          · have e1 : k.1 = n := pD_inj (of_decide_eq_true hb)
            walk_at "w"
            rw [tg_non hy]
            cases hvl : A.2 with
            | rf t =>
              rw [hvl] at hy hv
              refine rd_ifT rfl ?_
              walk_at "w"
              refine rd_notInP fn'.r (show Im K H' y (pD t) from hy) ?_
              walk_at "w"
              have ek : kstep cs n (((skeys cs).take j).foldl (kstep cs n) l) k = addN (((skeys cs).take j).foldl (kstep cs n) l) t := by unfold kstep; rw [if_pos e1, hv]; rfl
              have ll' : (((skeys cs).take j).foldl (kstep cs n) l).length < 1000 := Nat.lt_trans (Nat.lt_of_le_of_lt (nodup_len (kfold_nd _ lnd) (kfold_sub hn _ lsub)) no.few) (by decide)
              refine rd_if (fun hb => ?_) fun hb => ?_
              · have hb : t ∉ ((skeys cs).take j).foldl (kstep cs n) l := by simpa using hb
                walk_at "w"
                refine rd_kbmL (.inl (.inl ep')) ?_
                walk_at "w"
                refine rd_appM fn' (show Im K H' y (pD t) from hy) (by omega) fun H6 k6 fn6 => ?_
                walk_at "w"
                refine ⟨_, _, _, rfl, (kk.nil.trans k6).weak fun b hb => .inr (by simp at hb; rw [hb]; exact n1), k6.get hpl (by simpa using npl), imk.up k6, ?_⟩
                rw [ts, ek]
                rw [addN_out hb]
                exact fn6
              · have hb : t ∈ ((skeys cs).take j).foldl (kstep cs n) l := by simpa using hb
                walk_at "w"
                refine ⟨_, _, _, rfl, kk, hpl, imk, ?_⟩
                rw [ts, ek]
                rw [addN_in hb]
                exact fn'
            | _ =>
              rw [hvl] at hv
              refine rd_ifF rfl ?_
              walk_at "w"
              refine ⟨_, _, _, rfl, kk, hpl, imk, ?_⟩
              rw [ts]
              unfold kstep
              rw [if_pos e1, hv]
              exact fn'
          · walk_at "w"
            refine ⟨_, _, _, rfl, kk, hpl, imk, ?_⟩
            rw [ts]
            unfold kstep
            rw [if_neg (fun z => of_decide_eq_false hb (by rw [z]))]
            exact fn'
        · rintro σ H' ⟨x2, y2, z2, rfl, kk, hpl, imk, fn'⟩
          rw [ImA.mlen im2, List.take_length, kstep_fold] at fn'
          walk_at "w"
          exact ⟨x2, y2, z2, by simp, kk, fn'⟩
      · walk_at "w"
        exact q p l H1 n1 k2 fn1 (lr l (.done (by have := of_decide_eq_false hb; omega)))
abbrev sp__law_graph (P : Program) (w : World) (K : PySem.W.Frag) : Sp := fun vs H Q _ => ∃ (d r : Addr) (cs : List (Ky × Cell)) (xs : List V) (roots nms : List Nm), vs = [.ref d, .ref r] ∧ DCe P w K H d cs ∧ SqL K H r xs ∧ ImA K H xs (roots.map pD) ∧ NmOk nms ∧ (∀ n, NamesOf cs n → n ∈ nms) ∧ (∀ n ∈ roots, n ∈ nms) ∧ (cs.map (·.1)).Nodup ∧ cs.length < 1000 ∧ roots.length < 1000 ∧
  ∀ v L H', Kp [] H H' → Reach cs (rootsN roots) 0 L → GrA K H' v roots L cs → Q v H'
def fthing (cs : List (Ky × Cell)) (L : List Nm) (n : Nm) (k : Ky) : Option D := (fstep cs n k).map fun p => .tup [.text p.1, numV (ixOf L) p.2]
theorem fthing_all (cs : List (Ky × Cell)) (L : List Nm) (n : Nm) : (skeys cs).filterMap (fthing cs L n) = thing cs L n := by
  unfold thing fieldsOf
  rw [List.map_filterMap]
  rfl
theorem ok__law_graph (T : TX P K mg) : Ok P w K mg base (CX0) 3 ("_law_graph", none) p__law_graph (sp__law_graph P w K) := by
  refine T.ok 71 (d := d__law_graph) rfl rfl rfl sc__law_graph (fun _ _ _ _ _ _ us hl => match us, hl with | [_, _], _ => rfl) (fun vs H Q E h => ?_) fun cdv Ar outer sh H vs Q E hr h => ?_
  · obtain ⟨d, r, cs, xs, roots, nms, rfl, _⟩ := h; rfl
  · obtain ⟨d, r, cs, xs, roots, nms, rfl, ce, hr0, im, no, hn, hrn, nd, hz, hzr, q⟩ := h
    obtain ⟨hu, hu1, hu65⟩ := rm_of hr
    refine ⟨_, PSs.nox (pss_cons (ps_set (i := 2) sc__law_graph.nd rfl (Or.inr rfl) (pe_fn (ok__law_reach T) T.g__law_reach (hr.mono (by decide)) pass0 (pa_cons (pv 0) (pa_cons (pv 1) pa_nil))))
      (pss_cons (ps_set (i := 3) sc__law_graph.nd rfl (Or.inl rfl) (pe_lst pa_nil))
      (pss_cons (ps_for PassesOwn.never rfl (pi_list (pv 2)) (pg_name (i := 4) sc__law_graph.nd rfl (Or.inl rfl))
      (pss_cons (ps_set (i := 5) sc__law_graph.nd rfl (Or.inl rfl) (pe_lst pa_nil))
      (pss_cons (ps_for PassesOwn.never rfl (pi_list (pe_callB (call_sortN hu rfl) (by rfl) T.f_sorted (by decide +kernel) (pa_cons (pv 0) pa_nil))) (pg_name (i := 6) sc__law_graph.nd rfl (Or.inl rfl))
      (pss_cons (ps_set (i := 7) sc__law_graph.nd rfl (Or.inl rfl) (pe_ix ix_tup (pe_ix (ix_dn hu) (pv 0) (pv 6) (fun _ _ => rfl)) pe_int (fun _ _ => rfl)))
      (pss_one (ps_if (PW.pt (pw_and (pt_cmpR (op_eqI hu) (pe_ix ix_tup (pv 6) pe_int (fun _ _ => rfl)) (pv 4) (nomark _)) (pw_and1 (pt_cmpR op_notN1 (pv 7) pe_non (nomark _)))))
      (pss_cons (ps_if (pt_cmpR op_notN1 (pe_fn (ok__law_target T) T.g__law_target (hr.mono (by decide)) pass0 (pa_cons (pv 7) pa_nil)) pe_non (nomark _))
      (pss_one (ps_set (i := 7) sc__law_graph.nd rfl (Or.inl rfl) (pe_tup (pa_cons pe_str (pa_cons (pe_bm PySem.F.plainAttrs_list PySem.F.slot_list_index PySem.F.type_list_index (mt_indexI hu65) (pv 2) (pa_cons (pe_ix ix_tup (pv 7) pe_int (fun _ _ => rfl)) pa_nil)) pa_nil)))))
      pss_nil)
      (pss_one (ps_expr (pe_bm PySem.F.plainAttrs_list PySem.F.slot_list_append PySem.F.type_list_append mt_append (pv 5) (pa_cons (pe_tup (pa_cons (pe_ix ix_tup (pv 6) pe_int (fun _ _ => rfl)) (pa_cons (pv 7) pa_nil))) pa_nil)))))
      pss_nil))))
      (pss_one (ps_expr (pe_bm PySem.F.plainAttrs_list PySem.F.slot_list_append PySem.F.type_list_append mt_append (pv 3) (pa_cons (pe_frz (pv 5)) pa_nil)))))))
      (pss_one (ps_ret (pe_tup (pa_cons (pe_lcW (own := [("_law_name", 4)]) sh rfl sc__law_graph.nd (pi_list (pv 1)) (blkOk_by (own := [("_law_name", 4)]) (N := n__law_graph) (sc := defScope s__law_graph) (by decide +kernel)) (pg_name (i := 4) sc__law_graph.nd rfl (Or.inl rfl)) pts_nil (pe_bm PySem.F.plainAttrs_list PySem.F.slot_list_index PySem.F.type_list_index (mt_indexI hu65) (pv 2) (pa_cons (pv 4) pa_nil)) (fun _ _ _ _ _ => (pg_name (i := 4) sc__law_graph.nd rfl (Or.inl rfl))) (fun _ _ _ _ _ => pts_nil) (fun _ _ _ _ _ => (pe_bm PySem.F.plainAttrs_list PySem.F.slot_list_index PySem.F.type_list_index (mt_indexI hu65) (pv 2) (pa_cons (pv 4) pa_nil)))) (pa_cons (pv 3) pa_nil)))))))), ?_⟩
    walk_at "w"
    refine ⟨d, r, cs, xs, roots, nms, rfl, ce, hr0, im, no, hn, hrn, nd, hz, hzr, fun p L H1 n1 k1 lm rch => ?_⟩
    have Lnd : L.Nodup := rch.nd (roots_nd List.nodup_nil)
    have Lsub : ∀ n ∈ L, n ∈ nms := rch.sub (fun n hm => hrn n ((roots_mem.mp hm).resolve_left (by simp))) hn
    have Llen : L.length < 60 := Nat.lt_of_le_of_lt (nodup_len Lnd Lsub) no.few
    obtain ⟨ys, e1, imL⟩ := id lm
    walk_at "w"
    refine rd_klst (by simp) fun th H2 n2 k2 e2 => ?_
    walk_at "w"
    have nth : H th = none := k1.none n2
    have npt : p ≠ th := ne_of_none e1 n2
    refine rd_kil (.inl (.inl (k2.get e1 (by simp)))) ?_
    refine for_it (walk_list (xs := ys)) (fun i σ H' => ∃ x y z u zs, σ = [some (.ref d), some (.ref r), some (.ref p), some (.ref th), x, y, z, u] ∧ Kp [] H H' ∧ H' p = some (.lst ys) ∧ ImA K H' ys (L.map pD) ∧ H' th = some (.lst zs) ∧ ThP K H' cs L zs (L.take i))
      ⟨_, _, _, _, [], rfl, k1.trans k2, k2.get e1 (by simp), imL.up k2, e2, .nil⟩ (fun i σ H' _ ⟨_, _, _, _, _, _, _, h, _⟩ => .inl (.inl h)) ?_ ?_
    · rintro i x σ _ H5 hi ⟨x0, y0, z0, u0, zs, rfl, k5, hp5, im5, ht5, th5⟩ ⟨rfl, hx⟩
      obtain ⟨n, hn1, hn2⟩ := im5.at hx
      walk_at "w"
      refine rd_klst (by simp) fun fl H6 n6 k6 e6 => ?_
      walk_at "w"
      have k06 := k5.trans k6
      refine rd_sortV (ce.up st_ce k06 (by simp)).r (srtOk_ky _) fun pl ks H7 n7 k7 e7 im7 => ?_
      have npl : pl ≠ fl := (ne_of_none e6 n7).symm
      refine rd_kil (.inl (.inl e7)) ?_
      refine for_it (walk_list (xs := ks)) (fun j σ H' => ∃ (y z : Option V), ∃ acc, σ = [some (.ref d), some (.ref r), some (.ref p), some (.ref th), some x, some (.ref fl), y, z] ∧ Kp [] H5 H' ∧ H' pl = some (.lst ks) ∧ ImA K H' ks ((skeys cs).map kyD) ∧ H' fl = some (.lst acc) ∧ ImA K H' acc (((skeys cs).take j).filterMap (fthing cs L n)))
        ⟨_, _, [], rfl, k6.trans k7, e7, im7, k7.get e6 (by simp), .nil⟩ (fun j σ H' _ ⟨_, _, _, _, _, h, _⟩ => .inl (.inl h)) ?_ ?_
      · rintro j x9 σ _ H9 hj ⟨y9, z9, acc, rfl, k9, hpl, imk, hfl, ima⟩ ⟨rfl, hx9⟩
        obtain ⟨k, hk, ik⟩ := imk.at hx9
        have hkm : k ∈ cs.map (·.1) := srt_mem.mp (List.mem_of_getElem? hk)
        obtain ⟨A, hA⟩ := Option.isSome_iff_exists.mp (aget_isSome.mpr hkm)
        have hv : vlC cs k = A.2 := by unfold vlC; rw [hA]
        have ce2 := ce.up st_ce (k5.trans k9) (by simp)
        have acl : acc.length < 1000 := by
          rw [ima.len]
          have := List.length_filterMap_le (fthing cs L n) ((skeys cs).take j)
          have h2 : ((skeys cs).take j).length ≤ (skeys cs).length := by rw [List.length_take]; omega
          have h3 : (skeys cs).length = cs.length := by rw [srt_len, List.length_map]
          omega
        have ts : ((skeys cs).take (j + 1)).filterMap (fthing cs L n) = ((skeys cs).take j).filterMap (fthing cs L n) ++ (match fthing cs L n k with | some z => [z] | none => []) := by
          rw [take_snoc hk, List.filterMap_append]
          congr 1
          cases h : fthing cs L n k <;> simp [h]
        have stay : fthing cs L n k = none → ImA K H9 acc (((skeys cs).take (j + 1)).filterMap (fthing cs L n)) := fun h => by
          rw [ts, h, List.append_nil]
          exact ima
        walk_at "w"
        refine rd_getV ce2.r kF_ky ik hA fun v iv => ?_
        walk_at "w"
        refine rd_ixI (k := vlD A.2) iv rfl fun v2 iv2 => ?_
        walk_at "w"
        refine rd_ixI (k := pD k.1) ik rfl fun v3 iv3 => ?_
        walk_at "w"
        refine rd_eqI iv3 (hn2.up k9) (shp_p _) (shp_p _) ?_
        walk_at "w"
        refine rd_if (fun hb => ?_) fun hb => ?_
        · have ek : k.1 = n := pD_inj (of_decide_eq_true hb)
          walk_at "w"
          rw [vl_non iv2]
          refine rd_if (fun hb2 => ?_) fun hb2 => ?_
          · have e2 : vlC cs k ≠ .non := by rw [hv]; simpa using hb2
            have ef : fthing cs L n k = some (.tup [.text k.2, numV (ixOf L) A.2]) := by unfold fthing fstep; rw [if_pos ⟨ek, e2⟩, hv]; rfl
            have fin : ∀ (v5 : V) (H10 : Hp), Kp [] H9 H10 → Im K H10 v5 (numV (ixOf L) A.2) → ∀ v6 H11, Kp [] H10 H11 → Im K H11 v6 (.tup [.text k.2, numV (ixOf L) A.2]) → ImA K (upd H11 fl (.lst (acc ++ [v6]))) (acc ++ [v6]) (((skeys cs).take (j + 1)).filterMap (fthing cs L n)) ∧ Kp [] H5 (upd H11 fl (.lst (acc ++ [v6]))) ∧ (upd H11 fl (.lst (acc ++ [v6]))) pl = some (.lst ks) ∧ ImA K (upd H11 fl (.lst (acc ++ [v6]))) ks ((skeys cs).map kyD) := fun v5 H10 k10 i5 v6 H11 k11 i6 => by
              have kk := k10.trans k11
              have kw : Kp [fl] H11 (upd H11 fl (.lst (acc ++ [v6]))) := Kp.refl.wl (kk.get hfl (by simp)) (by simp)
              refine ⟨?_, (k9.trans kk).wrn n6, by rw [upd_ne npl]; exact kk.get hpl (by simp), (imk.up kk).up kw⟩
              rw [ts, ef]
              exact ImA.snoc ((ima.up kk).up kw) (i6.up kw)
            walk_at "w"
            refine ⟨v2, A.2, rfl, iv2, fun y hy => ?_⟩
            walk_at "w"
            rw [tg_non hy]
            cases hvl : A.2 with
            | rf t =>
              rw [hvl] at iv2 fin
              refine rd_ifT rfl ?_
              walk_at "w"
              have htL : t ∈ L := rch.closed i n (Nat.zero_le _) hn1 (k.2, .rf t) (List.mem_filterMap.mpr ⟨k, List.mem_of_getElem? hk, by unfold fstep; rw [if_pos ⟨ek, e2⟩, hv, hvl]⟩) t rfl
              refine rd_kbmL (.inl (.inl (k9.get hp5 (by simp)))) ?_
              walk_at "w"
              refine rd_ixI (k := pD t) iv2 rfl fun v4 iv4 => ?_
              walk_at "w"
              refine rd_indexP ⟨p, ys, rfl, .inl (.inl (k9.get hp5 (by simp))), im5.up k9⟩ iv4 Lnd htL ?_
              walk_at "w"
              refine rd_ktup (K := K) (ks := [.text "ref", .num (ixOf L t)]) (.cons (.text _) (.cons (.num _) .nil)) (by simp) fun v5 H10 k10 i5 => ?_
              walk_at "w"
              refine rd_kbmL (.inl (.inl (k10.get hfl (by simp)))) ?_
              walk_at "w"
              refine rd_ixI (k := .text k.2) (ik.up k10) rfl fun v7 iv7 => ?_
              walk_at "w"
              refine rd_ktup (K := K) (ks := [.text k.2, numV (ixOf L) (.rf t)]) (.cons iv7 (.cons i5 .nil)) (by simp) fun v6 H11 k11 i6 => ?_
              walk_at "w"
              obtain ⟨f1, f2, f3, f4⟩ := fin v5 H10 k10 i5 v6 H11 k11 i6
              refine rd_append (k11.get (k10.get hfl (by simp)) (by simp)) (by omega) ?_
              walk_at "w"
              exact ⟨_, _, _, rfl, f2, f3, f4, upd_same, f1⟩
            | _ =>
              rw [hvl] at iv2 fin
              refine rd_ifF rfl ?_
              walk_at "w"
              refine rd_kbmL (.inl (.inl hfl)) ?_
              walk_at "w"
              refine rd_ixI (k := .text k.2) ik rfl fun v7 iv7 => ?_
              walk_at "w"
              refine rd_ktup (K := K) (.cons iv7 (.cons iv2 .nil)) (by simp) fun v6 H11 k11 i6 => ?_
              walk_at "w"
              obtain ⟨f1, f2, f3, f4⟩ := fin v2 H9 Kp.refl iv2 v6 H11 k11 i6
              refine rd_append (k11.get hfl (by simp)) (by omega) ?_
              walk_at "w"
              exact ⟨_, _, _, rfl, f2, f3, f4, upd_same, f1⟩
          · walk_at "w"
            exact ⟨_, _, acc, rfl, k9, hpl, imk, hfl, stay (by unfold fthing fstep; rw [if_neg (fun z => z.2 (by rw [hv]; simpa using hb2))]; rfl)⟩
        · walk_at "w"
          exact ⟨_, _, acc, rfl, k9, hpl, imk, hfl, stay (by unfold fthing fstep; rw [if_neg (fun z => of_decide_eq_false hb (by rw [z.1]))]; rfl)⟩
      · rintro σ H9 ⟨y9, z9, acc, rfl, k9, hpl, imk, hfl, ima⟩
        rw [ImA.mlen im7, List.take_length, fthing_all] at ima
        walk_at "w"
        refine rd_kbmL (.inl (.inl (k9.get ht5 (by simp)))) ?_
        walk_at "w"
        refine ⟨fl, _, hfl, trivial, fun o2 => ?_⟩
        have k10 : Kp [] H5 (upd H9 fl (.frz o2 (.lst acc))) := k9.wrn n6
        have e10 : Fz (upd H9 fl (.frz o2 (.lst acc))) (.ref fl) acc := Fz.new
        have im10 := ima.up (Kp.wr (F := [fl]) (p := fl) (o := .frz o2 (.lst acc)) (by rw [hfl]; trivial) (by simp))
        generalize upd H9 fl (.frz o2 (.lst acc)) = H10 at k10 e10 im10 ⊢
        walk_at "w"
        have ht10 := k10.get ht5 (by simp)
        have zl : zs.length ≤ L.length := by
          rw [Paired.length th5, List.length_take]
          omega
        refine rd_append ht10 (by omega) ?_
        walk_at "w"
        have kw : Kp [th] H10 (upd H10 th (.lst (zs ++ [.ref fl]))) := Kp.refl.wl ht10 (by simp)
        refine ⟨_, _, _, _, _, rfl, (k5.trans k10).wrn nth, by rw [upd_ne npt]; exact k10.get hp5 (by simp), (im5.up k10).up kw, upd_same, ?_⟩
        rw [take_snoc hn1]
        exact Paired.snoc (Paired.mapP th5 fun _ _ ⟨ys, a, b⟩ => ⟨ys, (a.up k10).up kw, (b.up k10).up kw⟩) ⟨acc, e10.up kw, im10.up kw⟩
    · rintro σ H5 ⟨x0, y0, z0, u0, zs, rfl, k5, hp5, im5, ht5, th5⟩
      rw [ImA.mlen imL, List.take_length] at th5
      walk_at "w"
      refine rd_kil (sql_kp k5 (by simp) hr0) ?_
      intro q0 nq0
      refine lc_it (walk_list (xs := xs)) (fun j H6 => Kp [] H5 H6 ∧ H6 q0 = some (.lst ((roots.take j).map fun n => .int (ixOf L n)))) ⟨Kp.new nq0, upd_same⟩ (fun j H6 _ ⟨k, _⟩ => sql_kp (k5.trans k) (by simp) hr0) ?_ ?_
      · rintro j x _ H6 hj ⟨k6, hq⟩ ⟨rfl, hx⟩
        obtain ⟨n, hn1, hn2⟩ := (im.up (k5.trans k6)).at hx
        walk_at "w"
        refine ⟨rfl, ?_⟩
        walk_at "w"
        have hnL : n ∈ L := by
          obtain ⟨m, em⟩ := rch.goes
          rw [em]
          exact List.mem_append_left _ (roots_mem.mpr (.inr (List.mem_of_getElem? hn1)))
        refine rd_kbmL (.inl (.inl (k6.get hp5 (by simp)))) ?_
        walk_at "w"
        refine rd_indexP ⟨p, ys, rfl, .inl (.inl (k6.get hp5 (by simp))), im5.up k6⟩ hn2 Lnd hnL ?_
        refine ⟨_, hq, Nat.lt_of_lt_of_le (show _ < 1000 by rw [List.length_map, List.length_take]; omega) (by decide), k6.wrn nq0, ?_⟩
        rw [take_snoc hn1, List.map_append]
        exact upd_same
      · rintro H6 ⟨k6, hq⟩
        rw [ImA.mlen im, List.take_length] at hq
        walk_at "w"
        refine rd_ktup' (K := K) (by simp) fun t H7 n7 k7 st => ?_
        have k57 := k6.trans k7
        exact q _ L H7 (k5.trans k57) rch ⟨t, q0, th, zs, rfl, st, .inl (.inl (k7.get hq (by simp))), .inl (.inl (k57.get ht5 (by simp))), Paired.mapP th5 fun _ _ ⟨ys, a, b⟩ => ⟨ys, a.up k57, b.up k57⟩⟩
end
end GT
set_option maxHeartbeats 2000000
namespace GT
open PySem PySem.Spec PyProof.Rows L2
local macro_rules | `(tactic| walk_at "v") => `(tactic| ((with_reducible show tVar _ _ _ _); refine rd_var rfl ?_))
local macro_rules | `(tactic| walk_at "s1") => `(tactic| with_reducible first | refine rd_cons ?_ | refine rd_nil ?_ | refine rd_c ?_ | refine rd_op ?_ | refine rd_seq ?_ | refine rd_fld ?_ | refine rd_asg ?_ | refine rd_gname ?_ | refine rd_I0 ?_ | refine rd_cb ?_ | refine rd_next ?_ | refine rd_drop ?_ | refine rd_ret ?_ | refine rd_mf ?_ | refine rd_cf ?_ | refine rd_ifS ?_ | refine rd_test ?_ | refine rd_kt ?_)
local macro_rules | `(tactic| walk_at "s2") => `(tactic| with_reducible first | refine rd_tup ?_ | refine rd_lst ?_ | refine rd_bm ?_ | refine rd_gcons ?_ | refine rd_gnil ?_ | refine rd_gsub ?_ | refine rd_dm ?_ | refine rd_sfld ?_ | refine rd_fa ?_ | refine rd_frz ?_ | refine rd_nf ?_ | refine rd_retN ?_ | refine rd_cont ?_ | refine rd_par ?_ | refine rd_un ?_ | refine rd_and ?_ | refine rd_or ?_ | refine rd_not ?_ | refine rd_tru ?_ | refine rd_B ?_ | refine rd_chain ?_ | refine rd_sl ?_ | refine rd_nopart ?_ | refine rd_part ?_ | refine rd_kpart ?_)
local macro_rules | `(tactic| walk_at "s3") => `(tactic| with_reducible first | refine rd_U ?_ | refine rd_eqi ?_ | refine rd_nei ?_ | refine rd_eqs ?_ | refine rd_nes ?_ | refine rd_isN ?_ | refine rd_notN ?_ | refine rd_max2 ?_ | refine rd_min2 ?_ | refine rd_int1 ?_ | refine rd_intb ?_ | refine rd_kbmS ?_ | refine rd_il ?_ | refine rd_it ?_ | refine rd_ir1 ?_ | refine rd_ir2 ?_ | refine rd_in ?_ | refine rd_for ?_ | refine rd_lc ?_ | refine rd_yes ?_ | refine rd_tt ?_ | refine rd_ff ?_ | refine rd_listRg ?_ | refine rd_andV ?_ | refine rd_orV ?_ | refine rd_notV ?_ | refine rd_ex ?_)
local macro_rules | `(tactic| walk_at "c") => `(tactic| first | exact TX.c_Channel (by assumption) | exact TX.c_State (by assumption) | exact TX.c_Message (by assumption) | exact TX.c_Replica (by assumption) | exact TX.c_Network (by assumption))
local macro_rules | `(tactic| walk_at "n") => `(tactic| first | exact TX.n_Channel_under_way (by assumption) | exact TX.n_State_cells (by assumption) | exact TX.n_Message_octets (by assumption) | exact TX.n_Message_place (by assumption) | exact TX.n_Message_known (by assumption) | exact TX.n_Replica_peer (by assumption) | exact TX.n_Replica_clock (by assumption) | exact TX.n_Replica_made (by assumption) | exact TX.n_Replica_state (by assumption) | exact TX.n_Replica_roots (by assumption) | exact TX.n_Replica_pending (by assumption) | exact TX.n_Replica_messages (by assumption) | exact TX.n_Network_replicas (by assumption) | exact TX.n_Network_channels (by assumption))
local macro_rules | `(tactic| walk_at "f") => `(tactic| ((with_reducible show KFld _ _ _ _ _); refine rd_kfld (by assumption) (by walk_at "c") (by walk_at "n") rfl ?_))
local macro_rules | `(tactic| walk_at "g") => `(tactic| ((with_reducible show KSf _ _ _ _ _ _); refine rd_ksf (by assumption) (by walk_at "c") (by walk_at "n") (by simp) ?_))
local macro_rules | `(tactic| walk_at "w") => `(tactic| repeat (first | walk_at "v" | walk_at "s1" | walk_at "f" | walk_at "s2" | walk_at "s3"))
/-! ### octets of numbers, words, names, values, changes, messages -/
def numO : Nat → Int → List Int
  | 0, _ => []
  | k + 1, n => (n / 256 ^ k) % 256 :: numO k n
def strO (z : Str) : List Int := z.cps.toList.map Int.ofNat
def wordO (z : Str) : List Int := (z.length : Int) :: strO z
def nameO (n : Nm) : List Int := n.1 :: numO 4 n.2
def worthO : Vl → List Int
  | .non => [0]
  | .num i => 1 :: numO 3 (i + 1000000)
  | .txt z => 2 :: wordO z
  | .rf n => 3 :: nameO n
def chO (c : Ch) : List Int := numO 4 c.st.1 ++ [c.st.2] ++ nameO c.nm ++ wordO c.fd ++ worthO c.vl
def chkS (s : Int × Int) (o : Int) : Int × Int := ((s.1 + o) % 256, (s.2 + (s.1 + o) % 256) % 256)
def chkL (os : List Int) : Int × Int := os.foldl chkS (0, 0)
def chkO (os : List Int) : List Int := [(chkL os).2, (chkL os).1]
def bodyO (s n : Int) (cs : List Ch) : List Int := [s] ++ numO 4 n ++ numO 2 cs.length ++ cs.flatMap chO
def msgO (s n : Int) (cs : List Ch) : List Int := bodyO s n cs ++ chkO (bodyO s n cs)
theorem numO_len : ∀ (k : Nat) (n : Int), (numO k n).length = k
  | 0, _ => rfl
  | k + 1, n => by rw [numO, List.length_cons, numO_len k n]
/-- a word of small letters -/
structure WdOk (z : Str) : Prop where
  lo : ∀ c ∈ z.cps.toList, 97 ≤ c ∧ c ≤ 122
  few : z.length ≤ 20
def VlW : Vl → Prop
  | .txt z => WdOk z
  | _ => True
structure ChW (c : Ch) : Prop where
  fd : WdOk c.fd
  vl : VlW c.vl
theorem wordO_len (z : Str) : (wordO z).length = z.length + 1 := by
  unfold wordO strO
  rw [List.length_cons, List.length_map]
  rfl
theorem worthO_len {v : Vl} (h : VlW v) : (worthO v).length ≤ 22 := by
  cases v with
  | non => simp [worthO]
  | num i => simp [worthO, numO_len]
  | txt z => have := (show WdOk z from h).few; simp [worthO, wordO_len]; omega
  | rf n => simp [worthO, nameO, numO_len]
theorem chO_len {c : Ch} (h : ChW c) : (chO c).length ≤ 60 := by
  have h1 := worthO_len h.vl
  have h2 := h.fd.few
  simp only [chO, List.length_append, numO_len, wordO_len, nameO, List.length_cons, List.length_nil]
  omega
theorem idx_letter : ∀ c : Fin 26, Txt.index0 "abcdefghijklmnopqrstuvwxyz" ⟨#[97 + c.val]⟩ = some c.val := by decide +kernel
theorem idx_let {c : Nat} (h : 97 ≤ c ∧ c ≤ 122) : Txt.index0 "abcdefghijklmnopqrstuvwxyz" ⟨#[c]⟩ = some (c - 97) := by
  have := idx_letter ⟨c - 97, by omega⟩
  have e : 97 + (c - 97) = c := by omega
  simp only [e] at this
  exact this
section
variable {P : Program} {w : World} {K : PySem.W.Frag} {mg : Str → Option Value} {base : Heap}
theorem rd_istr {te : TE} {σ : L2.St} {H : Hp} {R : It → Hp → Prop} (h : te σ H fun x H1 => ∃ z, x = .str z ∧ R (Its z) H1) : iStr te σ H R := h
abbrev QO (H : Hp) (Q : VK) (os : List Int) : Prop := ∀ p H', H p = none → Kp [] H H' → H' p = some (.lst (os.map V.int)) → Q (.ref p) H'
theorem rd_catI {H H0 : Hp} {Q : VK} {a b : Addr} {xs ys : List Int} (h1 : H a = some (.lst (xs.map V.int))) (h2 : H b = some (.lst (ys.map V.int))) (hz : xs.length + ys.length ≤ 100000) (k : Kp [] H0 H) (q : QO H0 Q (xs ++ ys)) : rCatL (.ref a) (.ref b) H Q :=
  rd_cat (.inl h1) (.inl h2) (by simpa using hz) fun p H' n k' e => q p H' (k.none n) (k.trans k') (by rw [List.map_append]; exact e)
def KBmS (K : PySem.W.Frag) (T : String) (r : L2.St → V → List V → Hp → VK → Prop) (t : TA) (σ : L2.St) (Q : VK) : VK := fun x H1 => tyV K T x H1 ∧ t σ H1 fun xs H2 => r σ x xs H2 Q
theorem rd_bmS {T : String} {r : L2.St → V → List V → Hp → VK → Prop} {ta : TE} {tA : TA} {σ : L2.St} {H : Hp} {Q : VK} (h : ta σ H (KBmS K T r tA σ Q)) : tBMS K T r ta tA σ H Q := h
theorem rd_kbmSS {r : L2.St → V → List V → Hp → VK → Prop} {tA : TA} {σ : L2.St} {H : Hp} {Q : VK} {z : Str} (h : tA σ H fun xs H2 => r σ (.str z) xs H2 Q) : KBmS K "str" r tA σ Q (.str z) H := ⟨rfl, h⟩
theorem rd_idxX {W : WX} {σ : L2.St} {H : Hp} {Q : VK} {a b : Str} {k : Nat} (e : Txt.index0 a b = some k) (q : Q (.int k) H) : rIndexX W σ (.str a) [.str b] H Q :=
  ⟨a, b, rfl, rfl, fun j h => by rw [e] at h; cases h; exact q, fun h => by rw [e] at h; cases h⟩
abbrev sp_number_octets (P : Program) (w : World) (K : PySem.W.Frag) : Sp := fun vs H Q _ => ∃ (n : Int) (k : Nat), vs = [.int n, .int k] ∧ k ≤ 4 ∧ QO H Q (numO k n)
theorem mod_shift (n : Int) (i : Nat) : (n / 256 ^ i) / 256 = n / 256 ^ (i + 1) := by
  rw [Int.pow_succ, Int.ediv_ediv_of_nonneg (Int.le_of_lt (Int.pow_pos (by decide)))]
theorem ok_number_octets (T : TX P K mg) : Ok P w K mg base (CX0) 1 ("number_octets", none) p_number_octets (sp_number_octets P w K) := by
  refine T.ok 27 (d := d_number_octets) rfl rfl rfl sc_number_octets (fun _ _ _ _ _ _ us hl => match us, hl with | [_, _], _ => rfl) (fun vs H Q E h => ?_) fun cdv Ar outer sh H vs Q E hr h => ?_
  · obtain ⟨n, k, rfl, _⟩ := h; rfl
  · obtain ⟨n, k, rfl, hk, q⟩ := h
    obtain ⟨hu, hu1, hu65⟩ := rm_of hr
    refine ⟨_, PSs.nox (pss_cons (ps_set (i := 2) sc_number_octets.nd rfl (Or.inl rfl) (pe_lst pa_nil))
      (pss_cons (ps_set (i := 3) sc_number_octets.nd rfl (Or.inl rfl) (pv 0))
      (pss_cons (ps_for PassesOwn.never rfl (pi_range1 (by rfl) T.f_range (pa_cons (pv 1) pa_nil)) (pg_name (i := 4) sc_number_octets.nd rfl (Or.inl rfl))
      (pss_cons (ps_expr (pe_bm PySem.F.plainAttrs_list PySem.F.slot_list_insert PySem.F.type_list_insert mt_insQ (pv 2) (pa_cons pe_int (pa_cons (pe_op op_mod (pv 3) pe_int) pa_nil))))
      (pss_one (ps_set (i := 3) sc_number_octets.nd rfl (Or.inl rfl) (pe_op op_fdiv (pv 3) pe_int)))))
      (pss_one (ps_ret (pv 2)))))), ?_⟩
    walk_at "w"
    refine rd_klst (by simp) fun p H1 n1 k1 e1 => ?_
    walk_at "w"
    refine rd_kir1 (by omega) (by omega) ?_
    refine for_it walk_range (fun i σ H' => ∃ x, σ = [some (.int n), some (.int k), some (.ref p), some (.int (n / 256 ^ i)), x] ∧ Kp [] H H' ∧ H' p = some (.lst ((numO i n).map V.int))) ⟨none, by simp; rfl, k1, e1⟩ (fun _ _ _ _ _ => trivial) ?_ ?_
    · rintro i _ σ _ H' hi ⟨x, rfl, kk, hp⟩ ⟨rfl, rfl⟩
      have hi4 : i < 4 := by omega
      walk_at "w"
      refine rd_kbmL (.inl (.inl hp)) ?_
      walk_at "w"
      refine rd_I (show (0 : Int) < 256 by decide) ?_
      walk_at "w"
      refine rd_ins0 hp (by rw [List.length_map, numO_len]; omega) ?_
      walk_at "w"
      refine rd_I ⟨by decide, by decide⟩ ?_
      walk_at "w"
      exact ⟨some (.int (0 + (i : Int))), by rw [← mod_shift]; rfl, kk.wrn n1, upd_same⟩
    · rintro σ H' ⟨x, rfl, kk, hp⟩
      walk_at "w"
      rw [Int.toNat_natCast] at hp
      exact q p H' n1 kk hp
abbrev sp_word_octets (P : Program) (w : World) (K : PySem.W.Frag) : Sp := fun vs H Q _ => ∃ z : Str, vs = [.str z] ∧ WdOk z ∧ QO H Q (wordO z)
theorem ok_word_octets (T : TX P K mg) : Ok P w K mg base (CX0) 1 ("word_octets", none) p_word_octets (sp_word_octets P w K) := by
  refine T.ok 28 (d := d_word_octets) rfl rfl rfl sc_word_octets (fun _ _ _ _ _ _ us hl => match us, hl with | [_], _ => rfl) (fun vs H Q E h => ?_) fun cdv Ar outer sh H vs Q E hr h => ?_
  · obtain ⟨z, rfl, _⟩ := h; rfl
  · obtain ⟨z, rfl, ok, q⟩ := h
    obtain ⟨hu, hu1, hu65⟩ := rm_of hr
    refine ⟨_, PSs.nox (pss_one (ps_ret (pe_op op_catL (pe_lst (pa_cons (pe_callB call_lenZ (by rfl) T.f_len (by decide +kernel) (pa_cons (pv 0) pa_nil)) pa_nil)) (pe_lcW (own := [("sign", 1)]) sh rfl sc_word_octets.nd (pi_str (pv 0)) (blkOk_by (own := [("sign", 1)]) (N := n_word_octets) (sc := defScope s_word_octets) (by decide +kernel)) (pg_name (i := 1) sc_word_octets.nd rfl (Or.inl rfl)) pts_nil (pe_op op_add (pe_gi T.i_CODE) (pe_bmS PySem.F.plainAttrs_str PySem.F.slot_str_index PySem.F.type_str_index (mt_indexX rfl takes0) (pe_gs T.s_LETTERS) (pa_cons (pv 1) pa_nil))) (fun _ _ _ _ _ => (pg_name (i := 1) sc_word_octets.nd rfl (Or.inl rfl))) (fun _ _ _ _ _ => pts_nil) (fun _ _ _ _ _ => (pe_op op_add (pe_gi T.i_CODE) (pe_bmS PySem.F.plainAttrs_str PySem.F.slot_str_index PySem.F.type_str_index (mt_indexX rfl takes0) (pe_gs T.s_LETTERS) (pa_cons (pv 1) pa_nil)))))))), ?_⟩
    have hf := ok.few
    walk_at "w"
    refine rd_lenZ (by omega) ?_
    walk_at "w"
    refine rd_klst (by simp) fun p H1 n1 k1 e1 => ?_
    walk_at "w"
    refine rd_istr ?_
    walk_at "w"
    refine ⟨z, rfl, ?_⟩
    intro D hD
    refine lc_it walk_str (fun i H' => Kp [] H1 H' ∧ H' D = some (.lst (((z.cps.toList.take i).map Int.ofNat).map V.int))) ⟨Kp.new hD, upd_same⟩ (fun _ _ _ _ => trivial) ?_ ?_
    · rintro i x _ H' hi ⟨kk, hp⟩ ⟨rfl, c, hc, rfl⟩
      have hc' : z.cps.toList[i]? = some c := by rw [Array.getElem?_toList]; exact hc
      have lc := ok.lo c (List.mem_of_getElem? hc')
      have hil : i < z.length := hi
      walk_at "w"
      refine ⟨rfl, ?_⟩
      walk_at "w"
      refine rd_bmS ?_
      walk_at "w"
      refine rd_kbmSS ?_
      walk_at "w"
      refine rd_idxX (idx_let lc) ?_
      walk_at "w"
      refine ⟨_, hp, Nat.lt_of_lt_of_le (show _ < 1000 by rw [List.length_map, List.length_map, List.length_take]; omega) (by decide), kk.wrn hD, ?_⟩
      rw [take_snoc hc', List.map_append, List.map_append]
      have : (97 : Int) + ((c - 97 : Nat) : Int) = Int.ofNat c := by show _ = (c : Int); omega
      rw [this]
      exact upd_same
    · rintro H' ⟨kk, hp⟩
      have e : z.cps.toList.take z.cps.size = z.cps.toList := List.take_of_length_le (by simp)
      rw [e] at hp
      refine rd_catI (xs := [(z.length : Int)]) (kk.get e1 (by simp)) hp (by simp [strO]; have : z.cps.size ≤ 20 := hf; omega) (k1.trans kk) q
abbrev sp_name_octets (P : Program) (w : World) (K : PySem.W.Frag) : Sp := fun vs H Q _ => ∃ (v : V) (n : Nm), vs = [v] ∧ Im K H v (pD n) ∧ QO H Q (nameO n)
theorem QO.up {H H1 : Hp} {Q : VK} {os : List Int} (q : QO H Q os) (k : Kp [] H H1) : QO H1 Q os := fun p H' n k' e => q p H' (k.none n) (k.trans k') e
theorem ok_name_octets (T : TX P K mg) : Ok P w K mg base (CX0) 2 ("name_octets", none) p_name_octets (sp_name_octets P w K) := by
  refine T.ok 33 (d := d_name_octets) rfl rfl rfl sc_name_octets (fun _ _ _ _ _ _ us hl => match us, hl with | [_], _ => rfl) (fun vs H Q E h => ?_) fun cdv Ar outer sh H vs Q E hr h => ?_
  · obtain ⟨v, n, rfl, _⟩ := h; rfl
  · obtain ⟨v, n, rfl, hv, q⟩ := h
    obtain ⟨hu, hu1, hu65⟩ := rm_of hr
    refine ⟨_, PSs.nox (pss_one (ps_ret (pe_op op_catL (pe_lst (pa_cons (pe_ix ix_tup (pv 0) pe_int (fun _ _ => rfl)) pa_nil)) (pe_fn (ok_number_octets T) T.g_number_octets (hr.mono (by decide)) pass0 (pa_cons (pe_ix ix_tup (pv 0) pe_int (fun _ _ => rfl)) (pa_cons pe_int pa_nil)))))), ?_⟩
    walk_at "w"
    refine rd_ixI (k := .num n.1) hv rfl fun u hu => ?_
    cases hu.int
    walk_at "w"
    refine rd_klst (by simp) fun p H1 n1 k1 e1 => ?_
    walk_at "w"
    refine rd_ixI (k := .num n.2) (hv.up k1) rfl fun u hu => ?_
    cases hu.int
    walk_at "w"
    refine ⟨n.2, 4, rfl, by omega, fun p2 H2 n2 k2 e2 => ?_⟩
    exact rd_catI (xs := [n.1]) (k2.get e1 (by simp)) e2 (by rw [numO_len]; simp) (k1.trans k2) q
abbrev sp_worth_octets (P : Program) (w : World) (K : PySem.W.Frag) : Sp := fun vs H Q _ => ∃ (v : V) (x : Vl), vs = [v] ∧ Im K H v (vlD x) ∧ VlW x ∧ QO H Q (worthO x)
theorem ok_worth_octets (T : TX P K mg) : Ok P w K mg base (CX0) 3 ("worth_octets", none) p_worth_octets (sp_worth_octets P w K) := by
  refine T.ok 34 (d := d_worth_octets) rfl rfl rfl sc_worth_octets (fun _ _ _ _ _ _ us hl => match us, hl with | [_], _ => rfl) (fun vs H Q E h => ?_) fun cdv Ar outer sh H vs Q E hr h => ?_
  · obtain ⟨v, n, rfl, _⟩ := h; rfl
  · obtain ⟨v, x, rfl, hv, ok, q⟩ := h
    obtain ⟨hu, hu1, hu65⟩ := rm_of hr
    refine ⟨_, PSs.nox (pss_cons (ps_if (pt_cmpR op_isN1 (pv 0) pe_non (nomark _))
      (pss_one (ps_ret (pe_lst (pa_cons (pe_gi T.i_NOTHING) pa_nil))))
      pss_nil)
      (pss_cons (ps_if (pt_val (pe_fn (ok_is_reference T) T.g_is_reference (hr.mono (by decide)) pass0 (pa_cons (pv 0) pa_nil)))
      (pss_one (ps_ret (pe_op op_catL (pe_lst (pa_cons (pe_gi T.i_REFERENCE) pa_nil)) (pe_fn (ok_name_octets T) T.g_name_octets (hr.mono (by decide)) pass0 (pa_cons (pe_ix ix_tup (pv 0) pe_int (fun _ _ => rfl)) pa_nil)))))
      pss_nil)
      (pss_cons (ps_if (pt_val (pe_callB call_isiD (by rfl) T.f_isinstance (by decide +kernel) (pa_cons (pv 0) (pa_cons (pe_bltn (v := .ty "str") (by rfl) T.f_str (by decide +kernel) rfl) pa_nil))))
      (pss_one (ps_ret (pe_op op_catL (pe_lst (pa_cons (pe_gi T.i_TEXT) pa_nil)) (pe_fn (ok_word_octets T) T.g_word_octets (hr.mono (by decide)) pass0 (pa_cons (pv 0) pa_nil)))))
      pss_nil)
      (pss_one (ps_ret (pe_op op_catL (pe_lst (pa_cons (pe_gi T.i_INTEGER) pa_nil)) (pe_fn (ok_number_octets T) T.g_number_octets (hr.mono (by decide)) pass0 (pa_cons (pe_op op_add (pv 0) (pe_gi T.i_INTEGER_MOST)) (pa_cons pe_int pa_nil))))))))), ?_⟩
    walk_at "w"
    rw [vl_non hv]
    refine rd_if (fun hb => ?_) fun hb => ?_
    · have e : x = .non := of_decide_eq_true hb
      subst e
      walk_at "w"
      exact rd_klst (by simp) fun p H1 n1 k1 e1 => q p H1 n1 k1 e1
    · have hx : x ≠ .non := of_decide_eq_false hb
      walk_at "w"
      refine ⟨v, x, rfl, hv, ?_⟩
      walk_at "w"
      cases x with
      | non => exact (hx rfl).elim
      | rf n =>
        refine rd_ifT rfl ?_
        walk_at "w"
        refine rd_klst (by simp) fun p H1 n1 k1 e1 => ?_
        walk_at "w"
        refine rd_ixI (k := pD n) (hv.up k1) rfl fun u hu => ?_
        walk_at "w"
        refine ⟨u, n, rfl, hu, fun p2 H2 n2 k2 e2 => ?_⟩
        exact rd_catI (xs := [3]) (k2.get e1 (by simp)) e2 (by simp [nameO, numO_len]) (k1.trans k2) q
      | txt z =>
        have hz : (wordO z).length ≤ 21 := by rw [wordO_len]; have := (show WdOk z from ok).few; omega
        refine rd_ifF rfl ?_
        walk_at "w"
        refine ⟨v, vlD (.txt z), "str", rfl, hv, .inr rfl, rd_kt ?_⟩
        refine rd_ifT rfl ?_
        walk_at "w"
        refine rd_klst (by simp) fun p H1 n1 k1 e1 => ?_
        walk_at "w"
        have ev : v = .str z := hv.str
        refine ⟨z, by rw [ev], ok, fun p2 H2 n2 k2 e2 => ?_⟩
        exact rd_catI (xs := [2]) (k2.get e1 (by simp)) e2 (by simp; omega) (k1.trans k2) q
      | num i =>
        refine rd_ifF rfl ?_
        walk_at "w"
        refine ⟨v, vlD (.num i), "str", rfl, hv, .inr rfl, rd_kt ?_⟩
        refine rd_ifF rfl ?_
        walk_at "w"
        refine rd_klst (by simp) fun p H1 n1 k1 e1 => ?_
        walk_at "w"
        have ev : v = .int i := hv.int
        rw [ev]
        walk_at "w"
        refine ⟨i + 1000000, 3, rfl, by omega, fun p2 H2 n2 k2 e2 => ?_⟩
        exact rd_catI (xs := [1]) (k2.get e1 (by simp)) e2 (by simp [numO_len]) (k1.trans k2) q
abbrev sp_change_octets (P : Program) (w : World) (K : PySem.W.Frag) : Sp := fun vs H Q _ => ∃ (v : V) (c : Ch), vs = [v] ∧ Im K H v (chD c) ∧ ChW c ∧ QO H Q (chO c)
theorem ok_change_octets (T : TX P K mg) : Ok P w K mg base (CX0) 4 ("change_octets", none) p_change_octets (sp_change_octets P w K) := by
  refine T.ok 35 (d := d_change_octets) rfl rfl rfl sc_change_octets (fun _ _ _ _ _ _ us hl => match us, hl with | [_], _ => rfl) (fun vs H Q E h => ?_) fun cdv Ar outer sh H vs Q E hr h => ?_
  · obtain ⟨v, n, rfl, _⟩ := h; rfl
  · obtain ⟨v, c, rfl, hv, ok, q⟩ := h
    obtain ⟨hu, hu1, hu65⟩ := rm_of hr
    refine ⟨_, PSs.nox (pss_cons (ps_asg (pv 0) (pg_tup (by rfl) (pgs_cons (pg_name (i := 1) sc_change_octets.nd rfl (Or.inl rfl)) (pgs_cons (pg_name (i := 2) sc_change_octets.nd rfl (Or.inl rfl)) (pgs_cons (pg_name (i := 3) sc_change_octets.nd rfl (Or.inl rfl)) (pgs_cons (pg_name (i := 4) sc_change_octets.nd rfl (Or.inl rfl)) pgs_nil))))))
      (pss_one (ps_ret (pe_op op_catL (pe_op op_catL (pe_op op_catL (pe_op op_catL (pe_fn (ok_number_octets T) T.g_number_octets (hr.mono (by decide)) pass0 (pa_cons (pe_ix ix_tup (pv 1) pe_int (fun _ _ => rfl)) (pa_cons pe_int pa_nil))) (pe_lst (pa_cons (pe_ix ix_tup (pv 1) pe_int (fun _ _ => rfl)) pa_nil))) (pe_fn (ok_name_octets T) T.g_name_octets (hr.mono (by decide)) pass0 (pa_cons (pv 2) pa_nil))) (pe_fn (ok_word_octets T) T.g_word_octets (hr.mono (by decide)) pass0 (pa_cons (pv 3) pa_nil))) (pe_fn (ok_worth_octets T) T.g_worth_octets (hr.mono (by decide)) pass0 (pa_cons (pv 4) pa_nil)))))), ?_⟩
    have hfd := ok.fd.few
    have hwo := worthO_len ok.vl
    walk_at "w"
    obtain ⟨a, xs, rfl, sq, im⟩ := hv.ref
    obtain ⟨v1, r1, rfl, i1, im⟩ := im.hd
    obtain ⟨v2, r2, rfl, i2, im⟩ := im.hd
    obtain ⟨v3, r3, rfl, i3, im⟩ := im.hd
    obtain ⟨v4, rfl, i4⟩ := im.one
    cases i3.str
    refine rd_gtup sq rfl ?_
    walk_at "w"
    refine rd_ixI (k := .num c.st.1) i1 rfl fun u hu => ?_
    cases hu.int
    walk_at "w"
    refine ⟨c.st.1, 4, rfl, by omega, fun p1 H1 n1 k1 e1 => ?_⟩
    walk_at "w"
    refine rd_ixI (k := .num c.st.2) (i1.up k1) rfl fun u hu => ?_
    cases hu.int
    walk_at "w"
    refine rd_klst (by simp) fun p2 H2 n2 k2 e2 => ?_
    refine rd_catI (ys := [c.st.2]) (k2.get e1 (by simp)) e2 (by simp [numO_len]) (k1.trans k2) fun p3 H3 n3 k3 e3 => ?_
    walk_at "w"
    refine ⟨v2, c.nm, rfl, i2.up k3, fun p4 H4 n4 k4 e4 => ?_⟩
    refine rd_catI (k4.get e3 (by simp)) e4 (by simp [numO_len, nameO]) (k3.trans k4) fun p5 H5 n5 k5 e5 => ?_
    walk_at "w"
    refine ⟨c.fd, rfl, ok.fd, fun p6 H6 n6 k6 e6 => ?_⟩
    refine rd_catI (k6.get e5 (by simp)) e6 (by simp [numO_len, nameO, wordO_len]; omega) (k5.trans k6) fun p7 H7 n7 k7 e7 => ?_
    walk_at "w"
    refine ⟨v4, c.vl, rfl, i4.up k7, ok.vl, fun p8 H8 n8 k8 e8 => ?_⟩
    exact rd_catI (k8.get e7 (by simp)) e8 (by simp [numO_len, nameO, wordO_len]; omega) (k7.trans k8) q
abbrev sp_check_of (P : Program) (w : World) (K : PySem.W.Frag) : Sp := fun vs H Q _ => ∃ (a : Addr) (os : List Int), vs = [.ref a] ∧ SqL K H a (os.map V.int) ∧ QO H Q (chkO os)
theorem ok_check_of (T : TX P K mg) : Ok P w K mg base (CX0) 1 ("check_of", none) p_check_of (sp_check_of P w K) := by
  refine T.ok 36 (d := d_check_of) rfl rfl rfl sc_check_of (fun _ _ _ _ _ _ us hl => match us, hl with | [_], _ => rfl) (fun vs H Q E h => ?_) fun cdv Ar outer sh H vs Q E hr h => ?_
  · obtain ⟨v, n, rfl, _⟩ := h; rfl
  · obtain ⟨a, os, rfl, sq, q⟩ := h
    obtain ⟨hu, hu1, hu65⟩ := rm_of hr
    refine ⟨_, PSs.nox (pss_cons (ps_set (i := 1) sc_check_of.nd rfl (Or.inl rfl) pe_int)
      (pss_cons (ps_set (i := 2) sc_check_of.nd rfl (Or.inl rfl) pe_int)
      (pss_cons (ps_for PassesOwn.never rfl (pi_list (pv 0)) (pg_name (i := 3) sc_check_of.nd rfl (Or.inl rfl))
      (pss_cons (ps_set (i := 1) sc_check_of.nd rfl (Or.inl rfl) (pe_op op_mod (pe_op op_add (pv 1) (pv 3)) pe_int))
      (pss_one (ps_set (i := 2) sc_check_of.nd rfl (Or.inl rfl) (pe_op op_mod (pe_op op_add (pv 2) (pv 1)) pe_int)))))
      (pss_one (ps_ret (pe_lst (pa_cons (pv 2) (pa_cons (pv 1) pa_nil)))))))), ?_⟩
    walk_at "w"
    refine rd_kil sq ?_
    refine for_it (walk_list (xs := os.map V.int)) (fun i σ H' => ∃ x, σ = [some (.ref a), some (.int ((os.take i).foldl chkS (0, 0)).1), some (.int ((os.take i).foldl chkS (0, 0)).2), x] ∧ H' = H) ⟨none, rfl, rfl⟩ (fun i σ H' _ ⟨_, _, e⟩ => by rw [e]; exact sq) ?_ ?_
    · rintro i x σ _ H' hi ⟨x0, rfl, e⟩ ⟨rfl, hx⟩
      obtain ⟨o, ho, rfl⟩ := get_int hx
      have ts : (os.take (i + 1)).foldl chkS (0, 0) = chkS ((os.take i).foldl chkS (0, 0)) o := by rw [take_snoc ho, List.foldl_append]; rfl
      walk_at "w"
      refine rd_I (show (0 : Int) < 256 by decide) ?_
      walk_at "w"
      refine rd_I (show (0 : Int) < 256 by decide) ?_
      exact ⟨some (.int o), by rw [ts]; rfl, e⟩
    · rintro σ H' ⟨x, rfl, rfl⟩
      rw [List.length_map, List.take_length]
      walk_at "w"
      exact rd_klst (by simp) fun p H1 n1 k1 e1 => q p H1 n1 k1 e1
abbrev sp_message_octets (P : Program) (w : World) (K : PySem.W.Frag) : Sp := fun vs H Q _ => ∃ (s n : Int) (v : V) (cs : List Ch), vs = [.int s, .int n, v] ∧ LR K chD H v cs ∧ (∀ c ∈ cs, ChW c) ∧ cs.length ≤ 1000 ∧ QO H Q (msgO s n cs)
theorem flat_len {cs : List Ch} (h : ∀ c ∈ cs, ChW c) : (cs.flatMap chO).length ≤ 60 * cs.length := by
  induction cs with
  | nil => simp
  | cons c cs ih =>
    have h1 := chO_len (h c List.mem_cons_self)
    have h2 := ih fun d hd => h d (List.mem_cons_of_mem _ hd)
    rw [List.flatMap_cons, List.length_append, List.length_cons]
    omega
theorem ok_message_octets (T : TX P K mg) : Ok P w K mg base (CX0) 5 ("message_octets", none) p_message_octets (sp_message_octets P w K) := by
  refine T.ok 37 (d := d_message_octets) rfl rfl rfl sc_message_octets (fun _ _ _ _ _ _ us hl => match us, hl with | [_, _, _], _ => rfl) (fun vs H Q E h => ?_) fun cdv Ar outer sh H vs Q E hr h => ?_
  · obtain ⟨s, n, v, cs, rfl, _⟩ := h; rfl
  · obtain ⟨s, n, v, cs, rfl, ⟨a, xs, rfl, sq, im⟩, ok, hz, q⟩ := h
    obtain ⟨hu, hu1, hu65⟩ := rm_of hr
    refine ⟨_, PSs.nox (pss_cons (ps_set (i := 3) sc_message_octets.nd rfl (Or.inl rfl) (pe_op op_catL (pe_op op_catL (pe_lst (pa_cons (pv 0) pa_nil)) (pe_fn (ok_number_octets T) T.g_number_octets (hr.mono (by decide)) pass0 (pa_cons (pv 1) (pa_cons pe_int pa_nil)))) (pe_fn (ok_number_octets T) T.g_number_octets (hr.mono (by decide)) pass0 (pa_cons (pe_callB call_lenQ (by rfl) T.f_len (by decide +kernel) (pa_cons (pv 2) pa_nil)) (pa_cons pe_int pa_nil)))))
      (pss_cons (ps_for PassesOwn.never rfl (pi_list (pv 2)) (pg_name (i := 4) sc_message_octets.nd rfl (Or.inl rfl))
      (pss_one (ps_set (i := 3) sc_message_octets.nd rfl (Or.inl rfl) (pe_op op_catL (pv 3) (pe_fn (ok_change_octets T) T.g_change_octets (hr.mono (by decide)) pass0 (pa_cons (pv 4) pa_nil))))))
      (pss_one (ps_ret (pe_op op_catL (pv 3) (pe_fn (ok_check_of T) T.g_check_of (hr.mono (by decide)) pass0 (pa_cons (pv 3) pa_nil))))))), ?_⟩
    walk_at "w"
    refine rd_klst (by simp) fun p1 H1 n1 k1 e1 => ?_
    walk_at "w"
    refine ⟨n, 4, rfl, by omega, fun p2 H2 n2 k2 e2 => ?_⟩
    refine rd_catI (xs := [s]) (k2.get e1 (by simp)) e2 (by simp [numO_len]) (k1.trans k2) fun p3 H3 n3 k3 e3 => ?_
    walk_at "w"
    refine rd_lenL (sql_kp k3 (by simp) sq) ?_
    walk_at "w"
    rw [ImA.mlen im]
    refine ⟨(cs.length : Int), 2, rfl, by omega, fun p4 H4 n4 k4 e4 => ?_⟩
    refine rd_catI (k4.get e3 (by simp)) e4 (by simp [numO_len]) (k3.trans k4) fun p5 H5 n5 k5 e5 => ?_
    walk_at "w"
    refine rd_kil (sql_kp k5 (by simp) sq) ?_
    refine for_it (walk_list (xs := xs)) (fun i σ H' => ∃ p x, σ = [some (.int s), some (.int n), some (.ref a), some (.ref p), x] ∧ Kp [] H H' ∧ H p = none ∧ H' p = some (.lst (([s] ++ numO 4 n ++ numO 2 cs.length ++ (cs.take i).flatMap chO).map V.int))) ⟨p5, none, rfl, k5, n5, by simpa using e5⟩ (fun i σ H' _ ⟨_, _, _, k, _⟩ => sql_kp k (by simp) sq) ?_ ?_
    · rintro i x σ _ H' hi ⟨p, x0, rfl, kk, np, hp⟩ ⟨rfl, hx⟩
      obtain ⟨c, hc1, hc2⟩ := (im.up kk).at hx
      have ok1 := ok c (List.mem_of_getElem? hc1)
      walk_at "w"
      refine ⟨x, c, rfl, hc2, ok1, fun p6 H6 n6 k6 e6 => ?_⟩
      have l1 := chO_len ok1
      have l2 := flat_len (cs := cs.take i) fun d hd => ok d (List.mem_of_mem_take hd)
      rw [List.length_take] at l2
      refine rd_catI (k6.get hp (by simp)) e6 (by simp [numO_len] at l2 ⊢; omega) (kk.trans k6) fun p7 H7 n7 k7 e7 => ?_
      walk_at "w"
      refine ⟨p7, some x, rfl, k7, n7, ?_⟩
      rw [take_snoc hc1, List.flatMap_append, ← List.append_assoc]
      simpa using e7
    · rintro σ H' ⟨p, x, rfl, kk, np, hp⟩
      rw [ImA.mlen im, List.take_length] at hp
      walk_at "w"
      refine ⟨p, bodyO s n cs, rfl, .inl (.inl hp), fun p6 H6 n6 k6 e6 => ?_⟩
      have l2 := flat_len ok
      exact rd_catI (k6.get hp (by simp)) e6 (by simp [numO_len, bodyO, chkO] at l2 ⊢; omega) (kk.trans k6) q
end
end GT
set_option maxHeartbeats 2000000
namespace GT
open PySem PySem.Spec PyProof.Rows L2
local macro_rules | `(tactic| walk_at "v") => `(tactic| ((with_reducible show tVar _ _ _ _); refine rd_var rfl ?_))
local macro_rules | `(tactic| walk_at "s1") => `(tactic| with_reducible first | refine rd_cons ?_ | refine rd_nil ?_ | refine rd_c ?_ | refine rd_op ?_ | refine rd_seq ?_ | refine rd_fld ?_ | refine rd_asg ?_ | refine rd_gname ?_ | refine rd_I0 ?_ | refine rd_cb ?_ | refine rd_next ?_ | refine rd_drop ?_ | refine rd_ret ?_ | refine rd_mf ?_ | refine rd_cf ?_ | refine rd_ifS ?_ | refine rd_test ?_ | refine rd_kt ?_)
local macro_rules | `(tactic| walk_at "s2") => `(tactic| with_reducible first | refine rd_tup ?_ | refine rd_lst ?_ | refine rd_bm ?_ | refine rd_gcons ?_ | refine rd_gnil ?_ | refine rd_gsub ?_ | refine rd_dm ?_ | refine rd_sfld ?_ | refine rd_fa ?_ | refine rd_frz ?_ | refine rd_nf ?_ | refine rd_retN ?_ | refine rd_cont ?_ | refine rd_par ?_ | refine rd_un ?_ | refine rd_and ?_ | refine rd_or ?_ | refine rd_not ?_ | refine rd_tru ?_ | refine rd_B ?_ | refine rd_chain ?_ | refine rd_sl ?_ | refine rd_nopart ?_ | refine rd_part ?_ | refine rd_kpart ?_)
local macro_rules | `(tactic| walk_at "s3") => `(tactic| with_reducible first | refine rd_U ?_ | refine rd_eqi ?_ | refine rd_nei ?_ | refine rd_eqs ?_ | refine rd_nes ?_ | refine rd_isN ?_ | refine rd_notN ?_ | refine rd_max2 ?_ | refine rd_min2 ?_ | refine rd_int1 ?_ | refine rd_intb ?_ | refine rd_kbmS ?_ | refine rd_il ?_ | refine rd_it ?_ | refine rd_ir1 ?_ | refine rd_ir2 ?_ | refine rd_in ?_ | refine rd_for ?_ | refine rd_lc ?_ | refine rd_yes ?_ | refine rd_tt ?_ | refine rd_ff ?_ | refine rd_listRg ?_ | refine rd_andV ?_ | refine rd_orV ?_ | refine rd_notV ?_ | refine rd_ex ?_)
local macro_rules | `(tactic| walk_at "c") => `(tactic| first | exact TX.c_Channel (by assumption) | exact TX.c_State (by assumption) | exact TX.c_Message (by assumption) | exact TX.c_Replica (by assumption) | exact TX.c_Network (by assumption))
local macro_rules | `(tactic| walk_at "n") => `(tactic| first | exact TX.n_Channel_under_way (by assumption) | exact TX.n_State_cells (by assumption) | exact TX.n_Message_octets (by assumption) | exact TX.n_Message_place (by assumption) | exact TX.n_Message_known (by assumption) | exact TX.n_Replica_peer (by assumption) | exact TX.n_Replica_clock (by assumption) | exact TX.n_Replica_made (by assumption) | exact TX.n_Replica_state (by assumption) | exact TX.n_Replica_roots (by assumption) | exact TX.n_Replica_pending (by assumption) | exact TX.n_Replica_messages (by assumption) | exact TX.n_Network_replicas (by assumption) | exact TX.n_Network_channels (by assumption))
local macro_rules | `(tactic| walk_at "f") => `(tactic| ((with_reducible show KFld _ _ _ _ _); refine rd_kfld (by assumption) (by walk_at "c") (by walk_at "n") rfl ?_))
local macro_rules | `(tactic| walk_at "g") => `(tactic| ((with_reducible show KSf _ _ _ _ _ _); refine rd_ksf (by assumption) (by walk_at "c") (by walk_at "n") (by simp) ?_))
local macro_rules | `(tactic| walk_at "w") => `(tactic| repeat (first | walk_at "v" | walk_at "s1" | walk_at "f" | walk_at "s2" | walk_at "s3"))
/-! ### what the reader reads -/
abbrev Ps (α : Type) := List Int → Option (α × List Int)
def pOct (lo hi : Int) : Ps Int
  | [] => none
  | o :: r => if lo ≤ o ∧ o ≤ hi then some (o, r) else none
def pNum : Nat → Int → Int → Ps Int
  | 0, _, f, r => some (f, r)
  | k + 1, most, f, r => (pOct 0 (if (most - f) / 256 ^ k < 255 then (most - f) / 256 ^ k else 255) r).bind fun x => pNum k most (f + 256 ^ k * x.1) x.2
def pLet : Nat → Str → Ps Str
  | 0, z, r => some (z, r)
  | k + 1, z, r => (pOct 97 122 r).bind fun x => pLet k (z ++ ⟨#[x.1.toNat]⟩) x.2
def pName : Ps Nm := fun r => (pOct 0 7 r).bind fun x => (pNum 4 4294967295 0 x.2).bind fun y => some ((x.1, y.1), y.2)
def pStamp : Ps Nm := fun r => (pNum 4 4294967295 0 r).bind fun x => if x.1 = 0 then none else (pOct 0 7 x.2).bind fun y => some ((x.1, y.1), y.2)
def pWorth : Ps Vl := fun r => (pOct 0 3 r).bind fun x =>
  if x.1 = 0 then some (.non, x.2)
  else if x.1 = 1 then (pNum 3 2000000 0 x.2).bind fun y => some (.num (y.1 - 1000000), y.2)
  else if x.1 = 2 then (pOct 0 20 x.2).bind fun y => (pLet y.1.toNat "" y.2).bind fun z => some (.txt z.1, z.2)
  else (pName x.2).bind fun y => some (.rf y.1, y.2)
def pCh : Ps Ch := fun r => (pStamp r).bind fun s => (pName s.2).bind fun n => (pOct 1 8 n.2).bind fun m => (pLet m.1.toNat "" m.2).bind fun f => (pWorth f.2).bind fun v => some (⟨s.1, n.1, f.1, v.1⟩, v.2)
def pChs : Nat → List Ch → Ps (List Ch)
  | 0, l, r => some (l, r)
  | k + 1, l, r => (pCh r).bind fun x => pChs k (l ++ [x.1]) x.2
def pHead : Ps (Int × Int × List Ch) := fun r => (pOct 0 7 r).bind fun s => (pNum 4 4294967295 0 s.2).bind fun n => (pNum 2 65535 0 n.2).bind fun m => (pChs m.1.toNat [] m.2).bind fun l => some ((s.1, n.1, l.1), l.2)
theorem pOct_cons (lo hi o : Int) (r : List Int) : pOct lo hi (o :: r) = if lo ≤ o ∧ o ≤ hi then some (o, r) else none := rfl
theorem pOct_drop {lo hi : Int} {os : List Int} {p : Nat} {x : Int} {r : List Int} (h : pOct lo hi (os.drop p) = some (x, r)) : os[p]? = some x ∧ lo ≤ x ∧ x ≤ hi ∧ r = os.drop (p + 1) := by
  cases e : os.drop p with
  | nil => rw [e] at h; cases h
  | cons o t =>
    rw [e, pOct_cons] at h
    split at h
    · rename_i c
      cases h
      have hp : os[p]? = some x := by rw [← List.head?_drop, e]; rfl
      refine ⟨hp, c.1, c.2, ?_⟩
      rw [← List.tail_drop, e]
      rfl
    · cases h
theorem pOct_at {lo hi : Int} {os : List Int} {p : Nat} {x : Int} (h : os[p]? = some x) (h1 : lo ≤ x) (h2 : x ≤ hi) : pOct lo hi (os.drop p) = some (x, os.drop (p + 1)) := by
  have e : os.drop p = x :: os.drop (p + 1) := by
    obtain ⟨hp, rfl⟩ := List.getElem?_eq_some_iff.mp h
    exact List.drop_eq_getElem_cons hp
  rw [e, pOct_cons, if_pos ⟨h1, h2⟩]
theorem pOct_out {lo hi : Int} {os : List Int} {p : Nat} {x : Int} (h : os[p]? = some x) (h1 : ¬ (lo ≤ x ∧ x ≤ hi)) : pOct lo hi (os.drop p) = none := by
  have e : os.drop p = x :: os.drop (p + 1) := by
    obtain ⟨hp, rfl⟩ := List.getElem?_eq_some_iff.mp h
    exact List.drop_eq_getElem_cons hp
  rw [e, pOct_cons, if_neg h1]
theorem pOct_end {lo hi : Int} {os : List Int} : pOct lo hi (os.drop os.length) = none := by
  rw [List.drop_length]
  rfl
/-- the reader at place p -/
structure MsT (K : PySem.W.Frag) (H : Hp) (a l : Addr) (os : List Int) (p : Nat) : Prop where
  ob : ∃ dx, H a = some (.ins (He.ga K "Message") dx [("octets", .ref l), ("place", .int p), ("known", .int 0)])
  sq : SqL K H l (os.map V.int)
  ne : l ≠ a
  le : p ≤ os.length
  few : os.length ≤ 100000
theorem MsT.up {K : PySem.W.Frag} {H H' : Hp} {a l : Addr} {os : List Int} {p : Nat} {F : List Addr} (h : MsT K H a l os p) (k : Kp F H H') (n1 : a ∉ F) (n2 : l ∉ F) : MsT K H' a l os p :=
  let ⟨⟨dx, e⟩, s, n, b, f⟩ := h; ⟨⟨dx, k.get e n1⟩, sql_kp k n2 s, n, b, f⟩
def RdK (K : PySem.W.Frag) (H0 : Hp) (a l : Addr) (os : List Int) {α : Type} (r : Option (α × List Int)) (Rv : Hp → V → α → Prop) (Q : VK) (E : XK) : Prop :=
  (∀ x (p' : Nat), r = some (x, os.drop p') → ∀ v H', Kp [a] H0 H' → MsT K H' a l os p' → Rv H' v x → Q v H') ∧ (r = none → ∀ d H', Kp [a] H0 H' → E (.ref (He.ga K "CodeError")) d H')
theorem RdK.then {K : PySem.W.Frag} {H0 H1 : Hp} {a l : Addr} {os : List Int} {α β : Type} {r1 : Option (α × List Int)} {f : α × List Int → Option (β × List Int)} {Rv : Hp → V → β → Prop} {Rv1 : Hp → V → α → Prop} {Q Q1 : VK} {E : XK}
    (h : RdK K H0 a l os (r1.bind f) Rv Q E) (k0 : Kp [a] H0 H1) (g : ∀ x (p' : Nat) v H', r1 = some (x, os.drop p') → Kp [a] H1 H' → Kp [a] H0 H' → MsT K H' a l os p' → Rv1 H' v x → RdK K H0 a l os (f (x, os.drop p')) Rv Q E → Q1 v H') : RdK K H1 a l os r1 Rv1 Q1 E := by
  refine ⟨fun x p' e v H' k m rv => g x p' v H' e k (k0.trans k) m rv ⟨fun y p'' e' v' H'' k' m' rv' => h.1 y p'' (by rw [e]; exact e') v' H'' k' m' rv', fun e' d H'' k' => h.2 (by rw [e]; exact e') d H'' k'⟩, fun e d H' k => h.2 (by rw [e]; rfl) d H' (k0.trans k)⟩
/-- the same reading, its value told otherwise -/
theorem RdK.last {K : PySem.W.Frag} {H0 H1 : Hp} {a l : Addr} {os : List Int} {α : Type} {r : Option (α × List Int)} {Rv : Hp → V → α → Prop} {Q : VK} {E : XK} (h : RdK K H0 a l os r Rv Q E) (k0 : Kp [a] H0 H1) : RdK K H1 a l os r Rv Q E :=
  ⟨fun x p' e v H' k m rv => h.1 x p' e v H' (k0.trans k) m rv, fun e d H' k => h.2 e d H' (k0.trans k)⟩
abbrev RvI : Hp → V → Int → Prop := fun _ v i => v = .int i
abbrev RvS : Hp → V → Str → Prop := fun _ v z => v = .str z
abbrev RvN (K : PySem.W.Frag) : Hp → V → Nm → Prop := fun H v n => Im K H v (pD n)
abbrev RvV (K : PySem.W.Frag) : Hp → V → Vl → Prop := fun H v x => Im K H v (vlD x)
abbrev RvC (K : PySem.W.Frag) : Hp → V → Ch → Prop := fun H v x => Im K H v (chD x)
theorem log_small {n : Nat} (h : n ≤ 100000) : (n : Int).natAbs.log2 < 1920 := by
  rw [Int.natAbs_natCast]
  rcases Nat.eq_zero_or_pos n with e | e
  · rw [e]; decide
  · have : n.log2 < 17 := (Nat.log2_lt (by omega)).mpr (by omega)
    omega
def KErr (C : Addr) (Q : XK) : List V → Hp → Prop := fun vs H1 => ∃ i, vs = [.int i] ∧ i.natAbs.log2 < 1920 ∧ ∀ d H', Kp [] H1 H' → Q (.ref C) d H'
theorem rd_kfa' {K : PySem.W.Frag} {f : Str} {σ : L2.St} {H : Hp} {a C dx : Addr} {fs : List (Str × V)} {i j : Int} {N : Hp → Prop} (ho : H a = some (.ins C dx fs)) (hc : Cls K C) (hn : NoAttr K C f) (hk : fs.lookup f = some (.int i)) (hl : fs.length < 1000)
    (q : ∀ H', H' a = some (.ins C dx (putF f (.int (i + j)) fs)) → Kp [a] H H' → N H') : KFa K f (tC (.int j)) L2.rAdd σ N (.ref a) H := rd_kfa ho hc hn hk hl (q _ upd_same (Kp.refl.wi ho (by simp)))
theorem rd_ksf' {K : PySem.W.Frag} {f : Str} {y : V} {H : Hp} {a C dx : Addr} {fs : List (Str × V)} {N : Hp → Prop} (ho : H a = some (.ins C dx fs)) (hc : Cls K C) (hn : NoAttr K C f) (hl : fs.length < 1000)
    (q : ∀ H', H' a = some (.ins C dx (putF f y fs)) → Kp [a] H H' → N H') : KSf K f y N (.ref a) H := rd_ksf ho hc hn hl (q _ upd_same (Kp.refl.wi ho (by simp)))
theorem rd_slA {K : PySem.W.Frag} {H : Hp} {Q : VK} {a : Addr} {xs : List V} {lo hi : Option Int} (h : SqT K H a xs) (e : HT.sIx xs.length 0 lo = 0 ∧ HT.sIx xs.length xs.length hi = xs.length → cutV xs lo hi = xs) (q : ∀ p H', Kp [] H H' → SqT K H' p (cutV xs lo hi) → Q (.ref p) H') : rSlA K (.ref a) lo hi H Q :=
  ⟨a, xs, rfl, h, fun z => q a H Kp.refl (by rw [e z]; exact h), fun _ p hp => q p _ (Kp.new hp) (.inl (.inl upd_same))⟩
theorem rd_ir3 {tA : TA} {σ : L2.St} {H : Hp} {R : It → Hp → Prop} (h : tA σ H fun vs H1 => ∃ (i j c : Int) (n : Nat), vs = [.int i, .int j, .int c] ∧ RgC i j c n ∧ R (Itc i c n) H1) : iRng3 tA σ H R := h
theorem rd_terr {C : Addr} {ta : TA} {σ : L2.St} {H : Hp} {Q : XK} (h : ta σ H (KErr C Q)) : tErr C ta σ H Q := h
theorem rd_kerr {C : Addr} {Q : XK} {H : Hp} {n : Nat} (hn : n ≤ 100000) (q : ∀ d H', Kp [] H H' → Q (.ref C) d H') : KErr C Q [.int n] H := ⟨n, rfl, log_small hn, q⟩
section
variable {P : Program} {w : World} {K : PySem.W.Frag} {mg : Str → Option Value} {base : Heap}
abbrev sp_Message_init (P : Program) (w : World) (K : PySem.W.Frag) : Sp := fun vs H Q _ => ∃ (a dx : Addr) (v : V), vs = [.ref a, v] ∧ H a = some (.ins (He.ga K "Message") dx []) ∧ ∀ H', Kp [a] H H' → H' a = some (.ins (He.ga K "Message") dx [("octets", v), ("place", .int 0), ("known", .int 0)]) → Q .non H'
theorem ok_Message_init (T : TX P K mg) : Ok P w K mg base (CX0) 1 ("Message", some "__init__") p_Message_init (sp_Message_init P w K) := by
  refine T.ok 29 (d := d_Message_init) rfl rfl rfl sc_Message_init (fun _ _ _ _ _ _ us hl => match us, hl with | [_, _], _ => rfl) (fun vs H Q E h => ?_) fun cdv Ar outer sh H vs Q E hr h => ?_
  · obtain ⟨a, dx, v, rfl, _⟩ := h; rfl
  · obtain ⟨a, dx, v, rfl, ho, q⟩ := h
    obtain ⟨hu, hu1, hu65⟩ := rm_of hr
    refine ⟨_, PSs.nox (pss_cons (ps_fld (pv 0) (pv 1) rfl)
      (pss_cons (ps_fld (pv 0) pe_int rfl)
      (pss_one (ps_fld (pv 0) pe_int rfl)))), ?_⟩
    walk_at "w"
    refine rd_ksf ho (TX.c_Message T) (TX.n_Message_octets T) (by simp) ?_
    walk_at "w"
    refine rd_ksf (fs := [("octets", v)]) upd_same (TX.c_Message T) (TX.n_Message_place T) (by simp) ?_
    walk_at "w"
    refine rd_ksf (fs := [("octets", v), ("place", .int 0)]) upd_same (TX.c_Message T) (TX.n_Message_known T) (by simp) ?_
    walk_at "w"
    exact q _ (((Kp.refl.wi ho (by simp)).wi upd_same (by simp)).wi upd_same (by simp)) upd_same
abbrev sp_Message_octet (P : Program) (w : World) (K : PySem.W.Frag) : Sp := fun vs H Q E => ∃ (a l : Addr) (os : List Int) (p : Nat) (lo hi : Int), vs = [.ref a, .int lo, .int hi] ∧ MsT K H a l os p ∧ RdK K H a l os (pOct lo hi (os.drop p)) RvI Q E
theorem ok_Message_octet (T : TX P K mg) : Ok P w K mg base (L2.CX P w) 4 ("Message", some "octet") p_Message_octet (sp_Message_octet P w K) := by
  refine T.ok 30 (d := d_Message_octet) rfl rfl rfl sc_Message_octet (fun _ _ _ _ _ _ us hl => match us, hl with | [_, _, _], _ => rfl) (fun vs H Q E h => ?_) fun cdv Ar outer sh H vs Q E hr h => ?_
  · obtain ⟨a, l, os, p, lo, hi, rfl, _⟩ := h; rfl
  · obtain ⟨a, l, os, p, lo, hi, rfl, M, q⟩ := h
    obtain ⟨⟨dx, ho⟩, sq, ne, le, few⟩ := id M
    obtain ⟨hu, hu1, hu65⟩ := rm_of hr
    refine ⟨_, (pss_cons (ps_if (PW.pt (pw_or (pt_cmpR op_eq (pe_fld (pv 0) rfl) (pe_callB call_lenQ (by rfl) T.f_len (by decide +kernel) (pa_cons (pe_fld (pv 0) rfl) pa_nil)) (nomark _)) (pw_or1 (pt_not (pt_chain op_le op_le (pv 1) (pe_ix ix_list (pe_fld (pv 0) rfl) (pe_fld (pv 0) rfl) (fun _ _ => rfl)) (pv 2))))))
      (pss_one (ps_raise rfl (takes_of rfl rfl rfl rfl) (pmk_err T.err T.f_super T.nosuper (hr.mono (by decide)) rfl T.g_CodeError (pa_cons (pe_fld (pv 0) rfl) pa_nil))))
      pss_nil)
      (pss_cons (ps_fldaug (pv 0) pe_int in_add)
      (pss_one (ps_ret (pe_ix ix_list (pe_fld (pv 0) rfl) (pe_op op_sub (pe_fld (pv 0) rfl) pe_int) (fun _ _ => rfl)))))), ?_⟩
    walk_at "w"
    refine rd_lenL sq ?_
    walk_at "w"
    rw [List.length_map]
    refine rd_if (fun hb => ?_) fun hb => ?_
    · have e : p = os.length := by have := of_decide_eq_true hb; omega
      walk_at "w"
      refine rd_terr ?_
      walk_at "w"
      refine rd_kerr (by omega) fun d H' k => ?_
      exact q.2 (by rw [e]; exact pOct_end) d H' (k.mono (by simp))
    · have hp : p < os.length := by have := of_decide_eq_false hb; omega
      have ho' : os[p]? = some os[p] := List.getElem?_eq_getElem _
      have at_ : atI (os.map V.int) (p : Int) = some (.int os[p]) := atN (by omega) (by simp)
      walk_at "w"
      refine rd_ixL sq at_ ?_
      walk_at "w"
      have bad : ¬ (lo ≤ os[p] ∧ os[p] ≤ hi) → ∀ d H', Kp [] H H' → E (.ref (He.ga K "CodeError")) d H' := fun z d H' k => q.2 (pOct_out ho' z) d H' (k.mono (by simp))
      refine rd_if (fun h1 => ?_) fun h1 => ?_
      · walk_at "w"
        refine rd_if (fun h2 => ?_) fun h2 => ?_
        · refine rd_terr ?_
          walk_at "w"
          refine rd_kerr (by omega) (bad fun z => ?_)
          simp [z.2] at h2
        · have h1' : lo ≤ os[p] := of_decide_eq_true h1
          have h2' : os[p] ≤ hi := by simpa using h2
          walk_at "w"
          refine rd_kfa' ho (TX.c_Message T) (TX.n_Message_place T) rfl (by simp) fun H2 ho2 k2 => ?_
          have ho2 : H2 a = some (.ins (He.ga K "Message") dx [("octets", .ref l), ("place", .int ((p : Int) + 1)), ("known", .int 0)]) := ho2
          have sq2 := sql_kp k2 (by simpa using ne) sq
          walk_at "w"
          refine rd_ixL sq2 (show atI (os.map V.int) ((p : Int) + 1 - 1) = some (.int os[p]) by rw [show (p : Int) + 1 - 1 = p by omega]; exact at_) ?_
          exact q.1 os[p] (p + 1) (pOct_at ho' h1' h2') _ H2 k2 ⟨⟨dx, ho2⟩, sq2, ne, by omega, few⟩ rfl
      · walk_at "w"
        refine rd_ifT rfl ?_
        refine rd_terr ?_
        walk_at "w"
        refine rd_kerr (by omega) (bad fun z => of_decide_eq_false h1 z.1)
abbrev sp_Message_number (P : Program) (w : World) (K : PySem.W.Frag) : Sp := fun vs H Q E => ∃ (a l : Addr) (os : List Int) (p k : Nat) (most : Int), vs = [.ref a, .int k, .int most] ∧ MsT K H a l os p ∧ k ≤ 4 ∧ RdK K H a l os (pNum k most 0 (os.drop p)) RvI Q E
def unitV (k : Nat) : List V := ((List.range k).reverse.map fun i => V.int (256 ^ i))
theorem unit_cut : ∀ k : Fin 5, cutV [V.int 16777216, .int 65536, .int 256, .int 1] (some (4 - (k.val : Int))) none = unitV k.val := by decide +kernel
theorem unit_full : ∀ k : Fin 5, HT.sIx 4 0 (some (4 - (k.val : Int))) = 0 ∧ HT.sIx 4 4 none = 4 → cutV [V.int 16777216, .int 65536, .int 256, .int 1] (some (4 - (k.val : Int))) none = [V.int 16777216, .int 65536, .int 256, .int 1] := by decide +kernel
theorem unit_at {k i : Nat} {x : V} (h : (unitV k)[i]? = some x) : i < k ∧ x = .int (256 ^ (k - (i + 1))) := by
  unfold unitV at h
  rw [List.getElem?_map] at h
  cases e : (List.range k).reverse[i]? with
  | none => rw [e] at h; cases h
  | some j =>
    rw [e] at h
    have hl : i < k := by have := (List.getElem?_eq_some_iff.mp e).1; simpa using this
    rw [List.getElem?_reverse (by simpa using hl)] at e
    rw [List.length_range, List.getElem?_range (by omega)] at e
    cases e
    cases h
    exact ⟨hl, by rw [show k - (i + 1) = k - 1 - i by omega]⟩
theorem ok_Message_number (T : TX P K mg) : Ok P w K mg base (L2.CX P w) 5 ("Message", some "number") p_Message_number (sp_Message_number P w K) := by
  refine T.ok 31 (d := d_Message_number) rfl rfl rfl sc_Message_number (fun _ _ _ _ _ _ us hl => match us, hl with | [_, _, _], _ => rfl) (fun vs H Q E h => ?_) fun cdv Ar outer sh H vs Q E hr h => ?_
  · obtain ⟨a, l, os, p, k, most, rfl, _⟩ := h; rfl
  · obtain ⟨a, l, os, p, k, most, rfl, M, hk, q⟩ := h
    obtain ⟨hu, hu1, hu65⟩ := rm_of hr
    refine ⟨_, (pss_cons (ps_set (i := 3) sc_Message_number.nd rfl (Or.inl rfl) pe_int)
      (pss_cons (ps_for (passes_of rfl) rfl (pi_tup (pe_slice sl_tupA (pe_gr T.g_UNITS) (po_some (pe_op op_sub (pe_callB call_lenQ (by rfl) T.f_len (by decide +kernel) (pa_cons (pe_gr T.g_UNITS) pa_nil)) (pv 1))) po_none)) (pg_name (i := 4) sc_Message_number.nd rfl (Or.inl rfl))
      (pss_one (ps_aug (i := 3) sc_Message_number.nd rfl (Or.inl rfl) (pe_op op_mul (pv 4) (pe_mt' (ok_Message_octet T) T.c_Message T.m_Message_octet (hr.mono (by decide)) (passes_call (takes_of rfl rfl rfl rfl) fun _ _ _ _ z => z) (pv 0) (pa_cons pe_int (pa_cons (pe_callB (call_min2Q rfl) (by rfl) T.f_min (by decide +kernel) (pa_cons pe_int (pa_cons (pe_op op_fdiv (pe_op op_sub (pv 2) (pv 3)) (pv 4)) pa_nil))) pa_nil)))) ip_add)))
      (pss_one (ps_ret (pv 3))))), ?_⟩
    walk_at "w"
    refine rd_lenT (TX.units T H) ?_
    walk_at "w"
    refine rd_slA (TX.units T H) (unit_full ⟨k, by omega⟩) fun q0 H1 k1 st => ?_
    rw [show ((([V.int 16777216, V.int 65536, V.int 256, V.int 1] : List V).length : Nat) : Int) - (k : Int) = 4 - (((⟨k, by omega⟩ : Fin 5).val : Nat) : Int) from rfl, unit_cut] at st
    refine rd_kit st ?_
    have ul : (unitV k).length = k := by unfold unitV; simp
    refine for_it (walk_tup (xs := unitV k)) (fun i σ H' => ∃ (f : Int) (x : Option V) (p' : Nat), σ = [some (.ref a), some (.int k), some (.int most), some (.int f), x] ∧ Kp [a] H H' ∧ SqT K H' q0 (unitV k) ∧ MsT K H' a l os p' ∧ RdK K H a l os (pNum (k - i) most f (os.drop p')) RvI Q E)
      ⟨0, none, p, rfl, k1.nil, st, M.up k1 (by simp) (by simp), q⟩ (fun i σ H' _ ⟨_, _, _, _, _, h, _⟩ => h) ?_ ?_
    · rintro i x σ _ H' hi ⟨f, x0, p', rfl, kk, st', M', q'⟩ ⟨rfl, hx⟩
      obtain ⟨hik, rfl⟩ := unit_at hx
      have ek : k - i = (k - (i + 1)) + 1 := by omega
      rw [ek, pNum] at q'
      generalize hj : k - (i + 1) = j at q' ⊢
      have hj4 : j < 4 := by omega
      have up : (0 : Int) < 256 ^ j ∧ (256 : Int) ^ j ≤ 16777216 := by
        have : ∀ j : Fin 4, (0 : Int) < 256 ^ j.val ∧ (256 : Int) ^ j.val ≤ 16777216 := by decide +kernel
        exact this ⟨j, hj4⟩
      walk_at "w"
      obtain ⟨dx', ho'⟩ := M'.ob
      refine rd_aug rfl ?_
      walk_at "w"
      refine rd_kmf ho' rfl ?_
      walk_at "w"
      refine rd_I (c := CDiv) ⟨up.1, by omega⟩ ?_
      walk_at "w"
      refine ⟨a, l, os, p', 0, _, rfl, M', q'.then kk fun x p2 v H2 e k1 k2 M2 rv q2 => ?_⟩
      cases (show v = .int x from rv)
      walk_at "w"
      refine rd_I (c := CMul) (.inl (by omega)) ?_
      refine ⟨_, _, rfl, rfl, f + 256 ^ j * x, _, p2, rfl, k2, sqt_kp k1 st', M2, q2⟩
    · rintro σ H' ⟨f, x, p', rfl, kk, st', M', q'⟩
      rw [ul, Nat.sub_self] at q'
      walk_at "w"
      exact q'.1 f p' rfl _ H' kk M' rfl
end
end GT
set_option maxHeartbeats 2000000
namespace GT
open PySem PySem.Spec PyProof.Rows L2
local macro_rules | `(tactic| walk_at "v") => `(tactic| ((with_reducible show tVar _ _ _ _); refine rd_var rfl ?_))
local macro_rules | `(tactic| walk_at "s1") => `(tactic| with_reducible first | refine rd_cons ?_ | refine rd_nil ?_ | refine rd_c ?_ | refine rd_op ?_ | refine rd_seq ?_ | refine rd_fld ?_ | refine rd_asg ?_ | refine rd_gname ?_ | refine rd_I0 ?_ | refine rd_cb ?_ | refine rd_next ?_ | refine rd_drop ?_ | refine rd_ret ?_ | refine rd_mf ?_ | refine rd_cf ?_ | refine rd_ifS ?_ | refine rd_test ?_ | refine rd_kt ?_)
local macro_rules | `(tactic| walk_at "s2") => `(tactic| with_reducible first | refine rd_tup ?_ | refine rd_lst ?_ | refine rd_bm ?_ | refine rd_gcons ?_ | refine rd_gnil ?_ | refine rd_gsub ?_ | refine rd_dm ?_ | refine rd_sfld ?_ | refine rd_fa ?_ | refine rd_frz ?_ | refine rd_nf ?_ | refine rd_retN ?_ | refine rd_cont ?_ | refine rd_par ?_ | refine rd_un ?_ | refine rd_and ?_ | refine rd_or ?_ | refine rd_not ?_ | refine rd_tru ?_ | refine rd_B ?_ | refine rd_chain ?_ | refine rd_sl ?_ | refine rd_nopart ?_ | refine rd_part ?_ | refine rd_kpart ?_)
local macro_rules | `(tactic| walk_at "s3") => `(tactic| with_reducible first | refine rd_U ?_ | refine rd_eqi ?_ | refine rd_nei ?_ | refine rd_eqs ?_ | refine rd_nes ?_ | refine rd_isN ?_ | refine rd_notN ?_ | refine rd_max2 ?_ | refine rd_min2 ?_ | refine rd_int1 ?_ | refine rd_intb ?_ | refine rd_kbmS ?_ | refine rd_il ?_ | refine rd_it ?_ | refine rd_ir1 ?_ | refine rd_ir2 ?_ | refine rd_in ?_ | refine rd_for ?_ | refine rd_lc ?_ | refine rd_yes ?_ | refine rd_tt ?_ | refine rd_ff ?_ | refine rd_listRg ?_ | refine rd_andV ?_ | refine rd_orV ?_ | refine rd_notV ?_ | refine rd_ex ?_)
local macro_rules | `(tactic| walk_at "c") => `(tactic| first | exact TX.c_Channel (by assumption) | exact TX.c_State (by assumption) | exact TX.c_Message (by assumption) | exact TX.c_Replica (by assumption) | exact TX.c_Network (by assumption))
local macro_rules | `(tactic| walk_at "n") => `(tactic| first | exact TX.n_Channel_under_way (by assumption) | exact TX.n_State_cells (by assumption) | exact TX.n_Message_octets (by assumption) | exact TX.n_Message_place (by assumption) | exact TX.n_Message_known (by assumption) | exact TX.n_Replica_peer (by assumption) | exact TX.n_Replica_clock (by assumption) | exact TX.n_Replica_made (by assumption) | exact TX.n_Replica_state (by assumption) | exact TX.n_Replica_roots (by assumption) | exact TX.n_Replica_pending (by assumption) | exact TX.n_Replica_messages (by assumption) | exact TX.n_Network_replicas (by assumption) | exact TX.n_Network_channels (by assumption))
local macro_rules | `(tactic| walk_at "f") => `(tactic| ((with_reducible show KFld _ _ _ _ _); refine rd_kfld (by assumption) (by walk_at "c") (by walk_at "n") rfl ?_))
local macro_rules | `(tactic| walk_at "g") => `(tactic| ((with_reducible show KSf _ _ _ _ _ _); refine rd_ksf (by assumption) (by walk_at "c") (by walk_at "n") (by simp) ?_))
local macro_rules | `(tactic| walk_at "w") => `(tactic| repeat (first | walk_at "v" | walk_at "s1" | walk_at "f" | walk_at "s2" | walk_at "s3"))
def LTR : List Nat := List.range' 97 26
theorem ltr_eq : ("abcdefghijklmnopqrstuvwxyz" : Str).cps.toList = LTR := by decide +kernel
theorem ltr_at : ∀ c : Fin 26, ("abcdefghijklmnopqrstuvwxyz" : Str).cps[c.val]? = some (97 + c.val) := by decide +kernel
theorem str_pos (z zz : Str) (c : Nat) : decide ((("" : Str)).cps.toList < (((z ++ ⟨#[c]⟩ : Str) ++ zz : Str)).cps.toList) = true := by
  have e : (((z ++ ⟨#[c]⟩ : Str) ++ zz : Str)).cps.toList = z.cps.toList ++ [c] ++ zz.cps.toList := by
    show ((z.cps ++ #[c]) ++ zz.cps).toList = _
    simp
  rw [e]
  refine decide_eq_true ?_
  show ([] : List Nat) < _
  cases z.cps.toList with
  | nil => exact List.nil_lt_cons _ _
  | cons a b => exact List.nil_lt_cons _ _
section
variable {P : Program} {w : World} {K : PySem.W.Frag} {mg : Str → Option Value} {base : Heap}
abbrev sp_Message_letters (P : Program) (w : World) (K : PySem.W.Frag) : Sp := fun vs H Q E => ∃ (a l : Addr) (os : List Int) (p k : Nat), vs = [.ref a, .int k, .str ""] ∧ MsT K H a l os p ∧ k ≤ 20 ∧ RdK K H a l os (pLet k "" (os.drop p)) RvS Q E
theorem ok_Message_letters (T : TX P K mg) : Ok P w K mg base (L2.CX P w) 5 ("Message", some "letters") p_Message_letters (sp_Message_letters P w K) := by
  refine T.ok 32 (d := d_Message_letters) rfl rfl rfl sc_Message_letters (fun _ _ _ _ _ _ us hl => match us, hl with | [_, _, _], _ => rfl) (fun vs H Q E h => ?_) fun cdv Ar outer sh H vs Q E hr h => ?_
  · obtain ⟨a, l, os, p, k, rfl, _⟩ := h; rfl
  · obtain ⟨a, l, os, p, k, rfl, M, hk, q⟩ := h
    obtain ⟨hu, hu1, hu65⟩ := rm_of hr
    refine ⟨_, (pss_cons (ps_set (i := 3) sc_Message_letters.nd rfl (Or.inr rfl) pe_str)
      (pss_cons (ps_for (passes_of rfl) rfl (pi_range3 (by rfl) T.f_range (pa_cons (pe_op op_sub (pv 1) pe_int) (pa_cons (pe_un un_neg pe_int) (pa_cons (pe_un un_neg pe_int) pa_nil)))) (pg_name (i := 4) sc_Message_letters.nd rfl (Or.inr rfl))
      (pss_cons (ps_setLcW (i := 5) (own := [("sign", 7)]) sh rfl sc_Message_letters.nd rfl rfl (sw_true rfl rfl rfl (by decide +kernel)) (pi_str (pe_gs T.s_LETTERS)) (blkOk_by (own := [("sign", 7)]) (N := n_Message_letters) (sc := defScope s_Message_letters) (by decide +kernel)) (pg_name (i := 7) sc_Message_letters.nd rfl (Or.inl rfl)) (pts_one (pt_cmpR op_gt_str (pe_op op_add_str (pe_op op_add_str (pv 3) (pv 7)) (pe_op op_mulS pe_str (pv 4))) (pv 2) (nomark _))) (pv 7) (fun _ _ _ _ _ => (pg_name (i := 7) sc_Message_letters.nd rfl (Or.inl rfl))) (fun _ _ _ _ _ => (pts_one (pt_cmpR op_gt_str (pe_op op_add_str (pe_op op_add_str (pv 3) (pv 7)) (pe_op op_mulS pe_str (pv 4))) (pv 2) (nomark _)))) (fun _ _ _ _ _ => (pv 7)))
      (pss_cons (ps_if (pt_not (pt_tru (pv 5)))
      (pss_one (ps_raise rfl (takes_of rfl rfl rfl rfl) (pmk_err T.err T.f_super T.nosuper (hr.mono (by decide)) rfl T.g_CodeError (pa_cons (pe_fld (pv 0) rfl) pa_nil))))
      pss_nil)
      (pss_cons (ps_set (i := 6) sc_Message_letters.nd rfl (Or.inl rfl) (pe_mt' (ok_Message_octet T) T.c_Message T.m_Message_octet (hr.mono (by decide)) (passes_call (takes_of rfl rfl rfl rfl) fun _ _ _ _ z => z) (pv 0) (pa_cons (pe_op op_add (pe_gi T.i_CODE) (pe_bmS PySem.F.plainAttrs_str PySem.F.slot_str_index PySem.F.type_str_index (mt_indexX rfl (takes_of rfl rfl rfl rfl)) (pe_gs T.s_LETTERS) (pa_cons (pe_ix ix_list (pv 5) pe_int (fun _ _ => rfl)) pa_nil))) (pa_cons (pe_op op_add (pe_gi T.i_CODE) pe_int) pa_nil))))
      (pss_one (ps_aug (i := 3) sc_Message_letters.nd rfl (Or.inr rfl) (pe_ix ix_str (pe_gs T.s_LETTERS) (pe_op op_sub (pv 6) (pe_gi T.i_CODE)) (fun _ _ => rfl)) ip_addS))))))
      (pss_one (ps_ret (pv 3))))), ?_⟩
    walk_at "w"
    refine rd_ir3 ?_
    walk_at "w"
    refine ⟨(k : Int) - 1, -1, -1, k, rfl, by have := RgC.neg (i := (k : Int) - 1) (j := -1) (by omega) (by omega) (by omega) (by omega); rwa [show ((k : Int) - 1 - -1).toNat = k by omega] at this, ?_⟩
    refine for_it walk_rangeC (fun i σ H' => ∃ (z : Str) (x y u : Option V) (p' : Nat), σ = [some (.ref a), some (.int k), some (.str ""), some (.str z), x, y, u, none] ∧ Kp [a] H H' ∧ MsT K H' a l os p' ∧ z.length ≤ i ∧ RdK K H a l os (pLet (k - i) z (os.drop p')) RvS Q E)
      ⟨"", none, none, none, p, rfl, Kp.refl, M, by decide, q⟩ (fun _ _ _ _ _ => trivial) ?_ ?_
    · rintro i x σ _ H' hi ⟨z, x0, y0, u0, p', rfl, kk, M', hz, q'⟩ ⟨rfl, rfl⟩
      have ek : k - i = (k - (i + 1)) + 1 := by omega
      rw [ek, pLet] at q'
      obtain ⟨dx', ho'⟩ := M'.ob
      walk_at "w"
      refine rd_istr ?_
      walk_at "w"
      refine ⟨_, rfl, ?_⟩
      intro D hD
      refine lc_it walk_str (fun j H2 => Kp [] H' H2 ∧ H2 D = some (.lst ((LTR.take j).map fun c => .str ⟨#[c]⟩))) ⟨Kp.new hD, upd_same⟩ (fun _ _ _ _ => trivial) ?_ ?_
      · rintro j x _ H2 hj ⟨k2, hp⟩ ⟨rfl, c, hc, rfl⟩
        have hc' : LTR[j]? = some c := by rw [← ltr_eq, Array.getElem?_toList]; exact hc
        have hj26 : j < 26 := (List.getElem?_eq_some_iff.mp hc').1
        walk_at "w"
        refine ⟨rfl, ?_⟩
        walk_at "w"
        refine ⟨z, ⟨#[c]⟩, rfl, rfl, Nat.le_trans (show z.length + 1 ≤ 100000 by omega) (by decide), ?_⟩
        walk_at "w"
        refine ⟨122, _, rfl, rfl, by omega, by omega, fun zz hzz => ?_⟩
        have l2 : Str.length (z ++ ⟨#[c]⟩ : Str) = z.length + 1 := by show (z.cps ++ #[c]).size = _; simp; rfl
        refine ⟨_, _, rfl, rfl, Nat.le_trans (show Str.length (z ++ ⟨#[c]⟩ : Str) + zz.length ≤ 100000 by omega) (by decide), ?_⟩
        walk_at "w"
        refine ⟨_, _, rfl, rfl, ?_⟩
        walk_at "w"
        refine rd_ifT (str_pos z zz c) ?_
        walk_at "w"
        refine ⟨_, hp, Nat.lt_of_lt_of_le (show _ < 1000 by rw [List.length_map, List.length_take]; omega) (by decide), k2.wrn hD, ?_⟩
        rw [take_snoc hc', List.map_append]
        exact upd_same
      · rintro H2 ⟨k2, hp⟩
        have hp : H2 D = some (.lst (LTR.map fun c => .str ⟨#[c]⟩)) := hp
        have M2 := M'.up k2 (by simp) (by simp)
        have kk2 := kk.trans k2.nil
        obtain ⟨dx2, ho2⟩ := M2.ob
        walk_at "w"
        refine rd_ktruL (.inl (.inl hp)) ?_
        refine rd_ifF rfl ?_
        walk_at "w"
        refine rd_kmf ho2 rfl ?_
        walk_at "w"
        refine rd_bmS ?_
        walk_at "w"
        refine rd_kbmSS ?_
        walk_at "w"
        refine rd_ixL (v := .str ⟨#[97]⟩) (.inl (.inl hp)) (by decide +kernel) ?_
        walk_at "w"
        refine rd_idxX (idx_let (c := 97) (by decide)) ?_
        walk_at "w"
        refine ⟨a, l, os, p', 97, 122, rfl, M2, q'.then kk2 fun x p2 v H3 e k3 k4 M3 rv q2 => ?_⟩
        cases (show v = .int x from rv)
        obtain ⟨e1, e2, e3, e4⟩ := pOct_drop e
        walk_at "w"
        refine rd_aug rfl ?_
        walk_at "w"
        have hx : atI ("abcdefghijklmnopqrstuvwxyz" : Str).cps.toList (x - 97) = some x.toNat := by
          have := ltr_at ⟨(x - 97).toNat, by omega⟩
          refine atN (by omega) ?_
          rw [Array.getElem?_toList, this]
          congr 1
          show 97 + (x - 97).toNat = _
          omega
        refine ⟨_, _, _, rfl, rfl, by decide +kernel, hx, ?_⟩
        refine ⟨z, _, rfl, rfl, Nat.le_trans (show z.length + 1 ≤ 100000 by omega) (by decide), ?_⟩
        refine ⟨_, _, _, _, p2, rfl, k4, M3, ?_, q2⟩
        show (z.cps ++ #[x.toNat]).size ≤ i + 1
        have : z.cps.size ≤ i := hz
        simp
        omega
    · rintro σ H' ⟨z, x, y, u, p', rfl, kk, M', hz, q'⟩
      rw [Nat.sub_self] at q'
      walk_at "w"
      exact q'.1 z p' rfl _ H' kk M' rfl
end
end GT
set_option maxHeartbeats 2000000
namespace GT
open PySem PySem.Spec PyProof.Rows L2
local macro_rules | `(tactic| walk_at "v") => `(tactic| ((with_reducible show tVar _ _ _ _); refine rd_var rfl ?_))
local macro_rules | `(tactic| walk_at "s1") => `(tactic| with_reducible first | refine rd_cons ?_ | refine rd_nil ?_ | refine rd_c ?_ | refine rd_op ?_ | refine rd_seq ?_ | refine rd_fld ?_ | refine rd_asg ?_ | refine rd_gname ?_ | refine rd_I0 ?_ | refine rd_cb ?_ | refine rd_next ?_ | refine rd_drop ?_ | refine rd_ret ?_ | refine rd_mf ?_ | refine rd_cf ?_ | refine rd_ifS ?_ | refine rd_test ?_ | refine rd_kt ?_)
local macro_rules | `(tactic| walk_at "s2") => `(tactic| with_reducible first | refine rd_tup ?_ | refine rd_lst ?_ | refine rd_bm ?_ | refine rd_gcons ?_ | refine rd_gnil ?_ | refine rd_gsub ?_ | refine rd_dm ?_ | refine rd_sfld ?_ | refine rd_fa ?_ | refine rd_frz ?_ | refine rd_nf ?_ | refine rd_retN ?_ | refine rd_cont ?_ | refine rd_par ?_ | refine rd_un ?_ | refine rd_and ?_ | refine rd_or ?_ | refine rd_not ?_ | refine rd_tru ?_ | refine rd_B ?_ | refine rd_chain ?_ | refine rd_sl ?_ | refine rd_nopart ?_ | refine rd_part ?_ | refine rd_kpart ?_)
local macro_rules | `(tactic| walk_at "s3") => `(tactic| with_reducible first | refine rd_U ?_ | refine rd_eqi ?_ | refine rd_nei ?_ | refine rd_eqs ?_ | refine rd_nes ?_ | refine rd_isN ?_ | refine rd_notN ?_ | refine rd_max2 ?_ | refine rd_min2 ?_ | refine rd_int1 ?_ | refine rd_intb ?_ | refine rd_kbmS ?_ | refine rd_il ?_ | refine rd_it ?_ | refine rd_ir1 ?_ | refine rd_ir2 ?_ | refine rd_in ?_ | refine rd_for ?_ | refine rd_lc ?_ | refine rd_yes ?_ | refine rd_tt ?_ | refine rd_ff ?_ | refine rd_listRg ?_ | refine rd_andV ?_ | refine rd_orV ?_ | refine rd_notV ?_ | refine rd_ex ?_)
local macro_rules | `(tactic| walk_at "c") => `(tactic| first | exact TX.c_Channel (by assumption) | exact TX.c_State (by assumption) | exact TX.c_Message (by assumption) | exact TX.c_Replica (by assumption) | exact TX.c_Network (by assumption))
local macro_rules | `(tactic| walk_at "n") => `(tactic| first | exact TX.n_Channel_under_way (by assumption) | exact TX.n_State_cells (by assumption) | exact TX.n_Message_octets (by assumption) | exact TX.n_Message_place (by assumption) | exact TX.n_Message_known (by assumption) | exact TX.n_Replica_peer (by assumption) | exact TX.n_Replica_clock (by assumption) | exact TX.n_Replica_made (by assumption) | exact TX.n_Replica_state (by assumption) | exact TX.n_Replica_roots (by assumption) | exact TX.n_Replica_pending (by assumption) | exact TX.n_Replica_messages (by assumption) | exact TX.n_Network_replicas (by assumption) | exact TX.n_Network_channels (by assumption))
local macro_rules | `(tactic| walk_at "f") => `(tactic| ((with_reducible show KFld _ _ _ _ _); refine rd_kfld (by assumption) (by walk_at "c") (by walk_at "n") rfl ?_))
local macro_rules | `(tactic| walk_at "g") => `(tactic| ((with_reducible show KSf _ _ _ _ _ _); refine rd_ksf (by assumption) (by walk_at "c") (by walk_at "n") (by simp) ?_))
local macro_rules | `(tactic| walk_at "w") => `(tactic| repeat (first | walk_at "v" | walk_at "s1" | walk_at "f" | walk_at "s2" | walk_at "s3"))
theorem rd_kerrI {C : Addr} {Q : XK} {H : Hp} {i : Int} (hn : i.natAbs ≤ 100000) (q : ∀ d H', Kp [] H H' → Q (.ref C) d H') : KErr C Q [.int i] H := ⟨i, rfl, by have := log_small hn; rwa [Int.natAbs_natCast] at this, q⟩
section
variable {P : Program} {w : World} {K : PySem.W.Frag} {mg : Str → Option Value} {base : Heap}
abbrev spR {α : Type} (K : PySem.W.Frag) (f : Ps α) (Rv : Hp → V → α → Prop) : Sp := fun vs H Q E => ∃ (a l : Addr) (os : List Int) (p : Nat), vs = [.ref a] ∧ MsT K H a l os p ∧ RdK K H a l os (f (os.drop p)) Rv Q E
abbrev sp_Message_name (P : Program) (w : World) (K : PySem.W.Frag) : Sp := spR K pName (RvN K)
theorem ok_Message_name (T : TX P K mg) : Ok P w K mg base (L2.CX P w) 6 ("Message", some "name") p_Message_name (sp_Message_name P w K) := by
  refine T.ok 38 (d := d_Message_name) rfl rfl rfl sc_Message_name (fun _ _ _ _ _ _ us hl => match us, hl with | [_], _ => rfl) (fun vs H Q E h => ?_) fun cdv Ar outer sh H vs Q E hr h => ?_
  · obtain ⟨a, l, os, p, rfl, _⟩ := h; rfl
  · obtain ⟨a, l, os, p, rfl, M, q⟩ := h
    obtain ⟨dx, ho⟩ := M.ob
    obtain ⟨hu, hu1, hu65⟩ := rm_of hr
    refine ⟨_, (pss_cons (ps_set (i := 1) sc_Message_name.nd rfl (Or.inl rfl) (pe_mt' (ok_Message_octet T) T.c_Message T.m_Message_octet (hr.mono (by decide)) (passes_call (takes_of rfl rfl rfl rfl) fun _ _ _ _ z => z) (pv 0) (pa_cons pe_int (pa_cons (pe_op op_sub (pe_gi T.i_PEERS) pe_int) pa_nil))))
      (pss_one (ps_ret (pe_tup (pa_cons (pv 1) (pa_cons (pe_mt' (ok_Message_number T) T.c_Message T.m_Message_number (hr.mono (by decide)) (passes_call (takes_of rfl rfl rfl rfl) fun _ _ _ _ z => z) (pv 0) (pa_cons pe_int (pa_cons (pe_gi T.i_COUNT_MOST) pa_nil))) pa_nil)))))), ?_⟩
    walk_at "w"
    refine rd_kmf ho rfl ?_
    walk_at "w"
    refine ⟨a, l, os, p, 0, 7, rfl, M, q.then Kp.refl fun x p1 v H1 e1 k1 k01 M1 rv q1 => ?_⟩
    cases (show v = .int x from rv)
    obtain ⟨dx1, ho1⟩ := M1.ob
    walk_at "w"
    refine rd_kmf ho1 rfl ?_
    walk_at "w"
    refine ⟨a, l, os, p1, 4, 4294967295, rfl, M1, by omega, q1.then k01 fun y p2 v H2 e2 k2 k02 M2 rv q2 => ?_⟩
    cases (show v = .int y from rv)
    walk_at "w"
    refine rd_ktup (K := K) (ks := [.num x, .num y]) (.cons (.num _) (.cons (.num _) .nil)) (by simp) fun v H3 k3 iv => ?_
    exact q2.1 (x, y) p2 rfl v H3 (k02.trans k3.nil) (M2.up k3 (by simp) (by simp)) iv
abbrev sp_Message_stamp (P : Program) (w : World) (K : PySem.W.Frag) : Sp := spR K pStamp (RvN K)
theorem ok_Message_stamp (T : TX P K mg) : Ok P w K mg base (L2.CX P w) 6 ("Message", some "stamp") p_Message_stamp (sp_Message_stamp P w K) := by
  refine T.ok 39 (d := d_Message_stamp) rfl rfl rfl sc_Message_stamp (fun _ _ _ _ _ _ us hl => match us, hl with | [_], _ => rfl) (fun vs H Q E h => ?_) fun cdv Ar outer sh H vs Q E hr h => ?_
  · obtain ⟨a, l, os, p, rfl, _⟩ := h; rfl
  · obtain ⟨a, l, os, p, rfl, M, q⟩ := h
    obtain ⟨dx, ho⟩ := M.ob
    obtain ⟨hu, hu1, hu65⟩ := rm_of hr
    refine ⟨_, (pss_cons (ps_set (i := 1) sc_Message_stamp.nd rfl (Or.inl rfl) (pe_mt' (ok_Message_number T) T.c_Message T.m_Message_number (hr.mono (by decide)) (passes_call (takes_of rfl rfl rfl rfl) fun _ _ _ _ z => z) (pv 0) (pa_cons pe_int (pa_cons (pe_gi T.i_COUNT_MOST) pa_nil))))
      (pss_cons (ps_if (pt_cmpR op_eq (pv 1) pe_int (nomark _))
      (pss_one (ps_raise rfl (takes_of rfl rfl rfl rfl) (pmk_err T.err T.f_super T.nosuper (hr.mono (by decide)) rfl T.g_CodeError (pa_cons (pe_op op_sub (pe_fld (pv 0) rfl) pe_int) pa_nil))))
      pss_nil)
      (pss_one (ps_ret (pe_tup (pa_cons (pv 1) (pa_cons (pe_mt' (ok_Message_octet T) T.c_Message T.m_Message_octet (hr.mono (by decide)) (passes_call (takes_of rfl rfl rfl rfl) fun _ _ _ _ z => z) (pv 0) (pa_cons pe_int (pa_cons (pe_op op_sub (pe_gi T.i_PEERS) pe_int) pa_nil))) pa_nil))))))), ?_⟩
    walk_at "w"
    refine rd_kmf ho rfl ?_
    walk_at "w"
    refine ⟨a, l, os, p, 4, 4294967295, rfl, M, by omega, q.then Kp.refl fun x p1 v H1 e1 k1 k01 M1 rv q1 => ?_⟩
    cases (show v = .int x from rv)
    obtain ⟨dx1, ho1⟩ := M1.ob
    walk_at "w"
    refine rd_if (fun hb => ?_) fun hb => ?_
    · have hx : x = 0 := of_decide_eq_true hb
      walk_at "w"
      refine rd_terr ?_
      walk_at "w"
      refine rd_kerrI (by have := M1.le; have := M1.few; omega) fun d H' k => ?_
      exact q1.2 (by simp only [if_pos hx]) d H' (k01.trans k.nil)
    · have hx : x ≠ 0 := of_decide_eq_false hb
      have q1 : RdK K H a l os ((pOct 0 7 (os.drop p1)).bind fun y => some ((x, y.1), y.2)) (RvN K) Q E := by
        have := q1
        simp only [if_neg hx] at this
        exact this
      walk_at "w"
      refine rd_kmf ho1 rfl ?_
      walk_at "w"
      refine ⟨a, l, os, p1, 0, 7, rfl, M1, q1.then k01 fun y p2 v H2 e2 k2 k02 M2 rv q2 => ?_⟩
      cases (show v = .int y from rv)
      walk_at "w"
      refine rd_ktup (K := K) (ks := [.num x, .num y]) (.cons (.num _) (.cons (.num _) .nil)) (by simp) fun v H3 k3 iv => ?_
      exact q2.1 (x, y) p2 rfl v H3 (k02.trans k3.nil) (M2.up k3 (by simp) (by simp)) iv
abbrev sp_Message_worth (P : Program) (w : World) (K : PySem.W.Frag) : Sp := spR K pWorth (RvV K)
theorem ok_Message_worth (T : TX P K mg) : Ok P w K mg base (L2.CX P w) 7 ("Message", some "worth") p_Message_worth (sp_Message_worth P w K) := by
  refine T.ok 40 (d := d_Message_worth) rfl rfl rfl sc_Message_worth (fun _ _ _ _ _ _ us hl => match us, hl with | [_], _ => rfl) (fun vs H Q E h => ?_) fun cdv Ar outer sh H vs Q E hr h => ?_
  · obtain ⟨a, l, os, p, rfl, _⟩ := h; rfl
  · obtain ⟨a, l, os, p, rfl, M, q⟩ := h
    obtain ⟨dx, ho⟩ := M.ob
    obtain ⟨hu, hu1, hu65⟩ := rm_of hr
    refine ⟨_, (pss_cons (ps_set (i := 1) sc_Message_worth.nd rfl (Or.inl rfl) (pe_mt' (ok_Message_octet T) T.c_Message T.m_Message_octet (hr.mono (by decide)) (passes_call (takes_of rfl rfl rfl rfl) fun _ _ _ _ z => z) (pv 0) (pa_cons (pe_gi T.i_NOTHING) (pa_cons (pe_gi T.i_REFERENCE) pa_nil))))
      (pss_cons (ps_if (pt_cmpR op_eq (pv 1) (pe_gi T.i_NOTHING) (nomark _))
      (pss_one (ps_ret pe_non))
      pss_nil)
      (pss_cons (ps_if (pt_cmpR op_eq (pv 1) (pe_gi T.i_INTEGER) (nomark _))
      (pss_one (ps_ret (pe_op op_sub (pe_mt' (ok_Message_number T) T.c_Message T.m_Message_number (hr.mono (by decide)) (passes_call (takes_of rfl rfl rfl rfl) fun _ _ _ _ z => z) (pv 0) (pa_cons pe_int (pa_cons (pe_op op_mul pe_int (pe_gi T.i_INTEGER_MOST)) pa_nil))) (pe_gi T.i_INTEGER_MOST))))
      pss_nil)
      (pss_cons (ps_if (pt_cmpR op_eq (pv 1) (pe_gi T.i_TEXT) (nomark _))
      (pss_one (ps_ret (pe_mt' (ok_Message_letters T) T.c_Message T.m_Message_letters (hr.mono (by decide)) (passes_call (takes_of rfl rfl rfl rfl) fun _ _ _ _ z => z) (pv 0) (pa_cons (pe_mt' (ok_Message_octet T) T.c_Message T.m_Message_octet (hr.mono (by decide)) (passes_call (takes_of rfl rfl rfl rfl) fun _ _ _ _ z => z) (pv 0) (pa_cons pe_int (pa_cons (pe_gi T.i_TEXT_MOST) pa_nil))) (pa_cons pe_str pa_nil)))))
      pss_nil)
      (pss_one (ps_ret (pe_tup (pa_cons (pe_gs T.s_REF) (pa_cons (pe_mt0 (ok_Message_name T) T.c_Message T.m_Message_name (hr.mono (by decide)) (passes_call (takes_of rfl rfl rfl rfl) fun _ _ _ _ z => z) (pv 0)) pa_nil))))))))), ?_⟩
    walk_at "w"
    refine rd_kmf ho rfl ?_
    walk_at "w"
    refine ⟨a, l, os, p, 0, 3, rfl, M, q.then Kp.refl fun x p1 v H1 e1 k1 k01 M1 rv q1 => ?_⟩
    cases (show v = .int x from rv)
    obtain ⟨dx1, ho1⟩ := M1.ob
    walk_at "w"
    refine rd_if (fun hb => ?_) fun hb => ?_
    · have hx : x = 0 := of_decide_eq_true hb
      simp only [if_pos hx] at q1
      walk_at "w"
      exact q1.1 .non p1 rfl _ H1 k01 M1 .non
    · have hx : x ≠ 0 := of_decide_eq_false hb
      simp only [if_neg hx] at q1
      walk_at "w"
      refine rd_if (fun hb => ?_) fun hb => ?_
      · have hx : x = 1 := of_decide_eq_true hb
        simp only [if_pos hx] at q1
        walk_at "w"
        refine rd_kmf ho1 rfl ?_
        walk_at "w"
        refine rd_I (c := CMul) (.inl (by omega)) ?_
        walk_at "w"
        refine ⟨a, l, os, p1, 3, 2000000, rfl, M1, by omega, q1.then k01 fun y p2 v H2 e2 k2 k02 M2 rv q2 => ?_⟩
        cases (show v = .int y from rv)
        walk_at "w"
        exact q2.1 (.num (y - 1000000)) p2 rfl _ H2 k02 M2 (.num _)
      · have hx : x ≠ 1 := of_decide_eq_false hb
        simp only [if_neg hx] at q1
        walk_at "w"
        refine rd_if (fun hb => ?_) fun hb => ?_
        · have hx : x = 2 := of_decide_eq_true hb
          simp only [if_pos hx] at q1
          walk_at "w"
          refine rd_kmf ho1 rfl ?_
          walk_at "w"
          refine rd_kmf ho1 rfl ?_
          walk_at "w"
          refine ⟨a, l, os, p1, 0, 20, rfl, M1, q1.then k01 fun y p2 v H2 e2 k2 k02 M2 rv q2 => ?_⟩
          cases (show v = .int y from rv)
          obtain ⟨_, y0, y1, _⟩ := pOct_drop e2
          walk_at "w"
          refine ⟨a, l, os, p2, y.toNat, by rw [Int.toNat_of_nonneg y0], M2, by omega, q2.then k02 fun z p3 v H3 e3 k3 k03 M3 rv q3 => ?_⟩
          cases (show v = .str z from rv)
          exact q3.1 (.txt z) p3 rfl _ H3 k03 M3 (.text z)
        · have hx : x ≠ 2 := of_decide_eq_false hb
          simp only [if_neg hx] at q1
          walk_at "w"
          refine rd_kmf ho1 rfl ?_
          walk_at "w"
          refine ⟨a, l, os, p1, rfl, M1, q1.then k01 fun n p2 v H2 e2 k2 k02 M2 rv q2 => ?_⟩
          walk_at "w"
          refine rd_ktup (K := K) (ks := [.text "ref", pD n]) (.cons (.text _) (.cons rv .nil)) (by simp) fun v H3 k3 iv => ?_
          exact q2.1 (.rf n) p2 rfl v H3 (k02.trans k3.nil) (M2.up k3 (by simp) (by simp)) iv
abbrev sp_Message_change (P : Program) (w : World) (K : PySem.W.Frag) : Sp := spR K pCh (RvC K)
theorem ok_Message_change (T : TX P K mg) : Ok P w K mg base (L2.CX P w) 8 ("Message", some "change") p_Message_change (sp_Message_change P w K) := by
  refine T.ok 41 (d := d_Message_change) rfl rfl rfl sc_Message_change (fun _ _ _ _ _ _ us hl => match us, hl with | [_], _ => rfl) (fun vs H Q E h => ?_) fun cdv Ar outer sh H vs Q E hr h => ?_
  · obtain ⟨a, l, os, p, rfl, _⟩ := h; rfl
  · obtain ⟨a, l, os, p, rfl, M, q⟩ := h
    obtain ⟨dx, ho⟩ := M.ob
    obtain ⟨hu, hu1, hu65⟩ := rm_of hr
    refine ⟨_, (pss_cons (ps_set (i := 1) sc_Message_change.nd rfl (Or.inl rfl) (pe_mt0 (ok_Message_stamp T) T.c_Message T.m_Message_stamp (hr.mono (by decide)) (passes_call (takes_of rfl rfl rfl rfl) fun _ _ _ _ z => z) (pv 0)))
      (pss_cons (ps_set (i := 2) sc_Message_change.nd rfl (Or.inl rfl) (pe_mt0 (ok_Message_name T) T.c_Message T.m_Message_name (hr.mono (by decide)) (passes_call (takes_of rfl rfl rfl rfl) fun _ _ _ _ z => z) (pv 0)))
      (pss_cons (ps_set (i := 3) sc_Message_change.nd rfl (Or.inl rfl) (pe_mt' (ok_Message_letters T) T.c_Message T.m_Message_letters (hr.mono (by decide)) (passes_call (takes_of rfl rfl rfl rfl) fun _ _ _ _ z => z) (pv 0) (pa_cons (pe_mt' (ok_Message_octet T) T.c_Message T.m_Message_octet (hr.mono (by decide)) (passes_call (takes_of rfl rfl rfl rfl) fun _ _ _ _ z => z) (pv 0) (pa_cons pe_int (pa_cons (pe_gi T.i_FIELD_MOST) pa_nil))) (pa_cons pe_str pa_nil))))
      (pss_one (ps_ret (pe_tup (pa_cons (pv 1) (pa_cons (pv 2) (pa_cons (pv 3) (pa_cons (pe_mt0 (ok_Message_worth T) T.c_Message T.m_Message_worth (hr.mono (by decide)) (passes_call (takes_of rfl rfl rfl rfl) fun _ _ _ _ z => z) (pv 0)) pa_nil)))))))))), ?_⟩
    walk_at "w"
    refine rd_kmf ho rfl ?_
    walk_at "w"
    refine ⟨a, l, os, p, rfl, M, q.then Kp.refl fun s p1 v1 H1 e1 k1 k01 M1 rv1 q1 => ?_⟩
    obtain ⟨dx1, ho1⟩ := M1.ob
    walk_at "w"
    refine rd_kmf ho1 rfl ?_
    walk_at "w"
    refine ⟨a, l, os, p1, rfl, M1, q1.then k01 fun n p2 v2 H2 e2 k2 k02 M2 rv2 q2 => ?_⟩
    obtain ⟨dx2, ho2⟩ := M2.ob
    walk_at "w"
    refine rd_kmf ho2 rfl ?_
    walk_at "w"
    refine rd_kmf ho2 rfl ?_
    walk_at "w"
    refine ⟨a, l, os, p2, 1, 8, rfl, M2, q2.then k02 fun y p3 v3 H3 e3 k3 k03 M3 rv3 q3 => ?_⟩
    cases (show v3 = .int y from rv3)
    obtain ⟨_, y0, y1, _⟩ := pOct_drop e3
    walk_at "w"
    refine ⟨a, l, os, p3, y.toNat, by rw [Int.toNat_of_nonneg (by omega)], M3, by omega, q3.then k03 fun z p4 v4 H4 e4 k4 k04 M4 rv4 q4 => ?_⟩
    cases (show v4 = .str z from rv4)
    obtain ⟨dx4, ho4⟩ := M4.ob
    walk_at "w"
    refine rd_kmf ho4 rfl ?_
    walk_at "w"
    refine ⟨a, l, os, p4, rfl, M4, q4.then k04 fun x p5 v5 H5 e5 k5 k05 M5 rv5 q5 => ?_⟩
    walk_at "w"
    have r1 : Im K H4 v1 (pD s) := (((show Im K H1 v1 (pD s) from rv1).up k2).up k3).up k4
    have r2 : Im K H4 v2 (pD n) := ((show Im K H2 v2 (pD n) from rv2).up k3).up k4
    refine rd_ktup (K := K) (ks := [pD s, pD n, .text z, vlD x]) (.cons (r1.up k5) (.cons (r2.up k5) (.cons (.text z) (.cons rv5 .nil)))) (by simp) fun v H6 k6 iv => ?_
    exact q5.1 ⟨s, n, z, x⟩ p5 rfl v H6 (k05.trans k6.nil) (M5.up k6 (by simp) (by simp)) iv
end
end GT
set_option maxHeartbeats 2000000
namespace GT
open PySem PySem.Spec PyProof.Rows L2
/-! ### what is written is read -/
theorem emod_step (n A : Int) (hA : 0 < A) : n % (A * 256) = A * ((n / A) % 256) + n % A := by
  have e1 := Int.emod_add_mul_ediv n A
  have e2 := Int.emod_add_mul_ediv (n / A) 256
  have h1 := Int.emod_nonneg n (Int.ne_of_gt hA)
  have h2 := Int.emod_lt_of_pos n hA
  have h3 := Int.emod_nonneg (n / A) (show (256 : Int) ≠ 0 by decide)
  have h4 := Int.emod_lt_of_pos (n / A) (show (0 : Int) < 256 by decide)
  generalize (n / A) % 256 = o at *
  generalize n % A = m at *
  generalize (n / A) / 256 = q at *
  have e : n = A * o + m + (A * 256) * q := by
    rw [← e1, ← e2, Int.mul_add, Int.mul_assoc]
    omega
  have b1 : 0 ≤ A * o := Int.mul_nonneg (Int.le_of_lt hA) h3
  have b2 : A * o + A ≤ A * 256 := by
    have : A * (o + 1) ≤ A * 256 := Int.mul_le_mul_of_nonneg_left (by omega) (Int.le_of_lt hA)
    rw [Int.mul_add, Int.mul_one] at this
    exact this
  rw [e, Int.add_mul_emod_self_left, Int.emod_eq_of_lt (by omega) (by omega)]
theorem pNum_num : ∀ (k : Nat) (n f most : Int) (r : List Int), f + n % 256 ^ k ≤ most → pNum k most f (numO k n ++ r) = some (f + n % 256 ^ k, r)
  | 0, n, f, most, r, _ => by
    rw [Int.pow_zero, Int.emod_one, Int.add_zero]
    rfl
  | k + 1, n, f, most, r, h => by
    have hA : (0 : Int) < 256 ^ k := Int.pow_pos (by decide)
    have h1 := Int.emod_nonneg n (Int.ne_of_gt hA)
    have h3 := Int.emod_nonneg (n / 256 ^ k) (show (256 : Int) ≠ 0 by decide)
    have h4 := Int.emod_lt_of_pos (n / 256 ^ k) (show (0 : Int) < 256 by decide)
    rw [Int.pow_succ, emod_step n _ hA] at h ⊢
    rw [numO, List.cons_append, pNum]
    have hle : n / 256 ^ k % 256 ≤ (if (most - f) / 256 ^ k < 255 then (most - f) / 256 ^ k else 255) := by
      split
      · refine Int.le_ediv_of_mul_le hA ?_
        rw [Int.mul_comm]
        omega
      · omega
    have ho : pOct 0 (if (most - f) / 256 ^ k < 255 then (most - f) / 256 ^ k else 255) (n / 256 ^ k % 256 :: (numO k n ++ r)) = some (n / 256 ^ k % 256, numO k n ++ r) := by
      rw [pOct_cons, if_pos ⟨h3, hle⟩]
    rw [ho]
    show pNum k most (f + 256 ^ k * (n / 256 ^ k % 256)) (numO k n ++ r) = _
    rw [pNum_num k n _ most r (by omega)]
    congr 2
    omega
theorem pNum_full {k : Nat} {n most : Int} {r : List Int} (h0 : 0 ≤ n) (h1 : n < 256 ^ k) (h2 : n ≤ most) : pNum k most 0 (numO k n ++ r) = some (n, r) := by
  have e := Int.emod_eq_of_lt h0 h1
  rw [pNum_num k n 0 most r (by omega), e, Int.zero_add]
theorem pOct_ok {lo hi o : Int} {r : List Int} (h1 : lo ≤ o) (h2 : o ≤ hi) : pOct lo hi (o :: r) = some (o, r) := by
  rw [pOct_cons, if_pos ⟨h1, h2⟩]
theorem pLet_ok : ∀ (cs : List Nat) (z : Str) (r : List Int), (∀ c ∈ cs, 97 ≤ c ∧ c ≤ 122) → pLet cs.length z (cs.map Int.ofNat ++ r) = some (⟨z.cps ++ cs.toArray⟩, r)
  | [], z, r, _ => by
    show some (z, r) = _
    have : (⟨z.cps ++ ([] : List Nat).toArray⟩ : Str) = z := by cases z; simp
    rw [this]
  | c :: cs, z, r, h => by
    have hc := h c List.mem_cons_self
    rw [List.length_cons, pLet, List.map_cons, List.cons_append, show Int.ofNat c = (c : Int) from rfl, pOct_ok (show (97 : Int) ≤ (c : Int) by omega) (show (c : Int) ≤ 122 by omega)]
    show pLet cs.length (z ++ ⟨#[(c : Int).toNat]⟩) (cs.map Int.ofNat ++ r) = _
    rw [pLet_ok cs _ r fun d hd => h d (List.mem_cons_of_mem _ hd), Int.toNat_natCast]
    congr 3
    show (z.cps ++ #[c]) ++ cs.toArray = _
    rw [Array.append_assoc]
    simp
theorem pLet_str {z : Str} (h : WdOk z) (r : List Int) : pLet z.length "" (strO z ++ r) = some (z, r) := by
  have e : z.length = z.cps.toList.length := by simp [Str.length]
  unfold strO
  rw [e, pLet_ok _ _ _ h.lo]
  congr 2
  cases z
  show (⟨#[] ++ _⟩ : Str) = _
  simp
theorem pNum_bd : ∀ (k : Nat) {most f x : Int} {r r' : List Int}, f ≤ most → pNum k most f r = some (x, r') → f ≤ x ∧ x ≤ most
  | 0, _, _, _, _, _, h0, h => by
    cases h
    exact ⟨Int.le_refl _, h0⟩
  | k + 1, most, f, x, r, r', h0, h => by
    have hA : (0 : Int) < 256 ^ k := Int.pow_pos (by decide)
    rw [pNum] at h
    cases r with
    | nil => cases h
    | cons o t =>
      have hB : (if (most - f) / 256 ^ k < 255 then (most - f) / 256 ^ k else 255) ≤ (most - f) / 256 ^ k := by split <;> omega
      generalize (if (most - f) / 256 ^ k < 255 then (most - f) / 256 ^ k else 255) = B at h hB
      rw [pOct_cons] at h
      by_cases c : 0 ≤ o ∧ o ≤ B
      · rw [if_pos c] at h
        have h : pNum k most (f + 256 ^ k * o) t = some (x, r') := h
        have h1 : o ≤ (most - f) / 256 ^ k := Int.le_trans c.2 hB
        have h2 : o * 256 ^ k ≤ most - f := Int.mul_le_of_le_ediv hA h1
        have h3 : 0 ≤ 256 ^ k * o := Int.mul_nonneg (Int.le_of_lt hA) c.1
        rw [Int.mul_comm] at h2
        have := pNum_bd k (by omega) h
        omega
      · rw [if_neg c] at h
        cases h
structure NmG (n : Nm) : Prop where
  p : 0 ≤ n.1 ∧ n.1 ≤ 7
  c : 0 ≤ n.2 ∧ n.2 ≤ 4294967295
def VlG : Vl → Prop
  | .non => True
  | .num i => -1000000 ≤ i ∧ i ≤ 1000000
  | .txt z => WdOk z
  | .rf n => NmG n
structure ChG (c : Ch) : Prop where
  s1 : 1 ≤ c.st.1 ∧ c.st.1 ≤ 4294967295
  s2 : 0 ≤ c.st.2 ∧ c.st.2 ≤ 7
  nm : NmG c.nm
  fd : WdOk c.fd
  fl : 1 ≤ c.fd.length ∧ c.fd.length ≤ 8
  vl : VlG c.vl
theorem VlG.w {v : Vl} (h : VlG v) : VlW v := by
  cases v <;> first | exact h | trivial
theorem ChG.w {c : Ch} (h : ChG c) : ChW c := ⟨h.fd, h.vl.w⟩
theorem pName_ok {n : Nm} (h : NmG n) (r : List Int) : pName (nameO n ++ r) = some (n, r) := by
  unfold pName nameO
  rw [List.cons_append, pOct_ok h.p.1 h.p.2]
  show (pNum 4 4294967295 0 (numO 4 n.2 ++ r)).bind _ = _
  rw [pNum_full h.c.1 (by have := h.c.2; omega) h.c.2]
  rfl
theorem pStamp_ok {n : Nm} (h1 : 1 ≤ n.1 ∧ n.1 ≤ 4294967295) (h2 : 0 ≤ n.2 ∧ n.2 ≤ 7) (r : List Int) : pStamp (numO 4 n.1 ++ [n.2] ++ r) = some (n, r) := by
  unfold pStamp
  rw [List.append_assoc, pNum_full (by omega) (by omega) h1.2]
  show (if n.1 = 0 then none else (pOct 0 7 (n.2 :: r)).bind _) = _
  rw [if_neg (by omega), pOct_ok h2.1 h2.2]
  rfl
theorem pWorth_ok {v : Vl} (h : VlG v) (r : List Int) : pWorth (worthO v ++ r) = some (v, r) := by
  unfold pWorth
  cases v with
  | non => rfl
  | num i =>
    have h : -1000000 ≤ i ∧ i ≤ 1000000 := h
    show (pNum 3 2000000 0 (numO 3 (i + 1000000) ++ r)).bind (fun y => some (Vl.num (y.1 - 1000000), y.2)) = _
    rw [pNum_full (by omega) (by omega) (by omega)]
    show some (Vl.num (i + 1000000 - 1000000), r) = _
    rw [show i + 1000000 - 1000000 = i by omega]
  | txt z =>
    have h : WdOk z := h
    have := h.few
    show (pOct 0 20 ((z.length : Int) :: (strO z ++ r))).bind _ = _
    rw [pOct_ok (by omega) (by omega)]
    show (pLet (z.length : Int).toNat "" (strO z ++ r)).bind _ = _
    rw [Int.toNat_natCast, pLet_str h]
    rfl
  | rf n =>
    show (pName (nameO n ++ r)).bind _ = _
    rw [pName_ok h]
    rfl
theorem pCh_ok {c : Ch} (h : ChG c) (r : List Int) : pCh (chO c ++ r) = some (c, r) := by
  unfold pCh chO
  rw [List.append_assoc, List.append_assoc, List.append_assoc, pStamp_ok h.s1 h.s2]
  show (pName (nameO c.nm ++ (wordO c.fd ++ (worthO c.vl ++ r)))).bind _ = _
  rw [pName_ok h.nm]
  show (pOct 1 8 ((c.fd.length : Int) :: (strO c.fd ++ (worthO c.vl ++ r)))).bind _ = _
  have := h.fl
  rw [pOct_ok (by omega) (by omega)]
  show (pLet (c.fd.length : Int).toNat "" (strO c.fd ++ (worthO c.vl ++ r))).bind _ = _
  rw [Int.toNat_natCast, pLet_str h.fd]
  show (pWorth (worthO c.vl ++ r)).bind _ = _
  rw [pWorth_ok h.vl]
  rfl
theorem pChs_ok : ∀ (cs l : List Ch) (r : List Int), (∀ c ∈ cs, ChG c) → pChs cs.length l (cs.flatMap chO ++ r) = some (l ++ cs, r)
  | [], l, r, _ => by
    show some (l, r) = _
    rw [List.append_nil]
  | c :: cs, l, r, h => by
    rw [List.length_cons, pChs, List.flatMap_cons, List.append_assoc, pCh_ok (h c List.mem_cons_self)]
    show pChs cs.length (l ++ [c]) (cs.flatMap chO ++ r) = _
    rw [pChs_ok cs _ r fun d hd => h d (List.mem_cons_of_mem _ hd)]
    simp
structure MsG (s n : Int) (cs : List Ch) : Prop where
  s : 0 ≤ s ∧ s ≤ 7
  n : 0 ≤ n ∧ n ≤ 4294967295
  l : cs.length ≤ 1000
  c : ∀ c ∈ cs, ChG c
theorem pHead_ok {s n : Int} {cs : List Ch} (h : MsG s n cs) (r : List Int) : pHead (bodyO s n cs ++ r) = some ((s, n, cs), r) := by
  unfold pHead bodyO
  have hl := h.l
  rw [List.append_assoc, List.append_assoc, List.append_assoc]
  show (pOct 0 7 (s :: (numO 4 n ++ (numO 2 cs.length ++ (cs.flatMap chO ++ r))))).bind _ = _
  rw [pOct_ok h.s.1 h.s.2]
  show (pNum 4 4294967295 0 (numO 4 n ++ (numO 2 cs.length ++ (cs.flatMap chO ++ r)))).bind _ = _
  rw [pNum_full h.n.1 (by have := h.n.2; omega) h.n.2]
  show (pNum 2 65535 0 (numO 2 cs.length ++ (cs.flatMap chO ++ r))).bind _ = _
  rw [pNum_full (by omega) (by omega) (by omega)]
  show (pChs (cs.length : Int).toNat [] (cs.flatMap chO ++ r)).bind _ = _
  rw [Int.toNat_natCast, pChs_ok cs [] r h.c]
  rfl
/-! a message with one octet changed has no right check -/
theorem chk_low : ∀ (os : List Int) (s : Int × Int), (os.foldl chkS s).1 % 256 = (s.1 + os.sum) % 256
  | [], s => by simp
  | o :: os, s => by
    rw [List.foldl_cons, chk_low os, List.sum_cons]
    show ((s.1 + o) % 256 + os.sum) % 256 = _
    omega
end GT
set_option maxHeartbeats 2000000
namespace GT
open PySem PySem.Spec PyProof.Rows L2
local macro_rules | `(tactic| walk_at "v") => `(tactic| ((with_reducible show tVar _ _ _ _); refine rd_var rfl ?_))
local macro_rules | `(tactic| walk_at "s1") => `(tactic| with_reducible first | refine rd_cons ?_ | refine rd_nil ?_ | refine rd_c ?_ | refine rd_op ?_ | refine rd_seq ?_ | refine rd_fld ?_ | refine rd_asg ?_ | refine rd_gname ?_ | refine rd_I0 ?_ | refine rd_cb ?_ | refine rd_next ?_ | refine rd_drop ?_ | refine rd_ret ?_ | refine rd_mf ?_ | refine rd_cf ?_ | refine rd_ifS ?_ | refine rd_test ?_ | refine rd_kt ?_)
local macro_rules | `(tactic| walk_at "s2") => `(tactic| with_reducible first | refine rd_tup ?_ | refine rd_lst ?_ | refine rd_bm ?_ | refine rd_gcons ?_ | refine rd_gnil ?_ | refine rd_gsub ?_ | refine rd_dm ?_ | refine rd_sfld ?_ | refine rd_fa ?_ | refine rd_frz ?_ | refine rd_nf ?_ | refine rd_retN ?_ | refine rd_cont ?_ | refine rd_par ?_ | refine rd_un ?_ | refine rd_and ?_ | refine rd_or ?_ | refine rd_not ?_ | refine rd_tru ?_ | refine rd_B ?_ | refine rd_chain ?_ | refine rd_sl ?_ | refine rd_nopart ?_ | refine rd_part ?_ | refine rd_kpart ?_)
local macro_rules | `(tactic| walk_at "s3") => `(tactic| with_reducible first | refine rd_U ?_ | refine rd_eqi ?_ | refine rd_nei ?_ | refine rd_eqs ?_ | refine rd_nes ?_ | refine rd_isN ?_ | refine rd_notN ?_ | refine rd_max2 ?_ | refine rd_min2 ?_ | refine rd_int1 ?_ | refine rd_intb ?_ | refine rd_kbmS ?_ | refine rd_il ?_ | refine rd_it ?_ | refine rd_ir1 ?_ | refine rd_ir2 ?_ | refine rd_in ?_ | refine rd_for ?_ | refine rd_lc ?_ | refine rd_yes ?_ | refine rd_tt ?_ | refine rd_ff ?_ | refine rd_listRg ?_ | refine rd_andV ?_ | refine rd_orV ?_ | refine rd_notV ?_ | refine rd_ex ?_)
local macro_rules | `(tactic| walk_at "c") => `(tactic| first | exact TX.c_Channel (by assumption) | exact TX.c_State (by assumption) | exact TX.c_Message (by assumption) | exact TX.c_Replica (by assumption) | exact TX.c_Network (by assumption))
local macro_rules | `(tactic| walk_at "n") => `(tactic| first | exact TX.n_Channel_under_way (by assumption) | exact TX.n_State_cells (by assumption) | exact TX.n_Message_octets (by assumption) | exact TX.n_Message_place (by assumption) | exact TX.n_Message_known (by assumption) | exact TX.n_Replica_peer (by assumption) | exact TX.n_Replica_clock (by assumption) | exact TX.n_Replica_made (by assumption) | exact TX.n_Replica_state (by assumption) | exact TX.n_Replica_roots (by assumption) | exact TX.n_Replica_pending (by assumption) | exact TX.n_Replica_messages (by assumption) | exact TX.n_Network_replicas (by assumption) | exact TX.n_Network_channels (by assumption))
local macro_rules | `(tactic| walk_at "f") => `(tactic| ((with_reducible show KFld _ _ _ _ _); refine rd_kfld (by assumption) (by walk_at "c") (by walk_at "n") rfl ?_))
local macro_rules | `(tactic| walk_at "g") => `(tactic| ((with_reducible show KSf _ _ _ _ _ _); refine rd_ksf (by assumption) (by walk_at "c") (by walk_at "n") (by simp) ?_))
local macro_rules | `(tactic| walk_at "w") => `(tactic| repeat (first | walk_at "v" | walk_at "s1" | walk_at "f" | walk_at "s2" | walk_at "s3"))
section
variable {P : Program} {w : World} {K : PySem.W.Frag} {mg : Str → Option Value} {base : Heap}
def MgR (K : PySem.W.Frag) (H : Hp) (v : V) (s n : Int) (cs : List Ch) : Prop := ∃ t u, v = .ref t ∧ SqT K H t [.int s, .int n, u] ∧ LR K chD H u cs
def Vld (K : PySem.W.Frag) (H : Hp) (os : List Int) (Q : VK) : Prop := ∃ s n cs, MsG s n cs ∧ os = msgO s n cs ∧ ∀ v H', Kp [] H H' → MgR K H' v s n cs → Q v H'
def Bad (os : List Int) : Prop := ∀ b, os ≠ b ++ chkO b
abbrev sp_read_message (P : Program) (w : World) (K : PySem.W.Frag) : Sp := fun vs H Q E => ∃ (l : Addr) (os : List Int), vs = [.ref l] ∧ Rd H l (.lst (os.map V.int)) ∧ os.length ≤ 100000 ∧ (Vld K H os Q ∨ (Bad os ∧ ∀ d H', Kp [] H H' → E (.ref (He.ga K "CodeError")) d H'))
theorem vld_head {s n : Int} {cs : List Ch} {os : List Int} {s' n' : Int} {cs' : List Ch} {p : Nat} (g : MsG s n cs) (e : os = msgO s n cs) (hp : p ≤ os.length) (h : pHead os = some ((s', n', cs'), os.drop p)) : s' = s ∧ n' = n ∧ cs' = cs ∧ os.drop p = chkO (os.take p) := by
  have h2 := pHead_ok g (chkO (bodyO s n cs))
  rw [show bodyO s n cs ++ chkO (bodyO s n cs) = os from e.symm, h] at h2
  injection h2 with h2
  injection h2 with h2 h3
  injection h2 with h4 h5
  injection h5 with h6 h7
  have hl : os.length - p = 2 := by rw [← List.length_drop, h3]; rfl
  have ho : os.length = (bodyO s n cs).length + 2 := by rw [e]; show (bodyO s n cs ++ chkO _).length = _; rw [List.length_append]; rfl
  have ep : p = (bodyO s n cs).length := by omega
  refine ⟨h4, h6, h7, ?_⟩
  rw [h3]
  congr 1
  rw [e, ep]
  show _ = List.take _ (bodyO s n cs ++ _)
  rw [List.take_left]
theorem chk_at {os : List Int} {p i : Nat} {o : Int} (h : os.drop p = chkO (os.take p)) (e : (chkO (os.take p))[i]? = some o) : os[p + i]? = some o := by
  rw [← h, List.getElem?_drop] at e
  exact e
theorem ok_read_message (T : TX P K mg) : Ok P w K mg base (L2.CX P w) 9 ("read_message", none) p_read_message (sp_read_message P w K) := by
  refine T.ok 42 (d := d_read_message) rfl rfl rfl sc_read_message (fun _ _ _ _ _ _ us hl => match us, hl with | [_], _ => rfl) (fun vs H Q E h => ?_) fun cdv Ar outer sh H vs Q E hr h => ?_
  · obtain ⟨l, os, rfl, _⟩ := h; rfl
  · obtain ⟨l, os, rfl, sq, few, hq⟩ := h
    obtain ⟨hu, hu1, hu65⟩ := rm_of hr
    refine ⟨_, (pss_cons (ps_set (i := 1) sc_read_message.nd rfl (Or.inr rfl) (pe_mk' T.k_Message (ok_Message_init T) T.g_Message (hr.mono (by decide)) pass0 (pa_cons (pv 0) pa_nil)))
      (pss_cons (ps_set (i := 2) sc_read_message.nd rfl (Or.inl rfl) (pe_mt' (ok_Message_octet T) T.c_Message T.m_Message_octet (hr.mono (by decide)) (passes_call (takes_of rfl rfl rfl rfl) fun _ _ _ _ z => z) (pv 1) (pa_cons pe_int (pa_cons (pe_op op_sub (pe_gi T.i_PEERS) pe_int) pa_nil))))
      (pss_cons (ps_set (i := 3) sc_read_message.nd rfl (Or.inl rfl) (pe_mt' (ok_Message_number T) T.c_Message T.m_Message_number (hr.mono (by decide)) (passes_call (takes_of rfl rfl rfl rfl) fun _ _ _ _ z => z) (pv 1) (pa_cons pe_int (pa_cons (pe_gi T.i_COUNT_MOST) pa_nil))))
      (pss_cons (ps_setLcXW (i := 4) (own := [("change", 6)]) sh rfl rfl (takes_of rfl rfl rfl rfl) rfl sc_read_message.nd rfl rfl (sw_true rfl rfl rfl (by decide +kernel)) (pi_range1 (by rfl) T.f_range (pa_cons (pe_mt' (ok_Message_number T) T.c_Message T.m_Message_number (hr.mono (by decide)) (passes_call (takes_of rfl rfl rfl rfl) fun _ _ _ _ z => z) (pv 1) (pa_cons pe_int (pa_cons (pe_gi T.i_CHANGES_MOST) pa_nil))) pa_nil)) (blkOk_by (own := [("change", 6)]) (N := n_read_message) (sc := defScope s_read_message) (by decide +kernel)) (pg_name (i := 6) sc_read_message.nd rfl (Or.inl rfl)) pts_nil (fun hps => (pe_mt0 (ok_Message_change T) T.c_Message T.m_Message_change (hr.mono (by decide)) hps (pv 1))) (fun _ _ _ _ _ => (pg_name (i := 6) sc_read_message.nd rfl (Or.inl rfl))) (fun _ _ _ _ _ => pts_nil) (fun _ _ _ _ _ _ hps => (pe_mt0 (ok_Message_change T) T.c_Message T.m_Message_change (hr.mono (by decide)) hps (pv 1))))
      (pss_cons (ps_for (passes_of rfl) rfl (pi_list (pe_fn (ok_check_of T) T.g_check_of (hr.mono (by decide)) pass0 (pa_cons (pe_slice sl_list (pv 0) po_none (po_some (pe_fld (pv 1) rfl))) pa_nil))) (pg_name (i := 5) sc_read_message.nd rfl (Or.inl rfl))
      (pss_one (ps_expr (pe_mt' (ok_Message_octet T) T.c_Message T.m_Message_octet (hr.mono (by decide)) (passes_call (takes_of rfl rfl rfl rfl) fun _ _ _ _ z => z) (pv 1) (pa_cons (pv 5) (pa_cons (pv 5) pa_nil))))))
      (pss_cons (ps_if (pt_cmpR op_lt (pe_fld (pv 1) rfl) (pe_callB call_lenQ (by rfl) T.f_len (by decide +kernel) (pa_cons (pv 0) pa_nil)) (nomark _))
      (pss_one (ps_raise rfl (takes_of rfl rfl rfl rfl) (pmk_err T.err T.f_super T.nosuper (hr.mono (by decide)) rfl T.g_CodeError (pa_cons (pe_fld (pv 1) rfl) pa_nil))))
      pss_nil)
      (pss_one (ps_ret (pe_tup (pa_cons (pv 2) (pa_cons (pv 3) (pa_cons (pv 4) pa_nil)))))))))))), ?_⟩
    walk_at "w"
    intro x dx nx ndx nxd
    have hl0 : H l ≠ none := by rcases sq with e | ⟨o, e⟩ <;> rw [e] <;> simp
    have nlx : l ≠ x := fun z => hl0 (by rw [z]; exact nx)
    refine ⟨x, dx, .ref l, rfl, upd_same, fun H1 k1 e1 => ⟨rfl, ?_⟩⟩
    have k01 : Kp [] H H1 := ((((Kp.new ndx).wrn nx).nil (F := [x])).trans k1).weak fun b hb => .inr (by simp at hb; rw [hb]; exact nx)
    have M : MsT K H1 x l os 0 := ⟨⟨dx, e1⟩, sql_kp k01 (by simp) (.inl sq), nlx, Nat.zero_le _, few⟩
    have up : ∀ {H'}, Kp [x] H1 H' → Kp [] H H' := fun k => (k01.nil.trans k).weak fun b hb => .inr (by simp at hb; rw [hb]; exact nx)
    have q0 : RdK K H1 x l os (pHead (os.drop 0)) (fun _ _ _ => True) (fun _ _ => True) E := ⟨fun _ _ _ _ _ _ _ _ => trivial, fun e d H' k => by
      rcases hq with ⟨s, n, cs, g, eo, _⟩ | ⟨_, hb⟩
      · have h2 := pHead_ok g (chkO (bodyO s n cs))
        rw [show bodyO s n cs ++ chkO (bodyO s n cs) = os from eo.symm] at h2
        have e : pHead os = none := e
        rw [e] at h2
        cases h2
      · exact hb d H' (up k)⟩
    walk_at "w"
    refine rd_kmf e1 rfl ?_
    walk_at "w"
    refine ⟨x, l, os, 0, 0, 7, rfl, M, q0.then Kp.refl fun s p1 v H2 c1 k2 k02 M2 rv q1 => ?_⟩
    cases (show v = .int s from rv)
    obtain ⟨dx2, ho2⟩ := M2.ob
    walk_at "w"
    refine rd_kmf ho2 rfl ?_
    walk_at "w"
    refine ⟨x, l, os, p1, 4, 4294967295, rfl, M2, by omega, q1.then k02 fun n p2 v H3 c2 k3 k03 M3 rv q2 => ?_⟩
    cases (show v = .int n from rv)
    obtain ⟨dx3, ho3⟩ := M3.ob
    walk_at "w"
    refine rd_kmf ho3 rfl ?_
    walk_at "w"
    refine ⟨x, l, os, p2, 2, 65535, rfl, M3, by omega, q2.then k03 fun m p3 v H4 c3 k4 k04 M4 rv q3 => ?_⟩
    cases (show v = .int m from rv)
    walk_at "w"
    obtain ⟨m0, m1⟩ := pNum_bd 2 (by decide) c3
    refine rd_kir1 m0 (by omega) ?_
    intro D hD
    have kD : Kp [] H4 (upd H4 D (.lst [])) := Kp.new hD
    obtain ⟨dx4, ho4⟩ := M4.ob
    have nDx : D ≠ x := (ne_of_none ho4 hD).symm
    have nD1 : H1 D = none := by
      cases e : H1 D with
      | none => rfl
      | some u => rw [k04.get e (by simpa using nDx)] at hD; cases hD
    have nDl : D ≠ l := fun z => by
      have := M4.sq
      rcases sq with e | ⟨o, e⟩
      · rw [z, (up k04).get e (by simp)] at hD; cases hD
      · rw [z, (up k04).get e (by simp)] at hD; cases hD
    have qL : RdK K H1 x l os (pChs m.toNat [] (os.drop p3)) (fun _ _ _ => True) (fun _ _ => True) E := q3.then Kp.refl fun _ _ _ _ _ _ _ _ _ _ => trivial
    refine lc_it walk_range (fun i H' => Kp [x] H1 H' ∧ ∃ xs acc p', H' D = some (.lst xs) ∧ ImA K H' xs (acc.map chD) ∧ MsT K H' x l os p' ∧ acc.length = i ∧ pChs m.toNat [] (os.drop p3) = pChs (m.toNat - i) acc (os.drop p')) ⟨k04.trans kD.nil, [], [], p3, upd_same, .nil, M4.up kD (by simp) (by simp), rfl, rfl⟩ (fun _ _ _ _ => trivial) ?_ ?_
    · rintro i _ _ H5 hi ⟨k05, xs, acc, p', hxs, im, M5, al, eq⟩ ⟨rfl, rfl⟩
      have ek : m.toNat - i = (m.toNat - (i + 1)) + 1 := by omega
      have qL' := qL
      rw [eq, ek, pChs] at qL'
      obtain ⟨dx5, ho5⟩ := M5.ob
      walk_at "w"
      refine ⟨rfl, ?_⟩
      walk_at "w"
      refine rd_kmf ho5 rfl ?_
      walk_at "w"
      refine ⟨x, l, os, p', rfl, M5, qL'.then k05 fun c p4 v6 H6 c4 k6 k06 M6 rv6 q6 => ?_⟩
      have hxs6 := k6.get hxs (by simpa using nDx)
      have kw : Kp [D] H6 (upd H6 D (.lst (xs ++ [v6]))) := Kp.refl.wl hxs6 (by simp)
      refine ⟨xs, hxs6, Nat.lt_of_lt_of_le (show xs.length < 100000 by rw [ImA.mlen im]; omega) (by decide), ?_, xs ++ [v6], acc ++ [c], p4, upd_same, ?_, M6.up kw (by simpa using nDx.symm) (by simpa using nDl.symm), by simp [al], ?_⟩
      · exact k06.wrn nD1
      · rw [List.map_append]
        exact ImA.snoc ((im.up k6).up kw) ((show Im K H6 v6 (chD c) from rv6).up kw)
      · rw [eq, ek, pChs, c4]
        rfl
    · rintro H5 ⟨k05, xs, acc, p', hxs, im, M5, al, eq⟩
      obtain ⟨dx5, ho5⟩ := M5.ob
      rw [Nat.sub_self] at eq
      have hhead : pHead os = some ((s, n, acc), os.drop p') := by
        show pHead (os.drop 0) = _
        unfold pHead
        rw [c1]
        show (pNum 4 4294967295 0 (os.drop p1)).bind _ = _
        rw [c2]
        show (pNum 2 65535 0 (os.drop p2)).bind _ = _
        rw [c3]
        show (pChs m.toNat [] (os.drop p3)).bind _ = _
        rw [eq]
        rfl
      have noV : os.drop p' ≠ chkO (os.take p') → ∀ d H', Kp [x] H1 H' → E (.ref (He.ga K "CodeError")) d H' := fun z d H' k => by
        rcases hq with ⟨s0, n0, cs0, g, eo, _⟩ | ⟨_, hb⟩
        · exact (z (vld_head g eo M5.le hhead).2.2.2).elim
        · exact hb d H' (up k)
      have fin : os.drop p' = chkO (os.take p') → ∃ cs0, MsG s n acc ∧ ∀ v H', Kp [] H H' → MgR K H' v s n acc → Q v H' := fun z => by
        rcases hq with ⟨s0, n0, cs0, g, eo, q⟩ | ⟨hb, _⟩
        · obtain ⟨h1, h2, h3, _⟩ := vld_head g eo M5.le hhead
          subst h1 h2 h3
          exact ⟨acc, g, q⟩
        · exact (hb (os.take p') (by rw [← z, List.take_append_drop])).elim
      walk_at "w"
      refine rd_slL (sql_kp (up k05) (by simp) (.inl sq)) fun c H6 n6 k6 e6 => ?_
      rw [cutT (by omega) (by rw [List.length_map]; have := M5.le; omega), Int.toNat_natCast, ← List.map_take] at e6
      walk_at "w"
      refine ⟨c, os.take p', rfl, .inl (.inl e6), fun co H7 n7 k7 e7 => ?_⟩
      have M7 : MsT K H7 x l os p' := (M5.up k6 (by simp) (by simp)).up k7 (by simp) (by simp)
      have k57 := k6.trans k7
      have ncx : co ≠ x := fun z => by
        have := k57.get ho5 (by simp)
        rw [← z, e7] at this
        cases this
      refine rd_kil (.inl (.inl e7)) ?_
      refine for_it (walk_list (xs := (chkO (os.take p')).map V.int)) (fun i σ H' => ∃ y, σ = [some (.ref l), some (.ref x), some (.int s), some (.int n), some (.ref D), y, none] ∧ Kp [x] H7 H' ∧ MsT K H' x l os (p' + i) ∧ ∀ j, j < i → os[p' + j]? = (chkO (os.take p'))[j]?) ⟨_, rfl, Kp.refl, M7, fun j hj => absurd hj (by omega)⟩ (fun i σ H' _ ⟨_, _, k, _, _⟩ => .inl (.inl (k.get e7 (by simpa using ncx)))) ?_ ?_
      · rintro i y σ _ H8 hi ⟨y0, rfl, k8, M8, h8⟩ ⟨rfl, hy⟩
        obtain ⟨o, ho, rfl⟩ := get_int hy
        obtain ⟨dx8, ho8⟩ := M8.ob
        walk_at "w"
        refine rd_kmf ho8 rfl ?_
        walk_at "w"
        have k18 : Kp [x] H1 H8 := k05.trans (k57.nil.trans k8)
        refine ⟨x, l, os, p' + i, o, o, rfl, M8, ⟨fun z p9 c9 v9 H9 k9 M9 rv9 => ?_, fun c9 d H9 k9 => ?_⟩⟩
        · obtain ⟨f1, f2, f3, f4⟩ := pOct_drop c9
          have hz : z = o := by omega
          have hp9 : p9 = p' + i + 1 := by
            have h1 := congrArg List.length f4
            rw [List.length_drop, List.length_drop] at h1
            have h2 := (List.getElem?_eq_some_iff.mp f1).1
            have h3 := M9.le
            omega
          subst hp9
          walk_at "w"
          refine ⟨_, rfl, k8.trans k9, M9, fun j hj => ?_⟩
          rcases Nat.lt_or_ge j i with h | h
          · exact h8 j h
          · have : j = i := by omega
            rw [this, ho, f1, hz]
        · refine noV (fun z => ?_) d H9 (k18.trans k9)
          rw [pOct_at (chk_at z ho) (Int.le_refl _) (Int.le_refl _)] at c9
          cases c9
      · rintro σ H8 ⟨y0, rfl, k8, M8, h8⟩
        obtain ⟨dx8, ho8⟩ := M8.ob
        have k18 : Kp [x] H1 H8 := k05.trans (k57.nil.trans k8)
        have M8 : MsT K H8 x l os (p' + 2) := M8
        have ho8 : H8 x = some (.ins (He.ga K "Message") dx8 [("octets", .ref l), ("place", .int ((p' + 2 : Nat) : Int)), ("known", .int 0)]) := ho8
        have len2 : (chkO (os.take p')).length = 2 := rfl
        walk_at "w"
        refine rd_lenL M8.sq ?_
        walk_at "w"
        rw [List.length_map]
        refine rd_if (fun hb => ?_) fun hb => ?_
        · walk_at "w"
          refine rd_terr ?_
          walk_at "w"
          refine rd_kerr (by have := M8.le; omega) fun d H9 k9 => ?_
          refine noV (fun z => ?_) d H9 (k18.trans k9.nil)
          have h1 := congrArg List.length z
          rw [List.length_drop, len2] at h1
          have := of_decide_eq_true hb
          omega
        · have hle : os.length = p' + 2 := by
            have := of_decide_eq_false hb
            have := M8.le
            omega
          have hV : os.drop p' = chkO (os.take p') := by
            refine List.ext_getElem? fun j => ?_
            rw [List.getElem?_drop]
            by_cases hj : j < 2
            · exact h8 j hj
            · rw [List.getElem?_eq_none (by omega), List.getElem?_eq_none (by omega)]
          obtain ⟨_, g, q⟩ := fin hV
          walk_at "w"
          refine rd_ktup' (K := K) (by simp) fun t H9 n9 k9 st => ?_
          have k59 : Kp [x] H5 H9 := (k57.nil.trans k8).trans k9.nil
          exact q _ H9 (up (k05.trans k59)) ⟨t, .ref D, rfl, st, D, xs, rfl, .inl (.inl (k59.get hxs (by simpa using nDx))), im.up k59⟩
end
end GT
set_option maxHeartbeats 2000000
namespace GT
open PySem PySem.Spec PyProof.Rows L2
local macro_rules | `(tactic| walk_at "v") => `(tactic| ((with_reducible show tVar _ _ _ _); refine rd_var rfl ?_))
local macro_rules | `(tactic| walk_at "s1") => `(tactic| with_reducible first | refine rd_cons ?_ | refine rd_nil ?_ | refine rd_c ?_ | refine rd_op ?_ | refine rd_seq ?_ | refine rd_fld ?_ | refine rd_asg ?_ | refine rd_gname ?_ | refine rd_I0 ?_ | refine rd_cb ?_ | refine rd_next ?_ | refine rd_drop ?_ | refine rd_ret ?_ | refine rd_mf ?_ | refine rd_cf ?_ | refine rd_ifS ?_ | refine rd_test ?_ | refine rd_kt ?_)
local macro_rules | `(tactic| walk_at "s2") => `(tactic| with_reducible first | refine rd_tup ?_ | refine rd_lst ?_ | refine rd_bm ?_ | refine rd_gcons ?_ | refine rd_gnil ?_ | refine rd_gsub ?_ | refine rd_dm ?_ | refine rd_sfld ?_ | refine rd_fa ?_ | refine rd_frz ?_ | refine rd_nf ?_ | refine rd_retN ?_ | refine rd_cont ?_ | refine rd_par ?_ | refine rd_un ?_ | refine rd_and ?_ | refine rd_or ?_ | refine rd_not ?_ | refine rd_tru ?_ | refine rd_B ?_ | refine rd_chain ?_ | refine rd_sl ?_ | refine rd_nopart ?_ | refine rd_part ?_ | refine rd_kpart ?_)
local macro_rules | `(tactic| walk_at "s3") => `(tactic| with_reducible first | refine rd_U ?_ | refine rd_eqi ?_ | refine rd_nei ?_ | refine rd_eqs ?_ | refine rd_nes ?_ | refine rd_isN ?_ | refine rd_notN ?_ | refine rd_max2 ?_ | refine rd_min2 ?_ | refine rd_int1 ?_ | refine rd_intb ?_ | refine rd_kbmS ?_ | refine rd_il ?_ | refine rd_it ?_ | refine rd_ir1 ?_ | refine rd_ir2 ?_ | refine rd_in ?_ | refine rd_for ?_ | refine rd_lc ?_ | refine rd_yes ?_ | refine rd_tt ?_ | refine rd_ff ?_ | refine rd_listRg ?_ | refine rd_andV ?_ | refine rd_orV ?_ | refine rd_notV ?_ | refine rd_ex ?_)
local macro_rules | `(tactic| walk_at "c") => `(tactic| first | exact TX.c_Channel (by assumption) | exact TX.c_State (by assumption) | exact TX.c_Message (by assumption) | exact TX.c_Replica (by assumption) | exact TX.c_Network (by assumption))
local macro_rules | `(tactic| walk_at "n") => `(tactic| first | exact TX.n_Channel_under_way (by assumption) | exact TX.n_State_cells (by assumption) | exact TX.n_Message_octets (by assumption) | exact TX.n_Message_place (by assumption) | exact TX.n_Message_known (by assumption) | exact TX.n_Replica_peer (by assumption) | exact TX.n_Replica_clock (by assumption) | exact TX.n_Replica_made (by assumption) | exact TX.n_Replica_state (by assumption) | exact TX.n_Replica_roots (by assumption) | exact TX.n_Replica_pending (by assumption) | exact TX.n_Replica_messages (by assumption) | exact TX.n_Network_replicas (by assumption) | exact TX.n_Network_channels (by assumption))
local macro_rules | `(tactic| walk_at "f") => `(tactic| ((with_reducible show KFld _ _ _ _ _); refine rd_kfld (by assumption) (by walk_at "c") (by walk_at "n") rfl ?_))
local macro_rules | `(tactic| walk_at "g") => `(tactic| ((with_reducible show KSf _ _ _ _ _ _); refine rd_ksf (by assumption) (by walk_at "c") (by walk_at "n") (by simp) ?_))
local macro_rules | `(tactic| walk_at "w") => `(tactic| repeat (first | walk_at "v" | walk_at "s1" | walk_at "f" | walk_at "s2" | walk_at "s3"))
/-! ### the replica's deeds -/
def Known (rp : Rep) (n : Nm) : Prop := n = (0, 0) ∨ (n.1 = rp.peer ∧ n.2 < rp.made) ∨ NamesOf rp.cells n
def noteC (rp : Rep) (n : Nm) (f : Str) (v : Vl) : Ch := ⟨(rp.clock + 1, rp.peer), n, f, v⟩
def noteR (rp : Rep) (c : Ch) : Rep := { rp with clock := rp.clock + 1, cells := takeC rp.cells c, pend := rp.pend ++ [c] }
structure RNm (rp : Rep) (nms : List Nm) : Prop where
  ok : NmOk nms
  cn : ∀ n, NamesOf rp.cells n → n ∈ nms
  nd : (rp.cells.map (·.1)).Nodup
  few : rp.cells.length < 1000
section
variable {P : Program} {w : World} {K : PySem.W.Frag} {mg : Str → Option Value} {base : Heap}
abbrev RpN (P : Program) (w : World) (K : PySem.W.Frag) (H : Hp) (A : RAd) (rp' : Rep) (N : Hp → Prop) : Prop := ∀ A' H', Kp A.own H H' → (∀ b ∈ A'.own, b ∈ A.own ∨ H b = none) → A'.a = A.a → RepT P w K H' A' rp' → N H'
abbrev sp_Replica_init (P : Program) (w : World) (K : PySem.W.Frag) : Sp := fun vs H Q _ => ∃ (a dx : Addr) (p : Int), vs = [.ref a, .int p] ∧ H a = some (.ins (He.ga K "Replica") dx []) ∧ 0 ≤ p ∧ p < 8 ∧
  ∀ A H', Kp [a] H H' → A.a = a → (∀ b ∈ A.own, b = a ∨ H b = none) → RepT P w K H' A ⟨p, 0, if p = 0 then 1 else 0, [], [(0, 0)], [], []⟩ → Q .non H'
theorem mem_own {A : RAd} {b : Addr} : b ∈ A.own ↔ b = A.a ∨ b = A.s ∨ b = A.d ∨ b = A.r ∨ b = A.pe ∨ b = A.ms := by simp [RAd.own]
theorem ok_Replica_init (T : TX P K mg) : Ok P w K mg base (CX0) 3 ("Replica", some "__init__") p_Replica_init (sp_Replica_init P w K) := by
  refine T.ok 43 (d := d_Replica_init) rfl rfl rfl sc_Replica_init (fun _ _ _ _ _ _ us hl => match us, hl with | [_, _], _ => rfl) (fun vs H Q E h => ?_) fun cdv Ar outer sh H vs Q E hr h => ?_
  · obtain ⟨a, dx, p, rfl, _⟩ := h; rfl
  · obtain ⟨a, dx, p, rfl, ho, h0, h8, q⟩ := h
    obtain ⟨hu, hu1, hu65⟩ := rm_of hr
    refine ⟨_, PSs.nox (pss_cons (ps_if (pt_not (pt_chain op_le op_lt pe_int (pv 1) (pe_gi T.i_PEERS)))
      (pss_one ps_never)
      pss_nil)
      (pss_cons (ps_fld (pv 0) (pv 1) rfl)
      (pss_cons (ps_fld (pv 0) pe_int rfl)
      (pss_cons (ps_fld (pv 0) (pe_callTy call_int1Q (by rfl) T.f_int (by decide +kernel) (pa_cons (pe_cmpR op_eq (pv 1) pe_int (nomark _)) pa_nil)) rfl)
      (pss_cons (ps_fld (pv 0) (pe_mk0 T.k_State (ok_State_init T) T.g_State (hr.mono (by decide)) pass0) rfl)
      (pss_cons (ps_fld (pv 0) (pe_lst (pa_cons (pe_gr T.g_ROOT) pa_nil)) rfl)
      (pss_cons (ps_fld (pv 0) (pe_lst pa_nil) rfl)
      (pss_one (ps_fld (pv 0) pe_dnewN rfl))))))))), ?_⟩
    walk_at "w"
    refine rd_ifT (decide_eq_true h0) ?_
    walk_at "w"
    refine rd_ifF (by simp; exact h8) ?_
    walk_at "w"
    refine rd_ksf' (fs := []) ho (TX.c_Replica T) (TX.n_Replica_peer T) (by simp) fun H1 ho1 k1 => ?_
    walk_at "w"
    refine rd_ksf' (fs := [("peer", .int p)]) ho1 (TX.c_Replica T) (TX.n_Replica_clock T) (by simp) fun H2 ho2 k2 => ?_
    walk_at "w"
    refine rd_ksf' (fs := [("peer", .int p), ("clock", .int 0)]) ho2 (TX.c_Replica T) (TX.n_Replica_made T) (by simp) fun H3 ho3 k3 => ?_
    walk_at "w"
    have k03 := (k1.trans k2).trans k3
    intro s ds ns nds nsd
    refine ⟨s, ds, rfl, upd_same, fun d H4 nd4 k4 st => ⟨rfl, ?_⟩⟩
    have nsa : s ≠ a := (ne_of_none ho3 ns).symm
    have k34 : Kp [] H3 H4 := ((((Kp.new nds).wrn ns).nil (F := [s])).trans k4).weak fun b hb => .inr (by simp at hb; rw [hb]; exact ns)
    have nd3 : H3 d = none := by
      have : upd (upd H3 ds (.own s)) s (.ins (He.ga K "State") ds []) d = none := nd4
      have e1 : d ≠ s := fun z => by rw [z, upd_same] at this; cases this
      rw [upd_ne e1] at this
      have e2 : d ≠ ds := fun z => by rw [z, upd_same] at this; cases this
      rwa [upd_ne e2] at this
    have ho4 := k34.get ho3 (by simp)
    walk_at "w"
    refine rd_ksf' (fs := [("peer", .int p), ("clock", .int 0), ("made", .int (if decide (p = 0) then 1 else 0))]) ho4 (TX.c_Replica T) (TX.n_Replica_state T) (by simp) fun H5 ho5 k5 => ?_
    walk_at "w"
    refine rd_klst (by simp) fun r H6 n6 k6 e6 => ?_
    walk_at "w"
    refine rd_ksf' (fs := [("peer", .int p), ("clock", .int 0), ("made", .int (if decide (p = 0) then 1 else 0)), ("state", .ref s)]) (k6.get ho5 (by simp)) (TX.c_Replica T) (TX.n_Replica_roots T) (by simp) fun H7 ho7 k7 => ?_
    walk_at "w"
    refine rd_klst (by simp) fun pe H8 n8 k8 e8 => ?_
    walk_at "w"
    refine rd_ksf' (fs := [("peer", .int p), ("clock", .int 0), ("made", .int (if decide (p = 0) then 1 else 0)), ("state", .ref s), ("roots", .ref r)]) (k8.get ho7 (by simp)) (TX.c_Replica T) (TX.n_Replica_pending T) (by simp) fun H9 ho9 k9 => ?_
    walk_at "w"
    refine rd_newN fun ms H10 n10 k10 dm => ?_
    walk_at "w"
    refine rd_ksf' (fs := [("peer", .int p), ("clock", .int 0), ("made", .int (if decide (p = 0) then 1 else 0)), ("state", .ref s), ("roots", .ref r), ("pending", .ref pe)]) (k10.get ho9 (by simp)) (TX.c_Replica T) (TX.n_Replica_messages T) (by simp) fun H11 ho11 k11 => ?_
    walk_at "w"
    have k45 : Kp [a] H4 H5 := k5
    have k57 : Kp [a] H5 H7 := k6.nil.trans k7
    have k79 : Kp [a] H7 H9 := k8.nil.trans k9
    have k911 : Kp [a] H9 H11 := k10.nil.trans k11
    have k011 : Kp [a] H H11 := k03.trans (k34.nil.trans (k45.trans (k57.trans (k79.trans k911))))
    have none0 : ∀ {b H'}, Kp [a] H H' → b ≠ a → H' b = none → H b = none := fun {b H'} k z e => by
      cases h : H b with
      | none => rfl
      | some u => rw [k.get h (by simpa using z)] at e; cases e
    have nda : d ≠ a := (ne_of_none ho3 nd3).symm
    have nra : r ≠ a := (ne_of_none ho5 n6).symm
    have npa : pe ≠ a := (ne_of_none ho7 n8).symm
    have nma : ms ≠ a := (ne_of_none ho9 n10).symm
    have st5 : StT P w K H5 s d [] := st.up k45 (by simpa using nsa) (by simpa using nda)
    have st9 : StT P w K H9 s d [] := (st5.up k57 (by simpa using nsa) (by simpa using nda)).up k79 (by simpa using nsa) (by simpa using nda)
    have k05 : Kp [a] H H5 := k03.trans (k34.nil.trans k45)
    have k07 := k05.trans k57
    have k09 := k07.trans k79
    have er7 : H7 r = _ := k7.get e6 (by simpa using nra)
    have er9 : H9 r = _ := k79.get er7 (by simpa using nra)
    have ep9 : H9 pe = _ := k9.get e8 (by simpa using npa)
    refine q ⟨a, s, d, r, pe, ms⟩ H11 k011 rfl (fun b hb => ?_) ⟨⟨dx, ?_⟩, st9.up k911 (by simpa using nsa) (by simpa using nda), ⟨_, k911.get er9 (by simpa using nra), .cons (TX.root T _) .nil⟩, ⟨_, k911.get ep9 (by simpa using npa), .nil⟩, (DV.new dm).up st_ms k11 (by simpa using nma), nsa.symm, ?_, ?_⟩
    · rcases mem_own.mp hb with e | e | e | e | e | e
      · exact .inl e
      · exact .inr (by rw [e]; exact none0 k03 nsa ns)
      · exact .inr (by rw [e]; exact none0 k03 nda nd3)
      · exact .inr (by rw [e]; exact none0 k05 nra n6)
      · exact .inr (by rw [e]; exact none0 k07 npa n8)
      · exact .inr (by rw [e]; exact none0 k09 nma n10)
    · have hm : (if decide (p = 0) = true then (1 : Int) else 0) = if p = 0 then 1 else 0 := by by_cases z : p = 0 <;> simp [z]
      rw [ho11, ← hm]
      rfl
    · obtain ⟨φ, e⟩ := st9.ce.ext
      exact ne_of_none e n10
    · exact ne_of_none er7 n8
abbrev sp_Replica_knows (P : Program) (w : World) (K : PySem.W.Frag) : Sp := fun vs H Q _ => ∃ (A : RAd) (rp : Rep) (v : V) (n : Nm) (nms : List Nm), vs = [.ref A.a, v] ∧ RepT P w K H A rp ∧ Im K H v (pD n) ∧ Known rp n ∧ RNm rp nms ∧ ∀ H', Kp [] H H' → Q (.bl true) H'
theorem ok_Replica_knows (T : TX P K mg) : Ok P w K mg base (CX0) 3 ("Replica", some "knows") p_Replica_knows (sp_Replica_knows P w K) := by
  refine T.ok 44 (d := d_Replica_knows) rfl rfl rfl sc_Replica_knows (fun _ _ _ _ _ _ us hl => match us, hl with | [_, _], _ => rfl) (fun vs H Q E h => ?_) fun cdv Ar outer sh H vs Q E hr h => ?_
  · obtain ⟨A, rp, v, n, nms, rfl, _⟩ := h; rfl
  · obtain ⟨A, rp, v, n, nms, rfl, R, hv, kn, rn, q⟩ := h
    obtain ⟨⟨dx, hob⟩, st, ro, pn, me, n1, n2, n3⟩ := id R
    obtain ⟨hu, hu1, hu65⟩ := rm_of hr
    refine ⟨_, PSs.nox (pss_one (ps_ret (pe_or (pe_cmpR (op_eqI hu) (pv 1) (pe_gr T.g_ROOT) (nomark _)) (pe_or (pe_and (pe_cmpR op_eq (pe_ix ix_tup (pv 1) pe_int (fun _ _ => rfl)) (pe_fld (pv 0) rfl) (nomark _)) (pe_one (pe_cmpR op_lt (pe_ix ix_tup (pv 1) pe_int (fun _ _ => rfl)) (pe_fld (pv 0) rfl) (nomark _)))) (pe_one (pe_cmpR (op_inI hu65) (pv 1) (pe_mt0 (ok_State_names T) T.c_State T.m_State_names (hr.mono (by decide)) pass0 (pe_fld (pv 0) rfl)) (by with_unfolding_all rfl))))))), ?_⟩
    walk_at "w"
    refine rd_eqI hv (TX.root T H) (shp_p n) (shp_p (0, 0)) ?_
    walk_at "w"
    refine rd_if (fun hb => ?_) fun hb => ?_
    · exact q H Kp.refl
    walk_at "w"
    have h0 : n ≠ (0, 0) := fun z => of_decide_eq_false hb (by rw [z]; rfl)
    refine rd_ixI (k := .num n.1) hv rfl fun u hu0 => ?_
    cases hu0.int
    walk_at "w"
    obtain ⟨⟨dx2, hs⟩, ce⟩ := id st
    have fin : ¬ (n.1 = rp.peer ∧ n.2 < rp.made) → NamesOf rp.cells n := fun z => kn.elim (fun e => (h0 e).elim) fun e => e.elim (fun e => (z e).elim) id
    refine rd_if (fun hb => ?_) fun hb => ?_
    · walk_at "w"
      refine rd_ixI (k := .num n.2) hv rfl fun u hu0 => ?_
      cases hu0.int
      walk_at "w"
      refine rd_if (fun hb2 => ?_) fun hb2 => ?_
      · exact q H Kp.refl
      walk_at "w"
      refine rd_kmf hs rfl ?_
      walk_at "w"
      refine ⟨A.s, A.d, rp.cells, nms, rfl, st, rn.ok, rn.cn, rn.nd, rn.few, fun p ys m H1 n1 k1 e1 im hm => ?_⟩
      refine rd_inP ⟨p, ys, rfl, .inl (.inl e1), im⟩ (hv.up k1) ?_
      rw [decide_eq_true ((hm n).mpr (fin fun z => of_decide_eq_false hb2 z.2))]
      exact q H1 k1
    · walk_at "w"
      refine rd_kmf hs rfl ?_
      walk_at "w"
      refine ⟨A.s, A.d, rp.cells, nms, rfl, st, rn.ok, rn.cn, rn.nd, rn.few, fun p ys m H1 n1 k1 e1 im hm => ?_⟩
      refine rd_inP ⟨p, ys, rfl, .inl (.inl e1), im⟩ (hv.up k1) ?_
      rw [decide_eq_true ((hm n).mpr (fin fun z => of_decide_eq_false hb z.1))]
      exact q H1 k1
abbrev sp_Replica_check (P : Program) (w : World) (K : PySem.W.Frag) : Sp := fun vs H Q _ => ∃ (A : RAd) (rp : Rep) (v : V) (n : Nm) (nms : List Nm), vs = [.ref A.a, v] ∧ RepT P w K H A rp ∧ Im K H v (pD n) ∧ Known rp n ∧ RNm rp nms ∧ ∀ H', Kp [] H H' → Q .non H'
theorem ok_Replica_check (T : TX P K mg) : Ok P w K mg base (CX0) 4 ("Replica", some "check") p_Replica_check (sp_Replica_check P w K) := by
  refine T.ok 45 (d := d_Replica_check) rfl rfl rfl sc_Replica_check (fun _ _ _ _ _ _ us hl => match us, hl with | [_, _], _ => rfl) (fun vs H Q E h => ?_) fun cdv Ar outer sh H vs Q E hr h => ?_
  · obtain ⟨A, rp, v, n, nms, rfl, _⟩ := h; rfl
  · obtain ⟨A, rp, v, n, nms, rfl, R, hv, kn, rn, q⟩ := h
    obtain ⟨dx, hob⟩ := R.ob
    obtain ⟨hu, hu1, hu65⟩ := rm_of hr
    refine ⟨_, PSs.nox (pss_one (ps_if (pt_not (pt_val (pe_mt' (ok_Replica_knows T) T.c_Replica T.m_Replica_knows (hr.mono (by decide)) pass0 (pv 0) (pa_cons (pv 1) pa_nil))))
      (pss_one ps_never)
      pss_nil)), ?_⟩
    walk_at "w"
    refine rd_kmf hob rfl ?_
    walk_at "w"
    refine ⟨A, rp, v, n, nms, rfl, R, hv, kn, rn, fun H1 k1 => ?_⟩
    walk_at "w"
    refine rd_ifF rfl ?_
    walk_at "w"
    exact q H1 k1
theorem RepT.numk {H H' : Hp} {A : RAd} {rp : Rep} (h : RepT P w K H A rp) (k : Kp [A.a] H H') {c m : Int} {dx : Addr} (e : H' A.a = some (.ins (He.ga K "Replica") dx (repFs A { rp with clock := c, made := m }))) : RepT P w K H' A { rp with clock := c, made := m } := by
  have nd := h.nd
  obtain ⟨⟨dx', ob⟩, st, ro, pn, me, n1, n2, n3⟩ := h
  simp only [RAd.own, List.nodup_cons, List.mem_cons, List.not_mem_nil, or_false, not_or] at nd
  obtain ⟨⟨a1, a2, a3, a4, a5⟩, -⟩ := nd
  exact ⟨⟨dx, e⟩, st.up k (by simpa using Ne.symm a1) (by simpa using Ne.symm a2), ro.up k (by simpa using Ne.symm a3), pn.up k (by simpa using Ne.symm a4), me.up st_ms k (by simpa using Ne.symm a5), n1, n2, n3⟩
abbrev sp_Replica_begin (P : Program) (w : World) (K : PySem.W.Frag) : Sp := fun vs H Q _ => ∃ (A : RAd) (rp : Rep), vs = [.ref A.a] ∧ RepT P w K H A rp ∧ ∀ v H', Kp [A.a] H H' → RepT P w K H' A { rp with made := rp.made + 1 } → Im K H' v (pD (rp.peer, rp.made)) → Q v H'
theorem ok_Replica_begin (T : TX P K mg) : Ok P w K mg base (CX0) 1 ("Replica", some "begin") p_Replica_begin (sp_Replica_begin P w K) := by
  refine T.ok 46 (d := d_Replica_begin) rfl rfl rfl sc_Replica_begin (fun _ _ _ _ _ _ us hl => match us, hl with | [_], _ => rfl) (fun vs H Q E h => ?_) fun cdv Ar outer sh H vs Q E hr h => ?_
  · obtain ⟨A, rp, rfl, _⟩ := h; rfl
  · obtain ⟨A, rp, rfl, R, q⟩ := h
    obtain ⟨dx, hob⟩ := R.ob
    obtain ⟨hu, hu1, hu65⟩ := rm_of hr
    refine ⟨_, PSs.nox (pss_cons (ps_fldaug (pv 0) pe_int in_add)
      (pss_one (ps_ret (pe_tup (pa_cons (pe_fld (pv 0) rfl) (pa_cons (pe_op op_sub (pe_fld (pv 0) rfl) pe_int) pa_nil)))))), ?_⟩
    walk_at "w"
    refine rd_kfa' hob (TX.c_Replica T) (TX.n_Replica_made T) rfl (by simp) fun H1 ho1 k1 => ?_
    have R1 : RepT P w K H1 A { rp with made := rp.made + 1 } := R.numk (c := rp.clock) (m := rp.made + 1) k1 ho1
    have ho1 : H1 A.a = some (.ins (He.ga K "Replica") dx (repFs A { rp with made := rp.made + 1 })) := ho1
    walk_at "w"
    refine rd_ktup (K := K) (ks := [.num rp.peer, .num (rp.made + 1 - 1)]) (.cons (.num _) (.cons (.num _) .nil)) (by simp) fun v H2 k2 iv => ?_
    rw [show rp.made + 1 - 1 = rp.made by omega] at iv
    exact q v H2 (k1.trans k2.nil) (R1.up0 k2) iv
abbrev QCh (P : Program) (w : World) (K : PySem.W.Frag) (H : Hp) (A : RAd) (rp : Rep) (c : Ch) (Q : VK) : Prop := ∀ v H', Kp [A.a, A.d, A.pe] H H' → RepT P w K H' A (noteR rp c) → Im K H' v (chD c) → Q v H'
abbrev sp_Replica_note (P : Program) (w : World) (K : PySem.W.Frag) : Sp := fun vs H Q _ => ∃ (A : RAd) (rp : Rep) (vn vv : V) (n : Nm) (f : Str) (x : Vl), vs = [.ref A.a, vn, .str f, vv] ∧ RepT P w K H A rp ∧ Im K H vn (pD n) ∧ Im K H vv (vlD x) ∧ rp.cells.length < 1000 ∧ rp.pend.length < 1000 ∧
  QCh P w K H A rp (noteC rp n f x) Q
theorem ok_Replica_note (T : TX P K mg) : Ok P w K mg base (CX0) 3 ("Replica", some "note") p_Replica_note (sp_Replica_note P w K) := by
  refine T.ok 48 (d := d_Replica_note) rfl rfl rfl sc_Replica_note (fun _ _ _ _ _ _ us hl => match us, hl with | [_, _, _, _], _ => rfl) (fun vs H Q E h => ?_) fun cdv Ar outer sh H vs Q E hr h => ?_
  · obtain ⟨A, rp, vn, vv, n, f, x, rfl, _⟩ := h; rfl
  · obtain ⟨A, rp, vn, vv, n, f, x, rfl, R, hn, hx, hz, hp, q⟩ := h
    obtain ⟨dx, hob⟩ := R.ob
    obtain ⟨hu, hu1, hu65⟩ := rm_of hr
    refine ⟨_, PSs.nox (pss_cons (ps_fldaug (pv 0) pe_int in_add)
      (pss_cons (ps_set (i := 4) sc_Replica_note.nd rfl (Or.inl rfl) (pe_tup (pa_cons (pe_tup (pa_cons (pe_fld (pv 0) rfl) (pa_cons (pe_fld (pv 0) rfl) pa_nil))) (pa_cons (pv 1) (pa_cons (pv 2) (pa_cons (pv 3) pa_nil))))))
      (pss_cons (ps_expr (pe_mt' (ok_State_take T) T.c_State T.m_State_take (hr.mono (by decide)) pass0 (pe_fld (pv 0) rfl) (pa_cons (pv 4) pa_nil)))
      (pss_cons (ps_expr (pe_bm PySem.F.plainAttrs_list PySem.F.slot_list_append PySem.F.type_list_append mt_append (pe_fld (pv 0) rfl) (pa_cons (pv 4) pa_nil)))
      (pss_one (ps_ret (pv 4))))))), ?_⟩
    walk_at "w"
    refine rd_kfa' hob (TX.c_Replica T) (TX.n_Replica_clock T) rfl (by simp) fun H1 ho1 k1 => ?_
    have R1 : RepT P w K H1 A { rp with clock := rp.clock + 1 } := R.numk (c := rp.clock + 1) (m := rp.made) k1 ho1
    have ho1 : H1 A.a = some (.ins (He.ga K "Replica") dx (repFs A { rp with clock := rp.clock + 1 })) := ho1
    walk_at "w"
    refine rd_ktup (K := K) (ks := [.num (rp.clock + 1), .num rp.peer]) (.cons (.num _) (.cons (.num _) .nil)) (by simp) fun v2 H2 k2 iv2 => ?_
    walk_at "w"
    refine rd_ktup (K := K) (ks := [pD (rp.clock + 1, rp.peer), pD n, .text f, vlD x]) (.cons iv2 (.cons ((hn.up k1).up k2) (.cons (.text f) (.cons ((hx.up k1).up k2) .nil)))) (by simp) fun v3 H3 k3 iv3 => ?_
    have iv3 : Im K H3 v3 (chD (noteC rp n f x)) := iv3
    have R3 := (R1.up0 k2).up0 k3
    have ho3 := k3.get (k2.get ho1 (by simp)) (by simp)
    obtain ⟨⟨dx3, hs3⟩, ce3⟩ := id R3.st
    walk_at "w"
    refine rd_kmf hs3 rfl ?_
    walk_at "w"
    refine ⟨A.s, A.d, rp.cells, v3, noteC rp n f x, rfl, R3.st, iv3, hz, fun b H4 k4 st4 => ?_⟩
    have R4 := R3.cel k4 st4.ce
    have nd := R3.nd
    obtain ⟨dx4, ho4⟩ := R4.ob
    obtain ⟨ys, e4, im4⟩ := id R4.pn
    walk_at "w"
    refine rd_kbmL (.inl (.inl e4)) ?_
    walk_at "w"
    refine rd_appM R4.pn (iv3.up k4) (show rp.pend.length < 100000 by omega) fun H5 k5 pn5 => ?_
    walk_at "w"
    refine q v3 H5 ?_ (R4.pnd k5 pn5) ((iv3.up k4).up k5)
    exact (k1.mono (by simp)).trans (k2.nil.trans (k3.nil.trans ((k4.mono (by simp)).trans (k5.mono (by simp)))))
abbrev KnV (rp : Rep) (x : Vl) : Prop := ∀ n, x = .rf n → Known rp n
abbrev sp_Replica_put (P : Program) (w : World) (K : PySem.W.Frag) : Sp := fun vs H Q _ => ∃ (A : RAd) (rp : Rep) (vn vv : V) (n : Nm) (f : Str) (x : Vl) (nms : List Nm), vs = [.ref A.a, vn, .str f, vv] ∧ RepT P w K H A rp ∧ Im K H vn (pD n) ∧ Im K H vv (vlD x) ∧ rp.pend.length < 1000 ∧ Known rp n ∧ KnV rp x ∧ RNm rp nms ∧
  QCh P w K H A rp (noteC rp n f x) Q
theorem QCh.up {H H1 : Hp} {A : RAd} {rp : Rep} {c : Ch} {Q : VK} (q : QCh P w K H A rp c Q) (k : Kp [] H H1) : QCh P w K H1 A rp c Q := fun v H' k' R i => q v H' (k.nil.trans k') R i
theorem ok_Replica_put (T : TX P K mg) : Ok P w K mg base (CX0) 5 ("Replica", some "put") p_Replica_put (sp_Replica_put P w K) := by
  refine T.ok 47 (d := d_Replica_put) rfl rfl rfl sc_Replica_put (fun _ _ _ _ _ _ us hl => match us, hl with | [_, _, _, _], _ => rfl) (fun vs H Q E h => ?_) fun cdv Ar outer sh H vs Q E hr h => ?_
  · obtain ⟨A, rp, vn, vv, n, f, x, nms, rfl, _⟩ := h; rfl
  · obtain ⟨A, rp, vn, vv, n, f, x, nms, rfl, R, hn, hx, hp, kn, kx, rn, q⟩ := h
    obtain ⟨dx, hob⟩ := R.ob
    obtain ⟨hu, hu1, hu65⟩ := rm_of hr
    refine ⟨_, PSs.nox (pss_cons (ps_expr (pe_mt' (ok_Replica_check T) T.c_Replica T.m_Replica_check (hr.mono (by decide)) pass0 (pv 0) (pa_cons (pv 1) pa_nil)))
      (pss_cons (ps_if (pt_cmpR op_notN1 (pe_fn (ok_target_of T) T.g_target_of (hr.mono (by decide)) pass0 (pa_cons (pv 3) pa_nil)) pe_non (nomark _))
      (pss_one (ps_expr (pe_mt' (ok_Replica_check T) T.c_Replica T.m_Replica_check (hr.mono (by decide)) pass0 (pv 0) (pa_cons (pe_fn (ok_target_of T) T.g_target_of (hr.mono (by decide)) pass0 (pa_cons (pv 3) pa_nil)) pa_nil))))
      pss_nil)
      (pss_one (ps_ret (pe_mt' (ok_Replica_note T) T.c_Replica T.m_Replica_note (hr.mono (by decide)) pass0 (pv 0) (pa_cons (pv 1) (pa_cons (pv 2) (pa_cons (pv 3) pa_nil)))))))), ?_⟩
    walk_at "w"
    refine rd_kmf hob rfl ?_
    walk_at "w"
    refine ⟨A, rp, vn, n, nms, rfl, R, hn, kn, rn, fun H1 k1 => ?_⟩
    have R1 := R.up0 k1
    have ho1 := k1.get hob (by simp)
    walk_at "w"
    refine ⟨vv, x, rfl, hx.up k1, fun y hy => ?_⟩
    walk_at "w"
    rw [tg_non hy]
    cases x with
    | rf t =>
      refine rd_ifT rfl ?_
      walk_at "w"
      refine rd_kmf ho1 rfl ?_
      walk_at "w"
      refine ⟨vv, .rf t, rfl, hx.up k1, fun y hy => ?_⟩
      walk_at "w"
      refine ⟨A, rp, y, t, nms, rfl, R1, hy, kx t rfl, rn, fun H2 k2 => ?_⟩
      walk_at "w"
      refine rd_kmf (k2.get ho1 (by simp)) rfl ?_
      walk_at "w"
      exact ⟨A, rp, vn, vv, n, f, .rf t, rfl, R1.up0 k2, (hn.up k1).up k2, (hx.up k1).up k2, rn.few, hp, QCh.up q (k1.trans k2)⟩
    | _ =>
      refine rd_ifF rfl ?_
      walk_at "w"
      refine rd_kmf ho1 rfl ?_
      walk_at "w"
      exact ⟨A, rp, vn, vv, n, f, _, rfl, R1, hn.up k1, hx.up k1, rn.few, hp, QCh.up q k1⟩
abbrev sp_Replica_hold (P : Program) (w : World) (K : PySem.W.Frag) : Sp := fun vs H Q _ => ∃ (A : RAd) (rp : Rep) (v : V) (n : Nm) (nms : List Nm), vs = [.ref A.a, v] ∧ RepT P w K H A rp ∧ Im K H v (pD n) ∧ Known rp n ∧ RNm rp nms ∧ rp.roots.length < 1000 ∧
  ∀ b H', Kp [A.r] H H' → RepT P w K H' A { rp with roots := if n ∈ rp.roots then rp.roots else rp.roots ++ [n] } → Q (.bl b) H'
theorem ok_Replica_hold (T : TX P K mg) : Ok P w K mg base (CX0) 5 ("Replica", some "hold") p_Replica_hold (sp_Replica_hold P w K) := by
  refine T.ok 49 (d := d_Replica_hold) rfl rfl rfl sc_Replica_hold (fun _ _ _ _ _ _ us hl => match us, hl with | [_, _], _ => rfl) (fun vs H Q E h => ?_) fun cdv Ar outer sh H vs Q E hr h => ?_
  · obtain ⟨A, rp, v, n, nms, rfl, _⟩ := h; rfl
  · obtain ⟨A, rp, v, n, nms, rfl, R, hv, kn, rn, hz, q⟩ := h
    obtain ⟨dx, hob⟩ := R.ob
    obtain ⟨hu, hu1, hu65⟩ := rm_of hr
    refine ⟨_, PSs.nox (pss_cons (ps_expr (pe_mt' (ok_Replica_check T) T.c_Replica T.m_Replica_check (hr.mono (by decide)) pass0 (pv 0) (pa_cons (pv 1) pa_nil)))
      (pss_cons (ps_if (pt_cmpR (op_inI hu65) (pv 1) (pe_fld (pv 0) rfl) (by with_unfolding_all rfl))
      (pss_one (ps_ret pe_bl))
      pss_nil)
      (pss_cons (ps_expr (pe_bm PySem.F.plainAttrs_list PySem.F.slot_list_append PySem.F.type_list_append mt_append (pe_fld (pv 0) rfl) (pa_cons (pv 1) pa_nil)))
      (pss_one (ps_ret pe_bl))))), ?_⟩
    walk_at "w"
    refine rd_kmf hob rfl ?_
    walk_at "w"
    refine ⟨A, rp, v, n, nms, rfl, R, hv, kn, rn, fun H1 k1 => ?_⟩
    have R1 := R.up0 k1
    have ho1 := k1.get hob (by simp)
    obtain ⟨ys, e1, im1⟩ := id R1.ro
    walk_at "w"
    refine rd_inP R1.ro.r (hv.up k1) ?_
    walk_at "w"
    refine rd_if (fun hb => ?_) fun hb => ?_
    · have hb := of_decide_eq_true hb
      walk_at "w"
      refine q false H1 k1.nil ?_
      rw [if_pos hb]
      exact R1
    · have hb := of_decide_eq_false hb
      walk_at "w"
      refine rd_kbmL (.inl (.inl e1)) ?_
      walk_at "w"
      refine rd_appM R1.ro (hv.up k1) (by omega) fun H2 k2 ro2 => ?_
      walk_at "w"
      refine q true H2 (k1.nil.trans k2) ?_
      rw [if_neg hb]
      exact R1.rts k2 ro2
end
end GT
set_option maxHeartbeats 2000000
namespace GT
open PySem PySem.Spec PyProof.Rows L2
local macro_rules | `(tactic| walk_at "v") => `(tactic| ((with_reducible show tVar _ _ _ _); refine rd_var rfl ?_))
local macro_rules | `(tactic| walk_at "s1") => `(tactic| with_reducible first | refine rd_cons ?_ | refine rd_nil ?_ | refine rd_c ?_ | refine rd_op ?_ | refine rd_seq ?_ | refine rd_fld ?_ | refine rd_asg ?_ | refine rd_gname ?_ | refine rd_I0 ?_ | refine rd_cb ?_ | refine rd_next ?_ | refine rd_drop ?_ | refine rd_ret ?_ | refine rd_mf ?_ | refine rd_cf ?_ | refine rd_ifS ?_ | refine rd_test ?_ | refine rd_kt ?_)
local macro_rules | `(tactic| walk_at "s2") => `(tactic| with_reducible first | refine rd_tup ?_ | refine rd_lst ?_ | refine rd_bm ?_ | refine rd_gcons ?_ | refine rd_gnil ?_ | refine rd_gsub ?_ | refine rd_dm ?_ | refine rd_sfld ?_ | refine rd_fa ?_ | refine rd_frz ?_ | refine rd_nf ?_ | refine rd_retN ?_ | refine rd_cont ?_ | refine rd_par ?_ | refine rd_un ?_ | refine rd_and ?_ | refine rd_or ?_ | refine rd_not ?_ | refine rd_tru ?_ | refine rd_B ?_ | refine rd_chain ?_ | refine rd_sl ?_ | refine rd_nopart ?_ | refine rd_part ?_ | refine rd_kpart ?_)
local macro_rules | `(tactic| walk_at "s3") => `(tactic| with_reducible first | refine rd_U ?_ | refine rd_eqi ?_ | refine rd_nei ?_ | refine rd_eqs ?_ | refine rd_nes ?_ | refine rd_isN ?_ | refine rd_notN ?_ | refine rd_max2 ?_ | refine rd_min2 ?_ | refine rd_int1 ?_ | refine rd_intb ?_ | refine rd_kbmS ?_ | refine rd_il ?_ | refine rd_it ?_ | refine rd_ir1 ?_ | refine rd_ir2 ?_ | refine rd_in ?_ | refine rd_for ?_ | refine rd_lc ?_ | refine rd_yes ?_ | refine rd_tt ?_ | refine rd_ff ?_ | refine rd_listRg ?_ | refine rd_andV ?_ | refine rd_orV ?_ | refine rd_notV ?_ | refine rd_ex ?_)
local macro_rules | `(tactic| walk_at "c") => `(tactic| first | exact TX.c_Channel (by assumption) | exact TX.c_State (by assumption) | exact TX.c_Message (by assumption) | exact TX.c_Replica (by assumption) | exact TX.c_Network (by assumption))
local macro_rules | `(tactic| walk_at "n") => `(tactic| first | exact TX.n_Channel_under_way (by assumption) | exact TX.n_State_cells (by assumption) | exact TX.n_Message_octets (by assumption) | exact TX.n_Message_place (by assumption) | exact TX.n_Message_known (by assumption) | exact TX.n_Replica_peer (by assumption) | exact TX.n_Replica_clock (by assumption) | exact TX.n_Replica_made (by assumption) | exact TX.n_Replica_state (by assumption) | exact TX.n_Replica_roots (by assumption) | exact TX.n_Replica_pending (by assumption) | exact TX.n_Replica_messages (by assumption) | exact TX.n_Network_replicas (by assumption) | exact TX.n_Network_channels (by assumption))
local macro_rules | `(tactic| walk_at "f") => `(tactic| ((with_reducible show KFld _ _ _ _ _); refine rd_kfld (by assumption) (by walk_at "c") (by walk_at "n") rfl ?_))
local macro_rules | `(tactic| walk_at "g") => `(tactic| ((with_reducible show KSf _ _ _ _ _ _); refine rd_ksf (by assumption) (by walk_at "c") (by walk_at "n") (by simp) ?_))
local macro_rules | `(tactic| walk_at "w") => `(tactic| repeat (first | walk_at "v" | walk_at "s1" | walk_at "f" | walk_at "s2" | walk_at "s3"))
def accC (rp : Rep) (c : Ch) : Rep := { rp with clock := if c.st.1 > rp.clock then c.st.1 else rp.clock, made := if c.nm.1 = rp.peer then (if c.nm.2 + 1 > rp.made then c.nm.2 + 1 else rp.made) else rp.made, cells := takeC rp.cells c }
def accR (rp : Rep) (k : Nm) (l : List Ch) : Rep := l.foldl accC { rp with msgs := aput rp.msgs k l }
def sentR (rp : Rep) (m : Nat) : Rep := { rp with msgs := aput rp.msgs (rp.peer, (m : Int) + 1) rp.pend, pend := [] }
section
variable {P : Program} {w : World} {K : PySem.W.Frag} {mg : Str → Option Value} {base : Heap}
theorem kp_none {F : List Addr} {H H' : Hp} (k : Kp F H H') {b : Addr} (e : H' b = none) (n : b ∉ F) : H b = none := by
  cases h : H b with
  | none => rfl
  | some u => rw [k.get h n] at e; cases e
theorem RepT.pnewk {H H' : Hp} {A : RAd} {rp : Rep} {p dx : Addr} {l : List Ch} (h : RepT P w K H A rp) (g : LM K chD H p l) (np : ∀ b ∈ A.own, b ≠ p) (k : Kp [A.a] H H') (e : H' A.a = some (.ins (He.ga K "Replica") dx (repFs { A with pe := p } { rp with pend := l }))) :
    RepT P w K H' { A with pe := p } { rp with pend := l } := by
  have nd := h.nd
  obtain ⟨⟨dx', ob⟩, st, ro, pn, me, n1, n2, n3⟩ := h
  simp only [RAd.own, List.nodup_cons, List.mem_cons, List.not_mem_nil, or_false, not_or] at nd
  obtain ⟨⟨a1, a2, a3, a4, a5⟩, -⟩ := nd
  exact ⟨⟨dx, e⟩, st.up k (by simpa using Ne.symm a1) (by simpa using Ne.symm a2), ro.up k (by simpa using Ne.symm a3), g.up k (by simpa using Ne.symm (np A.a (by simp [RAd.own]))), me.up st_ms k (by simpa using Ne.symm a5), n1, n2, np A.r (by simp [RAd.own])⟩
abbrev sp_Replica_count (P : Program) (w : World) (K : PySem.W.Frag) : Sp := fun vs H Q _ => ∃ (A : RAd) (rp : Rep) (s : Int), vs = [.ref A.a, .int s] ∧ RepT P w K H A rp ∧ rp.msgs.length < 1000 ∧
  ∀ (m : Nat) H', Kp [] H H' → (s, (m : Int) + 1) ∉ rp.msgs.map (·.1) → m ≤ rp.msgs.length → Q (.int m) H'
theorem cnt_le {l : List Nm} {s : Int} {i : Nat} (h : ∀ j : Nat, j < i → (s, (j : Int) + 1) ∈ l) : i ≤ l.length := by
  have nd : ((List.range i).map fun j : Nat => ((s, (j : Int) + 1) : Nm)).Nodup := List.pairwise_map.mpr (List.nodup_range.imp fun hab e => hab (by have := congrArg (·.2) e; simp at this; omega))
  have := nodup_len nd (ns := l) fun k hk => by
    obtain ⟨j, hj, rfl⟩ := List.mem_map.mp hk
    exact h j (List.mem_range.mp hj)
  rwa [List.length_map, List.length_range] at this
theorem ok_Replica_count (T : TX P K mg) : Ok P w K mg base (CX0) 1 ("Replica", some "count") p_Replica_count (sp_Replica_count P w K) := by
  refine T.ok 50 (d := d_Replica_count) rfl rfl rfl sc_Replica_count (fun _ _ _ _ _ _ us hl => match us, hl with | [_, _], _ => rfl) (fun vs H Q E h => ?_) fun cdv Ar outer sh H vs Q E hr h => ?_
  · obtain ⟨A, rp, s, rfl, _⟩ := h; rfl
  · obtain ⟨A, rp, s, rfl, R, hz, q⟩ := h
    obtain ⟨dx, hob⟩ := R.ob
    obtain ⟨hu, hu1, hu65⟩ := rm_of hr
    refine ⟨_, PSs.nox (pss_cons (ps_set (i := 2) sc_Replica_count.nd rfl (Or.inl rfl) pe_int)
      (pss_cons (ps_while PassesOwn.never (pt_cmpR (op_inN hu) (pe_tup (pa_cons (pv 1) (pa_cons (pe_op op_add (pv 2) pe_int) pa_nil))) (pe_fld (pv 0) rfl) (by with_unfolding_all rfl))
      (pss_one (ps_aug (i := 2) sc_Replica_count.nd rfl (Or.inl rfl) pe_int ip_add)))
      (pss_one (ps_ret (pv 2))))), ?_⟩
    walk_at "w"
    refine ⟨fun m σ H' => ∃ i : Nat, σ = [some (.ref A.a), some (.int s), some (.int i)] ∧ m = rp.msgs.length + 1 - i ∧ Kp [] H H' ∧ ∀ j : Nat, j < i → (s, (j : Int) + 1) ∈ rp.msgs.map (·.1), ⟨_, 0, rfl, rfl, Kp.refl, fun j hj => absurd hj (by omega)⟩, ?_⟩
    rintro m σ H1 ⟨i, rfl, rfl, k1, hi⟩
    have hle := cnt_le hi
    rw [List.length_map] at hle
    have ho1 := k1.get hob (by simp)
    walk_at "w"
    refine rd_ktup (K := K) (ks := [.num s, .num ((i : Int) + 1)]) (.cons (.num _) (.cons (.num _) .nil)) (by simp) fun v H2 k2 iv => ?_
    have ho2 := k2.get ho1 (by simp)
    walk_at "w"
    refine rd_inV ((R.up0 k1).up0 k2).me.r kF_p (k := (s, (i : Int) + 1)) iv ?_
    walk_at "w"
    refine rd_if (fun hb => ?_) fun hb => ?_
    · have hm := aget_isSome.mp hb
      refine ⟨fun σ' H' => σ' = [some (.ref A.a), some (.int s), some (.int ((i + 1 : Nat) : Int))] ∧ Kp [] H H', fun σ' H' ⟨e, k⟩ => ⟨rp.msgs.length + 1 - (i + 1), by omega, i + 1, e, rfl, k, fun j hj => ?_⟩, ?_⟩
      · rcases Nat.lt_or_ge j i with h | h
        · exact hi j h
        · have : j = i := by omega
          rw [this]
          exact hm
      walk_at "w"
      refine rd_aug rfl ?_
      walk_at "w"
      refine ⟨_, _, rfl, rfl, rfl, k1.trans k2⟩
    · walk_at "w"
      exact q i H2 (k1.trans k2) (fun z => by rw [aget_isSome.mpr z] at hb; cases hb) hle
abbrev sp_Replica_copy_of (P : Program) (w : World) (K : PySem.W.Frag) : Sp := fun vs H Q _ => ∃ (A : RAd) (rp : Rep) (s n : Int) (l : List Ch), vs = [.ref A.a, .int s, .int n] ∧ RepT P w K H A rp ∧ aget rp.msgs (s, n) = some l ∧ (∀ c ∈ l, ChW c) ∧ l.length ≤ 1000 ∧ QO H Q (msgO s n l)
theorem ok_Replica_copy_of (T : TX P K mg) : Ok P w K mg base (CX0) 6 ("Replica", some "copy_of") p_Replica_copy_of (sp_Replica_copy_of P w K) := by
  refine T.ok 52 (d := d_Replica_copy_of) rfl rfl rfl sc_Replica_copy_of (fun _ _ _ _ _ _ us hl => match us, hl with | [_, _, _], _ => rfl) (fun vs H Q E h => ?_) fun cdv Ar outer sh H vs Q E hr h => ?_
  · obtain ⟨A, rp, s, n, l, rfl, _⟩ := h; rfl
  · obtain ⟨A, rp, s, n, l, rfl, R, hl, ok, hz, q⟩ := h
    obtain ⟨dx, hob⟩ := R.ob
    obtain ⟨hu, hu1, hu65⟩ := rm_of hr
    refine ⟨_, PSs.nox (pss_cons (ps_if (pt_cmpR (op_notInN hu) (pe_tup (pa_cons (pv 1) (pa_cons (pv 2) pa_nil))) (pe_fld (pv 0) rfl) (by with_unfolding_all rfl))
      (pss_one ps_never)
      pss_nil)
      (pss_one (ps_ret (pe_fn (ok_message_octets T) T.g_message_octets (hr.mono (by decide)) pass0 (pa_cons (pv 1) (pa_cons (pv 2) (pa_cons (pe_ix (ix_dn hu) (pe_fld (pv 0) rfl) (pe_tup (pa_cons (pv 1) (pa_cons (pv 2) pa_nil))) (fun _ _ => rfl)) pa_nil))))))), ?_⟩
    walk_at "w"
    refine rd_ktup (K := K) (ks := [.num s, .num n]) (.cons (.num _) (.cons (.num _) .nil)) (by simp) fun v H1 k1 iv => ?_
    have ho1 := k1.get hob (by simp)
    have R1 := R.up0 k1
    walk_at "w"
    refine rd_notInV R1.me.r kF_p (k := (s, n)) iv ?_
    walk_at "w"
    refine rd_ifF (by rw [hl]; rfl) ?_
    walk_at "w"
    refine rd_ktup (K := K) (ks := [.num s, .num n]) (.cons (.num _) (.cons (.num _) .nil)) (by simp) fun v2 H2 k2 iv2 => ?_
    refine rd_getV (R1.up0 k2).me.r kF_p (k := (s, n)) iv2 hl fun u ⟨xs, fz, im⟩ => ?_
    walk_at "w"
    obtain ⟨a, o, rfl, e⟩ := fz
    exact ⟨s, n, .ref a, l, rfl, ⟨a, xs, rfl, Fz.sq ⟨a, o, rfl, e⟩, im⟩, ok, hz, QO.up q (k1.trans k2)⟩
abbrev sp_Replica_send (P : Program) (w : World) (K : PySem.W.Frag) : Sp := fun vs H Q _ => ∃ (A : RAd) (rp : Rep), vs = [.ref A.a] ∧ RepT P w K H A rp ∧ (∀ c ∈ rp.pend, ChW c) ∧ rp.pend.length ≤ 1000 ∧ rp.msgs.length < 1000 ∧ (rp.pend = [] → Q .non H) ∧
  (rp.pend ≠ [] → ∀ m : Nat, (rp.peer, (m : Int) + 1) ∉ rp.msgs.map (·.1) → m ≤ rp.msgs.length → RpN P w K H A (sentR rp m) fun H' => ∀ p, H p = none → H' p = some (.lst ((msgO rp.peer ((m : Int) + 1) rp.pend).map V.int)) → Q (.ref p) H')
theorem ok_Replica_send (T : TX P K mg) : Ok P w K mg base (CX0) 7 ("Replica", some "send") p_Replica_send (sp_Replica_send P w K) := by
  refine T.ok 51 (d := d_Replica_send) rfl rfl rfl sc_Replica_send (fun _ _ _ _ _ _ us hl => match us, hl with | [_], _ => rfl) (fun vs H Q E h => ?_) fun cdv Ar outer sh H vs Q E hr h => ?_
  · obtain ⟨A, rp, rfl, _⟩ := h; rfl
  · obtain ⟨A, rp, rfl, R, ok, hz, hm, q1, q2⟩ := h
    obtain ⟨dx, hob⟩ := R.ob
    obtain ⟨xs, ep, imp⟩ := id R.pn
    obtain ⟨hu, hu1, hu65⟩ := rm_of hr
    refine ⟨_, PSs.nox (pss_cons (ps_if (pt_not (pt_tru (pe_fld (pv 0) rfl)))
      (pss_one (ps_ret pe_non))
      pss_nil)
      (pss_cons (ps_set (i := 1) sc_Replica_send.nd rfl (Or.inl rfl) (pe_op op_add (pe_mt' (ok_Replica_count T) T.c_Replica T.m_Replica_count (hr.mono (by decide)) pass0 (pv 0) (pa_cons (pe_fld (pv 0) rfl) pa_nil)) pe_int))
      (pss_cons (ps_asg (pe_frz (pe_callTy call_listQ (by rfl) T.f_list (by decide +kernel) (pa_cons (pe_fld (pv 0) rfl) pa_nil))) (pg_sub (pe_fld (pv 0) rfl) (pe_tup (pa_cons (pe_fld (pv 0) rfl) (pa_cons (pv 1) pa_nil))) (set_dn hu)))
      (pss_cons (ps_fld (pv 0) (pe_lst pa_nil) rfl)
      (pss_one (ps_ret (pe_mt' (ok_Replica_copy_of T) T.c_Replica T.m_Replica_copy_of (hr.mono (by decide)) pass0 (pv 0) (pa_cons (pe_fld (pv 0) rfl) (pa_cons (pv 1) pa_nil))))))))), ?_⟩
    walk_at "w"
    refine rd_ktruL (.inl (.inl ep)) ?_
    cases hpe : rp.pend with
    | nil =>
      rw [hpe] at imp
      cases imp
      refine rd_ifT rfl ?_
      walk_at "w"
      exact q1 hpe
    | cons c0 cs0 =>
      have hne : rp.pend ≠ [] := by rw [hpe]; simp
      have hxs : xs.isEmpty = false := by
        rw [hpe] at imp
        obtain ⟨_, _, rfl, _⟩ := imp.hd
        rfl
      rw [hxs]
      refine rd_ifF rfl ?_
      walk_at "w"
      refine rd_kmf hob rfl ?_
      walk_at "w"
      refine ⟨A, rp, rp.peer, rfl, R, hm, fun m H1 k1 nm hml => ?_⟩
      have q2 := q2 hne m nm hml
      have ho1 := k1.get hob (by simp)
      walk_at "w"
      refine rd_listL (.inl (.inl (k1.get ep (by simp)))) fun l H2 n2 k2 e2 => ?_
      refine rd_kfzL e2 n2 k2 fun H3 k3 _ fz => ?_
      have k03 := k1.trans k3
      have ho3 := k03.get hob (by simp)
      walk_at "w"
      refine rd_ktup (K := K) (ks := [.num rp.peer, .num ((m : Int) + 1)]) (.cons (.num _) (.cons (.num _) .nil)) (by simp) fun v H4 k4 iv => ?_
      have k04 := k03.trans k4
      have R4 := R.up0 k04
      refine rd_setV st_ms R4.me kF_p (k := (rp.peer, (m : Int) + 1)) (A := rp.pend) iv ⟨xs, fz.up k4, (imp.up k03).up k4⟩ (by omega) fun H5 k5 me5 => ?_
      have R5 := R4.msg k5 me5
      obtain ⟨dx5, ho5⟩ := R5.ob
      have ho5 : H5 A.a = some (.ins (He.ga K "Replica") dx5 (repFs A rp)) := ho5
      walk_at "w"
      refine rd_klst (by simp) fun pe H6 n6 k6 e6 => ?_
      walk_at "w"
      have R6 := R5.up0 k6
      have ho6 := k6.get ho5 (by simp)
      have npe : ∀ b ∈ A.own, b ≠ pe := fun b hb z => R5.al hb (by rw [z]; exact n6)
      refine rd_ksf' ho6 (TX.c_Replica T) (TX.n_Replica_pending T) (by simp) fun H7 ho7 k7 => ?_
      have ho7 : H7 A.a = some (.ins (He.ga K "Replica") dx5 (repFs { A with pe := pe } (sentR rp m))) := ho7
      have R7 : RepT P w K H7 { A with pe := pe } (sentR rp m) := R6.pnewk ⟨[], e6, .nil⟩ npe k7 ho7
      have k05 : Kp A.own H H5 := k04.nil.trans (k5.mono (by simp [RAd.own]))
      have k07 : Kp A.own H H7 := k05.trans (k6.nil.trans (k7.mono (by simp [RAd.own])))
      walk_at "w"
      refine rd_kmf ho7 rfl ?_
      walk_at "w"
      refine ⟨{ A with pe := pe }, sentR rp m, rp.peer, (m : Int) + 1, rp.pend, rfl, R7, by show aget (aput _ _ _) _ = _; rw [aget_put, if_pos rfl], ok, hz, fun p H8 n8 k8 e8 => ?_⟩
      have np7 : p ∉ A.own := fun z => by
        have : H5 p ≠ none := R5.al z
        have h6 : H6 p = none := by
          cases h : H6 p with
          | none => rfl
          | some u =>
            by_cases e : p = A.a
            · rw [e, ho7] at n8; cases n8
            · rw [k7.get h (by simpa using e)] at n8; cases n8
        exact this (k6.none h6)
      refine q2 { A with pe := pe } H8 (k07.trans k8.nil) (fun b hb => ?_) rfl (R7.up0 k8) p (kp_none k07 n8 np7) e8
      rcases mem_own.mp hb with e | e | e | e | e | e
      · exact .inl (mem_own.mpr (.inl e))
      · exact .inl (mem_own.mpr (.inr (.inl e)))
      · exact .inl (mem_own.mpr (.inr (.inr (.inl e))))
      · exact .inl (mem_own.mpr (.inr (.inr (.inr (.inl e)))))
      · have e : b = pe := e
        exact .inr (by rw [e]; exact kp_none k05 n6 fun z => npe pe z rfl)
      · exact .inl (mem_own.mpr (.inr (.inr (.inr (.inr (.inr e))))))
abbrev sp_Replica_graph (P : Program) (w : World) (K : PySem.W.Frag) : Sp := fun vs H Q _ => ∃ (A : RAd) (rp : Rep) (nms : List Nm), vs = [.ref A.a] ∧ RepT P w K H A rp ∧ RNm rp nms ∧ (∀ n ∈ rp.roots, n ∈ nms) ∧ rp.roots.length < 1000 ∧
  ∀ v L H', Kp [] H H' → Reach rp.cells (rootsN rp.roots) 0 L → GrA K H' v rp.roots L rp.cells → Q v H'
theorem ok_Replica_graph (T : TX P K mg) : Ok P w K mg base (CX0) 5 ("Replica", some "graph") p_Replica_graph (sp_Replica_graph P w K) := by
  refine T.ok 55 (d := d_Replica_graph) rfl rfl rfl sc_Replica_graph (fun _ _ _ _ _ _ us hl => match us, hl with | [_], _ => rfl) (fun vs H Q E h => ?_) fun cdv Ar outer sh H vs Q E hr h => ?_
  · obtain ⟨A, rp, nms, rfl, _⟩ := h; rfl
  · obtain ⟨A, rp, nms, rfl, R, rn, hr0, hz, q⟩ := h
    obtain ⟨dx, hob⟩ := R.ob
    obtain ⟨xs, er, imr⟩ := id R.ro
    obtain ⟨hu, hu1, hu65⟩ := rm_of hr
    refine ⟨_, PSs.nox (pss_one (ps_ret (pe_fn (ok_numbered T) T.g_numbered (hr.mono (by decide)) pass0 (pa_cons (pe_fld (pv 0) rfl) (pa_cons (pe_fld (pv 0) rfl) pa_nil))))), ?_⟩
    walk_at "w"
    exact ⟨A.s, A.d, A.r, rp.cells, xs, rp.roots, nms, rfl, R.st, .inl (.inl er), imr, rn.ok, rn.cn, hr0, rn.nd, rn.few, hz, fun v L H' k rch gr => q v L H' k rch gr⟩
theorem accC_cells (l : List Ch) : ∀ (rp : Rep), (l.foldl accC rp).cells = l.foldl takeC rp.cells := by
  induction l with
  | nil => intro rp; rfl
  | cons c l ih => intro rp; exact ih (accC rp c)
theorem take_len (l : List Ch) : ∀ (cs : List (Ky × Cell)), (l.foldl takeC cs).length ≤ cs.length + l.length := by
  induction l with
  | nil => intro cs; exact Nat.le_refl _
  | cons c l ih =>
    intro cs
    have h1 := ih (takeC cs c)
    have h2 := takeC_len cs c
    rw [List.foldl_cons, List.length_cons]
    omega
theorem accC_peer (l : List Ch) : ∀ (rp : Rep), (l.foldl accC rp).peer = rp.peer := by
  induction l with
  | nil => intro rp; rfl
  | cons c l ih => intro rp; exact ih (accC rp c)
theorem sql_rep {H H' : Hp} {A : RAd} {rp : Rep} {q : Addr} {xs : List V} (R : RepT P w K H A rp) (k : Kp [A.a, A.d, A.ms] H H') (s : SqL K H q xs) : SqL K H' q xs := by
  rcases s with s | s
  · refine sql_kp k ?_ (.inl s)
    obtain ⟨dx, ob⟩ := R.ob
    obtain ⟨φ, ed⟩ := R.st.ce.ext
    obtain ⟨ψ, em⟩ := R.me.ext
    intro z
    simp only [List.mem_cons, List.not_mem_nil, or_false] at z
    rcases s with e | ⟨o, e⟩ <;> rcases z with z | z | z <;> rw [z] at e <;> simp [*] at e
  · exact .inr s
abbrev sp_Replica_accept (P : Program) (w : World) (K : PySem.W.Frag) : Sp := fun vs H Q _ => ∃ (A : RAd) (rp : Rep) (s n : Int) (u : V) (cs : List Ch), vs = [.ref A.a, .int s, .int n, u] ∧ RepT P w K H A rp ∧ LR K chD H u cs ∧ rp.cells.length + cs.length < 1000 ∧ rp.msgs.length < 1000 ∧
  (aget rp.msgs (s, n) ≠ none → ∀ H', Kp [] H H' → Q (.bl false) H') ∧ (aget rp.msgs (s, n) = none → ∀ H', Kp [A.a, A.d, A.ms] H H' → RepT P w K H' A (accR rp (s, n) cs) → Q (.bl true) H')
theorem ok_Replica_accept (T : TX P K mg) : Ok P w K mg base (CX0) 3 ("Replica", some "accept") p_Replica_accept (sp_Replica_accept P w K) := by
  refine T.ok 53 (d := d_Replica_accept) rfl rfl rfl sc_Replica_accept (fun _ _ _ _ _ _ us hl => match us, hl with | [_, _, _, _], _ => rfl) (fun vs H Q E h => ?_) fun cdv Ar outer sh H vs Q E hr h => ?_
  · obtain ⟨A, rp, s, n, u, cs, rfl, _⟩ := h; rfl
  · obtain ⟨A, rp, s, n, u, cs, rfl, R, ⟨l0, xs, rfl, sq, im⟩, hz, hm, q1, q2⟩ := h
    obtain ⟨dx, hob⟩ := R.ob
    obtain ⟨hu, hu1, hu65⟩ := rm_of hr
    refine ⟨_, PSs.nox (pss_cons (ps_if (pt_cmpR (op_inN hu) (pe_tup (pa_cons (pv 1) (pa_cons (pv 2) pa_nil))) (pe_fld (pv 0) rfl) (by with_unfolding_all rfl))
      (pss_one (ps_ret pe_bl))
      pss_nil)
      (pss_cons (ps_asg (pe_frz (pe_callTy call_listQ (by rfl) T.f_list (by decide +kernel) (pa_cons (pv 3) pa_nil))) (pg_sub (pe_fld (pv 0) rfl) (pe_tup (pa_cons (pv 1) (pa_cons (pv 2) pa_nil))) (set_dn hu)))
      (pss_cons (ps_for PassesOwn.never rfl (pi_list (pv 3)) (pg_name (i := 4) sc_Replica_accept.nd rfl (Or.inl rfl))
      (pss_cons (ps_expr (pe_mt' (ok_State_take T) T.c_State T.m_State_take (hr.mono (by decide)) pass0 (pe_fld (pv 0) rfl) (pa_cons (pv 4) pa_nil)))
      (pss_cons (ps_fld (pv 0) (pe_callB (call_max2Q rfl) (by rfl) T.f_max (by decide +kernel) (pa_cons (pe_fld (pv 0) rfl) (pa_cons (pe_ix ix_tup (pe_ix ix_tup (pv 4) pe_int (fun _ _ => rfl)) pe_int (fun _ _ => rfl)) pa_nil))) rfl)
      (pss_one (ps_if (pt_cmpR op_eq (pe_ix ix_tup (pe_ix ix_tup (pv 4) pe_int (fun _ _ => rfl)) pe_int (fun _ _ => rfl)) (pe_fld (pv 0) rfl) (nomark _))
      (pss_one (ps_fld (pv 0) (pe_callB (call_max2Q rfl) (by rfl) T.f_max (by decide +kernel) (pa_cons (pe_fld (pv 0) rfl) (pa_cons (pe_op op_add (pe_ix ix_tup (pe_ix ix_tup (pv 4) pe_int (fun _ _ => rfl)) pe_int (fun _ _ => rfl)) pe_int) pa_nil))) rfl))
      pss_nil)))))
      (pss_one (ps_ret pe_bl))))), ?_⟩
    walk_at "w"
    refine rd_ktup (K := K) (ks := [.num s, .num n]) (.cons (.num _) (.cons (.num _) .nil)) (by simp) fun v H1 k1 iv => ?_
    have ho1 := k1.get hob (by simp)
    have R1 := R.up0 k1
    walk_at "w"
    refine rd_inV R1.me.r kF_p (k := (s, n)) iv ?_
    walk_at "w"
    refine rd_if (fun hb => ?_) fun hb => ?_
    · walk_at "w"
      exact q1 (fun z => by rw [z] at hb; cases hb) H1 k1
    · have hn : aget rp.msgs (s, n) = none := by
        cases h : aget rp.msgs (s, n) with
        | none => rfl
        | some x => rw [h] at hb; cases hb
      have q2 := q2 hn
      walk_at "w"
      refine rd_listL (sql_kp k1 (by simp) sq) fun l H2 n2 k2 e2 => ?_
      refine rd_kfzL e2 n2 k2 fun H3 k3 _ fz => ?_
      have k03 := k1.trans k3
      have ho3 := k03.get hob (by simp)
      walk_at "w"
      refine rd_ktup (K := K) (ks := [.num s, .num n]) (.cons (.num _) (.cons (.num _) .nil)) (by simp) fun v H4 k4 iv => ?_
      have k04 := k03.trans k4
      have R4 := R.up0 k04
      refine rd_setV st_ms R4.me kF_p (k := (s, n)) (A := cs) iv ⟨xs, fz.up k4, (im.up k03).up k4⟩ (by omega) fun H5 k5 me5 => ?_
      have R5 := R4.msg k5 me5
      walk_at "w"
      have k05 : Kp [A.a, A.d, A.ms] H H5 := k04.nil.trans (k5.mono (by simp))
      have sq5 := sql_rep R k05 sq
      refine rd_kil sq5 ?_
      refine for_it (walk_list (xs := xs)) (fun i σ H' => ∃ x, σ = [some (.ref A.a), some (.int s), some (.int n), some (.ref l0), x] ∧ Kp [A.a, A.d, A.ms] H H' ∧ RepT P w K H' A ((cs.take i).foldl accC { rp with msgs := aput rp.msgs (s, n) cs })) ⟨none, rfl, k05, R5⟩ (fun i σ H' _ ⟨_, _, k, _⟩ => sql_rep R k sq) ?_ ?_
      · rintro i x σ _ H6 hi ⟨x0, rfl, k6, R6⟩ ⟨rfl, hx⟩
        obtain ⟨c, hc1, hc2⟩ := (im.up k6).at hx
        have lc : ((cs.take i).foldl accC { rp with msgs := aput rp.msgs (s, n) cs }).cells.length < 1000 := by
          rw [accC_cells]
          have h1 := take_len (cs.take i) rp.cells
          have h2 : (cs.take i).length ≤ cs.length := by rw [List.length_take]; omega
          show (List.foldl takeC rp.cells (cs.take i)).length < 1000
          omega
        have ts : (cs.take (i + 1)).foldl accC { rp with msgs := aput rp.msgs (s, n) cs } = accC ((cs.take i).foldl accC { rp with msgs := aput rp.msgs (s, n) cs }) c := by rw [take_snoc hc1, List.foldl_append]; rfl
        have pe0 : ((cs.take i).foldl accC { rp with msgs := aput rp.msgs (s, n) cs }).peer = rp.peer := accC_peer _ _
        rw [ts]
        generalize ((cs.take i).foldl accC { rp with msgs := aput rp.msgs (s, n) cs }) = ri at R6 lc pe0 ⊢
        obtain ⟨⟨dx6, hs6⟩, ce6⟩ := id R6.st
        obtain ⟨dy6, ho6⟩ := R6.ob
        walk_at "w"
        refine rd_kmf hs6 rfl ?_
        walk_at "w"
        refine ⟨A.s, A.d, ri.cells, x, c, rfl, R6.st, hc2, lc, fun b H7 k7 st7 => ?_⟩
        have R7 : RepT P w K H7 A { ri with cells := takeC ri.cells c } := R6.cel k7 st7.ce
        obtain ⟨dy7, ho7⟩ := R7.ob
        have hc7 := hc2.up k7
        walk_at "w"
        refine rd_ixI (k := pD c.st) hc7 rfl fun y1 i1 => ?_
        walk_at "w"
        refine rd_ixI (k := .num c.st.1) i1 rfl fun y2 i2 => ?_
        cases i2.int
        walk_at "w"
        refine rd_ksf' ho7 (TX.c_Replica T) (TX.n_Replica_clock T) (by simp) fun H8 ho8 k8 => ?_
        have R8 : RepT P w K H8 A { ri with clock := if c.st.1 > ri.clock then c.st.1 else ri.clock, cells := takeC ri.cells c } := R7.numk (c := if c.st.1 > ri.clock then c.st.1 else ri.clock) (m := ri.made) k8 ho8
        have ho8 : H8 A.a = some (.ins (He.ga K "Replica") dy7 (repFs A { ri with clock := if c.st.1 > ri.clock then c.st.1 else ri.clock, cells := takeC ri.cells c })) := ho8
        have hc8 := hc7.up k8
        have k08 : Kp [A.a, A.d, A.ms] H H8 := k6.trans ((k7.mono (by simp)).trans (k8.mono (by simp)))
        walk_at "w"
        refine rd_ixI (k := pD c.nm) hc8 rfl fun y1 i1 => ?_
        walk_at "w"
        refine rd_ixI (k := .num c.nm.1) i1 rfl fun y2 i2 => ?_
        cases i2.int
        walk_at "w"
        refine rd_if (fun hb => ?_) fun hb => ?_
        · have hp : c.nm.1 = ri.peer := of_decide_eq_true hb
          walk_at "w"
          refine rd_ixI (k := pD c.nm) hc8 rfl fun y1 i1 => ?_
          walk_at "w"
          refine rd_ixI (k := .num c.nm.2) i1 rfl fun y2 i2 => ?_
          cases i2.int
          walk_at "w"
          refine rd_ksf' ho8 (TX.c_Replica T) (TX.n_Replica_made T) (by simp) fun H9 ho9 k9 => ?_
          walk_at "w"
          refine ⟨_, rfl, k08.trans (k9.mono (by simp)), ?_⟩
          have R9 := R8.numk (c := if c.st.1 > ri.clock then c.st.1 else ri.clock) (m := if c.nm.2 + 1 > ri.made then c.nm.2 + 1 else ri.made) k9 ho9
          unfold accC
          rw [if_pos hp]
          exact R9
        · have hp : c.nm.1 ≠ ri.peer := of_decide_eq_false hb
          walk_at "w"
          refine ⟨_, rfl, k08, ?_⟩
          unfold accC
          rw [if_neg hp]
          exact R8
      · rintro σ H6 ⟨x, rfl, k6, R6⟩
        rw [ImA.mlen im, List.take_length] at R6
        walk_at "w"
        exact q2 H6 k6 R6
abbrev sp_Replica_receive (P : Program) (w : World) (K : PySem.W.Frag) : Sp := fun vs H Q E => ∃ (A : RAd) (rp : Rep) (l : Addr) (os : List Int), vs = [.ref A.a, .ref l] ∧ RepT P w K H A rp ∧ Rd H l (.lst (os.map V.int)) ∧ os.length ≤ 100000 ∧
  ((∃ s n cs, MsG s n cs ∧ os = msgO s n cs ∧ rp.cells.length + cs.length < 1000 ∧ rp.msgs.length < 1000 ∧ (aget rp.msgs (s, n) ≠ none → ∀ H', Kp [] H H' → Q (.bl false) H') ∧ (aget rp.msgs (s, n) = none → ∀ H', Kp [A.a, A.d, A.ms] H H' → RepT P w K H' A (accR rp (s, n) cs) → Q (.bl true) H')) ∨
   (Bad os ∧ ∀ d H', Kp [] H H' → E (.ref (He.ga K "CodeError")) d H'))
theorem ok_Replica_receive (T : TX P K mg) : Ok P w K mg base (L2.CX P w) 10 ("Replica", some "receive") p_Replica_receive (sp_Replica_receive P w K) := by
  refine T.ok 54 (d := d_Replica_receive) rfl rfl rfl sc_Replica_receive (fun _ _ _ _ _ _ us hl => match us, hl with | [_, _], _ => rfl) (fun vs H Q E h => ?_) fun cdv Ar outer sh H vs Q E hr h => ?_
  · obtain ⟨A, rp, l, os, rfl, _⟩ := h; rfl
  · obtain ⟨A, rp, l, os, rfl, R, rd, few, hq⟩ := h
    obtain ⟨hu, hu1, hu65⟩ := rm_of hr
    refine ⟨_, (pss_cons (ps_asg (pe_fn (ok_read_message T) T.g_read_message (hr.mono (by decide)) (passes_call (takes_of rfl rfl rfl rfl) fun _ _ _ _ z => z) (pa_cons (pv 1) pa_nil)) (pg_tup (by rfl) (pgs_cons (pg_name (i := 2) sc_Replica_receive.nd rfl (Or.inl rfl)) (pgs_cons (pg_name (i := 3) sc_Replica_receive.nd rfl (Or.inl rfl)) (pgs_cons (pg_name (i := 4) sc_Replica_receive.nd rfl (Or.inl rfl)) pgs_nil)))))
      (pss_one (ps_ret (pe_mt' (ok_Replica_accept T) T.c_Replica T.m_Replica_accept (hr.mono (by decide)) pass0 (pv 0) (pa_cons (pv 2) (pa_cons (pv 3) (pa_cons (pv 4) pa_nil))))))), ?_⟩
    walk_at "w"
    refine ⟨l, os, rfl, rd, few, ?_⟩
    rcases hq with ⟨s, n, cs, g, e, hz, hm, q1, q2⟩ | hb
    · refine .inl ⟨s, n, cs, g, e, fun v H1 k1 ⟨t, u, ev, st, lr⟩ => ?_⟩
      subst ev
      have R1 := R.up0 k1
      obtain ⟨dx1, ho1⟩ := R1.ob
      refine rd_gtup st rfl ?_
      walk_at "w"
      refine rd_kmf ho1 rfl ?_
      walk_at "w"
      exact ⟨A, rp, s, n, u, cs, rfl, R1, lr, hz, hm, fun z H' k => q1 z H' (k1.trans k), fun z H' k R' => q2 z H' (k1.nil.trans k) R'⟩
    · exact .inr hb
end
end GT
set_option maxHeartbeats 2000000
namespace GT
open PySem PySem.Spec PyProof.Rows L2
local macro_rules | `(tactic| walk_at "v") => `(tactic| ((with_reducible show tVar _ _ _ _); refine rd_var rfl ?_))
local macro_rules | `(tactic| walk_at "s1") => `(tactic| with_reducible first | refine rd_cons ?_ | refine rd_nil ?_ | refine rd_c ?_ | refine rd_op ?_ | refine rd_seq ?_ | refine rd_fld ?_ | refine rd_asg ?_ | refine rd_gname ?_ | refine rd_I0 ?_ | refine rd_cb ?_ | refine rd_next ?_ | refine rd_drop ?_ | refine rd_ret ?_ | refine rd_mf ?_ | refine rd_cf ?_ | refine rd_ifS ?_ | refine rd_test ?_ | refine rd_kt ?_)
local macro_rules | `(tactic| walk_at "s2") => `(tactic| with_reducible first | refine rd_tup ?_ | refine rd_lst ?_ | refine rd_bm ?_ | refine rd_gcons ?_ | refine rd_gnil ?_ | refine rd_gsub ?_ | refine rd_dm ?_ | refine rd_sfld ?_ | refine rd_fa ?_ | refine rd_frz ?_ | refine rd_nf ?_ | refine rd_retN ?_ | refine rd_cont ?_ | refine rd_par ?_ | refine rd_un ?_ | refine rd_and ?_ | refine rd_or ?_ | refine rd_not ?_ | refine rd_tru ?_ | refine rd_B ?_ | refine rd_chain ?_ | refine rd_sl ?_ | refine rd_nopart ?_ | refine rd_part ?_ | refine rd_kpart ?_)
local macro_rules | `(tactic| walk_at "s3") => `(tactic| with_reducible first | refine rd_U ?_ | refine rd_eqi ?_ | refine rd_nei ?_ | refine rd_eqs ?_ | refine rd_nes ?_ | refine rd_isN ?_ | refine rd_notN ?_ | refine rd_max2 ?_ | refine rd_min2 ?_ | refine rd_int1 ?_ | refine rd_intb ?_ | refine rd_kbmS ?_ | refine rd_il ?_ | refine rd_it ?_ | refine rd_ir1 ?_ | refine rd_ir2 ?_ | refine rd_in ?_ | refine rd_for ?_ | refine rd_lc ?_ | refine rd_yes ?_ | refine rd_tt ?_ | refine rd_ff ?_ | refine rd_listRg ?_ | refine rd_andV ?_ | refine rd_orV ?_ | refine rd_notV ?_ | refine rd_ex ?_)
local macro_rules | `(tactic| walk_at "c") => `(tactic| first | exact TX.c_Channel (by assumption) | exact TX.c_State (by assumption) | exact TX.c_Message (by assumption) | exact TX.c_Replica (by assumption) | exact TX.c_Network (by assumption))
local macro_rules | `(tactic| walk_at "n") => `(tactic| first | exact TX.n_Channel_under_way (by assumption) | exact TX.n_State_cells (by assumption) | exact TX.n_Message_octets (by assumption) | exact TX.n_Message_place (by assumption) | exact TX.n_Message_known (by assumption) | exact TX.n_Replica_peer (by assumption) | exact TX.n_Replica_clock (by assumption) | exact TX.n_Replica_made (by assumption) | exact TX.n_Replica_state (by assumption) | exact TX.n_Replica_roots (by assumption) | exact TX.n_Replica_pending (by assumption) | exact TX.n_Replica_messages (by assumption) | exact TX.n_Network_replicas (by assumption) | exact TX.n_Network_channels (by assumption))
local macro_rules | `(tactic| walk_at "f") => `(tactic| ((with_reducible show KFld _ _ _ _ _); refine rd_kfld (by assumption) (by walk_at "c") (by walk_at "n") rfl ?_))
local macro_rules | `(tactic| walk_at "g") => `(tactic| ((with_reducible show KSf _ _ _ _ _ _); refine rd_ksf (by assumption) (by walk_at "c") (by walk_at "n") (by simp) ?_))
local macro_rules | `(tactic| walk_at "w") => `(tactic| repeat (first | walk_at "v" | walk_at "s1" | walk_at "f" | walk_at "s2" | walk_at "s3"))
def keysR (rp : Rep) : List Nm := rp.msgs.map (·.1)
structure KeyB (rp : Rep) : Prop where
  k : ∀ k ∈ keysR rp, 0 ≤ k.1 ∧ k.1 < 8 ∧ 0 ≤ k.2 ∧ k.2 < 1000
  few : rp.msgs.length < 60
section
variable {P : Program} {w : World} {K : PySem.W.Frag} {mg : Str → Option Value} {base : Heap}
/-- octets of these messages of rq -/
abbrev OcL (K : PySem.W.Frag) (rq : Rep) (H : Hp) : List V → List Nm → Prop := Paired fun x k => ∃ l, aget rq.msgs k = some l ∧ Fz H x ((msgO k.1 k.2 l).map V.int)
theorem ocL_up {rq : Rep} {F : List Addr} {H H' : Hp} {xs : List V} {L : List Nm} (h : OcL K rq H xs L) (k : Kp F H H') : OcL K rq H' xs L := Paired.mapP h fun _ _ ⟨l, a, b⟩ => ⟨l, a, b.up k⟩
abbrev sp_answer (P : Program) (w : World) (K : PySem.W.Frag) : Sp := fun vs H Q _ => ∃ (B : RAd) (rq : Rep) (v : V) (S : Nm → Prop), vs = [.ref B.a, v] ∧ RepT P w K H B rq ∧ KeyB rq ∧ Told K H v S ∧ (∀ k l, aget rq.msgs k = some l → (∀ c ∈ l, ChW c) ∧ l.length ≤ 1000) ∧
  ∀ p xs (L : List Nm) H', H p = none → Kp [] H H' → H' p = some (.lst xs) → OcL K rq H' xs L → (∀ k ∈ L, k ∈ keysR rq ∧ ¬ S k) → (∀ k ∈ keysR rq, ¬ S k → k ∈ L) → L.length ≤ 480 → Q (.ref p) H'
theorem ok_answer (T : TX P K mg) : Ok P w K mg base (CX0) 7 ("answer", none) p_answer (sp_answer P w K) := by
  refine T.ok 15 (d := d_answer) rfl rfl rfl sc_answer (fun _ _ _ _ _ _ us hl => match us, hl with | [_, _], _ => rfl) (fun vs H Q E h => ?_) fun cdv Ar outer sh H vs Q E hr h => ?_
  · obtain ⟨B, rq, v, S, rfl, _⟩ := h; rfl
  · obtain ⟨B, rq, v, S, rfl, R, kb, tS, ok, q⟩ := h
    obtain ⟨dx, hob⟩ := R.ob
    obtain ⟨hu, hu1, hu65⟩ := rm_of hr
    refine ⟨_, PSs.nox (pss_one (ps_ret (pe_lcW (own := [("sender", 2), ("number", 3)]) sh rfl sc_answer.nd (pi_list (pe_fn (ok_lacking T) T.g_lacking (hr.mono (by decide)) pass0 (pa_cons (pv 1) (pa_cons (pe_fn (ok_told T) T.g_told (hr.mono (by decide)) pass0 (pa_cons (pv 0) pa_nil)) pa_nil)))) (blkOk_by (own := [("sender", 2), ("number", 3)]) (N := n_answer) (sc := defScope s_answer) (by decide +kernel)) (pg_tup (by rfl) (pgs_cons (pg_name (i := 2) sc_answer.nd rfl (Or.inl rfl)) (pgs_cons (pg_name (i := 3) sc_answer.nd rfl (Or.inl rfl)) pgs_nil))) pts_nil (pe_frz (pe_mt' (ok_Replica_copy_of T) T.c_Replica T.m_Replica_copy_of (hr.mono (by decide)) pass0 (pv 0) (pa_cons (pv 2) (pa_cons (pv 3) pa_nil)))) (fun _ _ _ _ _ => (pg_tup (by rfl) (pgs_cons (pg_name (i := 2) sc_answer.nd rfl (Or.inl rfl)) (pgs_cons (pg_name (i := 3) sc_answer.nd rfl (Or.inl rfl)) pgs_nil)))) (fun _ _ _ _ _ => pts_nil) (fun _ _ _ _ _ => (pe_frz (pe_mt' (ok_Replica_copy_of T) T.c_Replica T.m_Replica_copy_of (hr.mono (by decide)) pass0 (pv 0) (pa_cons (pv 2) (pa_cons (pv 3) pa_nil)))))))), ?_⟩
    walk_at "w"
    refine ⟨B, rq, rfl, R, fun k hk => ⟨(kb.k k hk).1, (kb.k k hk).2.1⟩, kb.few, fun u H1 k1 tU => ?_⟩
    walk_at "w"
    refine ⟨v, u, S, fun k => k ∈ keysR rq, keysR rq, rfl, told_up tS k1, tU, fun k hk => hk, by unfold keysR; rw [List.length_map]; exact kb.few, fun k (hk : k ∈ keysR rq) => ⟨(kb.k k hk).2.2.1, (kb.k k hk).2.2.2⟩, fun p0 L H2 n2 k2 lm l1 l2 l3 => ?_⟩
    obtain ⟨ys, e2, im2⟩ := id lm
    refine rd_kil (.inl (.inl e2)) ?_
    intro D hD
    have k02 := k1.trans k2
    refine lc_it (walk_list (xs := ys)) (fun i H' => Kp [] H2 H' ∧ ∃ xs, H' D = some (.lst xs) ∧ OcL K rq H' xs (L.take i)) ⟨Kp.new hD, [], upd_same, .nil⟩ (fun i H' _ ⟨k, _⟩ => .inl (.inl (k.get e2 (by simp)))) ?_ ?_
    · rintro i x _ H3 hi ⟨k3, xs, hxs, oc⟩ ⟨rfl, hx⟩
      obtain ⟨k, hk1, hk2⟩ := (im2.up k3).at hx
      obtain ⟨a, zs, rfl, sq, im3⟩ := hk2.ref
      obtain ⟨u1, u2, rfl, i1, i2⟩ := im3.two
      cases i1.int; cases i2.int
      have km := (l1 k (List.mem_of_getElem? hk1)).1
      obtain ⟨l, hl⟩ := Option.isSome_iff_exists.mp (aget_isSome.mpr km)
      obtain ⟨okl, lz⟩ := ok k l hl
      walk_at "w"
      refine rd_gtup sq rfl ?_
      walk_at "w"
      refine ⟨rfl, ?_⟩
      walk_at "w"
      refine rd_kmf ((k02.trans k3).get hob (by simp)) rfl ?_
      walk_at "w"
      refine ⟨B, rq, k.1, k.2, l, rfl, R.up0 (k02.trans k3), hl, okl, lz, fun p5 H5 n5 k5 e5 => ?_⟩
      refine rd_kfzL e5 n5 k5 fun H6 k6 _ fz => ?_
      have hxs6 := k6.get hxs (by simp)
      have kw : Kp [D] H6 (upd H6 D (.lst (xs ++ [.ref p5]))) := Kp.refl.wl hxs6 (by simp)
      refine ⟨xs, hxs6, Nat.lt_of_lt_of_le (show xs.length < 1000 by rw [Paired.length oc, List.length_take]; omega) (by decide), (k3.trans k6).wrn hD, _, upd_same, ?_⟩
      rw [take_snoc hk1]
      exact Paired.snoc (ocL_up (ocL_up oc k6) kw) ⟨l, hl, fz.up kw⟩
    · rintro H3 ⟨k3, xs, hxs, oc⟩
      rw [ImA.mlen im2, List.take_length] at oc
      walk_at "w"
      exact q D xs L H3 (k02.none hD) (k02.trans k3) hxs oc l1 (fun k hk hs => l2 k (kb.k k hk).1 (kb.k k hk).2.1 hk hs) l3
theorem accR_msgs (rp : Rep) (k : Nm) (l : List Ch) : (accR rp k l).msgs = aput rp.msgs k l := by
  have : ∀ (l : List Ch) (r : Rep), (l.foldl accC r).msgs = r.msgs := fun l => by
    induction l with
    | nil => intro r; rfl
    | cons c l ih => intro r; exact ih (accC r c)
  exact this l _
theorem accR_pend (rp : Rep) (k : Nm) (l : List Ch) : (accR rp k l).pend = rp.pend := by
  have : ∀ (l : List Ch) (r : Rep), (l.foldl accC r).pend = r.pend := fun l => by
    induction l with
    | nil => intro r; rfl
    | cons c l ih => intro r; exact ih (accC r c)
  exact this l _
theorem keys_acc {rp : Rep} {k j : Nm} {l : List Ch} : j ∈ keysR (accR rp k l) ↔ j = k ∨ j ∈ keysR rp := by
  unfold keysR
  rw [accR_msgs]
  exact aput_key_mem
abbrev sp_bring (P : Program) (w : World) (K : PySem.W.Frag) : Sp := fun vs H Q _ => ∃ (A : RAd) (rp : Rep) (B : RAd) (rq : Rep) (Iv : Rep → Prop), vs = [.ref A.a, .ref B.a] ∧ RepT P w K H A rp ∧ RepT P w K H B rq ∧ KeyB rp ∧ KeyB rq ∧ Iv rp ∧
  (∀ k l, aget rq.msgs k = some l → MsG k.1 k.2 l ∧ ∀ r, Iv r → r.cells.length + l.length < 1000 ∧ r.msgs.length < 1000 ∧ (aget r.msgs k = none → Iv (accR r k l))) ∧
  ∀ H' r' (i : Int), Kp [A.a, A.d, A.ms] H H' → RepT P w K H' A r' → Iv r' → (∀ k, k ∈ keysR rq ∨ k ∈ keysR rp → k ∈ keysR r') → Q (.int i) H'
theorem msgO_len {s n : Int} {cs : List Ch} (h : ∀ c ∈ cs, ChW c) (hz : cs.length ≤ 1000) : (msgO s n cs).length ≤ 100000 := by
  have := flat_len h
  simp [msgO, bodyO, chkO, numO_len] at this ⊢
  omega
theorem ok_bring (T : TX P K mg) : Ok P w K mg base (CX0) 11 ("bring", none) p_bring (sp_bring P w K) := by
  refine T.ok 16 (d := d_bring) rfl rfl rfl sc_bring (fun _ _ _ _ _ _ us hl => match us, hl with | [_, _], _ => rfl) (fun vs H Q E h => ?_) fun cdv Ar outer sh H vs Q E hr h => ?_
  · obtain ⟨A, rp, B, rq, Iv, rfl, _⟩ := h; rfl
  · obtain ⟨A, rp, B, rq, Iv, rfl, R, RB, kb, kq, iv, st, q⟩ := h
    obtain ⟨hu, hu1, hu65⟩ := rm_of hr
    refine ⟨_, PSs.nox (pss_cons (ps_set (i := 2) sc_bring.nd rfl (Or.inl rfl) (pe_fn (ok_answer T) T.g_answer (hr.mono (by decide)) pass0 (pa_cons (pv 1) (pa_cons (pe_fn (ok_told T) T.g_told (hr.mono (by decide)) pass0 (pa_cons (pv 0) pa_nil)) pa_nil))))
      (pss_cons (ps_for PassesOwn.never rfl (pi_list (pv 2)) (pg_name (i := 3) sc_bring.nd rfl (Or.inl rfl))
      (pss_one (ps_expr (pe_mt' (ok_Replica_receive T) T.c_Replica T.m_Replica_receive (hr.mono (by decide)) passL (pv 0) (pa_cons (pv 3) pa_nil)))))
      (pss_one (ps_ret (pe_callB call_lenQ (by rfl) T.f_len (by decide +kernel) (pa_cons (pv 2) pa_nil)))))), ?_⟩
    walk_at "w"
    refine ⟨A, rp, rfl, R, fun k hk => ⟨(kb.k k hk).1, (kb.k k hk).2.1⟩, kb.few, fun u H1 k1 tU => ?_⟩
    walk_at "w"
    refine ⟨B, rq, u, _, rfl, RB.up0 k1, kq, tU, fun k l hl => ⟨fun c hc => ((st k l hl).1.c c hc).w, (st k l hl).1.l⟩, fun p xs L H2 n2 k2 e2 oc l1 l2 l3 => ?_⟩
    walk_at "w"
    have k02 := k1.trans k2
    have R2 := R.up0 k02
    have npA : p ∉ [A.a, A.d, A.ms] := fun z => by
      have : p ∈ A.own := by
        simp only [List.mem_cons, List.not_mem_nil, or_false] at z
        rcases z with z | z | z <;> rw [z] <;> simp [RAd.own]
      exact (R.up0 k1).al this n2
    refine rd_kil (.inl (.inl e2)) ?_
    refine for_it (walk_list (xs := xs)) (fun i σ H' => ∃ x r, σ = [some (.ref A.a), some (.ref B.a), some (.ref p), x] ∧ Kp [A.a, A.d, A.ms] H2 H' ∧ RepT P w K H' A r ∧ Iv r ∧ (∀ k ∈ keysR rp, k ∈ keysR r) ∧ ∀ k ∈ L.take i, k ∈ keysR r) ⟨none, rp, rfl, Kp.refl, R2, iv, fun k hk => hk, by simp⟩ (fun i σ H' _ ⟨_, _, _, k, _⟩ => .inl (.inl (k.get e2 npA))) ?_ ?_
    · rintro i x σ _ H3 hi ⟨x0, r, rfl, k3, R3, iv3, s1, s2⟩ ⟨rfl, hx⟩
      obtain ⟨k, hk1, l, hl, fz⟩ := paired_get (ocL_up oc k3) hx
      obtain ⟨g, hg⟩ := st k l hl
      obtain ⟨z1, z2, z3⟩ := hg r iv3
      obtain ⟨a, o, rfl, ea⟩ := fz
      obtain ⟨dx3, ho3⟩ := R3.ob
      walk_at "w"
      refine rd_kmf ho3 rfl ?_
      walk_at "w"
      refine ⟨A, r, a, msgO k.1 k.2 l, rfl, R3, .inr ⟨o, ea⟩, msgO_len (fun c hc => (g.c c hc).w) g.l, .inl ⟨k.1, k.2, l, g, rfl, z1, z2, fun hne H4 k4 => ?_, fun hn H4 k4 R4 => ?_⟩⟩
      · walk_at "w"
        refine ⟨_, r, rfl, k3.trans k4.nil, R3.up0 k4, iv3, s1, fun j hj => ?_⟩
        rw [take_snoc hk1, List.mem_append, List.mem_singleton] at hj
        rcases hj with hj | rfl
        · exact s2 j hj
        · refine aget_isSome.mp ?_
          cases h : aget r.msgs j with
          | none => exact (hne h).elim
          | some _ => rfl
      · walk_at "w"
        refine ⟨_, accR r k l, rfl, k3.trans k4, R4, z3 hn, fun j hj => keys_acc.mpr (.inr (s1 j hj)), fun j hj => ?_⟩
        rw [take_snoc hk1, List.mem_append, List.mem_singleton] at hj
        rcases hj with hj | rfl
        · exact keys_acc.mpr (.inr (s2 j hj))
        · exact keys_acc.mpr (.inl rfl)
    · rintro σ H3 ⟨x, r, rfl, k3, R3, iv3, s1, s2⟩
      rw [Paired.length oc, List.take_length] at s2
      walk_at "w"
      refine rd_lenL (.inl (.inl (k3.get e2 npA))) ?_
      refine q H3 r _ (k02.nil.trans k3) R3 iv3 fun k hk => ?_
      by_cases h : k ∈ keysR rp
      · exact s1 k h
      · exact s2 k (l2 k (hk.resolve_right h) h)
abbrev RpsT (P : Program) (w : World) (K : PySem.W.Frag) (H : Hp) : List RAd → List Rep → Prop := Paired (RepT P w K H)
abbrev refsA (As : List RAd) : List V := As.map fun A => .ref A.a
def TogR (rps : List Rep) : Prop := ∀ rp ∈ rps, rp.pend = [] ∧ ∀ rq ∈ rps, ∀ k, k ∈ keysR rp ↔ k ∈ keysR rq
abbrev sp_are_together (P : Program) (w : World) (K : PySem.W.Frag) : Sp := fun vs H Q _ => ∃ (l : Addr) (As : List RAd) (rps : List Rep), vs = [.ref l] ∧ SqL K H l (refsA As) ∧ RpsT P w K H As rps ∧ rps ≠ [] ∧ (∀ rp ∈ rps, (keysR rp).Nodup) ∧
  ∀ (b : Bool) H', Kp [] H H' → (b = true ↔ TogR rps) → Q (.bl b) H'
theorem ok_are_together (T : TX P K mg) : Ok P w K mg base (CX0) 1 ("are_together", none) p_are_together (sp_are_together P w K) := by
  refine T.ok 56 (d := d_are_together) rfl rfl rfl sc_are_together (fun _ _ _ _ _ _ us hl => match us, hl with | [_], _ => rfl) (fun vs H Q E h => ?_) fun cdv Ar outer sh H vs Q E hr h => ?_
  · obtain ⟨l, As, rps, rfl, _⟩ := h; rfl
  · obtain ⟨l, As, rps, rfl, sq, RT, ne, nd, q⟩ := h
    have hl := Paired.length RT
    obtain ⟨A0, As', rfl⟩ : ∃ A0 As', As = A0 :: As' := by
      cases As with
      | nil => cases RT; exact (ne rfl).elim
      | cons a b => exact ⟨a, b, rfl⟩
    obtain ⟨r0, hr0, R0⟩ := paired_get RT (i := 0) rfl
    have mr0 : r0 ∈ rps := List.mem_of_getElem? hr0
    obtain ⟨dx0, ho0⟩ := R0.ob
    obtain ⟨hu, hu1, hu65⟩ := rm_of hr
    refine ⟨_, PSs.nox (pss_cons (ps_set (i := 1) sc_are_together.nd rfl (Or.inl rfl) (pe_callB (call_sortN hu rfl) (by rfl) T.f_sorted (by decide +kernel) (pa_cons (pe_fld (pe_ix ix_list (pv 0) pe_int (fun _ _ => rfl)) rfl) pa_nil)))
      (pss_cons (ps_for PassesOwn.never rfl (pi_list (pv 0)) (pg_name (i := 2) sc_are_together.nd rfl (Or.inl rfl))
      (pss_one (ps_if (PW.pt (pw_or (pt_tru (pe_fld (pv 2) rfl)) (pw_or1 (pt_cmpR (op_neLI hu) (pe_callB (call_sortN hu rfl) (by rfl) T.f_sorted (by decide +kernel) (pa_cons (pe_fld (pv 2) rfl) pa_nil)) (pv 1) (nomark _)))))
      (pss_one (ps_ret pe_bl))
      pss_nil)))
      (pss_one (ps_ret pe_bl)))), ?_⟩
    walk_at "w"
    refine rd_ixL sq (v := .ref A0.a) (atN (by decide) rfl) ?_
    walk_at "w"
    refine rd_sortV R0.me.r (srtOk_p _) fun p ys H1 n1 k1 e1 im1 => ?_
    walk_at "w"
    refine rd_kil (sql_kp k1 (by simp) sq) ?_
    refine for_it (walk_list (xs := refsA (A0 :: As'))) (fun i σ H' => ∃ x, σ = [some (.ref l), some (.ref p), x] ∧ Kp [] H1 H' ∧ ∀ rp ∈ rps.take i, rp.pend = [] ∧ ∀ k, k ∈ keysR rp ↔ k ∈ keysR r0) ⟨none, rfl, Kp.refl, by simp⟩ (fun i σ H' _ ⟨_, _, k, _⟩ => sql_kp (k1.trans k) (by simp) sq) ?_ ?_
    · rintro i x σ _ H2 hi ⟨x0, rfl, k2, tg⟩ ⟨rfl, hx⟩
      obtain ⟨A, hA, rfl⟩ : ∃ A, (A0 :: As')[i]? = some A ∧ x = .ref A.a := by
        rw [List.getElem?_map] at hx
        cases h : (A0 :: As')[i]? with
        | none => rw [h] at hx; cases hx
        | some A => rw [h] at hx; cases hx; exact ⟨A, rfl, rfl⟩
      obtain ⟨rp, hrp, Rp0⟩ := paired_get RT hA
      have mrp : rp ∈ rps := List.mem_of_getElem? hrp
      have Rp := Rp0.up0 (k1.trans k2)
      obtain ⟨dxA, hoA⟩ := Rp.ob
      obtain ⟨zs, ez, imz⟩ := id Rp.pn
      have stop : ¬ (rp.pend = [] ∧ ∀ k, k ∈ keysR rp ↔ k ∈ keysR r0) → ∀ H', Kp [] H H' → Q (.bl false) H' := fun z H' k => q false H' k ⟨fun e => by (cases e), fun t => (z ⟨(t rp mrp).1, (t rp mrp).2 r0 mr0⟩).elim⟩
      walk_at "w"
      refine rd_ktruL (.inl (.inl ez)) ?_
      cases hpe : rp.pend with
      | cons c0 cs0 =>
        have hxs : zs.isEmpty = false := by
          rw [hpe] at imz
          obtain ⟨_, _, rfl, _⟩ := imz.hd
          rfl
        rw [hxs]
        refine rd_ifT rfl ?_
        walk_at "w"
        exact stop (fun z => by rw [hpe] at z; cases z.1) H2 (k1.trans k2)
      | nil =>
        have hxs : zs.isEmpty = true := by
          rw [hpe] at imz
          cases imz
          rfl
        rw [hxs]
        refine rd_ifF rfl ?_
        walk_at "w"
        refine rd_sortV Rp.me.r (srtOk_p _) fun p3 ys3 H3 n3 k3 e3 im3 => ?_
        walk_at "w"
        refine ⟨p3, p, ys3, ys, _, _, rfl, rfl, .inl (.inl e3), .inl (.inl ((k2.trans k3).get e1 (by simp))), im3, (im1.up k2).up k3, shpL_p _, shpL_p _, ?_⟩
        have eq : (srt pD (keysR rp)).map pD = (srt pD (keysR r0)).map pD ↔ ∀ k, k ∈ keysR rp ↔ k ∈ keysR r0 := by
          refine ⟨fun e k => ?_, fun h => by rw [srt_eq (fun _ _ => tk_p_inj) (perm_of_nodup (nd rp mrp) (nd r0 mr0) h)]⟩
          rw [← srt_mem (f := pD) (l := keysR rp), ← srt_mem (f := pD) (l := keysR r0), ← mem_p (l := srt pD (keysR rp)), ← mem_p (l := srt pD (keysR r0)), e]
        walk_at "w"
        refine rd_if (fun hb => ?_) fun hb => ?_
        · walk_at "w"
          refine stop (fun z => ?_) H3 ((k1.trans k2).trans k3)
          have := eq.mpr z.2
          simp [keysR] at this hb
          exact hb this
        · walk_at "w"
          refine ⟨_, rfl, k2.trans k3, fun rq hq => ?_⟩
          rw [take_snoc hrp, List.mem_append, List.mem_singleton] at hq
          rcases hq with hq | rfl
          · exact tg rq hq
          · exact ⟨hpe, eq.mp (by simpa [keysR] using hb)⟩
    · rintro σ H2 ⟨x, rfl, k2, tg⟩
      rw [List.length_map, hl, List.take_length] at tg
      walk_at "w"
      exact q true H2 (k1.trans k2) ⟨fun _ rp hrp => ⟨(tg rp hrp).1, fun rq hrq k => ((tg rp hrp).2 k).trans ((tg rq hrq).2 k).symm⟩, fun _ => rfl⟩
end
end GT
set_option maxHeartbeats 2000000
namespace GT
open PySem PySem.Spec PyProof.Rows L2
/-! ### the network on the heap -/
structure NAd where
  nw : Addr
  R : Addr
  D : Addr
  As : List RAd
  cs : List (Nm × (Addr × Addr))
structure Sys where
  reps : List Rep
  ch : List (Nm × List (List Int))
inductive Ix where
  | net | rep (i : Nat) | chn (j : Nat)
  deriving DecidableEq
def NAd.own (N : NAd) : Ix → List Addr
  | .net => [N.nw, N.D]
  | .rep i => match N.As[i]? with
    | some A => A.own
    | none => []
  | .chn j => match N.cs[j]? with
    | some p => [p.2.1, p.2.2]
    | none => []
theorem own_rep {N : NAd} {i : Nat} {A : RAd} (h : N.As[i]? = some A) : N.own (.rep i) = A.own := by simp only [NAd.own, h]
theorem own_rep0 {N : NAd} {i : Nat} (h : N.As[i]? = none) : N.own (.rep i) = [] := by simp only [NAd.own, h]
theorem own_chn {N : NAd} {j : Nat} {p : Nm × (Addr × Addr)} (h : N.cs[j]? = some p) : N.own (.chn j) = [p.2.1, p.2.2] := by simp only [NAd.own, h]
theorem own_chn0 {N : NAd} {j : Nat} (h : N.cs[j]? = none) : N.own (.chn j) = [] := by simp only [NAd.own, h]
theorem own_nw (N : NAd) : N.nw ∈ N.own .net := by simp [NAd.own]
theorem own_D (N : NAd) : N.D ∈ N.own .net := by simp [NAd.own]
/-- b is owned -/
def NAd.Own (N : NAd) (b : Addr) : Prop := ∃ x, b ∈ N.own x
structure NetT (P : Program) (w : World) (K : PySem.W.Frag) (H : Hp) (N : NAd) (S : Sys) : Prop where
  ob : ∃ dx, H N.nw = some (.ins (He.ga K "Network") dx [("replicas", .ref N.R), ("channels", .ref N.D)])
  rl : Fz H (.ref N.R) (refsA N.As)
  rn : N.As.length = S.reps.length
  rt : ∀ (i : Nat) A, N.As[i]? = some A → ∃ rp, S.reps[i]? = some rp ∧ RepT P w K H A rp
  dn : DV P w K pD Rad H N.D (N.cs.map fun p => (p.1, p.2.1))
  cn : N.cs.length = S.ch.length
  ct : ∀ (j : Nat) p, N.cs[j]? = some p → ∃ q, S.ch[j]? = some q ∧ p.1 = q.1 ∧ ChA K H p.2.1 p.2.2 q.2
  dj : ∀ x y b, b ∈ N.own x → b ∈ N.own y → x = y
section
variable {P : Program} {w : World} {K : PySem.W.Frag} {H H' : Hp} {N : NAd} {S : Sys}
theorem NetT.al (T : NetT P w K H N S) {x : Ix} {b : Addr} (hb : b ∈ N.own x) : H b ≠ none := by
  cases x with
  | net =>
    obtain ⟨dx, e⟩ := T.ob
    obtain ⟨φ, e2⟩ := T.dn.ext
    simp only [NAd.own, List.mem_cons, List.not_mem_nil, or_false] at hb
    rcases hb with rfl | rfl
    · rw [e]; simp
    · rw [e2]; simp
  | rep i =>
    cases h : N.As[i]? with
    | none => rw [own_rep0 h] at hb; cases hb
    | some A =>
      rw [own_rep h] at hb
      obtain ⟨rp, _, R⟩ := T.rt i A h
      exact R.al hb
  | chn j =>
    cases h : N.cs[j]? with
    | none => rw [own_chn0 h] at hb; cases hb
    | some p =>
      rw [own_chn h] at hb
      obtain ⟨q, _, _, dx, xs, e1, e2, _⟩ := T.ct j p h
      simp only [List.mem_cons, List.not_mem_nil, or_false] at hb
      rcases hb with rfl | rfl
      · rw [e1]; simp
      · rw [e2]; simp
/-- all but one part stays -/
theorem NetT.up0 (T : NetT P w K H N S) {F : List Addr} (k : Kp F H H') (n : ∀ b ∈ F, ¬ N.Own b) : NetT P w K H' N S := by
  have m : ∀ {x b}, b ∈ N.own x → b ∉ F := fun {x b} hb z => n b z ⟨x, hb⟩
  obtain ⟨⟨dx, ob⟩, rl, rn, rt, dn, cn, ct, dj⟩ := T
  refine ⟨⟨dx, k.get ob (m (x := .net) (by simp [NAd.own]))⟩, rl.up k, rn, fun i A hA => ?_, dn.up st_ad k (m (x := .net) (by simp [NAd.own])), cn, fun j p hp => ?_, dj⟩
  · obtain ⟨rp, h, R⟩ := rt i A hA
    exact ⟨rp, h, R.up k fun b hb => m (x := .rep i) (by rw [own_rep hA]; exact hb)⟩
  · obtain ⟨q, h, e, c⟩ := ct j p hp
    exact ⟨q, h, e, c.up k (m (x := .chn j) (by rw [own_chn hp]; simp)) (m (x := .chn j) (by rw [own_chn hp]; simp))⟩
theorem NetT.up (T : NetT P w K H N S) (k : Kp [] H H') : NetT P w K H' N S := T.up0 k (by simp)
def NAd.setR (N : NAd) (i : Nat) (A : RAd) : NAd := { N with As := N.As.set i A }
def Sys.setR (S : Sys) (i : Nat) (r : Rep) : Sys := { S with reps := S.reps.set i r }
def NAd.setC (N : NAd) (j : Nat) (p : Nm × (Addr × Addr)) : NAd := { N with cs := N.cs.set j p }
def Sys.setC (S : Sys) (j : Nat) (q : Nm × List (List Int)) : Sys := { S with ch := S.ch.set j q }
theorem own_setR {i : Nat} {A A' : RAd} (hA : N.As[i]? = some A) (x : Ix) : (N.setR i A').own x = if x = .rep i then A'.own else N.own x := by
  have hi := (List.getElem?_eq_some_iff.mp hA).1
  cases x with
  | net => rfl
  | chn j => rfl
  | rep j =>
    show (match (N.As.set i A')[j]? with | some A => A.own | none => []) = _
    rw [List.getElem?_set]
    by_cases e : i = j
    · subst e
      rw [if_pos rfl, if_pos hi, if_pos rfl]
    · rw [if_neg e, if_neg (fun z => e (by injection z with z; exact z.symm))]
      rfl
theorem own_setC {j : Nat} {p p' : Nm × (Addr × Addr)} (hp : N.cs[j]? = some p) (x : Ix) : (N.setC j p').own x = if x = .chn j then [p'.2.1, p'.2.2] else N.own x := by
  have hi := (List.getElem?_eq_some_iff.mp hp).1
  cases x with
  | net => rfl
  | rep j => rfl
  | chn i =>
    show (match (N.cs.set j p')[i]? with | some p => [p.2.1, p.2.2] | none => []) = _
    rw [List.getElem?_set]
    by_cases e : j = i
    · subst e
      rw [if_pos rfl, if_pos hi, if_pos rfl]
    · rw [if_neg e, if_neg (fun z => e (by injection z with z; exact z.symm))]
      rfl
/-- one part is changed: what is owned stays apart -/
theorem dj_set {own own' : Ix → List Addr} {x0 : Ix} {new : List Addr} (dj : ∀ x y b, b ∈ own x → b ∈ own y → x = y) (al : ∀ x b, b ∈ own x → H b ≠ none) (e : ∀ x, own' x = if x = x0 then new else own x) (hn : ∀ b ∈ new, b ∈ own x0 ∨ H b = none) : ∀ x y b, b ∈ own' x → b ∈ own' y → x = y := by
  have key : ∀ y b, y ≠ x0 → b ∈ new → b ∉ own y := fun y b hy hb hb2 => by
    rcases hn b hb with h | h
    · exact hy (dj y x0 b hb2 h)
    · exact al y b hb2 h
  intro x y b hx hy
  rw [e] at hx hy
  by_cases hx0 : x = x0
  · rw [if_pos hx0] at hx
    by_cases hy0 : y = x0
    · rw [hx0, hy0]
    · rw [if_neg hy0] at hy
      exact (key y b hy0 hx hy).elim
  · rw [if_neg hx0] at hx
    by_cases hy0 : y = x0
    · rw [if_pos hy0] at hy
      exact (key x b hx0 hy hx).elim
    · rw [if_neg hy0] at hy
      exact dj x y b hx hy
theorem NetT.repU (T : NetT P w K H N S) {i : Nat} {A A' : RAd} {rp' : Rep} (hA : N.As[i]? = some A) (k : Kp A.own H H') (ow : ∀ b ∈ A'.own, b ∈ A.own ∨ H b = none) (ea : A'.a = A.a) (R' : RepT P w K H' A' rp') : NetT P w K H' (N.setR i A') (S.setR i rp') := by
  have hi := (List.getElem?_eq_some_iff.mp hA).1
  have oi : N.own (.rep i) = A.own := own_rep hA
  have m : ∀ {x b}, x ≠ .rep i → b ∈ N.own x → b ∉ A.own := fun {x b} hx hb z => hx (T.dj x (.rep i) b hb (by rw [oi]; exact z))
  refine ⟨?_, ?_, ?_, fun j B hB => ?_, ?_, T.cn, fun j p hp => ?_, dj_set T.dj (fun x b hb => T.al hb) (own_setR hA) (by rw [oi]; exact ow)⟩
  · obtain ⟨dx, ob⟩ := T.ob
    exact ⟨dx, k.get ob (m (x := .net) (by simp) (own_nw N))⟩
  · have : refsA (N.setR i A').As = refsA N.As := by
      show (N.As.set i A').map _ = _
      rw [List.map_set, ea]
      refine List.ext_getElem? fun j => ?_
      rw [List.getElem?_set]
      split
      · rename_i e
        subst e
        rw [if_pos (by rw [List.length_map]; exact hi), List.getElem?_map, hA]
        rfl
      · rfl
    show Fz H' (.ref N.R) (refsA (N.setR i A').As)
    rw [this]
    exact T.rl.up k
  · show (N.As.set i A').length = (S.reps.set i rp').length
    rw [List.length_set, List.length_set, T.rn]
  · have hB : (N.As.set i A')[j]? = some B := hB
    show ∃ rp, (S.reps.set i rp')[j]? = some rp ∧ _
    rw [List.getElem?_set] at hB ⊢
    by_cases e : i = j
    · subst e
      rw [if_pos rfl, if_pos hi] at hB
      rw [if_pos rfl, if_pos (by rw [← T.rn]; exact hi)]
      cases hB
      exact ⟨rp', rfl, R'⟩
    · rw [if_neg e] at hB ⊢
      obtain ⟨rp, h, R⟩ := T.rt j B hB
      exact ⟨rp, h, R.up k fun b hb => m (x := .rep j) (fun z => e (by injection z with z; exact z.symm)) (by rw [own_rep hB]; exact hb)⟩
  · exact T.dn.up st_ad k (m (x := .net) (by simp) (own_D N))
  · obtain ⟨q, h, e, c⟩ := T.ct j p hp
    have hp : N.cs[j]? = some p := hp
    exact ⟨q, h, e, c.up k (m (x := .chn j) (by simp) (by rw [own_chn hp]; simp)) (m (x := .chn j) (by simp) (by rw [own_chn hp]; simp))⟩
theorem NetT.chU (T : NetT P w K H N S) {j : Nat} {p : Nm × (Addr × Addr)} {q : Nm × List (List Int)} {u' : Addr} {rows' : List (List Int)} (hp : N.cs[j]? = some p) (hq : S.ch[j]? = some q) (k : Kp [p.2.1, p.2.2] H H') (ow : u' = p.2.2 ∨ H u' = none) (C' : ChA K H' p.2.1 u' rows') : NetT P w K H' (N.setC j (p.1, p.2.1, u')) (S.setC j (q.1, rows')) := by
  have hi := (List.getElem?_eq_some_iff.mp hp).1
  have oi : N.own (.chn j) = [p.2.1, p.2.2] := own_chn hp
  have m : ∀ {x b}, x ≠ .chn j → b ∈ N.own x → b ∉ [p.2.1, p.2.2] := fun {x b} hx hb z => hx (T.dj x (.chn j) b hb (by rw [oi]; exact z))
  refine ⟨?_, T.rl.up k, T.rn, fun i A hA => ?_, ?_, ?_, fun i r hr => ?_, dj_set T.dj (fun x b hb => T.al hb) (own_setC hp) (fun b hb => ?_)⟩
  · obtain ⟨dx, ob⟩ := T.ob
    exact ⟨dx, k.get ob (m (x := .net) (by simp) (own_nw N))⟩
  · have hA : N.As[i]? = some A := hA
    obtain ⟨rp, h, R⟩ := T.rt i A hA
    exact ⟨rp, h, R.up k fun b hb => m (x := .rep i) (by simp) (by rw [own_rep hA]; exact hb)⟩
  · have : (N.setC j (p.1, p.2.1, u')).cs.map (fun p => (p.1, p.2.1)) = N.cs.map fun p => (p.1, p.2.1) := by
      show (N.cs.set j _).map _ = _
      rw [List.map_set]
      refine List.ext_getElem? fun i => ?_
      rw [List.getElem?_set]
      split
      · rename_i e
        subst e
        rw [if_pos (by rw [List.length_map]; exact hi), List.getElem?_map, hp]
        rfl
      · rfl
    show DV P w K pD Rad H' N.D _
    rw [this]
    exact T.dn.up st_ad k (m (x := .net) (by simp) (own_D N))
  · show (N.cs.set j _).length = (S.ch.set j _).length
    rw [List.length_set, List.length_set, T.cn]
  · have hr : (N.cs.set j (p.1, p.2.1, u'))[i]? = some r := hr
    show ∃ q', (S.ch.set j (q.1, rows'))[i]? = some q' ∧ _
    rw [List.getElem?_set] at hr ⊢
    by_cases e : j = i
    · subst e
      rw [if_pos rfl, if_pos hi] at hr
      rw [if_pos rfl, if_pos (by rw [← T.cn]; exact hi)]
      cases hr
      obtain ⟨q0, h0, e0, _⟩ := T.ct j p hp
      rw [hq] at h0
      cases h0
      exact ⟨_, rfl, e0, C'⟩
    · rw [if_neg e] at hr ⊢
      obtain ⟨q0, h0, e0, c0⟩ := T.ct i r hr
      have hx : Ix.chn i ≠ .chn j := fun z => e (by injection z with z; exact z.symm)
      exact ⟨q0, h0, e0, c0.up k (m (x := .chn i) hx (by rw [own_chn hr]; simp)) (m (x := .chn i) hx (by rw [own_chn hr]; simp))⟩
  · rw [oi]
    simp only [List.mem_cons, List.not_mem_nil, or_false] at hb ⊢
    rcases hb with rfl | rfl
    · exact .inl (.inl rfl)
    · exact ow.imp .inr id
theorem NetT.paired (T : NetT P w K H N S) : RpsT P w K H N.As S.reps := by
  have key : ∀ (As : List RAd) (rs : List Rep), As.length = rs.length → (∀ (i : Nat) A, As[i]? = some A → ∃ rp, rs[i]? = some rp ∧ RepT P w K H A rp) → Paired (RepT P w K H) As rs := fun As => by
    induction As with
    | nil => intro rs h _; cases rs with
      | nil => exact .nil
      | cons _ _ => cases h
    | cons A As ih => intro rs h g; cases rs with
      | nil => cases h
      | cons r rs =>
        obtain ⟨rp, e, R⟩ := g 0 A rfl
        cases e
        exact .cons R (ih rs (by simpa using h) fun i B hB => g (i + 1) B hB)
  exact key _ _ T.rn T.rt
end
end GT
set_option maxHeartbeats 2000000
namespace GT
open PySem PySem.Spec PyProof.Rows L2
/-! ### the best change of each cell -/
theorem ltP_irrefl (a : Nm) : ltP a a = false := by unfold ltP; simp
theorem ltP_trans {a b c : Nm} (h1 : ltP a b = true) (h2 : ltP b c = true) : ltP a c = true := by
  unfold ltP at *
  have h1 := of_decide_eq_true h1
  have h2 := of_decide_eq_true h2
  exact decide_eq_true (by omega)
theorem ltP_total {a b : Nm} (h1 : ltP a b = false) (h2 : ltP b a = false) : a = b := by
  unfold ltP at *
  have h1 := of_decide_eq_false h1
  have h2 := of_decide_eq_false h2
  exact Prod.ext (by omega) (by omega)
structure BestC (cs : List (Ky × Cell)) (T : Ch → Prop) : Prop where
  nd : (cs.map (·.1)).Nodup
  so : ∀ k ce, aget cs k = some ce → ∃ c, T c ∧ c.ky = k ∧ c.ce = ce ∧ ∀ c', T c' → c'.ky = k → ltP c.st c'.st = false
  no : ∀ k, aget cs k = none → ∀ c, T c → c.ky ≠ k
theorem BestC.congr {cs : List (Ky × Cell)} {T T' : Ch → Prop} (h : BestC cs T) (e : ∀ c, T c ↔ T' c) : BestC cs T' := by
  have : T = T' := funext fun c => propext (e c)
  rw [← this]
  exact h
theorem BestC.nil : BestC [] (fun _ => False) := ⟨by simp, fun k ce h => (by cases h), fun _ _ _ h => h.elim⟩
theorem takeC_get (cs : List (Ky × Cell)) (c : Ch) (k : Ky) : aget (takeC cs c) k = if k = c.ky ∧ (∀ o, aget cs c.ky = some o → ltP o.1 c.st = true) then some c.ce else aget cs k := by
  unfold takeC
  cases h : aget cs c.ky with
  | none =>
    show aget (aput cs c.ky c.ce) k = _
    rw [aget_put]
    by_cases e : k = c.ky
    · rw [if_pos e, if_pos ⟨e, fun o ho => by cases ho⟩]
    · rw [if_neg e, if_neg (fun z => e z.1)]
  | some o =>
    show aget (if ltP o.1 c.st then aput cs c.ky c.ce else cs) k = _
    by_cases l : ltP o.1 c.st = true
    · rw [if_pos l, aget_put]
      by_cases e : k = c.ky
      · rw [if_pos e, if_pos ⟨e, fun o' ho => by cases ho; exact l⟩]
      · rw [if_neg e, if_neg (fun z => e z.1)]
    · rw [if_neg l, if_neg (fun z => l (z.2 o rfl))]
theorem BestC.take {cs : List (Ky × Cell)} {T T' : Ch → Prop} {c : Ch} (h : BestC cs T) (e : ∀ x, T' x ↔ T x ∨ x = c) : BestC (takeC cs c) T' := by
  refine ⟨takeC_nd h.nd c, fun k ce hk => ?_, fun k hk x hx => ?_⟩
  · rw [takeC_get] at hk
    by_cases z : k = c.ky ∧ (∀ o, aget cs c.ky = some o → ltP o.1 c.st = true)
    · rw [if_pos z] at hk
      cases hk
      refine ⟨c, (e c).mpr (.inr rfl), z.1.symm, rfl, fun c' hc' ky => ?_⟩
      rcases (e c').mp hc' with t | rfl
      · cases ho : aget cs c.ky with
        | none => exact (h.no _ ho c' t (by rw [ky, z.1])).elim
        | some o =>
          obtain ⟨c0, t0, k0, e0, b0⟩ := h.so _ _ ho
          have l := z.2 o ho
          have b1 := b0 c' t (by rw [ky, z.1])
          rw [← e0] at l
          have l : ltP c0.st c.st = true := l
          cases q : ltP c.st c'.st with
          | false => rfl
          | true => rw [ltP_trans l q] at b1; cases b1
      · exact ltP_irrefl _
    · rw [if_neg z] at hk
      obtain ⟨c0, t0, k0, e0, b0⟩ := h.so _ _ hk
      refine ⟨c0, (e c0).mpr (.inl t0), k0, e0, fun c' hc' ky => ?_⟩
      rcases (e c').mp hc' with t | rfl
      · exact b0 c' t ky
      · rw [← ky] at hk
        cases q : ltP c0.st c'.st with
        | false => rfl
        | true => exact (z ⟨ky.symm, fun o ho => by rw [hk] at ho; cases ho; rw [← e0]; exact q⟩).elim
  · rw [takeC_get] at hk
    by_cases z : k = c.ky ∧ (∀ o, aget cs c.ky = some o → ltP o.1 c.st = true)
    · rw [if_pos z] at hk
      cases hk
    · rw [if_neg z] at hk
      rcases (e x).mp hx with t | rfl
      · exact h.no k hk x t
      · intro ky
        rw [← ky] at hk
        exact z ⟨ky.symm, fun o ho => by rw [hk] at ho; cases ho⟩
theorem BestC.fold : ∀ (l : List Ch) {cs : List (Ky × Cell)} {T : Ch → Prop}, BestC cs T → BestC (l.foldl takeC cs) (fun x => T x ∨ x ∈ l)
  | [], cs, T, h => h.congr fun c => by simp
  | c :: l, cs, T, h => by
    have h1 : BestC (takeC cs c) (fun x => T x ∨ x = c) := h.take fun x => Iff.rfl
    exact (BestC.fold l h1).congr fun x => by simp [or_assoc]
theorem BestC.uniq {cs cs' : List (Ky × Cell)} {T : Ch → Prop} (h : BestC cs T) (h' : BestC cs' T) (u : ∀ a b, T a → T b → a.st = b.st → a = b) (k : Ky) : aget cs k = aget cs' k := by
  cases e : aget cs k with
  | none =>
    cases e' : aget cs' k with
    | none => rfl
    | some ce =>
      obtain ⟨c, t, ky, _⟩ := h'.so _ _ e'
      exact (h.no _ e c t ky).elim
  | some ce =>
    obtain ⟨c, t, ky, hc, b⟩ := h.so _ _ e
    cases e' : aget cs' k with
    | none => exact (h'.no _ e' c t ky).elim
    | some ce' =>
      obtain ⟨c', t', ky', hc', b'⟩ := h'.so _ _ e'
      have := u c c' t t' (ltP_total (b c' t' ky') (b' c t ky))
      rw [← hc, ← hc', this]
theorem BestC.names {cs : List (Ky × Cell)} {T : Ch → Prop} {nms : List Nm} (h : BestC cs T) (hn : ∀ c, T c → c.nm ∈ nms ∧ ∀ n, c.vl = .rf n → n ∈ nms) (n : Nm) (m : NamesOf cs n) : n ∈ nms := by
  rcases m with ⟨e, he, rfl⟩ | ⟨e, he, ev⟩
  · obtain ⟨c, t, ky, _⟩ := h.so _ _ (aget_of_mem h.nd he)
    rw [← ky]
    exact (hn c t).1
  · obtain ⟨c, t, ky, ce, _⟩ := h.so _ _ (aget_of_mem h.nd he)
    refine (hn c t).2 n ?_
    rw [← ev, ← ce]
    rfl
theorem BestC.csok {cs : List (Ky × Cell)} {T : Ch → Prop} (h : BestC cs T) (hn : ∀ c, T c → StrOk c.fd ∧ VlOk c.vl) : CsOk cs := fun p hp => by
  obtain ⟨c, t, ky, ce, _⟩ := h.so _ _ (aget_of_mem h.nd hp)
  rw [← ky, ← ce]
  exact hn c t
theorem BestC.len {cs : List (Ky × Cell)} {T : Ch → Prop} {l : List Ch} (h : BestC cs T) (hl : ∀ c, T c → c ∈ l) : cs.length ≤ l.length := by
  have := nodup_len h.nd (ns := l.map Ch.ky) fun k hk => by
    obtain ⟨p, hp, rfl⟩ := List.mem_map.mp hk
    obtain ⟨c, t, ky, _⟩ := h.so _ _ (aget_of_mem h.nd hp)
    exact List.mem_map.mpr ⟨c, hl c t, ky⟩
  rwa [List.length_map, List.length_map] at this
/-! ### what a replica has taken -/
def taken (r : Rep) : List Ch := r.pend ++ r.msgs.flatMap (·.2)
theorem mem_taken {r : Rep} {c : Ch} : c ∈ taken r ↔ c ∈ r.pend ∨ ∃ p ∈ r.msgs, c ∈ p.2 := by
  unfold taken
  rw [List.mem_append, List.mem_flatMap]
theorem mem_taken_get {r : Rep} (nd : (keysR r).Nodup) {c : Ch} : c ∈ taken r ↔ c ∈ r.pend ∨ ∃ k l, aget r.msgs k = some l ∧ c ∈ l := by
  rw [mem_taken]
  exact or_congr Iff.rfl ⟨fun ⟨p, hp, hc⟩ => ⟨p.1, p.2, aget_of_mem nd hp, hc⟩, fun ⟨k, l, h, hc⟩ => ⟨(k, l), aget_mem h, hc⟩⟩
structure ChOk (n : Nat) (nms : List Nm) (c : Ch) : Prop where
  g : ChG c
  p : 0 ≤ c.st.2 ∧ c.st.2 < n
  nm : c.nm ∈ nms
  vl : ∀ m, c.vl = .rf m → m ∈ nms
  so : StrOk c.fd
  vo : VlOk c.vl
structure RepI (made : List Ch) (nms : List Nm) (AL : List (Nm × List Ch)) (i : Nat) (r : Rep) : Prop where
  pe : r.peer = i
  best : BestC r.cells (fun c => c ∈ taken r)
  ck : ∀ c ∈ taken r, c.st.1 ≤ r.clock
  c0 : 0 ≤ r.clock ∧ r.clock ≤ made.length
  sub : ∀ c ∈ taken r, c ∈ made
  own : ∀ c ∈ made, c.st.2 = i → c ∈ taken r
  mnd : (keysR r).Nodup
  au : ∀ k l, aget r.msgs k = some l → aget AL k = some l
  aown : ∀ (m : Int) l, aget AL ((i : Int), m) = some l → aget r.msgs ((i : Int), m) = some l
  mde : 0 ≤ r.made ∧ ∀ m : Int, ((i : Int), m) ∈ nms ↔ 0 ≤ m ∧ m < r.made
  rt : r.roots.Nodup ∧ ∀ x ∈ r.roots, x ∈ nms
  pl : r.pend.length ≤ made.length
def RowI (AL : List (Nm × List Ch)) (r : List Int) : Prop := (∃ k l, aget AL k = some l ∧ r = msgO k.1 k.2 l) ∨ (Bad r ∧ r.length ≤ 10000)
structure SysI (n t : Nat) (made : List Ch) (nms : List Nm) (AL : List (Nm × List Ch)) (S : Sys) : Prop where
  sz : S.reps.length = n
  n2 : 2 ≤ n ∧ n ≤ 4
  rep : ∀ (i : Nat) r, S.reps[i]? = some r → RepI made nms AL i r
  mst : (made.map (·.st)).Nodup
  mok : ∀ c ∈ made, ChOk n nms c
  ml : made.length ≤ t
  nl : nms.length ≤ t + 1
  np : ∀ m ∈ nms, 0 ≤ m.1 ∧ m.1 < n ∧ 0 ≤ m.2 ∧ m.2 ≤ t
  n0 : ((0, 0) : Nm) ∈ nms
  and : (AL.map (·.1)).Nodup
  all : AL.length ≤ t
  alk : ∀ k l, aget AL k = some l → 0 ≤ k.1 ∧ k.1 < n ∧ 1 ≤ k.2 ∧ k.2 ≤ t ∧ l.length ≤ t ∧ ∀ c ∈ l, c ∈ made
  rows : ∀ q ∈ S.ch, q.2.length ≤ t ∧ ∀ r ∈ q.2, RowI AL r
section
variable {n t : Nat} {made : List Ch} {nms : List Nm} {AL : List (Nm × List Ch)} {S : Sys} {i : Nat} {r : Rep}
theorem SysI.mono {t' : Nat} (h : SysI n t made nms AL S) (e : t ≤ t') : SysI n t' made nms AL S :=
  ⟨h.sz, h.n2, h.rep, h.mst, h.mok, Nat.le_trans h.ml e, by have := h.nl; omega, fun m hm => by have := h.np m hm; omega, h.n0, h.and, Nat.le_trans h.all e, fun k l hk => by obtain ⟨a, b, c, d, f, g⟩ := h.alk k l hk; exact ⟨a, b, c, by omega, by omega, g⟩, fun q hq => ⟨Nat.le_trans (h.rows q hq).1 e, (h.rows q hq).2⟩⟩
theorem SysI.nm (h : SysI n t made nms AL S) (e : t ≤ 58) : NmOk nms := ⟨by have := h.nl; omega, fun m hm => by have := h.np m hm; omega⟩
theorem SysI.uq (h : SysI n t made nms AL S) : ∀ a b, a ∈ made → b ∈ made → a.st = b.st → a = b := fun a b ha hb e => by
  obtain ⟨i, hi⟩ := List.mem_iff_getElem?.mp ha
  obtain ⟨j, hj⟩ := List.mem_iff_getElem?.mp hb
  have h1 : (made.map (·.st))[i]? = some a.st := by rw [List.getElem?_map, hi]; rfl
  have h2 : (made.map (·.st))[j]? = some a.st := by rw [List.getElem?_map, hj, e]; rfl
  obtain ⟨l1, e1⟩ := List.getElem?_eq_some_iff.mp h1
  obtain ⟨l2, e2⟩ := List.getElem?_eq_some_iff.mp h2
  have := (List.getElem_inj h.mst).mp (e1.trans e2.symm)
  subst this
  rw [hi] at hj
  exact Option.some.inj hj
/-- clocks of changes are bounded -/
theorem SysI.cb (h : SysI n t made nms AL S) {c : Ch} (hc : c ∈ made) : c.st.1 ≤ made.length := by
  have ok := h.mok c hc
  have hp := ok.p
  have hl : c.st.2.toNat < S.reps.length := by rw [h.sz]; omega
  have R := h.rep c.st.2.toNat _ (List.getElem?_eq_getElem hl)
  have := R.ck c (R.own c hc (by omega))
  have := R.c0.2
  omega
theorem SysI.rnm (h : SysI n t made nms AL S) (e : t ≤ 58) (hr : S.reps[i]? = some r) : RNm r nms := by
  have R := h.rep i r hr
  refine ⟨h.nm e, R.best.names fun c hc => ⟨(h.mok c (R.sub c hc)).nm, (h.mok c (R.sub c hc)).vl⟩, R.best.nd, ?_⟩
  have := R.best.len (l := made) R.sub
  have := h.ml
  omega
theorem SysI.ok (h : SysI n t made nms AL S) (hr : S.reps[i]? = some r) : CsOk r.cells := by
  have R := h.rep i r hr
  exact R.best.csok fun c hc => ⟨(h.mok c (R.sub c hc)).so, (h.mok c (R.sub c hc)).vo⟩
theorem SysI.cl (h : SysI n t made nms AL S) (hr : S.reps[i]? = some r) : r.cells.length ≤ t := by
  have R := h.rep i r hr
  have := R.best.len (l := made) R.sub
  have := h.ml
  omega
theorem SysI.msl (h : SysI n t made nms AL S) (hr : S.reps[i]? = some r) : r.msgs.length ≤ t := by
  have R := h.rep i r hr
  have := nodup_len R.mnd (ns := AL.map (·.1)) fun k hk => by
    obtain ⟨l, hl⟩ := Option.isSome_iff_exists.mp (aget_isSome.mpr hk)
    exact aget_isSome.mp (by rw [R.au k l hl]; rfl)
  have h2 := h.all
  rw [List.length_map] at this
  unfold keysR at this
  rw [List.length_map] at this
  omega
theorem SysI.key (h : SysI n t made nms AL S) (e : t ≤ 58) (hr : S.reps[i]? = some r) : KeyB r := by
  have R := h.rep i r hr
  refine ⟨fun k hk => ?_, by have := h.msl hr; omega⟩
  obtain ⟨l, hl⟩ := Option.isSome_iff_exists.mp (aget_isSome.mpr hk)
  obtain ⟨a, b, c, d, _⟩ := h.alk k l (R.au k l hl)
  have := h.n2
  omega
theorem SysI.ms (h : SysI n t made nms AL S) (e : t ≤ 58) {k : Nm} {l : List Ch} (hk : aget AL k = some l) : MsG k.1 k.2 l := by
  obtain ⟨a, b, c, d, f, g⟩ := h.alk k l hk
  have := h.n2
  exact ⟨by omega, by omega, by omega, fun c hc => (h.mok c (g c hc)).g⟩
theorem SysI.pw (h : SysI n t made nms AL S) (hr : S.reps[i]? = some r) : ∀ c ∈ r.pend, ChW c := fun c hc => (h.mok c ((h.rep i r hr).sub c (mem_taken.mpr (.inl hc)))).g.w
theorem get_set {α : Type} {l : List α} {i j : Nat} {a b : α} (h : (l.set i a)[j]? = some b) : (j = i ∧ b = a) ∨ (j ≠ i ∧ l[j]? = some b) := by
  rw [List.getElem?_set] at h
  by_cases e : i = j
  · rw [if_pos e] at h
    split at h
    · cases h; exact .inl ⟨e.symm, rfl⟩
    · cases h
  · rw [if_neg e] at h
    exact .inr ⟨fun z => e z.symm, h⟩
/-! #### begin -/
theorem SysI.begin (h : SysI n t made nms AL S) (hr : S.reps[i]? = some r) : SysI n (t + 1) made (nms ++ [(r.peer, r.made)]) AL (S.setR i { r with made := r.made + 1 }) := by
  have R := h.rep i r hr
  have hi : i < n := by rw [← h.sz]; exact (List.getElem?_eq_some_iff.mp hr).1
  have hn2 := h.n2
  have mb : r.made ≤ t + 1 := by
    have : r.made.toNat ≤ nms.length := by
      have nd : ((List.range r.made.toNat).map fun j : Nat => (((i : Int), (j : Int)) : Nm)).Nodup := List.pairwise_map.mpr (List.nodup_range.imp fun hab e => hab (by have := congrArg (·.2) e; simp at this; omega))
      have := nodup_len nd (ns := nms) fun k hk => by
        obtain ⟨j, hj, rfl⟩ := List.mem_map.mp hk
        exact (R.mde.2 _).mpr ⟨by omega, by have := List.mem_range.mp hj; omega⟩
      rwa [List.length_map, List.length_range] at this
    have := h.nl
    omega
  refine ⟨by show (S.reps.set _ _).length = n; rw [List.length_set, h.sz], h.n2, fun j r' hr' => ?_, h.mst, fun c hc => ?_, by have := h.ml; omega, by rw [List.length_append]; have := h.nl; simp; omega, fun m hm => ?_, List.mem_append_left _ h.n0, h.and, by have := h.all; omega, fun k l hk => ?_, fun q hq => ⟨by have := (h.rows q hq).1; omega, (h.rows q hq).2⟩⟩
  · rcases get_set hr' with ⟨rfl, rfl⟩ | ⟨ne, hj⟩
    · refine ⟨R.pe, R.best, R.ck, R.c0, R.sub, R.own, R.mnd, R.au, R.aown, ⟨by have := R.mde.1; show 0 ≤ r.made + 1; omega, fun m => ?_⟩, ⟨R.rt.1, fun x hx => List.mem_append_left _ (R.rt.2 x hx)⟩, R.pl⟩
      rw [List.mem_append, R.mde.2, List.mem_singleton, R.pe]
      show _ ↔ 0 ≤ m ∧ m < r.made + 1
      have := R.mde.1
      constructor
      · rintro (z | z)
        · omega
        · have := congrArg (·.2) z
          simp at this
          omega
      · intro z
        by_cases e : m < r.made
        · exact .inl ⟨z.1, e⟩
        · exact .inr (by rw [show m = r.made by omega])
    · have Q := h.rep j r' hj
      refine ⟨Q.pe, Q.best, Q.ck, Q.c0, Q.sub, Q.own, Q.mnd, Q.au, Q.aown, ⟨Q.mde.1, fun m => ?_⟩, ⟨Q.rt.1, fun x hx => List.mem_append_left _ (Q.rt.2 x hx)⟩, Q.pl⟩
      rw [List.mem_append, Q.mde.2, List.mem_singleton]
      refine ⟨fun z => z.elim id fun z => ?_, .inl⟩
      have := congrArg (·.1) z
      rw [R.pe] at this
      have this : (j : Int) = i := this
      exact (ne (by omega)).elim
  · have ok := h.mok c hc
    exact ⟨ok.g, ok.p, List.mem_append_left _ ok.nm, fun m hm => List.mem_append_left _ (ok.vl m hm), ok.so, ok.vo⟩
  · rcases List.mem_append.mp hm with hm | hm
    · have := h.np m hm; omega
    · rw [List.mem_singleton] at hm
      subst hm
      have := R.pe
      have := R.mde.1
      refine ⟨?_, ?_, ?_, ?_⟩ <;> simp <;> omega
  · obtain ⟨a, b, c, d, f, g⟩ := h.alk k l hk
    exact ⟨a, b, c, by omega, by omega, g⟩
/-! #### note -/
theorem SysI.note (h : SysI n t made nms AL S) (hr : S.reps[i]? = some r) {nm : Nm} {f : Str} {x : Vl} (ht : t ≤ 58) (hn : nm ∈ nms) (hf : WdOk f ∧ 1 ≤ f.length ∧ f.length ≤ 8 ∧ StrOk f) (hx : VlG x ∧ VlOk x ∧ ∀ m, x = .rf m → m ∈ nms) : SysI n (t + 1) (made ++ [noteC r nm f x]) nms AL (S.setR i (noteR r (noteC r nm f x))) := by
  have R := h.rep i r hr
  have hi : i < n := by rw [← h.sz]; exact (List.getElem?_eq_some_iff.mp hr).1
  have hn2 := h.n2
  have hml := h.ml
  have hc0 := R.c0
  have hpe := R.pe
  generalize hc : noteC r nm f x = c
  have st : c.st = (r.clock + 1, (i : Int)) := by rw [← hc, ← R.pe]; rfl
  have new : ∀ c' ∈ made, c'.st ≠ c.st := fun c' hc' e => by
    rw [st] at e
    have h1 := R.ck c' (R.own c' hc' (by rw [e]))
    rw [e] at h1
    have : r.clock + 1 ≤ r.clock := h1
    omega
  have tk : ∀ y, y ∈ taken (noteR r c) ↔ y ∈ taken r ∨ y = c := fun y => by
    rw [mem_taken, mem_taken]
    show y ∈ r.pend ++ [c] ∨ (∃ p ∈ r.msgs, y ∈ p.2) ↔ _
    rw [List.mem_append, List.mem_singleton]
    constructor
    · rintro ((a | a) | a)
      · exact .inl (.inl a)
      · exact .inr a
      · exact .inl (.inr a)
    · rintro ((a | a) | a)
      · exact .inl (.inl a)
      · exact .inr a
      · exact .inl (.inr a)
  have ok : ChOk n nms c := by
    have hnm := h.np nm hn
    refine ⟨⟨by rw [st]; show 1 ≤ r.clock + 1 ∧ _; exact ⟨by omega, by show r.clock + 1 ≤ _; omega⟩, by rw [st]; exact ⟨by show (0 : Int) ≤ i; omega, by show (i : Int) ≤ 7; omega⟩, by rw [← hc]; exact ⟨by show 0 ≤ nm.1 ∧ nm.1 ≤ 7; omega, by show 0 ≤ nm.2 ∧ nm.2 ≤ _; omega⟩, by rw [← hc]; exact hf.1, by rw [← hc]; exact ⟨hf.2.1, hf.2.2.1⟩, by rw [← hc]; exact hx.1⟩, by rw [st]; exact ⟨by show (0 : Int) ≤ i; omega, by show (i : Int) < n; omega⟩, by rw [← hc]; exact hn, by rw [← hc]; exact hx.2.2, by rw [← hc]; exact hf.2.2.2, by rw [← hc]; exact hx.2.1⟩
  refine ⟨by show (S.reps.set _ _).length = n; rw [List.length_set, h.sz], h.n2, fun j r' hr' => ?_, ?_, fun c' hc' => ?_, by rw [List.length_append]; simp; omega, by have := h.nl; omega, fun m hm => by have := h.np m hm; omega, h.n0, h.and, by have := h.all; omega, fun k l hk => ?_, fun q hq => ⟨by have := (h.rows q hq).1; omega, (h.rows q hq).2⟩⟩
  · have ln : (made ++ [c]).length = made.length + 1 := by simp
    rcases get_set hr' with ⟨rfl, rfl⟩ | ⟨ne, hj⟩
    · refine ⟨R.pe, R.best.take tk, fun y hy => ?_, ?_, fun y hy => ?_, fun y hy e => ?_, R.mnd, R.au, R.aown, R.mde, R.rt, ?_⟩
      · show y.st.1 ≤ r.clock + 1
        rcases (tk y).mp hy with z | rfl
        · have := R.ck y z; omega
        · rw [st]; exact Int.le_refl _
      · show 0 ≤ r.clock + 1 ∧ r.clock + 1 ≤ _
        rw [ln]
        omega
      · rcases (tk y).mp hy with z | rfl
        · exact List.mem_append_left _ (R.sub y z)
        · simp
      · rcases List.mem_append.mp hy with hy | hy
        · exact (tk y).mpr (.inl (R.own y hy e))
        · exact (tk y).mpr (.inr (List.mem_singleton.mp hy))
      · show (r.pend ++ [c]).length ≤ _
        rw [ln, List.length_append]
        have := R.pl
        simp
        omega
    · have Q := h.rep j r' hj
      refine ⟨Q.pe, Q.best, Q.ck, ⟨Q.c0.1, by rw [ln]; have := Q.c0.2; omega⟩, fun y hy => List.mem_append_left _ (Q.sub y hy), fun y hy e => ?_, Q.mnd, Q.au, Q.aown, Q.mde, Q.rt, by rw [ln]; have := Q.pl; omega⟩
      rcases List.mem_append.mp hy with hy | hy
      · exact Q.own y hy e
      · rw [List.mem_singleton] at hy
        rw [hy, st] at e
        have e : (i : Int) = j := e
        exact (ne (by omega)).elim
  · rw [List.map_append, List.nodup_append]
    refine ⟨h.mst, by simp, fun a ha b hb e => ?_⟩
    simp at hb
    obtain ⟨c', hc', rfl⟩ := List.mem_map.mp ha
    exact new c' hc' (by rw [e, hb])
  · rcases List.mem_append.mp hc' with hc' | hc'
    · exact h.mok c' hc'
    · rw [List.mem_singleton] at hc'
      rw [hc']
      exact ok
  · obtain ⟨a, b, c, d, f, g⟩ := h.alk k l hk
    exact ⟨a, b, c, by omega, by omega, fun y hy => List.mem_append_left _ (g y hy)⟩
/-! #### hold -/
theorem SysI.hold (h : SysI n t made nms AL S) (hr : S.reps[i]? = some r) {nm : Nm} (hn : nm ∈ nms) : SysI n t made nms AL (S.setR i { r with roots := if nm ∈ r.roots then r.roots else r.roots ++ [nm] }) := by
  have R := h.rep i r hr
  refine ⟨by show (S.reps.set _ _).length = n; rw [List.length_set, h.sz], h.n2, fun j r' hr' => ?_, h.mst, h.mok, h.ml, h.nl, h.np, h.n0, h.and, h.all, h.alk, h.rows⟩
  rcases get_set hr' with ⟨rfl, rfl⟩ | ⟨ne, hj⟩
  · refine ⟨R.pe, R.best, R.ck, R.c0, R.sub, R.own, R.mnd, R.au, R.aown, R.mde, ?_, R.pl⟩
    show (if nm ∈ r.roots then r.roots else r.roots ++ [nm]).Nodup ∧ _
    by_cases e : nm ∈ r.roots
    · rw [if_pos e]
      exact R.rt
    · rw [if_neg e]
      refine ⟨List.nodup_append.mpr ⟨R.rt.1, by simp, fun a ha b hb => by simp at hb; subst hb; exact fun z => e (by rw [← z]; exact ha)⟩, fun x hx => ?_⟩
      rcases List.mem_append.mp hx with hx | hx
      · exact R.rt.2 x hx
      · rw [List.mem_singleton.mp hx]; exact hn
  · exact h.rep j r' hj
/-! #### rows -/
theorem SysI.chan (h : SysI n t made nms AL S) {j : Nat} {q : Nm × List (List Int)} {rows' : List (List Int)} {t' : Nat} (ht : t ≤ t') (hl : rows'.length ≤ t') (hr : ∀ r ∈ rows', RowI AL r) : SysI n t' made nms AL (S.setC j (q.1, rows')) := by
  have h' := h.mono ht
  refine ⟨h'.sz, h'.n2, h'.rep, h'.mst, h'.mok, h'.ml, h'.nl, h'.np, h'.n0, h'.and, h'.all, h'.alk, fun p hp => ?_⟩
  obtain ⟨i, hi⟩ := List.mem_iff_getElem?.mp hp
  rcases get_set hi with ⟨rfl, rfl⟩ | ⟨ne, hj⟩
  · exact ⟨hl, hr⟩
  · exact h'.rows p (List.mem_of_getElem? hj)
/-! #### send -/
theorem aget_app_new {κ α : Type} [DecidableEq κ] {l : List (κ × α)} {k j : κ} {v u : α} (h : aget l j = some u) (hn : aget l k = none) : aget (l ++ [(k, v)]) j = some u := by
  rw [aget_app, h]
  rfl
theorem SysI.send (h : SysI n t made nms AL S) (hr : S.reps[i]? = some r) {m : Nat} (hm : ((i : Int), (m : Int) + 1) ∉ keysR r) (hml : m ≤ r.msgs.length) : aget AL ((i : Int), (m : Int) + 1) = none ∧ SysI n (t + 1) made nms (AL ++ [(((i : Int), (m : Int) + 1), r.pend)]) (S.setR i (sentR r m)) := by
  have R := h.rep i r hr
  have hi : i < n := by rw [← h.sz]; exact (List.getElem?_eq_some_iff.mp hr).1
  have hal : aget AL ((i : Int), (m : Int) + 1) = none := by
    cases e : aget AL ((i : Int), (m : Int) + 1) with
    | none => rfl
    | some l => exact (hm (aget_isSome.mp (by rw [R.aown _ _ e]; rfl))).elim
  have hrm : aget r.msgs ((i : Int), (m : Int) + 1) = none := by
    cases e : aget r.msgs ((i : Int), (m : Int) + 1) with
    | none => rfl
    | some l => exact (hm (aget_isSome.mp (by rw [e]; rfl))).elim
  have em : (sentR r m).msgs = r.msgs ++ [(((i : Int), (m : Int) + 1), r.pend)] := by
    show aput r.msgs (r.peer, (m : Int) + 1) r.pend = _
    rw [R.pe, aput_new hrm]
  have tk : ∀ y, y ∈ taken (sentR r m) ↔ y ∈ taken r := fun y => by
    rw [mem_taken, mem_taken, em]
    show y ∈ ([] : List Ch) ∨ _ ↔ _
    constructor
    · rintro (a | ⟨p, hp, hy⟩)
      · cases a
      · rcases List.mem_append.mp hp with hp | hp
        · exact .inr ⟨p, hp, hy⟩
        · rw [List.mem_singleton.mp hp] at hy
          exact .inl hy
    · rintro (a | ⟨p, hp, hy⟩)
      · exact .inr ⟨_, List.mem_append_right _ (List.mem_singleton.mpr rfl), a⟩
      · exact .inr ⟨p, List.mem_append_left _ hp, hy⟩
  have mln := h.msl hr
  refine ⟨hal, by show (S.reps.set _ _).length = n; rw [List.length_set, h.sz], h.n2, fun j r' hr' => ?_, h.mst, h.mok, by have := h.ml; omega, by have := h.nl; omega, fun m hm => by have := h.np m hm; omega, h.n0, ?_, by rw [List.length_append]; have := h.all; simp; omega, fun k l hk => ?_, fun q hq => ⟨by have := (h.rows q hq).1; omega, fun row hrow => ?_⟩⟩
  · rcases get_set hr' with ⟨rfl, rfl⟩ | ⟨ne, hj⟩
    · refine ⟨R.pe, R.best.congr fun c => (tk c).symm, fun c hc => R.ck c ((tk c).mp hc), R.c0, fun c hc => R.sub c ((tk c).mp hc), fun c hc e => (tk c).mpr (R.own c hc e), ?_, fun k l hk => ?_, fun m' l hk => ?_, R.mde, R.rt, Nat.zero_le _⟩
      · unfold keysR
        rw [em, List.map_append, List.nodup_append]
        exact ⟨R.mnd, by simp, fun a ha b hb e => by simp at hb; rw [e, hb] at ha; exact hm ha⟩
      · rw [em, aget_app] at hk
        rw [aget_app]
        cases e : aget r.msgs k with
        | some l' => rw [e] at hk; rw [R.au k l' e]; exact hk
        | none =>
          rw [e] at hk
          have hk : aget [((((j : Int), (m : Int) + 1) : Nm), r.pend)] k = some l := hk
          rw [aget_cons, aget_nil] at hk
          split at hk
          · rename_i e2
            rw [← e2, hal, aget_cons, if_pos rfl]
            exact hk
          · cases hk
      · rw [em, aget_app]
        rw [aget_app] at hk
        cases e : aget AL ((j : Int), m') with
        | some l' => rw [e] at hk; rw [R.aown m' l' e]; exact hk
        | none =>
          rw [e] at hk
          have : aget r.msgs ((j : Int), m') = none := by
            cases e' : aget r.msgs ((j : Int), m') with
            | none => rfl
            | some u => rw [R.au _ _ e'] at e; cases e
          rw [this]
          exact hk
    · have Q := h.rep j r' hj
      refine ⟨Q.pe, Q.best, Q.ck, Q.c0, Q.sub, Q.own, Q.mnd, fun k l hk => aget_app_new (Q.au k l hk) hal, fun m' l hk => ?_, Q.mde, Q.rt, Q.pl⟩
      rw [aget_app] at hk
      cases e : aget AL ((j : Int), m') with
      | some l' => rw [e] at hk; rw [Q.aown m' l' e]; exact hk
      | none =>
        rw [e] at hk
        have hk : aget [((((i : Int), (m : Int) + 1) : Nm), r.pend)] ((j : Int), m') = some l := hk
        rw [aget_cons, aget_nil] at hk
        split at hk
        · rename_i e2
          have := congrArg (·.1) e2
          have : (i : Int) = j := this
          exact (ne (by omega)).elim
        · cases hk
  · rw [List.map_append, List.nodup_append]
    exact ⟨h.and, by simp, fun a ha b hb e => by simp at hb; rw [e, hb] at ha; have := aget_isSome.mpr ha; rw [hal] at this; cases this⟩
  · rw [aget_app] at hk
    cases e : aget AL k with
    | some l' =>
      rw [e] at hk
      cases hk
      obtain ⟨a, b, c, d, f, g⟩ := h.alk k _ e
      exact ⟨a, b, c, by omega, by omega, g⟩
    | none =>
      rw [e] at hk
      have hk : aget [((((i : Int), (m : Int) + 1) : Nm), r.pend)] k = some l := hk
      rw [aget_cons, aget_nil] at hk
      split at hk
      · rename_i e2
        cases hk
        have h1 := R.pl
        have h2 := h.ml
        rw [← e2]
        exact ⟨by show (0 : Int) ≤ i; omega, by show (i : Int) < n; omega, by show (1 : Int) ≤ (m : Int) + 1; omega, by show (m : Int) + 1 ≤ _; omega, by show r.pend.length ≤ _; omega, fun c hc => R.sub c (mem_taken.mpr (.inl hc))⟩
      · cases hk
  · rcases (h.rows q hq).2 row hrow with ⟨k, l, hk, e⟩ | b
    · exact .inl ⟨k, l, aget_app_new hk hal, e⟩
    · exact .inr b
end
end GT
set_option maxHeartbeats 2000000
namespace GT
open PySem PySem.Spec PyProof.Rows L2
def clk (l : List Ch) (m : Int) : Int := l.foldl (fun m c => if c.st.1 > m then c.st.1 else m) m
theorem accF : ∀ (l : List Ch) (r : Rep), (∀ c ∈ l, c.nm.1 = r.peer → c.nm.2 < r.made) → l.foldl accC r = { r with clock := clk l r.clock, cells := l.foldl takeC r.cells }
  | [], r, _ => rfl
  | c :: l, r, h => by
    have hm : (accC r c).made = r.made := by
      show (if c.nm.1 = r.peer then (if c.nm.2 + 1 > r.made then c.nm.2 + 1 else r.made) else r.made) = r.made
      by_cases e : c.nm.1 = r.peer
      · have := h c List.mem_cons_self e
        rw [if_pos e, if_neg (by omega)]
      · rw [if_neg e]
    have e1 : accC r c = { r with clock := if c.st.1 > r.clock then c.st.1 else r.clock, cells := takeC r.cells c } := by
      have : accC r c = { r with clock := (accC r c).clock, made := (accC r c).made, cells := (accC r c).cells } := rfl
      rw [this, hm]
      rfl
    rw [List.foldl_cons, e1]
    exact (accF l { r with clock := if c.st.1 > r.clock then c.st.1 else r.clock, cells := takeC r.cells c } fun d hd e => h d (List.mem_cons_of_mem _ hd) e).trans rfl
theorem clk_ge : ∀ (l : List Ch) (m : Int), m ≤ clk l m ∧ ∀ c ∈ l, c.st.1 ≤ clk l m
  | [], m => ⟨Int.le_refl _, by simp⟩
  | c :: l, m => by
    obtain ⟨h1, h2⟩ := clk_ge l (if c.st.1 > m then c.st.1 else m)
    have e : clk (c :: l) m = clk l (if c.st.1 > m then c.st.1 else m) := rfl
    rw [e]
    have : m ≤ (if c.st.1 > m then c.st.1 else m) ∧ c.st.1 ≤ (if c.st.1 > m then c.st.1 else m) := by split <;> omega
    refine ⟨by omega, fun d hd => ?_⟩
    rcases List.mem_cons.mp hd with rfl | hd
    · omega
    · exact h2 d hd
theorem clk_le : ∀ (l : List Ch) {m b : Int}, m ≤ b → (∀ c ∈ l, c.st.1 ≤ b) → clk l m ≤ b
  | [], _, _, h, _ => h
  | c :: l, m, b, h, g => by
    have e : clk (c :: l) m = clk l (if c.st.1 > m then c.st.1 else m) := rfl
    rw [e]
    refine clk_le l ?_ fun d hd => g d (List.mem_cons_of_mem _ hd)
    have := g c List.mem_cons_self
    split <;> omega
section
variable {n t : Nat} {made : List Ch} {nms : List Nm} {AL : List (Nm × List Ch)} {S : Sys} {i : Nat} {r : Rep}
theorem RepI.accE (h : SysI n t made nms AL S) (R : RepI made nms AL i r) {k : Nm} {l : List Ch} (hk : aget AL k = some l) (hn : aget r.msgs k = none) : accR r k l = { r with msgs := r.msgs ++ [(k, l)], clock := clk l r.clock, cells := l.foldl takeC r.cells } := by
  unfold accR
  rw [accF, aput_new hn]
  intro c hc e
  have ok := h.mok c ((h.alk k l hk).2.2.2.2.2 c hc)
  have e : c.nm.1 = r.peer := e
  have : c.nm = ((i : Int), c.nm.2) := Prod.ext (by rw [e, R.pe]) rfl
  have m := ok.nm
  rw [this] at m
  exact ((R.mde.2 _).mp m).2
theorem RepI.acc (h : SysI n t made nms AL S) (R : RepI made nms AL i r) {k : Nm} {l : List Ch} (hk : aget AL k = some l) (hn : aget r.msgs k = none) : RepI made nms AL i (accR r k l) := by
  rw [R.accE h hk hn]
  have hl := (h.alk k l hk).2.2.2.2.2
  have tk : ∀ y, y ∈ taken { r with msgs := r.msgs ++ [(k, l)], clock := clk l r.clock, cells := l.foldl takeC r.cells } ↔ y ∈ taken r ∨ y ∈ l := fun y => by
    rw [mem_taken, mem_taken]
    show y ∈ r.pend ∨ (∃ p ∈ r.msgs ++ [(k, l)], y ∈ p.2) ↔ _
    constructor
    · rintro (a | ⟨p, hp, hy⟩)
      · exact .inl (.inl a)
      · rcases List.mem_append.mp hp with hp | hp
        · exact .inl (.inr ⟨p, hp, hy⟩)
        · rw [List.mem_singleton.mp hp] at hy
          exact .inr hy
    · rintro ((a | ⟨p, hp, hy⟩) | a)
      · exact .inl a
      · exact .inr ⟨p, List.mem_append_left _ hp, hy⟩
      · exact .inr ⟨_, List.mem_append_right _ (List.mem_singleton.mpr rfl), a⟩
  have hkn : k ∉ keysR r := fun z => by
    have := aget_isSome.mpr z
    rw [hn] at this
    cases this
  obtain ⟨g1, g2⟩ := clk_ge l r.clock
  refine ⟨R.pe, (BestC.fold l R.best).congr fun c => (tk c).symm, fun c hc => ?_, ⟨?_, ?_⟩, fun c hc => ?_, fun c hc e => (tk c).mpr (.inl (R.own c hc e)), ?_, fun j u hj => ?_, fun m u hu => ?_, R.mde, R.rt, R.pl⟩
  · show c.st.1 ≤ clk l r.clock
    rcases (tk c).mp hc with z | z
    · have := R.ck c z; omega
    · exact g2 c z
  · show 0 ≤ clk l r.clock
    have := R.c0.1
    omega
  · exact clk_le l R.c0.2 fun c hc => h.cb (hl c hc)
  · rcases (tk c).mp hc with z | z
    · exact R.sub c z
    · exact hl c z
  · show (List.map (·.1) (r.msgs ++ [(k, l)])).Nodup
    rw [List.map_append, List.nodup_append]
    exact ⟨R.mnd, by simp, fun a ha b hb e => by simp at hb; rw [e, hb] at ha; exact hkn ha⟩
  · have hj : aget (r.msgs ++ [(k, l)]) j = some u := hj
    rw [aget_app] at hj
    cases e : aget r.msgs j with
    | some u' => rw [e] at hj; rw [R.au j u' e]; exact hj
    | none =>
      rw [e] at hj
      have hj : aget [(k, l)] j = some u := hj
      rw [aget_cons, aget_nil] at hj
      split at hj
      · rename_i e2
        cases hj
        rw [← e2]
        exact hk
      · cases hj
  · show aget (r.msgs ++ [(k, l)]) ((i : Int), m) = some u
    rw [aget_app, R.aown m u hu]
    rfl
theorem SysI.setRep (h : SysI n t made nms AL S) {r' : Rep} (R : RepI made nms AL i r') : SysI n t made nms AL (S.setR i r') := by
  refine ⟨by show (S.reps.set _ _).length = n; rw [List.length_set, h.sz], h.n2, fun j q hq => ?_, h.mst, h.mok, h.ml, h.nl, h.np, h.n0, h.and, h.all, h.alk, h.rows⟩
  rcases get_set hq with ⟨rfl, rfl⟩ | ⟨ne, hj⟩
  · exact R
  · exact h.rep j q hj
theorem SysI.szs (h : SysI n t made nms AL S) (e : t ≤ 58) (R : RepI made nms AL i r) {k : Nm} {l : List Ch} (hk : aget AL k = some l) : r.cells.length + l.length < 1000 ∧ r.msgs.length < 1000 := by
  have h1 := R.best.len (l := made) R.sub
  have h2 := (h.alk k l hk).2.2.2.2.1
  have h3 := h.ml
  have h4 := nodup_len R.mnd (ns := AL.map (·.1)) fun k hk => by
    obtain ⟨l, hl⟩ := Option.isSome_iff_exists.mp (aget_isSome.mpr hk)
    exact aget_isSome.mp (by rw [R.au k l hl]; rfl)
  have h5 := h.all
  rw [List.length_map] at h4
  unfold keysR at h4
  rw [List.length_map] at h4
  omega
/-- the same messages, nothing pending: the same is taken -/
theorem taken_same (h : SysI n t made nms AL S) {j : Nat} {q : Rep} (R : RepI made nms AL i r) (Q : RepI made nms AL j q) (pr : r.pend = []) (pq : q.pend = []) (hk : ∀ k, k ∈ keysR r ↔ k ∈ keysR q) : ∀ c, c ∈ taken r ↔ c ∈ taken q := by
  have one : ∀ {i j : Nat} {r q : Rep}, RepI made nms AL i r → RepI made nms AL j q → r.pend = [] → (∀ k, k ∈ keysR r ↔ k ∈ keysR q) → ∀ c, c ∈ taken r → c ∈ taken q := fun {i j r q} R Q pr hk c hc => by
    rw [mem_taken_get R.mnd, pr] at hc
    rw [mem_taken_get Q.mnd]
    rcases hc with hc | ⟨k, l, hl, hc⟩
    · cases hc
    · obtain ⟨l', hl'⟩ := Option.isSome_iff_exists.mp (aget_isSome.mpr ((hk k).mp (aget_isSome.mp (by rw [hl]; rfl))))
      have : l' = l := by
        have h1 := R.au k l hl
        rw [Q.au k l' hl'] at h1
        exact Option.some.inj h1
      exact .inr ⟨k, l, by rw [← this]; exact hl', hc⟩
  exact fun c => ⟨one R Q pr hk c, one Q R pq (fun k => (hk k).symm) c⟩
theorem cells_same (h : SysI n t made nms AL S) {j : Nat} {q : Rep} (R : RepI made nms AL i r) (Q : RepI made nms AL j q) (pr : r.pend = []) (pq : q.pend = []) (hk : ∀ k, k ∈ keysR r ↔ k ∈ keysR q) (k : Ky) : aget r.cells k = aget q.cells k :=
  R.best.uniq (Q.best.congr fun c => (taken_same h R Q pr pq hk c).symm) (fun a b ha hb => h.uq a b (R.sub a ha) (R.sub b hb)) k
/-- all together: everything is taken -/
theorem tog_all (h : SysI n t made nms AL S) (tg : TogR S.reps) (hr : S.reps[i]? = some r) : BestC r.cells (fun c => c ∈ made) := by
  have R := h.rep i r hr
  refine R.best.congr fun c => ⟨R.sub c, fun hc => ?_⟩
  have hp := (h.mok c hc).p
  have hl : c.st.2.toNat < S.reps.length := by rw [h.sz]; omega
  have hq : S.reps[c.st.2.toNat]? = some S.reps[c.st.2.toNat] := List.getElem?_eq_getElem hl
  have Q := h.rep _ _ hq
  have mr := List.mem_of_getElem? hr
  have mq := List.mem_of_getElem? hq
  exact (taken_same h R Q (tg r mr).1 (tg _ mq).1 ((tg r mr).2 _ mq) c).mpr (Q.own c hc (by omega))
/-- one who has all of each is together -/
theorem BestC.of_list (l : List Ch) : BestC (l.foldl takeC []) (fun c => c ∈ l) := (BestC.fold l BestC.nil).congr fun c => by simp
end
/-! ### a damaged row is not readable -/
theorem numO_rng : ∀ (k : Nat) (n : Int), ∀ x ∈ numO k n, 0 ≤ x ∧ x ≤ 255
  | 0, _, x, h => by cases h
  | k + 1, n, x, h => by
    rw [numO] at h
    rcases List.mem_cons.mp h with rfl | h
    · omega
    · exact numO_rng k n x h
theorem wordO_rng {z : Str} (h : WdOk z) : ∀ x ∈ wordO z, 0 ≤ x ∧ x ≤ 255 := fun x hx => by
  rcases List.mem_cons.mp hx with rfl | hx
  · have := h.few; omega
  · obtain ⟨c, hc, rfl⟩ := List.mem_map.mp hx
    have := h.lo c hc
    show 0 ≤ (c : Int) ∧ (c : Int) ≤ 255
    omega
theorem nameO_rng {m : Nm} (h : NmG m) : ∀ x ∈ nameO m, 0 ≤ x ∧ x ≤ 255 := fun x hx => by
  rcases List.mem_cons.mp hx with rfl | hx
  · have := h.p; omega
  · exact numO_rng _ _ x hx
theorem worthO_rng {v : Vl} (h : VlG v) : ∀ x ∈ worthO v, 0 ≤ x ∧ x ≤ 255 := fun x hx => by
  cases v with
  | non => simp [worthO] at hx; omega
  | num i => rcases List.mem_cons.mp hx with rfl | hx; omega; exact numO_rng _ _ x hx
  | txt z => rcases List.mem_cons.mp hx with rfl | hx; omega; exact wordO_rng h x hx
  | rf m => rcases List.mem_cons.mp hx with rfl | hx; omega; exact nameO_rng h x hx
theorem chO_rng {c : Ch} (h : ChG c) : ∀ x ∈ chO c, 0 ≤ x ∧ x ≤ 255 := fun x hx => by
  unfold chO at hx
  rcases List.mem_append.mp hx with hx | hx
  · rcases List.mem_append.mp hx with hx | hx
    · rcases List.mem_append.mp hx with hx | hx
      · rcases List.mem_append.mp hx with hx | hx
        · exact numO_rng _ _ x hx
        · rw [List.mem_singleton.mp hx]; have := h.s2; omega
      · exact nameO_rng h.nm x hx
    · exact wordO_rng h.fd x hx
  · exact worthO_rng h.vl x hx
theorem bodyO_rng {s n : Int} {cs : List Ch} (h : MsG s n cs) : ∀ x ∈ bodyO s n cs, 0 ≤ x ∧ x ≤ 255 := fun x hx => by
  unfold bodyO at hx
  rcases List.mem_append.mp hx with hx | hx
  · rcases List.mem_append.mp hx with hx | hx
    · rcases List.mem_append.mp hx with hx | hx
      · rw [List.mem_singleton.mp hx]; have := h.s; omega
      · exact numO_rng _ _ x hx
    · exact numO_rng _ _ x hx
  · obtain ⟨c, hc, hx⟩ := List.mem_flatMap.mp hx
    exact chO_rng (h.c c hc) x hx
theorem chkS_rng : ∀ (os : List Int) (s : Int × Int), 0 ≤ s.1 ∧ s.1 ≤ 255 → 0 ≤ (os.foldl chkS s).1 ∧ (os.foldl chkS s).1 ≤ 255
  | [], s, h => h
  | o :: os, s, h => chkS_rng os (chkS s o) (by show 0 ≤ (s.1 + o) % 256 ∧ (s.1 + o) % 256 ≤ 255; omega)
theorem sum_set : ∀ (l : List Int) (j : Nat) (o x : Int), l[j]? = some x → (l.set j o).sum = l.sum + o - x
  | [], _, _, _, h => by simp at h
  | a :: l, 0, o, x, h => by
    simp at h
    subst h
    simp [List.sum_cons]
    omega
  | a :: l, j + 1, o, x, h => by
    have h' : l[j]? = some x := by simpa using h
    rw [List.set_cons_succ, List.sum_cons, List.sum_cons, sum_set l j o x h']
    omega
theorem bad_set {body : List Int} {j : Nat} {o x : Int} (hb : ∀ y ∈ body, 0 ≤ y ∧ y ≤ 255) (hx : (body ++ chkO body)[j]? = some x) (ne : x ≠ o) (ho : 0 ≤ o ∧ o ≤ 255) : Bad ((body ++ chkO body).set j o) := fun b e => by
  have hl := congrArg List.length e
  rw [List.length_set, List.length_append, List.length_append] at hl
  have c2 : ∀ b, (chkO b).length = 2 := fun _ => rfl
  rw [c2, c2] at hl
  have hl : body.length = b.length := by omega
  by_cases hj : j < body.length
  · rw [List.set_append_left _ _ hj] at e
    obtain ⟨e1, e2⟩ := List.append_inj e (by rw [List.length_set, hl])
    rw [List.getElem?_append_left hj] at hx
    have hx1 := hb x (List.mem_of_getElem? hx)
    rw [← e1] at e2
    have e3 : (chkL body).1 = (chkL (body.set j o)).1 := by
      unfold chkO at e2
      injection e2 with _ e2
      injection e2
    have l1 := chk_low body (0, 0)
    have l2 := chk_low (body.set j o) (0, 0)
    rw [sum_set body j o x hx] at l2
    have e3 : (body.foldl chkS (0, 0)).1 = ((body.set j o).foldl chkS (0, 0)).1 := e3
    rw [e3, l2] at l1
    have : (0 + (body.sum + o - x)) % 256 = (0 + body.sum) % 256 := l1
    omega
  · rw [List.set_append_right _ _ (by omega)] at e
    obtain ⟨e1, e2⟩ := List.append_inj e hl
    rw [← e1] at e2
    rw [List.getElem?_append_right (by omega)] at hx
    have hj2 : j - body.length < (chkO body).length := (List.getElem?_eq_some_iff.mp hx).1
    have h3 : ((chkO body).set (j - body.length) o)[j - body.length]? = some o := by rw [List.getElem?_set_self hj2]
    rw [e2, hx] at h3
    exact ne (Option.some.inj h3)
theorem msgO_rng {s n : Int} {cs : List Ch} (h : MsG s n cs) : ∀ x ∈ msgO s n cs, 0 ≤ x ∧ x ≤ 255 := fun x hx => by
  rcases List.mem_append.mp hx with hx | hx
  · exact bodyO_rng h x hx
  · have h1 := chkS_rng (bodyO s n cs) (0, 0) (by omega)
    have h2 : 0 ≤ (chkL (bodyO s n cs)).2 ∧ (chkL (bodyO s n cs)).2 ≤ 255 := by
      have : ∀ (os : List Int) (s : Int × Int), 0 ≤ s.2 ∧ s.2 ≤ 255 → 0 ≤ (os.foldl chkS s).2 ∧ (os.foldl chkS s).2 ≤ 255 := fun os => by
        induction os with
        | nil => intro s h; exact h
        | cons o os ih => intro s h; exact ih (chkS s o) (by show 0 ≤ (s.2 + (s.1 + o) % 256) % 256 ∧ (s.2 + (s.1 + o) % 256) % 256 ≤ 255; omega)
      exact this _ (0, 0) (by omega)
    simp only [chkO, List.mem_cons, List.not_mem_nil, or_false] at hx
    rcases hx with rfl | rfl
    · exact h2
    · exact h1
theorem msgO_bad {s n : Int} {cs : List Ch} (h : MsG s n cs) {j : Nat} {o : Int} (hj : j < (msgO s n cs).length) (ne : (msgO s n cs)[j]? ≠ some o) (ho : 0 ≤ o ∧ o ≤ 255) : Bad ((msgO s n cs).set j o) :=
  bad_set (bodyO_rng h) (List.getElem?_eq_getElem hj) (fun e => ne (by rw [List.getElem?_eq_getElem hj]; exact congrArg some e)) ho
end GT
set_option maxHeartbeats 2000000
namespace GT
open PySem PySem.Spec PyProof.Rows L2
/-- a step of the network: what is not owned stays, what is owned anew was free -/
structure Stp (N N' : NAd) (H H' : Hp) : Prop where
  kp : ∃ F, (∀ b ∈ F, N.Own b) ∧ Kp F H H'
  ow : ∀ b, N'.Own b → N.Own b ∨ H b = none
  nw : N'.nw = N.nw
theorem Stp.of (N : NAd) {H H' : Hp} (k : Kp [] H H') : Stp N N H H' := ⟨⟨[], by simp, k⟩, fun _ h => .inl h, rfl⟩
open Classical in
theorem Stp.trans {N N' N'' : NAd} {H H' H'' : Hp} (a : Stp N N' H H') (b : Stp N' N'' H' H'') : Stp N N'' H H'' := by
  obtain ⟨⟨F, f1, f2⟩, o1, w1⟩ := a
  obtain ⟨⟨G, g1, g2⟩, o2, w2⟩ := b
  have back : ∀ x, ¬ N.Own x → H' x = none → H x = none := fun x nx e => by
    cases h : H x with
    | none => rfl
    | some u => rw [f2.get h (fun z => nx (f1 x z))] at e; cases e
  refine ⟨⟨(F ++ G).filter fun x => decide (N.Own x), fun x hx => of_decide_eq_true (List.mem_filter.mp hx).2, ?_⟩, fun x hx => ?_, w2.trans w1⟩
  · refine ((f2.mono (G := F ++ G) fun x hx => List.mem_append_left _ hx).trans (g2.mono fun x hx => List.mem_append_right _ hx)).weak fun x hx => ?_
    by_cases e : N.Own x
    · exact .inl (List.mem_filter.mpr ⟨hx, decide_eq_true e⟩)
    · rcases List.mem_append.mp hx with h | h
      · exact (e (f1 x h)).elim
      · rcases o1 x (g1 x h) with z | z
        · exact (e z).elim
        · exact .inr z
  · by_cases e : N.Own x
    · exact .inl e
    · rcases o2 x hx with z | z
      · exact o1 x z
      · exact .inr (back x e z)
theorem Stp.get {N N' : NAd} {H H' : Hp} (s : Stp N N' H H') {b : Addr} {u : HO} (h : H b = some u) (n : ¬ N.Own b) : H' b = some u := let ⟨_, f, k⟩ := s.kp; k.get h fun z => n (f b z)
/-- data on the heap stays -/
theorem Stp.im {N N' : NAd} {H H' : Hp} (s : Stp N N' H H') {K : PySem.W.Frag} {v : V} {d : D} (h : Im K H v d) : Im K H' v d := let ⟨_, _, k⟩ := s.kp; h.up k
theorem Stp.ima {N N' : NAd} {H H' : Hp} (s : Stp N N' H H') {K : PySem.W.Frag} {v : List V} {d : List D} (h : ImA K H v d) : ImA K H' v d := let ⟨_, _, k⟩ := s.kp; h.up k
theorem Stp.fz {N N' : NAd} {H H' : Hp} (s : Stp N N' H H') {v : V} {xs : List V} (h : Fz H v xs) : Fz H' v xs := let ⟨_, _, k⟩ := s.kp; h.up k
theorem Stp.no {N N' : NAd} {H H' : Hp} (s : Stp N N' H H') {b : Addr} {u : HO} (h : H b = some u) (n : ¬ N.Own b) : ¬ N'.Own b := fun z => by
  rcases s.ow b z with e | e
  · exact n e
  · rw [h] at e; cases e
structure NetI (n : Nat) (N : NAd) : Prop where
  nd : (N.cs.map (·.1)).Nodup
  mem : ∀ k : Nm, k ∈ N.cs.map (·.1) ↔ 0 ≤ k.1 ∧ k.1 < n ∧ 0 ≤ k.2 ∧ k.2 < n ∧ k.1 ≠ k.2
structure Net (P : Program) (w : World) (K : PySem.W.Frag) (H : Hp) (N : NAd) (S : Sys) (n t : Nat) (made : List Ch) (nms : List Nm) (AL : List (Nm × List Ch)) : Prop where
  nt : NetT P w K H N S
  si : SysI n t made nms AL S
  ni : NetI n N
section
variable {P : Program} {w : World} {K : PySem.W.Frag} {H H' : Hp} {N : NAd} {S : Sys} {n t : Nat} {made : List Ch} {nms : List Nm} {AL : List (Nm × List Ch)}
theorem Net.up (X : Net P w K H N S n t made nms AL) (k : Kp [] H H') : Net P w K H' N S n t made nms AL := ⟨X.nt.up k, X.si, X.ni⟩
theorem stp_rep {i : Nat} {A A' : RAd} (hA : N.As[i]? = some A) (k : Kp A.own H H') (ow : ∀ b ∈ A'.own, b ∈ A.own ∨ H b = none) : Stp N (N.setR i A') H H' := by
  refine ⟨⟨A.own, fun b hb => ⟨.rep i, by rw [own_rep hA]; exact hb⟩, k⟩, fun b ⟨x, hx⟩ => ?_, rfl⟩
  rw [own_setR hA] at hx
  split at hx
  · exact (ow b hx).imp (fun z => ⟨.rep i, by rw [own_rep hA]; exact z⟩) id
  · exact .inl ⟨x, hx⟩
theorem stp_ch {j : Nat} {p : Nm × (Addr × Addr)} {u' : Addr} (hp : N.cs[j]? = some p) (k : Kp [p.2.1, p.2.2] H H') (ow : u' = p.2.2 ∨ H u' = none) : Stp N (N.setC j (p.1, p.2.1, u')) H H' := by
  refine ⟨⟨[p.2.1, p.2.2], fun b hb => ⟨.chn j, by rw [own_chn hp]; exact hb⟩, k⟩, fun b ⟨x, hx⟩ => ?_, rfl⟩
  rw [own_setC hp] at hx
  split at hx
  · simp only [List.mem_cons, List.not_mem_nil, or_false] at hx
    rcases hx with rfl | rfl
    · exact .inl ⟨.chn j, by rw [own_chn hp]; simp⟩
    · rcases ow with e | e
      · exact .inl ⟨.chn j, by rw [own_chn hp, e]; simp⟩
      · exact .inr e
  · exact .inl ⟨x, hx⟩
theorem NetI.setR {i : Nat} {A : RAd} (h : NetI n N) : NetI n (N.setR i A) := ⟨h.nd, h.mem⟩
theorem NetI.setC {j : Nat} {p : Nm × (Addr × Addr)} {u' : Addr} (h : NetI n N) (hp : N.cs[j]? = some p) : NetI n (N.setC j (p.1, p.2.1, u')) := by
  have : (N.setC j (p.1, p.2.1, u')).cs.map (·.1) = N.cs.map (·.1) := by
    show (N.cs.set j _).map _ = _
    rw [List.map_set]
    refine List.ext_getElem? fun i => ?_
    rw [List.getElem?_set]
    split
    · rename_i e
      subst e
      rw [if_pos (by rw [List.length_map]; exact (List.getElem?_eq_some_iff.mp hp).1), List.getElem?_map, hp]
      rfl
    · rfl
  exact ⟨by rw [this]; exact h.nd, fun k => by rw [this]; exact h.mem k⟩
/-- the replica at place i -/
theorem Net.rep (X : Net P w K H N S n t made nms AL) {i : Nat} (hi : i < n) : ∃ A r, N.As[i]? = some A ∧ S.reps[i]? = some r ∧ RepT P w K H A r ∧ RepI made nms AL i r := by
  have hl : i < N.As.length := by rw [X.nt.rn, X.si.sz]; exact hi
  obtain ⟨r, hr, R⟩ := X.nt.rt i _ (List.getElem?_eq_getElem hl)
  exact ⟨_, r, List.getElem?_eq_getElem hl, hr, R, X.si.rep i r hr⟩
/-- the channel of a pair -/
theorem Net.chan (X : Net P w K H N S n t made nms AL) {k : Nm} (hk : k ∈ N.cs.map (·.1)) : ∃ (j : Nat) (p : Nm × (Addr × Addr)) (q : Nm × List (List Int)), N.cs[j]? = some p ∧ S.ch[j]? = some q ∧ p.1 = k ∧ q.1 = k ∧ ChA K H p.2.1 p.2.2 q.2 ∧ aget (N.cs.map fun p => (p.1, p.2.1)) k = some p.2.1 := by
  obtain ⟨p, hp, rfl⟩ := List.mem_map.mp hk
  obtain ⟨j, hj⟩ := List.mem_iff_getElem?.mp hp
  obtain ⟨q, hq, e, c⟩ := X.nt.ct j p hj
  refine ⟨j, p, q, hj, hq, rfl, e.symm, c, aget_of_mem ?_ (List.mem_map.mpr ⟨p, hp, rfl⟩)⟩
  rw [List.map_map]
  exact X.ni.nd
/-- one replica is changed -/
theorem Net.setR (X : Net P w K H N S n t made nms AL) {i t' : Nat} {A A' : RAd} {r' : Rep} {made' : List Ch} {nms' : List Nm} {AL' : List (Nm × List Ch)} (hA : N.As[i]? = some A) (k : Kp A.own H H') (ow : ∀ b ∈ A'.own, b ∈ A.own ∨ H b = none) (ea : A'.a = A.a) (R' : RepT P w K H' A' r') (si : SysI n t' made' nms' AL' (S.setR i r')) : Net P w K H' (N.setR i A') (S.setR i r') n t' made' nms' AL' ∧ Stp N (N.setR i A') H H' :=
  ⟨⟨X.nt.repU hA k ow ea R', si, X.ni.setR⟩, stp_rep hA k ow⟩
theorem Net.setC (X : Net P w K H N S n t made nms AL) {j t' : Nat} {p : Nm × (Addr × Addr)} {q : Nm × List (List Int)} {u' : Addr} {rows' : List (List Int)} (hp : N.cs[j]? = some p) (hq : S.ch[j]? = some q) (k : Kp [p.2.1, p.2.2] H H') (ow : u' = p.2.2 ∨ H u' = none) (C' : ChA K H' p.2.1 u' rows') (ht : t ≤ t') (hl : rows'.length ≤ t') (hr : ∀ r ∈ rows', RowI AL r) :
    Net P w K H' (N.setC j (p.1, p.2.1, u')) (S.setC j (q.1, rows')) n t' made nms AL ∧ Stp N (N.setC j (p.1, p.2.1, u')) H H' :=
  ⟨⟨X.nt.chU hp hq k ow C', X.si.chan ht hl hr, X.ni.setC hp⟩, stp_ch hp k ow⟩
/-! a dict locked, unlocked -/
theorem kp_lock {D : Addr} {od : Obj} {u : HO} (hd : H' D = some (.frz od u)) (hu : noTF (some u)) : Kp [D] (upd H' D u) H' := by
  refine ⟨fun b o nb e => ?_, fun b xs e => ?_, fun b o v e => ?_⟩
  · rw [upd_ne (by simpa using nb)] at e
    exact e
  · by_cases z : b = D
    · rw [z, upd_same] at e
      cases e
      exact hu.elim
    · rwa [upd_ne z] at e
  · by_cases z : b = D
    · rw [z, upd_same] at e
      cases e
      exact hu.elim
    · rwa [upd_ne z] at e
theorem fz_unl {D : Addr} {od : Obj} {u : HO} (hd : H D = some (.frz od u)) (nl : ∀ xs, u ≠ .lst xs) {v : V} {xs : List V} (h : Fz H v xs) : Fz (upd H D u) v xs := by
  obtain ⟨a, o, rfl, e⟩ := h
  refine ⟨a, o, rfl, ?_⟩
  rw [upd_ne (fun z => by rw [z, hd] at e; injection e with e; injection e with e1 e2; exact nl _ e2)]
  exact e
theorem ChA.unl {D : Addr} {od : Obj} {u : HO} (hd : H D = some (.frz od u)) (nl : ∀ xs, u ≠ .lst xs) {c c' : Addr} {rows : List (List Int)} (h : ChA K H c c' rows) : ChA K (upd H D u) c c' rows := by
  obtain ⟨dx, xs, e1, e2, r⟩ := h
  refine ⟨dx, xs, ?_, ?_, Paired.mapP r fun _ _ z => fz_unl hd nl z⟩
  · rw [upd_ne (fun z => by rw [z, hd] at e1; cases e1)]; exact e1
  · rw [upd_ne (fun z => by rw [z, hd] at e2; cases e2)]; exact e2
theorem dn_nl {d : Addr} {es : List En} : ∀ ys, DN P w d es ≠ .lst ys := fun ys e => by
  have e' : HO.ext _ = HO.lst ys := e
  cases e'
end
end GT
set_option maxHeartbeats 2000000
namespace GT
open PySem PySem.Spec PyProof.Rows L2
local macro_rules | `(tactic| walk_at "v") => `(tactic| ((with_reducible show tVar _ _ _ _); refine rd_var rfl ?_))
local macro_rules | `(tactic| walk_at "s1") => `(tactic| with_reducible first | refine rd_cons ?_ | refine rd_nil ?_ | refine rd_c ?_ | refine rd_op ?_ | refine rd_seq ?_ | refine rd_fld ?_ | refine rd_asg ?_ | refine rd_gname ?_ | refine rd_I0 ?_ | refine rd_cb ?_ | refine rd_next ?_ | refine rd_drop ?_ | refine rd_ret ?_ | refine rd_mf ?_ | refine rd_cf ?_ | refine rd_ifS ?_ | refine rd_test ?_ | refine rd_kt ?_)
local macro_rules | `(tactic| walk_at "s2") => `(tactic| with_reducible first | refine rd_tup ?_ | refine rd_lst ?_ | refine rd_bm ?_ | refine rd_gcons ?_ | refine rd_gnil ?_ | refine rd_gsub ?_ | refine rd_dm ?_ | refine rd_sfld ?_ | refine rd_fa ?_ | refine rd_frz ?_ | refine rd_nf ?_ | refine rd_retN ?_ | refine rd_cont ?_ | refine rd_par ?_ | refine rd_un ?_ | refine rd_and ?_ | refine rd_or ?_ | refine rd_not ?_ | refine rd_tru ?_ | refine rd_B ?_ | refine rd_chain ?_ | refine rd_sl ?_ | refine rd_nopart ?_ | refine rd_part ?_ | refine rd_kpart ?_)
local macro_rules | `(tactic| walk_at "s3") => `(tactic| with_reducible first | refine rd_U ?_ | refine rd_eqi ?_ | refine rd_nei ?_ | refine rd_eqs ?_ | refine rd_nes ?_ | refine rd_isN ?_ | refine rd_notN ?_ | refine rd_max2 ?_ | refine rd_min2 ?_ | refine rd_int1 ?_ | refine rd_intb ?_ | refine rd_kbmS ?_ | refine rd_il ?_ | refine rd_it ?_ | refine rd_ir1 ?_ | refine rd_ir2 ?_ | refine rd_in ?_ | refine rd_for ?_ | refine rd_lc ?_ | refine rd_yes ?_ | refine rd_tt ?_ | refine rd_ff ?_ | refine rd_listRg ?_ | refine rd_andV ?_ | refine rd_orV ?_ | refine rd_notV ?_ | refine rd_ex ?_)
local macro_rules | `(tactic| walk_at "c") => `(tactic| first | exact TX.c_Channel (by assumption) | exact TX.c_State (by assumption) | exact TX.c_Message (by assumption) | exact TX.c_Replica (by assumption) | exact TX.c_Network (by assumption))
local macro_rules | `(tactic| walk_at "n") => `(tactic| first | exact TX.n_Channel_under_way (by assumption) | exact TX.n_State_cells (by assumption) | exact TX.n_Message_octets (by assumption) | exact TX.n_Message_place (by assumption) | exact TX.n_Message_known (by assumption) | exact TX.n_Replica_peer (by assumption) | exact TX.n_Replica_clock (by assumption) | exact TX.n_Replica_made (by assumption) | exact TX.n_Replica_state (by assumption) | exact TX.n_Replica_roots (by assumption) | exact TX.n_Replica_pending (by assumption) | exact TX.n_Replica_messages (by assumption) | exact TX.n_Network_replicas (by assumption) | exact TX.n_Network_channels (by assumption))
local macro_rules | `(tactic| walk_at "f") => `(tactic| ((with_reducible show KFld _ _ _ _ _); refine rd_kfld (by assumption) (by walk_at "c") (by walk_at "n") rfl ?_))
local macro_rules | `(tactic| walk_at "g") => `(tactic| ((with_reducible show KSf _ _ _ _ _ _); refine rd_ksf (by assumption) (by walk_at "c") (by walk_at "n") (by simp) ?_))
local macro_rules | `(tactic| walk_at "w") => `(tactic| repeat (first | walk_at "v" | walk_at "s1" | walk_at "f" | walk_at "s2" | walk_at "s3"))
section
variable {P : Program} {w : World} {K : PySem.W.Frag} {mg : Str → Option Value} {base : Heap}
abbrev sp_Network_say (P : Program) (w : World) (K : PySem.W.Frag) : Sp := fun vs H Q _ => ∃ (N : NAd) (S : Sys) (n t : Nat) (made : List Ch) (nms : List Nm) (AL : List (Nm × List Ch)) (i : Nat), vs = [.ref N.nw, .int i] ∧ Net P w K H N S n t made nms AL ∧ i < n ∧ t ≤ 57 ∧
  ∀ b N' S' AL' H', Stp N N' H H' → Net P w K H' N' S' n (t + 1) made nms AL' → Q (.bl b) H'
theorem refs_at {As : List RAd} {i : Nat} {A : RAd} (h : As[i]? = some A) : (refsA As)[i]? = some (.ref A.a) := by
  show (As.map _)[i]? = _
  rw [List.getElem?_map, h]
  rfl
theorem Fz.sqr {K : PySem.W.Frag} {H : Hp} {a : Addr} {xs : List V} (h : Fz H (.ref a) xs) : SqL K H a xs := h.sq
theorem unlk {H : Hp} {D : Addr} {u x : HO} (h : H D = some u) : upd (upd H D x) D u = H := by
  funext b
  by_cases e : b = D
  · rw [e, upd_same, h]
  · rw [upd_ne e, upd_ne e]
theorem relk {H : Hp} {D : Addr} {u x : HO} (h : H D = some x) : upd (upd H D u) D x = H := unlk h
theorem Stp.kps {N N' : NAd} {H H' : Hp} (s : Stp N N' H H') : ∃ F, Kp F H H' := let ⟨F, _, k⟩ := s.kp; ⟨F, k⟩
theorem ok_Network_say (T : TX P K mg) : Ok P w K mg base (CX0) 8 ("Network", some "say") p_Network_say (sp_Network_say P w K) := by
  refine T.ok 58 (d := d_Network_say) rfl rfl rfl sc_Network_say (fun _ _ _ _ _ _ us hl => match us, hl with | [_, _], _ => rfl) (fun vs H Q E h => ?_) fun cdv Ar outer sh H vs Q E hr h => ?_
  · obtain ⟨N, S, n, t, made, nms, AL, i, rfl, _⟩ := h; rfl
  · obtain ⟨N, S, n, t, made, nms, AL, i, rfl, X, hi, ht, q⟩ := h
    obtain ⟨dx, hob⟩ := X.nt.ob
    obtain ⟨A, r, hA, hrr, R, RI⟩ := X.rep hi
    obtain ⟨hu, hu1, hu65⟩ := rm_of hr
    refine ⟨_, PSs.nox (pss_cons (ps_set (i := 2) sc_Network_say.nd rfl (Or.inl rfl) (pe_mt0 (ok_Replica_send T) T.c_Replica T.m_Replica_send (hr.mono (by decide)) pass0 (pe_ix ix_list (pe_fld (pv 0) rfl) (pv 1) (fun _ _ => rfl))))
      (pss_cons (ps_if (pt_cmpR op_isN1 (pv 2) pe_non (nomark _))
      (pss_one (ps_ret pe_bl))
      pss_nil)
      (pss_cons (ps_lock (ps_for PassesOwn.never rfl (pi_dn (pe_fld (pv 0) rfl)) (pg_tup (by rfl) (pgs_cons (pg_name (i := 3) sc_Network_say.nd rfl (Or.inl rfl)) (pgs_cons (pg_name (i := 4) sc_Network_say.nd rfl (Or.inl rfl)) pgs_nil)))
      (pss_one (ps_if (pt_cmpR op_eq (pv 3) (pv 1) (nomark _))
      (pss_one (ps_expr (pe_mt' (ok_Channel_put T) T.c_Channel T.m_Channel_put (hr.mono (by decide)) pass0 (pe_ix (ix_dn hu) (pe_fld (pv 0) rfl) (pe_tup (pa_cons (pv 3) (pa_cons (pv 4) pa_nil))) (fun _ _ => rfl)) (pa_cons (pv 2) pa_nil))))
      pss_nil))))
      (pss_one (ps_ret pe_bl))))), ?_⟩
    walk_at "w"
    refine rd_ixL (Fz.sq X.nt.rl) (atN (by omega) (by rw [Int.toNat_natCast]; exact refs_at hA)) ?_
    obtain ⟨dxr, hor⟩ := R.ob
    refine rd_kmf hor rfl ?_
    walk_at "w"
    have hml := X.si.ml
    refine ⟨A, r, rfl, R, X.si.pw hrr, by have := RI.pl; omega, by have := X.si.msl hrr; omega, fun hp => ?_, fun hp m hm hml' => ?_⟩
    · walk_at "w"
      refine rd_ifT rfl ?_
      walk_at "w"
      exact q false N S AL H (Stp.of N Kp.refl) ⟨X.nt, X.si.mono (by omega), X.ni⟩
    intro A' H1 k1 ow1 ea1 R1 p np ep
    rw [RI.pe] at hm
    obtain ⟨hal, si1⟩ := X.si.send hrr hm hml'
    obtain ⟨X1, st1⟩ := X.setR hA k1 ow1 ea1 R1 si1
    walk_at "w"
    refine rd_ifF rfl ?_
    walk_at "w"
    generalize hN1 : N.setR i A' = N1 at X1 st1
    have hch : (S.setR i (sentR r m)).ch = S.ch := rfl
    generalize hS1 : S.setR i (sentR r m) = S1 at X1 hch
    have hnw : N1.nw = N.nw := st1.nw
    have hD : N1.D = N.D := by rw [← hN1]; rfl
    obtain ⟨dx1, hob1⟩ := X1.nt.ob
    rw [hnw, hD] at hob1
    obtain ⟨kvs, ⟨es, hes, hko, hkv⟩, prf⟩ := id X1.nt.dn
    rw [hD] at hes
    have hpD : p ≠ N.D := fun z => by
      obtain ⟨φ, e⟩ := X.nt.dn.ext
      rw [← z, np] at e
      cases e
    have hwD : N.nw ≠ N.D := fun z => by
      rw [z, hes] at hob1
      cases hob1
    have hnal : aget (AL ++ [(((i : Int), (m : Int) + 1), r.pend)]) ((i : Int), (m : Int) + 1) = some r.pend := by
      rw [aget_app, hal, aget_cons, if_pos rfl]
      rfl
    have hpw := X.si.pw hrr
    have hpl := RI.pl
    rw [RI.pe] at ep
    generalize hAL : AL ++ [(((i : Int), (m : Int) + 1), r.pend)] = AL1 at X1 hnal
    have cs0 : N1.cs = N.cs := by rw [← hN1]; rfl
    have erow : (msgO (i : Int) ((m : Int) + 1) r.pend).length ≤ 100000 := msgO_len hpw (by omega)
    have np1 : ¬ N1.Own p := fun ⟨x, hx⟩ => by
      rw [← hN1, own_setR hA] at hx
      split at hx
      · obtain ⟨⟨dy, ob⟩, ⟨⟨dy2, hs⟩, ce⟩, ⟨xs, er, imr⟩, ⟨ys, epe, imp⟩, me, -⟩ := R1
        obtain ⟨φ, ec⟩ := ce.ext
        obtain ⟨ψ, em⟩ := me.ext
        cases imp
        have hd : ∃ tl, (msgO (i : Int) ((m : Int) + 1) r.pend).map V.int = .int i :: tl := ⟨_, rfl⟩
        obtain ⟨tl, htl⟩ := hd
        rw [htl] at ep
        rcases mem_own.mp hx with e | e | e | e | e | e
        · rw [e, ob] at ep; cases ep
        · rw [e, hs] at ep; cases ep
        · rw [e, ec] at ep; cases ep
        · rw [e, er] at ep
          cases ep
          cases h : (sentR r m).roots with
          | nil => rw [h] at imr; cases imr
          | cons a b =>
            rw [h] at imr
            obtain ⟨v, ws, e, iv, _⟩ := imr.hd
            obtain ⟨a1, b1, e1, _⟩ := iv.ref
            rw [e1] at e
            cases e
        · rw [e, epe] at ep; cases ep
        · rw [e, em] at ep; cases ep
      · exact X.nt.al hx np
    refine ⟨N.D, _, hes, trivial, fun od => ?_⟩
    have hobL : upd H1 N.D (.frz od (DN P w N.D es)) N.nw = _ := (upd_ne hwD).trans hob1
    walk_at "w"
    refine rd_kin upd_same ?_
    refine for_it walk_n (fun l σ H' => ∃ x y N' S', σ = [some (.ref N.nw), some (.int i), some (.ref p), x, y] ∧ H' N.D = some (.frz od (DN P w N.D es)) ∧ H' p = some (.lst ((msgO (i : Int) ((m : Int) + 1) r.pend).map V.int)) ∧ Stp N1 N' H1 (upd H' N.D (DN P w N.D es)) ∧ Net P w K (upd H' N.D (DN P w N.D es)) N' S' n (t + 1) made nms AL1 ∧
        N'.D = N.D ∧ (N'.cs.map fun p => (p.1, p.2.1)) = (N1.cs.map fun p => (p.1, p.2.1)) ∧ ∀ j : Nat, l ≤ j → S'.ch[j]? = S.ch[j]?)
      ⟨none, none, N1, S1, rfl, upd_same, (upd_ne hpD).trans ep, by rw [unlk hes]; exact Stp.of N1 Kp.refl, by rw [unlk hes]; exact X1, hD, rfl, fun j _ => by rw [hch]⟩ (fun i σ H' _ ⟨_, _, _, _, _, h, _⟩ => h) ?_ ?_
    · rintro l x σ _ H2 hl ⟨x0, y0, N2, S2, rfl, hD2, hp2, st2, X2, eD2, ecs, ech⟩ ⟨rfl, e, he, rfl⟩
      obtain ⟨F, kF⟩ := st2.kps
      have kL := kp_lock (u := DN P w N.D es) hD2 trivial
      have k12 : Kp (F ++ [N.D]) H1 H2 := (kF.mono fun b hb => List.mem_append_left _ hb).trans (kL.mono fun b hb => List.mem_append_right _ hb)
      obtain ⟨q0, hq1, hq2, -⟩ := walkV (R := Rad) (l := N1.cs.map fun p => (p.1, p.2.1)) hD2 (by rw [hkv]; exact prf) (hko.up k12) he
      obtain ⟨p0, hp0, rfl⟩ : ∃ p0, N2.cs[l]? = some p0 ∧ q0 = (p0.1, p0.2.1) := by
        rw [← ecs, List.getElem?_map] at hq1
        cases h : N2.cs[l]? with
        | none => rw [h] at hq1; cases hq1
        | some z => rw [h] at hq1; cases hq1; exact ⟨z, rfl, rfl⟩
      obtain ⟨q1, hq3, eq1, C2⟩ := X2.nt.ct l p0 hp0
      have hq4 : S.ch[l]? = some q1 := by rw [← ech l (Nat.le_refl _)]; exact hq3
      have hrows := X.si.rows q1 (List.mem_of_getElem? hq4)
      obtain ⟨ka, ys, ea, sq, im2⟩ := (show Im K H2 (.ref e.2.1) (pD p0.1) from hq2).ref
      obtain ⟨u1, u2, rfl, i1, i2⟩ := im2.two
      cases i1.int; cases i2.int
      cases ea
      obtain ⟨dx2, hob2⟩ := X2.nt.ob
      have enw : N2.nw = N.nw := st2.nw.trans hnw
      rw [enw, eD2, upd_ne hwD] at hob2
      walk_at "w"
      refine rd_gtup sq rfl ?_
      walk_at "w"
      refine rd_if (fun hb => ?_) fun hb => ?_
      · walk_at "w"
        refine rd_ktup (K := K) (ks := [.num p0.1.1, .num p0.1.2]) (.cons (.num _) (.cons (.num _) .nil)) (by simp) fun v H3 k3 iv => ?_
        have hD3 := k3.get hD2 (by simp)
        have dvr : DVr P w K pD Rad H3 N.D (N1.cs.map fun p => (p.1, p.2.1)) := ⟨kvs, ⟨es, .inr ⟨od, hD3⟩, hko.up (k12.trans k3.nil), hkv⟩, prf⟩
        have hag : aget (N1.cs.map fun p => (p.1, p.2.1)) p0.1 = some p0.2.1 := by
          rw [← ecs]
          refine aget_of_mem ?_ (List.mem_map.mpr ⟨p0, List.mem_of_getElem? hp0, rfl⟩)
          rw [List.map_map]
          exact X2.ni.nd
        refine rd_getV dvr kF_p (k := p0.1) iv hag fun c hc => ?_
        cases (show c = .ref p0.2.1 from hc)
        have ncD : p0.2.1 ≠ N.D ∧ p0.2.2 ≠ N.D := by
          have h1 : ∀ b ∈ [p0.2.1, p0.2.2], b ≠ N.D := fun b hb z => by
            have := X2.nt.dj (.chn l) .net b (by rw [own_chn hp0]; exact hb) (by rw [z, ← eD2]; exact own_D N2)
            cases this
          exact ⟨h1 _ (by simp), h1 _ (by simp)⟩
        have C3 : ChA K H3 p0.2.1 p0.2.2 q1.2 := (C2.up kL (by simpa using ncD.1) (by simpa using ncD.2)).up k3 (by simp) (by simp)
        obtain ⟨dxc, xsc, hoc, _⟩ := id C3
        refine rd_kmf hoc rfl ?_
        walk_at "w"
        refine ⟨p0.2.1, p0.2.2, p, q1.2, msgO (i : Int) ((m : Int) + 1) r.pend, rfl, C3, .inl (.inl (k3.get hp2 (by simp))), erow, by omega, fun u' H4 k4 hn4 C4 z => ?_⟩
        walk_at "w"
        have hD4 := k4.get hD3 (by simpa using ⟨ncD.1.symm, ncD.2.symm⟩)
        have k24 : Kp [p0.2.1, p0.2.2] H2 H4 := k3.nil.trans k4
        have k04 : Kp [p0.2.1, p0.2.2] (upd H2 N.D (DN P w N.D es)) (upd H4 N.D (DN P w N.D es)) := Kp.unlock (o := od) upd_same trivial (by rw [relk hD2]; exact k24)
        have hu0 : u' = p0.2.2 ∨ upd H2 N.D (DN P w N.D es) u' = none := by
          rcases hn4 with e | e
          · exact .inl e
          · refine .inr ?_
            have e2 := k3.none e
            rw [upd_ne (fun z => by rw [z, hD2] at e2; cases e2)]
            exact e2
        obtain ⟨X4, st4⟩ := X2.setC hp0 hq3 k04 hu0 (C4.unl hD4 dn_nl) (Nat.le_refl _) (by rw [List.length_append]; have := hrows.1; simp; omega) fun row hrow => by
          rcases List.mem_append.mp hrow with h | h
          · exact (X2.si.rows q1 (List.mem_of_getElem? hq3)).2 row h
          · rw [List.mem_singleton.mp h]
            exact .inl ⟨_, _, hnal, rfl⟩
        have npo : ∀ b ∈ [p0.2.1, p0.2.2], p ≠ b := fun b hb z => st2.no (H := H1) ep np1 ⟨.chn l, by rw [own_chn hp0, z]; exact hb⟩
        refine ⟨_, _, N2.setC l (p0.1, p0.2.1, u'), S2.setC l (q1.1, q1.2 ++ [_]), rfl, hD4, k4.get (k3.get hp2 (by simp)) (by simpa using ⟨npo _ (by simp), npo _ (by simp)⟩), st2.trans st4, X4, eD2, ?_, fun j hj => ?_⟩
        · rw [← ecs]
          show (N2.cs.set l _).map _ = _
          rw [List.map_set]
          refine List.ext_getElem? fun j => ?_
          rw [List.getElem?_set]
          split
          · rename_i e
            subst e
            rw [if_pos (by rw [List.length_map]; exact (List.getElem?_eq_some_iff.mp hp0).1), List.getElem?_map, hp0]
            rfl
          · rfl
        · show (S2.ch.set l _)[j]? = _
          rw [List.getElem?_set_ne (by omega)]
          exact ech j (by omega)
      · walk_at "w"
        exact ⟨_, _, N2, S2, rfl, hD2, hp2, st2, X2, eD2, ecs, fun j hj => ech j (by omega)⟩
    · rintro σ H2 ⟨x0, y0, N2, S2, rfl, hD2, hp2, st2, X2, eD2, ecs, ech⟩
      refine ⟨hD2, ?_⟩
      walk_at "w"
      exact q true N2 S2 AL1 _ (st1.trans st2) X2
end
end GT
set_option maxHeartbeats 2000000
namespace GT
open PySem PySem.Spec PyProof.Rows L2
variable {X : Cx} {x : Str} {c : Value} {body suite : List Stmt} {b₀ : Stmt} {np pos pos' : Pos} {tb : WX → TS} {ts : Addr → Value → Option Addr → TS} {Wout : WX}
/-- the try's reading is told at a first ground -/
theorem ps_try_onlyW (hs : X.stack = X.env :: X.outer) (hf : X.env.frame = some X.env.locals) (hc : Names X x c) (tk : Takes X Wout)
    (_ : ∀ (W : WX), Takes (X.tr [] fun _ _ => True) W → PassesOwn (model X.prog X.w) X.A X.env (fun _ _ => True) → PSs (X.tr [] fun _ _ => True) body (tb W))
    (hb : ∀ (W : WX) (pn : List (Addr × Obj)) (xe : Value → Shared → Prop), Takes (X.tr pn xe) W → PassesOwn (model X.prog X.w) X.A X.env xe → PSs (X.tr pn xe) body (tb W))
    (hsu : ∀ (a : Addr) (oe : Obj) (cls : Value) (d : Option Addr) (pn : List (Addr × Obj)), Zc cls d oe → (∃ vs, oe.data = .fields vs) → PSs (X.suite a ((a, oe) :: pn)) (b₀ :: suite) (ts a cls d)) :
    PS X (.Try body [.ExceptHandler (some (.Name x np)) none (b₀ :: suite) pos'] [] [] pos) (fun D σ H => tb (wOnly X.K c ts Wout D) D σ H) := ps_try_only hs hf hc tk hb hsu
end GT
set_option maxHeartbeats 2000000
namespace GT
open PySem PySem.Spec PyProof.Rows L2
local macro_rules | `(tactic| walk_at "v") => `(tactic| ((with_reducible show tVar _ _ _ _); refine rd_var rfl ?_))
local macro_rules | `(tactic| walk_at "s1") => `(tactic| with_reducible first | refine rd_cons ?_ | refine rd_nil ?_ | refine rd_c ?_ | refine rd_op ?_ | refine rd_seq ?_ | refine rd_fld ?_ | refine rd_asg ?_ | refine rd_gname ?_ | refine rd_I0 ?_ | refine rd_cb ?_ | refine rd_next ?_ | refine rd_drop ?_ | refine rd_ret ?_ | refine rd_mf ?_ | refine rd_cf ?_ | refine rd_ifS ?_ | refine rd_test ?_ | refine rd_kt ?_)
local macro_rules | `(tactic| walk_at "s2") => `(tactic| with_reducible first | refine rd_tup ?_ | refine rd_lst ?_ | refine rd_bm ?_ | refine rd_gcons ?_ | refine rd_gnil ?_ | refine rd_gsub ?_ | refine rd_dm ?_ | refine rd_sfld ?_ | refine rd_fa ?_ | refine rd_frz ?_ | refine rd_nf ?_ | refine rd_retN ?_ | refine rd_cont ?_ | refine rd_par ?_ | refine rd_un ?_ | refine rd_and ?_ | refine rd_or ?_ | refine rd_not ?_ | refine rd_tru ?_ | refine rd_B ?_ | refine rd_chain ?_ | refine rd_sl ?_ | refine rd_nopart ?_ | refine rd_part ?_ | refine rd_kpart ?_)
local macro_rules | `(tactic| walk_at "s3") => `(tactic| with_reducible first | refine rd_U ?_ | refine rd_eqi ?_ | refine rd_nei ?_ | refine rd_eqs ?_ | refine rd_nes ?_ | refine rd_isN ?_ | refine rd_notN ?_ | refine rd_max2 ?_ | refine rd_min2 ?_ | refine rd_int1 ?_ | refine rd_intb ?_ | refine rd_kbmS ?_ | refine rd_il ?_ | refine rd_it ?_ | refine rd_ir1 ?_ | refine rd_ir2 ?_ | refine rd_in ?_ | refine rd_for ?_ | refine rd_lc ?_ | refine rd_yes ?_ | refine rd_tt ?_ | refine rd_ff ?_ | refine rd_listRg ?_ | refine rd_andV ?_ | refine rd_orV ?_ | refine rd_notV ?_ | refine rd_ex ?_)
local macro_rules | `(tactic| walk_at "c") => `(tactic| first | exact TX.c_Channel (by assumption) | exact TX.c_State (by assumption) | exact TX.c_Message (by assumption) | exact TX.c_Replica (by assumption) | exact TX.c_Network (by assumption))
local macro_rules | `(tactic| walk_at "n") => `(tactic| first | exact TX.n_Channel_under_way (by assumption) | exact TX.n_State_cells (by assumption) | exact TX.n_Message_octets (by assumption) | exact TX.n_Message_place (by assumption) | exact TX.n_Message_known (by assumption) | exact TX.n_Replica_peer (by assumption) | exact TX.n_Replica_clock (by assumption) | exact TX.n_Replica_made (by assumption) | exact TX.n_Replica_state (by assumption) | exact TX.n_Replica_roots (by assumption) | exact TX.n_Replica_pending (by assumption) | exact TX.n_Replica_messages (by assumption) | exact TX.n_Network_replicas (by assumption) | exact TX.n_Network_channels (by assumption))
local macro_rules | `(tactic| walk_at "f") => `(tactic| ((with_reducible show KFld _ _ _ _ _); refine rd_kfld (by assumption) (by walk_at "c") (by walk_at "n") rfl ?_))
local macro_rules | `(tactic| walk_at "g") => `(tactic| ((with_reducible show KSf _ _ _ _ _ _); refine rd_ksf (by assumption) (by walk_at "c") (by walk_at "n") (by simp) ?_))
local macro_rules | `(tactic| walk_at "w") => `(tactic| repeat (first | walk_at "v" | walk_at "s1" | walk_at "f" | walk_at "s2" | walk_at "s3"))
section
variable {P : Program} {w : World} {K : PySem.W.Frag} {mg : Str → Option Value} {base : Heap}
theorem chan_get {N : NAd} {n j : Nat} {p : Nm × (Addr × Addr)} (h : NetI n N) (hp : N.cs[j]? = some p) : aget (N.cs.map fun p => (p.1, p.2.1)) p.1 = some p.2.1 := by
  refine aget_of_mem ?_ (List.mem_map.mpr ⟨p, List.mem_of_getElem? hp, rfl⟩)
  rw [List.map_map]
  exact h.nd
abbrev sp_Network_deliver (P : Program) (w : World) (K : PySem.W.Frag) : Sp := fun vs H Q _ => ∃ (N : NAd) (S : Sys) (n t : Nat) (made : List Ch) (nms : List Nm) (AL : List (Nm × List Ch)) (k : Nm) (pl : Int) (j : Nat) (p : Nm × (Addr × Addr)) (q : Nm × List (List Int)) (row : List Int), vs = [.ref N.nw, .int k.1, .int k.2, .int pl] ∧ Net P w K H N S n t made nms AL ∧ t ≤ 57 ∧ N.cs[j]? = some p ∧ S.ch[j]? = some q ∧ p.1 = k ∧ 0 ≤ pl ∧ q.2[pl.toNat]? = some row ∧
  ∀ z N' S' H', Stp N N' H H' → Net P w K H' N' S' n t made nms AL → Q (.str z) H'
theorem ok_Network_deliver (T : TX P K mg) : Ok P w K mg base (CX0) 11 ("Network", some "deliver") p_Network_deliver (sp_Network_deliver P w K) := by
  refine T.ok 59 (d := d_Network_deliver) rfl rfl rfl sc_Network_deliver (fun _ _ _ _ _ _ us hl => match us, hl with | [_, _, _, _], _ => rfl) (fun vs H Q E h => ?_) fun cdv Ar outer sh H vs Q E hr h => ?_
  · obtain ⟨N, S, n, t, made, nms, AL, k, pl, j, p, q, row, rfl, _⟩ := h; rfl
  · obtain ⟨N, S, n, t, made, nms, AL, k, pl, j, p, q, row, rfl, X, ht, hp, hq, rfl, h0, hrow, qq⟩ := h
    obtain ⟨dx, hob⟩ := X.nt.ob
    obtain ⟨q', hq', eq, C⟩ := X.nt.ct j p hp
    rw [hq] at hq'
    cases hq'
    have hrows := X.si.rows q (List.mem_of_getElem? hq)
    obtain ⟨hu, hu1, hu65⟩ := rm_of hr
    refine ⟨_, PSs.nox (pss_cons (ps_set (i := 4) sc_Network_deliver.nd rfl (Or.inl rfl) (pe_mt' (ok_Channel_take T) T.c_Channel T.m_Channel_take (hr.mono (by decide)) pass0 (pe_ix (ix_dn hu) (pe_fld (pv 0) rfl) (pe_tup (pa_cons (pv 1) (pa_cons (pv 2) pa_nil))) (fun _ _ => rfl)) (pa_cons (pv 3) pa_nil)))
      (pss_cons (ps_try_onlyW rfl rfl ⟨rfl, by decide, .inl T.g_CodeError⟩ takes0 (fun W tk po => (pss_one (ps_set (i := 5) sc_Network_deliver.nd rfl (Or.inl rfl) (pe_mt' (ok_Replica_receive T) T.c_Replica T.m_Replica_receive (hr.mono (by decide)) (passes_call (E := fun cls d H => ∀ σ, W cls d σ H) tk fun _ _ σ _ z => z σ) (pe_ix ix_list (pe_fld (pv 0) rfl) (pv 2) (fun _ _ => rfl)) (pa_cons (pv 4) pa_nil))))) (fun W pn xe tk po => (pss_one (ps_set (i := 5) sc_Network_deliver.nd rfl (Or.inl rfl) (pe_mt' (ok_Replica_receive T) T.c_Replica T.m_Replica_receive (hr.mono (by decide)) (passes_call (E := fun cls d H => ∀ σ, W cls d σ H) tk fun _ _ σ _ z => z σ) (pe_ix ix_list (pe_fld (pv 0) rfl) (pv 2) (fun _ _ => rfl)) (pa_cons (pv 4) pa_nil))))) (fun a oe cls d pn _ _ => (pss_one (ps_ret pe_str))))
      (pss_one (ps_ret (pe_ix ix_list (pe_lst (pa_cons pe_str (pa_cons pe_str pa_nil))) (pe_callTy call_int1Q (by rfl) T.f_int (by decide +kernel) (pa_cons (pv 5) pa_nil)) (fun _ _ => rfl)))))), ?_⟩
    walk_at "w"
    refine rd_ktup (K := K) (ks := [.num p.1.1, .num p.1.2]) (.cons (.num _) (.cons (.num _) .nil)) (by simp) fun v H1 k1 iv => ?_
    refine rd_getV (X.nt.dn.up st_ad k1 (by simp)).r kF_p (k := p.1) iv (chan_get X.ni hp) fun c hc => ?_
    cases (show c = .ref p.2.1 from hc)
    have C1 := C.up k1 (by simp) (by simp)
    obtain ⟨dxc, xsc, hoc, _⟩ := id C1
    refine rd_kmf hoc rfl ?_
    walk_at "w"
    refine ⟨p.2.1, p.2.2, q.2, pl, row, rfl, C1, h0, hrow, by omega, fun u' H2 k2 hn2 C2 v2 fz => ?_⟩
    have X1 := X.up k1
    have hlen : (q.2.take pl.toNat ++ q.2.drop (pl.toNat + 1)).length ≤ t := by
      rw [List.length_append, List.length_take, List.length_drop]
      omega
    obtain ⟨X2, st2⟩ := X1.setC hp hq k2 hn2 C2 (Nat.le_refl t) hlen fun r hr => by
      rcases List.mem_append.mp hr with h | h
      · exact hrows.2 r (List.mem_of_mem_take h)
      · exact hrows.2 r (List.mem_of_mem_drop h)
    have st02 := (Stp.of N k1).trans st2
    have hri := hrows.2 row (List.mem_of_getElem? hrow)
    have hm := (X.ni.mem p.1).mp (List.mem_map.mpr ⟨p, List.mem_of_getElem? hp, rfl⟩)
    generalize N.setC j (p.1, p.2.1, u') = N2 at X2 st2 st02
    generalize S.setC j (q.1, q.2.take pl.toNat ++ q.2.drop (pl.toNat + 1)) = S2 at X2
    obtain ⟨A, r, hA, hrr, R, RI⟩ := X2.rep (i := p.1.2.toNat) (by omega)
    obtain ⟨dx2, hob2⟩ := X2.nt.ob
    rw [show N2.nw = N.nw from st02.nw] at hob2
    obtain ⟨dxr, hor⟩ := R.ob
    walk_at "w"
    refine rd_ixL (Fz.sq X2.nt.rl) (atN (by omega) (refs_at hA)) ?_
    refine rd_kmf hor rfl ?_
    walk_at "w"
    obtain ⟨ra, ro, rfl, era⟩ := fz
    have hfew : row.length ≤ 100000 := by
      rcases hri with ⟨k0, l0, hk0, e⟩ | ⟨_, h⟩
      · rw [e]
        have g := X2.si.ms (by omega) hk0
        exact msgO_len (fun c hc => (g.c c hc).w) g.l
      · omega
    have ret : ∀ (b : Bool) H3 N3 S3, Stp N2 N3 H2 H3 → Net P w K H3 N3 S3 n t made nms AL → (tRet (tOp (rIxL K) (tLst (tCons (tC (V.str "known")) (tCons (tC (V.str "new")) tNil))) (tCB rInt1Q (tCons (tVar 5) tNil))) { nx := fun x H' => Q V.non H', rt := Q } [some (V.ref N.nw), some (V.int p.1.1), some (V.int p.1.2), some (V.int pl), some (V.ref ra), some (V.bl b)] H3) := fun b H3 N3 S3 st3 X3 => by
      walk_at "w"
      refine rd_klst (by simp) fun l4 H4 n4 k4 e4 => ?_
      walk_at "w"
      have fin : ∀ z, Q (.str z) H4 := fun z => qq z N3 S3 H4 ((st02.trans st3).trans (Stp.of N3 k4)) (X3.up k4)
      cases b with
      | true => exact rd_ixL (.inl (.inl e4)) (v := .str "new") (by rfl) (fin _)
      | false => exact rd_ixL (.inl (.inl e4)) (v := .str "known") (by rfl) (fin _)
    refine ⟨A, r, ra, row, rfl, R, .inr ⟨ro, era⟩, hfew, ?_⟩
    rcases hri with ⟨k0, l0, hk0, e⟩ | ⟨hb, _⟩
    · obtain ⟨z1, z2⟩ := X2.si.szs (by omega) RI hk0
      refine .inl ⟨k0.1, k0.2, l0, X2.si.ms (by omega) hk0, e, z1, z2, fun hne H3 k3 => ?_, fun hn H3 k3 R3 => ?_⟩
      · exact ret false H3 N2 S2 (Stp.of N2 k3) (X2.up k3)
      · obtain ⟨X3, st3⟩ := X2.setR (A' := A) hA (k3.mono (by simp [RAd.own])) (fun b hb => .inl hb) rfl R3 (X2.si.setRep (RI.acc X2.si hk0 hn))
        exact ret true H3 _ _ st3 X3
    · refine .inr ⟨hb, fun d H3 k3 σ => ⟨true, TX.x_CodeError T, fun _ a na => ?_, fun h => by cases h⟩⟩
      exact qq _ N2 S2 H3 (st02.trans (Stp.of N2 k3)) (X2.up k3)
def Full (AL : List (Nm × List Ch)) (r : Rep) : Prop := ∀ k l, aget AL k = some l → k ∈ keysR r
theorem refs_set {N : NAd} {i : Nat} {A A' : RAd} (hA : N.As[i]? = some A) (ea : A'.a = A.a) : refsA (N.setR i A').As = refsA N.As := by
  show (N.As.set i A').map _ = _
  rw [List.map_set, ea]
  refine List.ext_getElem? fun j => ?_
  rw [List.getElem?_set]
  split
  · rename_i e
    subst e
    rw [if_pos (by rw [List.length_map]; exact (List.getElem?_eq_some_iff.mp hA).1), List.getElem?_map, hA]
    rfl
  · rfl
theorem refs_get {N : NAd} {i : Nat} {x : V} (h : (refsA N.As)[i]? = some x) : ∃ A, N.As[i]? = some A ∧ x = .ref A.a := by
  have h : (N.As.map _)[i]? = some x := h
  rw [List.getElem?_map] at h
  cases e : N.As[i]? with
  | none => rw [e] at h; cases h
  | some A => rw [e] at h; cases h; exact ⟨A, rfl, rfl⟩
abbrev sp_Network_settle (P : Program) (w : World) (K : PySem.W.Frag) : Sp := fun vs H Q _ => ∃ (N : NAd) (S : Sys) (n t : Nat) (made : List Ch) (nms : List Nm) (AL : List (Nm × List Ch)), vs = [.ref N.nw] ∧ Net P w K H N S n t made nms AL ∧ t + 4 ≤ 58 ∧
  ∀ (i : Int) N' S' AL' H', Stp N N' H H' → Net P w K H' N' S' n (t + 4) made nms AL' → TogR S'.reps → Q (.int i) H'
theorem ok_Network_settle (T : TX P K mg) : Ok P w K mg base (CX0) 12 ("Network", some "settle") p_Network_settle (sp_Network_settle P w K) := by
  refine T.ok 60 (d := d_Network_settle) rfl rfl rfl sc_Network_settle (fun _ _ _ _ _ _ us hl => match us, hl with | [_], _ => rfl) (fun vs H Q E h => ?_) fun cdv Ar outer sh H vs Q E hr h => ?_
  · obtain ⟨N, S, n, t, made, nms, AL, rfl, _⟩ := h; rfl
  · obtain ⟨N, S, n, t, made, nms, AL, rfl, X, ht, q⟩ := h
    obtain ⟨dx, hob⟩ := X.nt.ob
    have hn := X.si.n2
    have rlen : (refsA N.As).length = n := by show (N.As.map _).length = _; rw [List.length_map, X.nt.rn, X.si.sz]
    obtain ⟨hu, hu1, hu65⟩ := rm_of hr
    refine ⟨_, PSs.nox (pss_cons (ps_set (i := 1) sc_Network_settle.nd rfl (Or.inl rfl) pe_int)
      (pss_cons (ps_for PassesOwn.never rfl (pi_list (pe_fld (pv 0) rfl)) (pg_name (i := 2) sc_Network_settle.nd rfl (Or.inl rfl))
      (pss_one (ps_expr (pe_mt0 (ok_Replica_send T) T.c_Replica T.m_Replica_send (hr.mono (by decide)) pass0 (pv 2)))))
      (pss_cons (ps_while PassesOwn.never (pt_not (pt_val (pe_fn (ok_are_together T) T.g_are_together (hr.mono (by decide)) pass0 (pa_cons (pe_fld (pv 0) rfl) pa_nil))))
      (pss_one (ps_for PassesOwn.never rfl (pi_list (pe_fld (pv 0) rfl)) (pg_name (i := 2) sc_Network_settle.nd rfl (Or.inl rfl))
      (pss_one (ps_for PassesOwn.never rfl (pi_list (pe_fld (pv 0) rfl)) (pg_name (i := 3) sc_Network_settle.nd rfl (Or.inl rfl))
      (pss_one (ps_aug (i := 1) sc_Network_settle.nd rfl (Or.inl rfl) (pe_fn (ok_bring T) T.g_bring (hr.mono (by decide)) pass0 (pa_cons (pv 2) (pa_cons (pv 3) pa_nil))) ip_add)))))))
      (pss_one (ps_ret (pv 1)))))), ?_⟩
    walk_at "w"
    refine rd_kil (Fz.sq X.nt.rl) ?_
    refine for_it (walk_list (xs := refsA N.As)) (fun i σ H' => ∃ x N' S' AL', σ = [some (.ref N.nw), some (.int 0), x, none] ∧ Stp N N' H H' ∧ Net P w K H' N' S' n (t + i) made nms AL' ∧ refsA N'.As = refsA N.As ∧ N'.R = N.R ∧ ∀ (j : Nat) r, j < i → S'.reps[j]? = some r → r.pend = [])
      ⟨none, N, S, AL, rfl, Stp.of N Kp.refl, X, rfl, rfl, fun j r hj => absurd hj (by omega)⟩ (fun i σ H' _ ⟨_, N', _, _, _, _, X', e1, e2, _⟩ => by have := X'.nt.rl; rw [e1, e2] at this; exact Fz.sq this) ?_ ?_
    · rintro i x σ _ H1 hi ⟨x0, N1, S1, AL1, rfl, st1, X1, er1, eR1, pn1⟩ ⟨rfl, hx⟩
      rw [rlen] at hi
      rw [← er1] at hx
      obtain ⟨A, hA, rfl⟩ := refs_get hx
      obtain ⟨A', r, hA', hrr, R, RI⟩ := X1.rep hi
      rw [hA] at hA'
      cases hA'
      obtain ⟨dxr, hor⟩ := R.ob
      have hml := X1.si.ml
      walk_at "w"
      refine rd_kmf hor rfl ?_
      walk_at "w"
      refine ⟨A, r, rfl, R, X1.si.pw hrr, by have := RI.pl; omega, by have := X1.si.msl hrr; omega, fun hp => ?_, fun hp m hm hml' => ?_⟩
      · walk_at "w"
        refine ⟨_, N1, S1, AL1, rfl, st1, ⟨X1.nt, X1.si.mono (by omega), X1.ni⟩, er1, eR1, fun j r' hj hr' => ?_⟩
        rcases Nat.lt_or_ge j i with h | h
        · exact pn1 j r' h hr'
        · have : j = i := by omega
          rw [this, hrr] at hr'
          cases hr'
          exact hp
      · intro A' H2 k2 ow2 ea2 R2 p np ep
        rw [RI.pe] at hm
        obtain ⟨hal, si2⟩ := X1.si.send hrr hm hml'
        obtain ⟨X2, st2⟩ := X1.setR hA k2 ow2 ea2 R2 si2
        walk_at "w"
        refine ⟨_, N1.setR i A', S1.setR i (sentR r m), _, rfl, st1.trans st2, X2, (refs_set hA ea2).trans er1, eR1, fun j r' hj hr' => ?_⟩
        rcases get_set hr' with ⟨rfl, rfl⟩ | ⟨ne, hj'⟩
        · rfl
        · exact pn1 j r' (by omega) hj'
    · rintro σ H1 ⟨x0, N1, S1, AL1, rfl, st1, X1, er1, eR1, pn1⟩
      rw [rlen] at X1 pn1
      have X1 : Net P w K H1 N1 S1 n (t + 4) made nms AL1 := ⟨X1.nt, X1.si.mono (by omega), X1.ni⟩
      have pn1 : ∀ r ∈ S1.reps, r.pend = [] := fun r hr => by
        obtain ⟨j, hj⟩ := List.mem_iff_getElem?.mp hr
        exact pn1 j r (by rw [← X1.si.sz]; exact (List.getElem?_eq_some_iff.mp hj).1) hj
      walk_at "w"
      refine ⟨fun m σ H' => ∃ (many : Int) (x y : Option V) (N' : NAd) (S' : Sys), σ = [some (.ref N.nw), some (.int many), x, y] ∧ m ≤ 1 ∧ Stp N N' H H' ∧ Net P w K H' N' S' n (t + 4) made nms AL1 ∧ refsA N'.As = refsA N.As ∧ N'.R = N.R ∧ (∀ r ∈ S'.reps, r.pend = []) ∧ (m = 0 → TogR S'.reps),
        ⟨1, 0, x0, none, N1, S1, rfl, Nat.le_refl _, st1, X1, er1, eR1, pn1, fun e => by cases e⟩, ?_⟩
      rintro m σ H2 ⟨many, x2, y2, N2, S2, rfl, hm, st2, X2, er2, eR2, pn2, tg2⟩
      obtain ⟨dx2, hob2⟩ := X2.nt.ob
      rw [show N2.nw = N.nw from st2.nw, eR2] at hob2
      have hrl2 := X2.nt.rl
      rw [eR2] at hrl2
      walk_at "w"
      have hne : S2.reps ≠ [] := fun e => by
        have := X2.si.sz
        rw [e] at this
        have : (0 : Nat) = n := this
        omega
      refine ⟨N.R, N2.As, S2.reps, rfl, Fz.sq hrl2, X2.nt.paired, hne, fun r hr => ?_, fun b H3 k3 hb => ?_⟩
      · obtain ⟨j, hj⟩ := List.mem_iff_getElem?.mp hr
        exact (X2.si.rep j r hj).mnd
      walk_at "w"
      have X3 := X2.up k3
      have st3 := st2.trans (Stp.of N2 k3)
      cases b with
      | true =>
        refine rd_ifF rfl ?_
        walk_at "w"
        exact q many N2 S2 AL1 H3 st3 X3 (hb.mp rfl)
      | false =>
        have m1 : m = 1 := by
          rcases Nat.eq_zero_or_pos m with e | e
          · have := hb.mpr (tg2 e)
            cases this
          · omega
        subst m1
        refine rd_ifT rfl ?_
        refine ⟨fun σ' H' => ∃ (many : Int) (x y : Option V) (N' : NAd) (S' : Sys), σ' = [some (.ref N.nw), some (.int many), x, y] ∧ Stp N N' H H' ∧ Net P w K H' N' S' n (t + 4) made nms AL1 ∧ refsA N'.As = refsA N.As ∧ N'.R = N.R ∧ (∀ r ∈ S'.reps, r.pend = []) ∧ TogR S'.reps, fun σ' H' ⟨a, b, c, d, e, h1, h2, h3, h4, h5, h6, h7⟩ => ⟨0, by omega, a, b, c, d, e, h1, by omega, h2, h3, h4, h5, h6, fun _ => h7⟩, ?_⟩
        have hob3 := k3.get hob2 (by simp)
        walk_at "w"
        refine rd_kil (Fz.sq (hrl2.up k3)) ?_
        refine for_it (walk_list (xs := refsA N2.As)) (fun i σ H' => ∃ (many : Int) (x y : Option V) (N' : NAd) (S' : Sys), σ = [some (.ref N.nw), some (.int many), x, y] ∧ Stp N N' H H' ∧ Net P w K H' N' S' n (t + 4) made nms AL1 ∧ refsA N'.As = refsA N.As ∧ N'.R = N.R ∧ (∀ r ∈ S'.reps, r.pend = []) ∧ ∀ (j : Nat) r, j < i → S'.reps[j]? = some r → Full AL1 r)
          ⟨many, x2, y2, N2, S2, rfl, st3, X3, er2, eR2, pn2, fun j r hj => absurd hj (by omega)⟩ (fun i σ H' _ ⟨_, _, _, N', _, _, _, X', e1, e2, _⟩ => by have := X'.nt.rl; rw [e1, e2, ← er2] at this; exact Fz.sq this) ?_ ?_
        · rintro i x σ _ H4 hi ⟨many4, x4, y4, N4, S4, rfl, st4, X4, er4, eR4, pn4, fu4⟩ ⟨rfl, hx⟩
          rw [er2, rlen] at hi
          rw [er2, ← er4] at hx
          obtain ⟨A, hA, rfl⟩ := refs_get hx
          obtain ⟨dx4, hob4⟩ := X4.nt.ob
          rw [show N4.nw = N.nw from st4.nw, eR4] at hob4
          have hrl4 := X4.nt.rl
          rw [eR4] at hrl4
          walk_at "w"
          refine rd_kil (Fz.sq hrl4) ?_
          refine for_it (walk_list (xs := refsA N4.As)) (fun j σ H' => ∃ (many : Int) (y : Option V) (N' : NAd) (S' : Sys), σ = [some (.ref N.nw), some (.int many), some (.ref A.a), y] ∧ Stp N N' H H' ∧ Net P w K H' N' S' n (t + 4) made nms AL1 ∧ refsA N'.As = refsA N.As ∧ N'.R = N.R ∧ (∀ r ∈ S'.reps, r.pend = []) ∧ (∀ (j : Nat) r, j < i → S'.reps[j]? = some r → Full AL1 r) ∧ ∀ (j' : Nat) r q, j' < j → S'.reps[j']? = some r → S'.reps[i]? = some q → ∀ k ∈ keysR r, k ∈ keysR q)
            ⟨many4, y4, N4, S4, rfl, st4, X4, er4, eR4, pn4, fu4, fun j' r q hj => absurd hj (by omega)⟩ (fun i σ H' _ ⟨_, _, N', _, _, _, X', e1, e2, _⟩ => by have := X'.nt.rl; rw [e1, e2, ← er4] at this; exact Fz.sq this) ?_ ?_
          · rintro j x σ _ H5 hj ⟨many5, y5, N5, S5, rfl, st5, X5, er5, eR5, pn5, fu5, in5⟩ ⟨rfl, hx5⟩
            rw [er4, rlen] at hj
            rw [er4, ← er5] at hx5
            obtain ⟨B, hB, rfl⟩ := refs_get hx5
            obtain ⟨A5, r, hA5, hr5, R5, RI5⟩ := X5.rep hi
            obtain ⟨B5, rq, hB5, hq5, RB5, RIq⟩ := X5.rep hj
            rw [hB] at hB5
            cases hB5
            have eA : A5.a = A.a := by
              have := refs_at hA5
              rw [er5, ← er4, hx] at this
              have h2 : V.ref A.a = V.ref A5.a := Option.some.inj this
              injection h2 with h2
              exact h2.symm
            walk_at "w"
            refine rd_aug rfl ?_
            walk_at "w"
            refine ⟨A5, r, B, rq, fun r => RepI made nms AL1 i r ∧ r.pend = [], by rw [eA], R5, RB5, X5.si.key (by omega) hr5, X5.si.key (by omega) hq5, ⟨RI5, pn5 r (List.mem_of_getElem? hr5)⟩, fun k l hk => ?_, fun H6 r' z k6 R6 iv6 ks => ?_⟩
            · have hal := RIq.au k l hk
              refine ⟨X5.si.ms (by omega) hal, fun r0 ⟨R0, p0⟩ => ?_⟩
              obtain ⟨z1, z2⟩ := X5.si.szs (by omega) R0 hal
              exact ⟨z1, z2, fun hn => ⟨R0.acc X5.si hal hn, by rw [accR_pend]; exact p0⟩⟩
            · obtain ⟨X6, st6⟩ := X5.setR (A' := A5) hA5 (k6.mono (by simp [RAd.own])) (fun b hb => .inl hb) rfl R6 (X5.si.setRep iv6.1)
              walk_at "w"
              refine ⟨_, _, rfl, rfl, _, _, N5.setR i A5, S5.setR i r', rfl, st5.trans st6, X6, (refs_set hA5 rfl).trans er5, eR5, fun r0 hr0 => ?_, fun j0 r0 hj0 hr0 => ?_, fun j0 r0 q0 hj0 hr0 hq0 k hk => ?_⟩
              · obtain ⟨j1, hj1⟩ := List.mem_iff_getElem?.mp hr0
                rcases get_set hj1 with ⟨rfl, rfl⟩ | ⟨ne, h⟩
                · exact iv6.2
                · exact pn5 r0 (List.mem_of_getElem? h)
              · rcases get_set hr0 with ⟨rfl, rfl⟩ | ⟨ne, h⟩
                · omega
                · exact fu5 j0 r0 hj0 h
              · have eq0 : q0 = r' := by
                  rcases get_set hq0 with ⟨_, e⟩ | ⟨ne, _⟩
                  · exact e
                  · exact (ne rfl).elim
                rw [eq0]
                rcases get_set hr0 with ⟨rfl, rfl⟩ | ⟨ne, h⟩
                · exact hk
                · rcases Nat.lt_or_ge j0 j with hlt | hge
                  · exact ks k (.inr (in5 j0 r0 r hlt h hr5 k hk))
                  · have : j0 = j := by omega
                    rw [this, hq5] at h
                    cases h
                    exact ks k (.inl hk)
          · rintro σ H5 ⟨many5, y5, N5, S5, rfl, st5, X5, er5, eR5, pn5, fu5, in5⟩
            rw [er4, rlen] at in5
            refine ⟨many5, _, y5, N5, S5, rfl, st5, X5, er5, eR5, pn5, fun j r hj hr => ?_⟩
            rcases Nat.lt_or_ge j i with hlt | hge
            · exact fu5 j r hlt hr
            · have : j = i := by omega
              subst this
              intro k l hk
              obtain ⟨a1, a2, _⟩ := X5.si.alk k l hk
              obtain ⟨B, rs, _, hs, _, RIs⟩ := X5.rep (i := k.1.toNat) (by omega)
              refine in5 k.1.toNat rs r (by omega) hs hr k ?_
              have ek : k = (((k.1.toNat : Nat) : Int), k.2) := Prod.ext (by show k.1 = _; omega) rfl
              have := RIs.aown k.2 l (by rw [← ek]; exact hk)
              rw [← ek] at this
              exact aget_isSome.mp (by rw [this]; rfl)
        · rintro σ H5 ⟨many5, x5, y5, N5, S5, rfl, st5, X5, er5, eR5, pn5, fu5⟩
          rw [er2, rlen] at fu5
          refine ⟨many5, x5, y5, N5, S5, rfl, st5, X5, er5, eR5, pn5, fun r hr => ⟨pn5 r hr, fun r2 hr2 k => ?_⟩⟩
          have key : ∀ r ∈ S5.reps, k ∈ keysR r ↔ (aget AL1 k).isSome = true := fun r hr => by
            obtain ⟨j, hj⟩ := List.mem_iff_getElem?.mp hr
            have hjn : j < n := by rw [← X5.si.sz]; exact (List.getElem?_eq_some_iff.mp hj).1
            refine ⟨fun hk => ?_, fun hk => ?_⟩
            · obtain ⟨l, hl⟩ := Option.isSome_iff_exists.mp (aget_isSome.mpr hk)
              rw [(X5.si.rep j r hj).au k l hl]
              rfl
            · obtain ⟨l, hl⟩ := Option.isSome_iff_exists.mp hk
              exact fu5 j r hjn hj k l hl
          exact (key r hr).trans (key r2 hr2).symm
end
end GT
set_option maxHeartbeats 2000000
namespace GT
open PySem PySem.Spec PyProof.Rows L2
local macro_rules | `(tactic| walk_at "v") => `(tactic| ((with_reducible show tVar _ _ _ _); refine rd_var rfl ?_))
local macro_rules | `(tactic| walk_at "s1") => `(tactic| with_reducible first | refine rd_cons ?_ | refine rd_nil ?_ | refine rd_c ?_ | refine rd_op ?_ | refine rd_seq ?_ | refine rd_fld ?_ | refine rd_asg ?_ | refine rd_gname ?_ | refine rd_I0 ?_ | refine rd_cb ?_ | refine rd_next ?_ | refine rd_drop ?_ | refine rd_ret ?_ | refine rd_mf ?_ | refine rd_cf ?_ | refine rd_ifS ?_ | refine rd_test ?_ | refine rd_kt ?_)
local macro_rules | `(tactic| walk_at "s2") => `(tactic| with_reducible first | refine rd_tup ?_ | refine rd_lst ?_ | refine rd_bm ?_ | refine rd_gcons ?_ | refine rd_gnil ?_ | refine rd_gsub ?_ | refine rd_dm ?_ | refine rd_sfld ?_ | refine rd_fa ?_ | refine rd_frz ?_ | refine rd_nf ?_ | refine rd_retN ?_ | refine rd_cont ?_ | refine rd_par ?_ | refine rd_un ?_ | refine rd_and ?_ | refine rd_or ?_ | refine rd_not ?_ | refine rd_tru ?_ | refine rd_B ?_ | refine rd_chain ?_ | refine rd_sl ?_ | refine rd_nopart ?_ | refine rd_part ?_ | refine rd_kpart ?_)
local macro_rules | `(tactic| walk_at "s3") => `(tactic| with_reducible first | refine rd_U ?_ | refine rd_eqi ?_ | refine rd_nei ?_ | refine rd_eqs ?_ | refine rd_nes ?_ | refine rd_isN ?_ | refine rd_notN ?_ | refine rd_max2 ?_ | refine rd_min2 ?_ | refine rd_int1 ?_ | refine rd_intb ?_ | refine rd_kbmS ?_ | refine rd_il ?_ | refine rd_it ?_ | refine rd_ir1 ?_ | refine rd_ir2 ?_ | refine rd_in ?_ | refine rd_for ?_ | refine rd_lc ?_ | refine rd_yes ?_ | refine rd_tt ?_ | refine rd_ff ?_ | refine rd_listRg ?_ | refine rd_andV ?_ | refine rd_orV ?_ | refine rd_notV ?_ | refine rd_ex ?_)
local macro_rules | `(tactic| walk_at "c") => `(tactic| first | exact TX.c_Channel (by assumption) | exact TX.c_State (by assumption) | exact TX.c_Message (by assumption) | exact TX.c_Replica (by assumption) | exact TX.c_Network (by assumption))
local macro_rules | `(tactic| walk_at "n") => `(tactic| first | exact TX.n_Channel_under_way (by assumption) | exact TX.n_State_cells (by assumption) | exact TX.n_Message_octets (by assumption) | exact TX.n_Message_place (by assumption) | exact TX.n_Message_known (by assumption) | exact TX.n_Replica_peer (by assumption) | exact TX.n_Replica_clock (by assumption) | exact TX.n_Replica_made (by assumption) | exact TX.n_Replica_state (by assumption) | exact TX.n_Replica_roots (by assumption) | exact TX.n_Replica_pending (by assumption) | exact TX.n_Replica_messages (by assumption) | exact TX.n_Network_replicas (by assumption) | exact TX.n_Network_channels (by assumption))
local macro_rules | `(tactic| walk_at "f") => `(tactic| ((with_reducible show KFld _ _ _ _ _); refine rd_kfld (by assumption) (by walk_at "c") (by walk_at "n") rfl ?_))
local macro_rules | `(tactic| walk_at "g") => `(tactic| ((with_reducible show KSf _ _ _ _ _ _); refine rd_ksf (by assumption) (by walk_at "c") (by walk_at "n") (by simp) ?_))
local macro_rules | `(tactic| walk_at "w") => `(tactic| repeat (first | walk_at "v" | walk_at "s1" | walk_at "f" | walk_at "s2" | walk_at "s3"))
/-! ### the network is made -/
def rep0 (p : Int) : Rep := ⟨p, 0, if p = 0 then 1 else 0, [], [(0, 0)], [], []⟩
/-- replicas laid anew since H0 -/
structure RP (P : Program) (w : World) (K : PySem.W.Frag) (H0 H : Hp) (D : Addr) (As : List RAd) : Prop where
  r : ∀ (i : Nat) A, As[i]? = some A → RepT P w K H A (rep0 i)
  f : ∀ A ∈ As, ∀ b ∈ A.own, H0 b = none ∧ b ≠ D
  d : ∀ (i j : Nat) A B b, As[i]? = some A → As[j]? = some B → b ∈ A.own → b ∈ B.own → i = j
structure CP (K : PySem.W.Frag) (H0 H : Hp) (cs : List (Nm × (Addr × Addr))) : Prop where
  c : ∀ p ∈ cs, ChA K H p.2.1 p.2.2 []
  f : ∀ p ∈ cs, ∀ b ∈ [p.2.1, p.2.2], H0 b = none
  d : ∀ (i j : Nat) p q b, cs[i]? = some p → cs[j]? = some q → b ∈ [p.2.1, p.2.2] → b ∈ [q.2.1, q.2.2] → i = j
theorem none_upd {H : Hp} {x y b : Addr} {u v : HO} (h : upd (upd H y v) x u b = none) : H b = none := by
  have e1 : b ≠ x := fun z => by rw [z, upd_same] at h; cases h
  rw [upd_ne e1] at h
  have e2 : b ≠ y := fun z => by rw [z, upd_same] at h; cases h
  rwa [upd_ne e2] at h
theorem get_snoc {α : Type} {l : List α} {a b : α} {i : Nat} (h : (l ++ [a])[i]? = some b) : (i < l.length ∧ l[i]? = some b) ∨ (i = l.length ∧ b = a) := by
  rcases Nat.lt_or_ge i l.length with z | z
  · rw [List.getElem?_append_left z] at h
    exact .inl ⟨z, h⟩
  · rw [List.getElem?_append_right z] at h
    cases e : i - l.length with
    | zero => rw [e] at h; simp at h; exact .inr ⟨by omega, h.symm⟩
    | succ k => rw [e] at h; simp at h
theorem BestC.nil' {T : Ch → Prop} (h : ∀ c, ¬ T c) : BestC [] T := ⟨by simp, fun k ce h => (by cases h), fun _ _ c hc => (h c hc).elim⟩
section
variable {P : Program} {w : World} {K : PySem.W.Frag} {mg : Str → Option Value} {base : Heap}
theorem si0 {n : Nat} (hn : 2 ≤ n ∧ n ≤ 4) {ch : List (Nm × List (List Int))} (hc : ∀ q ∈ ch, q.2 = []) : SysI n 0 [] [(0, 0)] [] ⟨(List.range n).map fun i => rep0 ((i : Nat) : Int), ch⟩ := by
  refine ⟨by simp, hn, fun i r hr => ?_, by simp, by simp, by simp, by simp, fun m hm => ?_, by simp, by simp, by simp, fun k l h => (by cases h), fun q hq => ?_⟩
  · have hr : ((List.range n).map fun i => rep0 ((i : Nat) : Int))[i]? = some r := hr
    rw [List.getElem?_map] at hr
    cases e : (List.range n)[i]? with
    | none => rw [e] at hr; cases hr
    | some j =>
      rw [e] at hr
      have hi : i < n := by have := (List.getElem?_eq_some_iff.mp e).1; simpa using this
      rw [List.getElem?_range hi] at e
      cases e
      cases hr
      have tk : ∀ c, ¬ c ∈ taken (rep0 (i : Int)) := fun c h => by
        rcases mem_taken.mp h with h | ⟨p, hp, _⟩
        · cases h
        · cases hp
      refine ⟨rfl, BestC.nil' tk, fun c hc => (tk c hc).elim, ⟨Int.le_refl _, Int.le_refl _⟩, fun c hc => (tk c hc).elim, fun c hc => (by cases hc), by simp [keysR, rep0], fun k l h => (by cases h), fun m l h => (by cases h), ⟨?_, fun m => ?_⟩, ⟨by simp [rep0], by simp [rep0]⟩, Nat.le_refl _⟩
      · show 0 ≤ (if (i : Int) = 0 then (1 : Int) else 0)
        split <;> omega
      · show _ ↔ 0 ≤ m ∧ m < (if (i : Int) = 0 then (1 : Int) else 0)
        rw [List.mem_singleton]
        constructor
        · intro h
          have h1 := congrArg (·.1) h
          have h2 := congrArg (·.2) h
          have h1 : (i : Int) = 0 := h1
          have h2 : m = 0 := h2
          rw [if_pos h1]
          omega
        · intro h
          split at h
          · rename_i e
            exact Prod.ext e (by show m = 0; omega)
          · omega
  · rw [List.mem_singleton.mp hm]
    refine ⟨?_, ?_, ?_, ?_⟩ <;> simp <;> omega
  · rw [hc q hq]
    simp
abbrev sp_Network_init (P : Program) (w : World) (K : PySem.W.Frag) : Sp := fun vs H Q _ => ∃ (a dx : Addr) (n : Nat), vs = [.ref a, .int n] ∧ H a = some (.ins (He.ga K "Network") dx []) ∧ 2 ≤ n ∧ n ≤ 4 ∧
  ∀ N S H', N.nw = a → Kp [a] H H' → (∀ b, N.Own b → b = a ∨ H b = none) → Net P w K H' N S n 0 [] [(0, 0)] [] → Q .non H'
theorem ok_Network_init (T : TX P K mg) : Ok P w K mg base (CX0) 5 ("Network", some "__init__") p_Network_init (sp_Network_init P w K) := by
  refine T.ok 57 (d := d_Network_init) rfl rfl rfl sc_Network_init (fun _ _ _ _ _ _ us hl => match us, hl with | [_, _], _ => rfl) (fun vs H Q E h => ?_) fun cdv Ar outer sh H vs Q E hr h => ?_
  · obtain ⟨a, dx, n, rfl, _⟩ := h; rfl
  · obtain ⟨a, dx, n, rfl, ho, hn2, hn4, q⟩ := h
    obtain ⟨hu, hu1, hu65⟩ := rm_of hr
    refine ⟨_, PSs.nox (pss_cons (ps_fld (pv 0) (pe_frz (pe_lcW (own := [("peer", 4)]) sh rfl sc_Network_init.nd (pi_range1 (by rfl) T.f_range (pa_cons (pv 1) pa_nil)) (blkOk_by (own := [("peer", 4)]) (N := n_Network_init) (sc := defScope s_Network_init) (by decide +kernel)) (pg_name (i := 4) sc_Network_init.nd rfl (Or.inl rfl)) pts_nil (pe_mk' T.k_Replica (ok_Replica_init T) T.g_Replica (hr.mono (by decide)) pass0 (pa_cons (pv 4) pa_nil)) (fun _ _ _ _ _ => (pg_name (i := 4) sc_Network_init.nd rfl (Or.inl rfl))) (fun _ _ _ _ _ => pts_nil) (fun _ _ _ _ _ => (pe_mk' T.k_Replica (ok_Replica_init T) T.g_Replica (hr.mono (by decide)) pass0 (pa_cons (pv 4) pa_nil))))) rfl)
      (pss_cons (ps_fld (pv 0) pe_dnewN rfl)
      (pss_one (ps_for PassesOwn.never rfl (pi_range1 (by rfl) T.f_range (pa_cons (pv 1) pa_nil)) (pg_name (i := 2) sc_Network_init.nd rfl (Or.inl rfl))
      (pss_one (ps_for PassesOwn.never rfl (pi_range1 (by rfl) T.f_range (pa_cons (pv 1) pa_nil)) (pg_name (i := 3) sc_Network_init.nd rfl (Or.inl rfl))
      (pss_one (ps_if (pt_cmpR op_ne (pv 2) (pv 3) (nomark _))
      (pss_one (ps_asg (pe_mk0 T.k_Channel (ok_Channel_init T) T.g_Channel (hr.mono (by decide)) pass0) (pg_sub (pe_fld (pv 0) rfl) (pe_tup (pa_cons (pv 2) (pa_cons (pv 3) pa_nil))) (set_dn hu))))
      pss_nil)))))))), ?_⟩
    walk_at "w"
    refine rd_kir1 (by omega) (by omega) ?_
    intro D hD
    have nDa : D ≠ a := (ne_of_none ho hD).symm
    refine lc_it walk_range (fun i H' => Kp [] H H' ∧ ∃ As, H' D = some (.lst (refsA As)) ∧ As.length = i ∧ RP P w K H H' D As) ⟨Kp.new hD, [], upd_same, rfl, ⟨fun _ _ h => (by cases h), fun _ h => (by cases h), fun _ _ _ _ _ h => (by cases h)⟩⟩ (fun _ _ _ _ => trivial) ?_ ?_
    · rintro i _ _ H1 hi ⟨k1, As, e1, la, rp⟩ ⟨rfl, rfl⟩
      have hin : i < n := hi
      walk_at "w"
      refine ⟨rfl, ?_⟩
      walk_at "w"
      intro x dx1 nx ndx nxd
      refine ⟨x, dx1, 0 + (i : Int), rfl, upd_same, by omega, by omega, fun A H2 k2 ea ow R => ⟨rfl, ?_⟩⟩
      rw [Int.zero_add] at R
      subst ea
      have kx : Kp [] H1 H2 := ((((Kp.new ndx).wrn nx).nil (F := [A.a])).trans k2).weak fun b hb => .inr (by simp at hb; rw [hb]; exact nx)
      have ow1 : ∀ b ∈ A.own, H1 b = none := fun b hb => by
        rcases ow b hb with e | e
        · rw [e]; exact nx
        · exact none_upd e
      have e2 := kx.get e1 (by simp)
      have nbD : ∀ b ∈ A.own, b ≠ D := fun b hb z => by
        have := ow1 b hb
        rw [z, e1] at this
        cases this
      have kw : Kp [D] H2 (upd H2 D (.lst (refsA As ++ [.ref A.a]))) := Kp.refl.wl e2 (by simp)
      have elen : (refsA As).length < 1000 := by show (As.map _).length < 1000; rw [List.length_map]; omega
      refine ⟨refsA As, e2, Nat.lt_of_lt_of_le elen (by decide), (k1.trans kx).wrn hD, As ++ [A], by rw [upd_same]; show _ = some (HO.lst ((As ++ [A]).map _)); rw [List.map_append]; rfl, by rw [List.length_append, la]; rfl, ⟨fun j B hB => ?_, fun B hB b hb => ?_, fun j j' B B' b hB hB' hb hb' => ?_⟩⟩
      · rcases get_snoc hB with ⟨_, h⟩ | ⟨rfl, rfl⟩
        · exact ((rp.r j B h).up0 kx).up kw fun b hb => by simpa using (rp.f B (List.mem_of_getElem? h) b hb).2
        · rw [la]
          exact R.up kw fun b hb => by simpa using nbD b hb
      · rcases List.mem_append.mp hB with h | h
        · exact rp.f B h b hb
        · rw [List.mem_singleton.mp h] at hb
          exact ⟨k1.none (ow1 b hb), nbD b hb⟩
      · rcases get_snoc hB with ⟨l1, h⟩ | ⟨l1, e⟩ <;> rcases get_snoc hB' with ⟨l2, h'⟩ | ⟨l2, e'⟩
        · exact rp.d j j' B B' b h h' hb hb'
        · rw [e'] at hb'
          exact ((rp.r j B h).al hb (ow1 b hb')).elim
        · rw [e] at hb
          exact ((rp.r j' B' h').al hb' (ow1 b hb)).elim
        · omega
    rintro H1 ⟨k1, As, e1, la, rp⟩
    rw [Int.toNat_natCast] at la
    refine ⟨D, _, e1, trivial, fun o => ?_⟩
    have kD : Kp [D] H1 (upd H1 D (.frz o (.lst (refsA As)))) := Kp.wr (by rw [e1]; trivial) (by simp)
    have k2 : Kp [] H (upd H1 D (.frz o (.lst (refsA As)))) := k1.wrn hD
    have f2 : Fz (upd H1 D (.frz o (.lst (refsA As)))) (.ref D) (refsA As) := Fz.new
    have rp2 : RP P w K H (upd H1 D (.frz o (.lst (refsA As)))) D As := ⟨fun i A hA => (rp.r i A hA).up kD fun b hb => by simpa using (rp.f A (List.mem_of_getElem? hA) b hb).2, rp.f, rp.d⟩
    generalize upd H1 D (.frz o (.lst (refsA As))) = H2 at k2 f2 rp2 ⊢
    have ho2 := k2.get ho (by simp)
    have nAa : ∀ A ∈ As, ∀ b ∈ A.own, b ≠ a := fun A hA b hb z => by
      have := (rp2.f A hA b hb).1
      rw [z, ho] at this
      cases this
    walk_at "w"
    refine rd_ksf' (fs := []) ho2 (TX.c_Network T) (TX.n_Network_replicas T) (by simp) fun H3 ho3 k3 => ?_
    walk_at "w"
    refine rd_newN fun d H4 nd4 k4 dm => ?_
    walk_at "w"
    have ho4 := k4.get ho3 (by simp)
    have nda : d ≠ a := (ne_of_none ho3 nd4).symm
    refine rd_ksf' (fs := [("replicas", .ref D)]) ho4 (TX.c_Network T) (TX.n_Network_channels T) (by simp) fun H5 ho5 k5 => ?_
    have ho5 : H5 a = some (.ins (He.ga K "Network") dx [("replicas", .ref D), ("channels", .ref d)]) := ho5
    have k35 : Kp [a] H2 H5 := k3.trans (k4.nil.trans k5)
    have k05 : Kp [a] H H5 := k2.nil.trans k35
    have rp5 : ∀ (i : Nat) A, As[i]? = some A → RepT P w K H5 A (rep0 i) := fun i A hA => (rp2.r i A hA).up k35 fun b hb => by simpa using nAa A (List.mem_of_getElem? hA) b hb
    have f5 := f2.up k35
    have dm5 : DV P w K pD Rad H5 d (([] : List (Nm × (Addr × Addr))).map fun p => (p.1, p.2.1)) := (DV.new dm).up st_ad k5 (by simpa using nda)
    have ndH : H d = none := by
      cases e : H d with
      | none => rfl
      | some u =>
        have := (k2.nil.trans k3).get (F := [a]) e (by simpa using nda)
        rw [nd4] at this
        cases this
    have nAd : ∀ A ∈ As, ∀ b ∈ A.own, b ≠ d := fun A hA b hb z => by
      obtain ⟨i, hi⟩ := List.mem_iff_getElem?.mp hA
      have := ((rp2.r i A hi).up k3 fun b hb => by simpa using nAa A hA b hb).al hb
      rw [z] at this
      exact this nd4
    walk_at "w"
    refine rd_kir1 (by omega) (by omega) ?_
    refine for_it walk_range (fun i σ H' => ∃ (x y : Option V) (cs : List (Nm × (Addr × Addr))), σ = [some (.ref a), some (.int n), x, y, none] ∧ Kp [d] H5 H' ∧ CP K H5 H' cs ∧ DV P w K pD Rad H' d (cs.map fun p => (p.1, p.2.1)) ∧ (cs.map (·.1)).Nodup ∧ (∀ k : Nm, k ∈ cs.map (·.1) ↔ 0 ≤ k.1 ∧ k.1 < i ∧ 0 ≤ k.2 ∧ k.2 < n ∧ k.1 ≠ k.2) ∧ cs.length ≤ 4 * i)
      ⟨_, _, [], rfl, Kp.refl, ⟨fun _ h => (by cases h), fun _ h => (by cases h), fun _ _ _ _ _ h => (by cases h)⟩, dm5, by simp, fun k => by simp; omega, by simp⟩ (fun _ _ _ _ _ => trivial) ?_ ?_
    · rintro i _ σ _ H6 hi ⟨x, y, cs, rfl, k6, cp, dv, nd, mem, lc⟩ ⟨rfl, rfl⟩
      have hin : i < n := hi
      walk_at "w"
      refine rd_kir1 (by omega) (by omega) ?_
      refine for_it walk_range (fun j σ H' => ∃ (y : Option V) (cs : List (Nm × (Addr × Addr))), σ = [some (.ref a), some (.int n), some (.int (i : Int)), y, none] ∧ Kp [d] H5 H' ∧ CP K H5 H' cs ∧ DV P w K pD Rad H' d (cs.map fun p => (p.1, p.2.1)) ∧ (cs.map (·.1)).Nodup ∧ (∀ k : Nm, k ∈ cs.map (·.1) ↔ 0 ≤ k.1 ∧ (k.1 < i ∨ (k.1 = i ∧ k.2 < j)) ∧ 0 ≤ k.2 ∧ k.2 < n ∧ k.1 ≠ k.2) ∧ cs.length ≤ 4 * i + j)
        ⟨_, cs, by rw [← Int.zero_add (i : Int)]; rfl, k6, cp, dv, nd, fun k => by rw [mem k]; omega, by omega⟩ (fun _ _ _ _ _ => trivial) ?_ ?_
      · rintro j _ σ _ H7 hj ⟨y, cs, rfl, k7, cp, dv, nd, mem, lc⟩ ⟨rfl, rfl⟩
        have hjn : j < n := hj
        have ho7 := k7.get ho5 (by simpa using nda.symm)
        walk_at "w"
        refine rd_if (fun hb => ?_) fun hb => ?_
        · have hij : (i : Int) ≠ j := by simpa using hb
          walk_at "w"
          intro x dx1 nx ndx nxd
          refine ⟨x, dx1, rfl, upd_same, fun u H8 hu k8 C8 => ⟨rfl, ?_⟩⟩
          have kx : Kp [] H7 H8 := ((((Kp.new ndx).wrn nx).nil (F := [x])).trans k8).weak fun b hb => .inr (by simp at hb; rw [hb]; exact nx)
          have hu7 : H7 u = none := none_upd hu
          have ho8 := kx.get ho7 (by simp)
          walk_at "w"
          refine rd_ktup (K := K) (ks := [.num (i : Int), .num (0 + (j : Int))]) (.cons (.num _) (.cons (.num _) .nil)) (by simp) fun v H9 k9 iv => ?_
          rw [Int.zero_add] at iv
          have k79 := kx.trans k9
          have hnk : aget (cs.map fun p => (p.1, p.2.1)) ((i : Int), (j : Int)) = none := by
            cases e : aget (cs.map fun p => (p.1, p.2.1)) ((i : Int), (j : Int)) with
            | none => rfl
            | some z =>
              have h := aget_isSome.mp (by rw [e]; rfl)
              rw [List.map_map] at h
              have h2 : (i : Int) < i ∨ ((i : Int) = i ∧ (j : Int) < j) := ((mem _).mp h).2.1
              omega
          refine rd_setV st_ad (dv.up st_ad k79 (by simp)) kF_p (k := ((i : Int), (j : Int))) (A := x) iv rfl (by rw [List.length_map]; omega) fun H10 k10 dv10 => ?_
          have hdx : H7 d ≠ none := by
            obtain ⟨φ, e⟩ := dv.ext
            rw [e]
            simp
          have nxd : x ≠ d := fun z => hdx (by rw [← z]; exact nx)
          have nud : u ≠ d := fun z => hdx (by rw [← z]; exact hu7)
          have k710 : Kp [d] H7 H10 := k79.nil.trans k10
          have nd5 : ∀ b, H7 b = none → H5 b = none := fun b hb => by
            cases e : H5 b with
            | none => rfl
            | some z =>
              by_cases eb : b = d
              · rw [eb] at hb; exact (hdx hb).elim
              · rw [k7.get e (by simpa using eb)] at hb; cases hb
          have hcd : ∀ p ∈ cs, ∀ b ∈ [p.2.1, p.2.2], b ≠ d ∧ H7 b ≠ none := fun p hp b hb => by
            obtain ⟨dy, ys, h1, h2, _⟩ := cp.c p hp
            obtain ⟨φ, ed⟩ := dv.ext
            simp only [List.mem_cons, List.not_mem_nil, or_false] at hb
            rcases hb with rfl | rfl
            · exact ⟨fun z => (by rw [z, ed] at h1; cases h1), by rw [h1]; simp⟩
            · exact ⟨fun z => (by rw [z, ed] at h2; cases h2), by rw [h2]; simp⟩
          refine ⟨_, cs ++ [(((i : Int), (j : Int)), (x, u))], rfl, k7.trans k710, ⟨fun p hp => ?_, fun p hp b hb => ?_, fun l l' p p' b hp hp' hb hb' => ?_⟩, ?_, ?_, fun k => ?_, by rw [List.length_append]; simp; omega⟩
          · rcases List.mem_append.mp hp with h | h
            · exact (cp.c p h).up k710 (by simpa using (hcd p h _ (by simp)).1) (by simpa using (hcd p h _ (by simp)).1)
            · rw [List.mem_singleton.mp h]
              exact (C8.up k9 (by simp) (by simp)).up k10 (by simpa using nxd) (by simpa using nud)
          · rcases List.mem_append.mp hp with h | h
            · exact cp.f p h b hb
            · rw [List.mem_singleton.mp h] at hb
              simp only [List.mem_cons, List.not_mem_nil, or_false] at hb
              rcases hb with rfl | rfl
              · exact nd5 _ nx
              · exact nd5 _ hu7
          · have fr : ∀ b ∈ [x, u], H7 b = none := fun b hb => by
              simp only [List.mem_cons, List.not_mem_nil, or_false] at hb
              rcases hb with rfl | rfl
              · exact nx
              · exact hu7
            rcases get_snoc hp with ⟨l1, h⟩ | ⟨l1, e⟩ <;> rcases get_snoc hp' with ⟨l2, h'⟩ | ⟨l2, e'⟩
            · exact cp.d l l' p p' b h h' hb hb'
            · rw [e'] at hb'
              exact ((hcd p (List.mem_of_getElem? h) b hb).2 (fr b hb')).elim
            · rw [e] at hb
              exact ((hcd p' (List.mem_of_getElem? h') b hb').2 (fr b hb)).elim
            · omega
          · rw [aput_new hnk] at dv10
            rw [List.map_append]
            exact dv10
          · rw [List.map_append, List.nodup_append]
            refine ⟨nd, by simp, fun k hk k' hk' e => ?_⟩
            simp at hk'
            rw [e, hk'] at hk
            have h2 : (i : Int) < i ∨ ((i : Int) = i ∧ (j : Int) < j) := ((mem _).mp hk).2.1
            omega
          · rw [List.map_append, List.mem_append, mem k]
            show _ ∨ k ∈ [((i : Int), (j : Int))] ↔ _
            rw [List.mem_singleton]
            constructor
            · rintro (h | rfl)
              · exact ⟨h.1, by omega, h.2.2⟩
              · exact ⟨by show (0 : Int) ≤ i; omega, .inr ⟨rfl, by show (j : Int) < ((j + 1 : Nat) : Int); omega⟩, by show (0 : Int) ≤ j; omega, by show (j : Int) < n; omega, hij⟩
            · rintro ⟨h1, h2, h3, h4, h5⟩
              by_cases e : k.1 = (i : Int) ∧ k.2 = (j : Int)
              · exact .inr (Prod.ext e.1 e.2)
              · exact .inl ⟨h1, by omega, h3, h4, h5⟩
        · have hij : (i : Int) = j := by simpa using hb
          walk_at "w"
          refine ⟨_, cs, rfl, k7, cp, dv, nd, fun k => ?_, by omega⟩
          rw [mem k]
          constructor
          · rintro ⟨h1, h2, h3⟩
            exact ⟨h1, by omega, h3⟩
          · rintro ⟨h1, h2, h3, h4, h5⟩
            exact ⟨h1, by omega, h3, h4, h5⟩
      · rintro σ H7 ⟨y, cs, rfl, k7, cp, dv, nd, mem, lc⟩
        rw [Int.toNat_natCast] at mem lc
        refine ⟨_, y, cs, rfl, k7, cp, dv, nd, fun k => ?_, by omega⟩
        rw [mem k]
        omega
    · rintro σ H6 ⟨x, y, cs, rfl, k6, cp, dv, nd, mem, lc⟩
      rw [Int.toNat_natCast] at mem
      walk_at "w"
      have kd : Kp [a] H H6 := ((k05.mono (G := [a, d]) (by simp)).trans (k6.mono (by simp))).weak fun b hb => by
        simp at hb
        rcases hb with rfl | rfl
        · exact .inl (by simp)
        · exact .inr ndH
      have hd5 : H5 d ≠ none := by
        obtain ⟨φ, e⟩ := dm5.ext
        rw [e]
        simp
      have ha5 : H5 a ≠ none := by rw [ho5]; simp
      refine q ⟨a, D, d, As, cs⟩ ⟨(List.range n).map fun i => rep0 ((i : Nat) : Int), cs.map fun p => (p.1, [])⟩ H6 rfl kd (fun b ⟨x, hx⟩ => ?_) ⟨⟨⟨dx, k6.get ho5 (by simpa using nda.symm)⟩, f5.up k6, by simp [la], fun i A hA => ?_, dv, by simp, fun j p hp => ?_, fun x y b hx hy => ?_⟩, si0 ⟨hn2, hn4⟩ (fun q hq => ?_), ⟨nd, fun k => by rw [mem k]⟩⟩
      · cases x with
        | net =>
          simp only [NAd.own, List.mem_cons, List.not_mem_nil, or_false] at hx
          rcases hx with rfl | rfl
          · exact .inl rfl
          · exact .inr ndH
        | rep i =>
          cases hA : As[i]? with
          | none => rw [own_rep0 hA] at hx; cases hx
          | some A => rw [own_rep hA] at hx; exact .inr (rp2.f A (List.mem_of_getElem? hA) b hx).1
        | chn j =>
          cases hp : cs[j]? with
          | none => rw [own_chn0 hp] at hx; cases hx
          | some p =>
            rw [own_chn hp] at hx
            have := cp.f p (List.mem_of_getElem? hp) b hx
            exact .inr (kp_none k05 this (by simpa using fun z => ha5 (by rw [← z]; exact this)))
      · have hA : As[i]? = some A := hA
        have hin : i < n := by rw [← la]; exact (List.getElem?_eq_some_iff.mp hA).1
        exact ⟨rep0 (i : Int), by show ((List.range n).map _)[i]? = _; rw [List.getElem?_map, List.getElem?_range hin]; rfl, (rp5 i A hA).up k6 fun b hb => by simpa using nAd A (List.mem_of_getElem? hA) b hb⟩
      · have hp : cs[j]? = some p := hp
        exact ⟨(p.1, []), by show (cs.map _)[j]? = _; rw [List.getElem?_map, hp]; rfl, rfl, cp.c p (List.mem_of_getElem? hp)⟩
      · have nr : ∀ i, b ∈ (⟨a, D, d, As, cs⟩ : NAd).own (.rep i) → ∃ A, As[i]? = some A ∧ b ∈ A.own ∧ b ≠ a ∧ b ≠ d ∧ H5 b ≠ none := fun i h => by
          cases hA : As[i]? with
          | none => rw [own_rep0 hA] at h; cases h
          | some A =>
            rw [own_rep hA] at h
            have hm := List.mem_of_getElem? hA
            exact ⟨A, rfl, h, nAa A hm b h, nAd A hm b h, (rp5 i A hA).al h⟩
        have nc : ∀ j, b ∈ (⟨a, D, d, As, cs⟩ : NAd).own (.chn j) → ∃ p, cs[j]? = some p ∧ b ∈ [p.2.1, p.2.2] ∧ H5 b = none := fun j h => by
          cases hp : cs[j]? with
          | none => rw [own_chn0 hp] at h; cases h
          | some p =>
            rw [own_chn hp] at h
            exact ⟨p, rfl, h, cp.f p (List.mem_of_getElem? hp) b h⟩
        have nn : b ∈ (⟨a, D, d, As, cs⟩ : NAd).own .net → b = a ∨ b = d := fun h => by simpa [NAd.own] using h
        cases x with
        | net =>
          have hx := nn hx
          cases y with
          | net => rfl
          | rep i =>
            obtain ⟨A, _, _, h1, h2, _⟩ := nr i hy
            exact (hx.elim h1 h2).elim
          | chn j =>
            obtain ⟨p, _, _, h⟩ := nc j hy
            rcases hx with rfl | rfl
            · exact (ha5 h).elim
            · exact (hd5 h).elim
        | rep i =>
          obtain ⟨A, hA, hb, h1, h2, h3⟩ := nr i hx
          cases y with
          | net => exact ((nn hy).elim h1 h2).elim
          | rep j =>
            obtain ⟨B, hB, hb', _⟩ := nr j hy
            rw [rp2.d i j A B b hA hB hb hb']
          | chn j =>
            obtain ⟨p, _, _, h⟩ := nc j hy
            exact (h3 h).elim
        | chn i =>
          obtain ⟨p, hp, hb, h⟩ := nc i hx
          cases y with
          | net =>
            rcases nn hy with rfl | rfl
            · exact (ha5 h).elim
            · exact (hd5 h).elim
          | rep j =>
            obtain ⟨B, _, _, _, _, h3⟩ := nr j hy
            exact (h3 h).elim
          | chn j =>
            obtain ⟨p', hp', hb', _⟩ := nc j hy
            rw [cp.d i j p p' b hp hp' hb hb']
      · have hq : q ∈ cs.map fun p => (p.1, ([] : List (List Int))) := hq
        obtain ⟨p, _, rfl⟩ := List.mem_map.mp hq
        rfl
end
end GT
set_option maxHeartbeats 2000000
namespace GT
open PySem PySem.Spec PyProof.Rows L2
local macro_rules | `(tactic| walk_at "v") => `(tactic| ((with_reducible show tVar _ _ _ _); refine rd_var rfl ?_))
local macro_rules | `(tactic| walk_at "s1") => `(tactic| with_reducible first | refine rd_cons ?_ | refine rd_nil ?_ | refine rd_c ?_ | refine rd_op ?_ | refine rd_seq ?_ | refine rd_fld ?_ | refine rd_asg ?_ | refine rd_gname ?_ | refine rd_I0 ?_ | refine rd_cb ?_ | refine rd_next ?_ | refine rd_drop ?_ | refine rd_ret ?_ | refine rd_mf ?_ | refine rd_cf ?_ | refine rd_ifS ?_ | refine rd_test ?_ | refine rd_kt ?_)
local macro_rules | `(tactic| walk_at "s2") => `(tactic| with_reducible first | refine rd_tup ?_ | refine rd_lst ?_ | refine rd_bm ?_ | refine rd_gcons ?_ | refine rd_gnil ?_ | refine rd_gsub ?_ | refine rd_dm ?_ | refine rd_sfld ?_ | refine rd_fa ?_ | refine rd_frz ?_ | refine rd_nf ?_ | refine rd_retN ?_ | refine rd_cont ?_ | refine rd_par ?_ | refine rd_un ?_ | refine rd_and ?_ | refine rd_or ?_ | refine rd_not ?_ | refine rd_tru ?_ | refine rd_B ?_ | refine rd_chain ?_ | refine rd_sl ?_ | refine rd_nopart ?_ | refine rd_part ?_ | refine rd_kpart ?_)
local macro_rules | `(tactic| walk_at "s3") => `(tactic| with_reducible first | refine rd_U ?_ | refine rd_eqi ?_ | refine rd_nei ?_ | refine rd_eqs ?_ | refine rd_nes ?_ | refine rd_isN ?_ | refine rd_notN ?_ | refine rd_max2 ?_ | refine rd_min2 ?_ | refine rd_int1 ?_ | refine rd_intb ?_ | refine rd_kbmS ?_ | refine rd_il ?_ | refine rd_it ?_ | refine rd_ir1 ?_ | refine rd_ir2 ?_ | refine rd_in ?_ | refine rd_for ?_ | refine rd_lc ?_ | refine rd_yes ?_ | refine rd_tt ?_ | refine rd_ff ?_ | refine rd_listRg ?_ | refine rd_andV ?_ | refine rd_orV ?_ | refine rd_notV ?_ | refine rd_ex ?_)
local macro_rules | `(tactic| walk_at "c") => `(tactic| first | exact TX.c_Channel (by assumption) | exact TX.c_State (by assumption) | exact TX.c_Message (by assumption) | exact TX.c_Replica (by assumption) | exact TX.c_Network (by assumption))
local macro_rules | `(tactic| walk_at "n") => `(tactic| first | exact TX.n_Channel_under_way (by assumption) | exact TX.n_State_cells (by assumption) | exact TX.n_Message_octets (by assumption) | exact TX.n_Message_place (by assumption) | exact TX.n_Message_known (by assumption) | exact TX.n_Replica_peer (by assumption) | exact TX.n_Replica_clock (by assumption) | exact TX.n_Replica_made (by assumption) | exact TX.n_Replica_state (by assumption) | exact TX.n_Replica_roots (by assumption) | exact TX.n_Replica_pending (by assumption) | exact TX.n_Replica_messages (by assumption) | exact TX.n_Network_replicas (by assumption) | exact TX.n_Network_channels (by assumption))
local macro_rules | `(tactic| walk_at "f") => `(tactic| ((with_reducible show KFld _ _ _ _ _); refine rd_kfld (by assumption) (by walk_at "c") (by walk_at "n") rfl ?_))
local macro_rules | `(tactic| walk_at "g") => `(tactic| ((with_reducible show KSf _ _ _ _ _ _); refine rd_ksf (by assumption) (by walk_at "c") (by walk_at "n") (by simp) ?_))
local macro_rules | `(tactic| walk_at "w") => `(tactic| repeat (first | walk_at "v" | walk_at "s1" | walk_at "f" | walk_at "s2" | walk_at "s3"))
/-! ### the law's draws -/
def BoxT (H : Hp) (b : Addr) : Prop := ∃ (r : Addr) (row : List Int) (k : Nat), H b = some (.lst [.ref r, .int k]) ∧ Fz H (.ref r) (row.map V.int)
theorem BoxT.up {F : List Addr} {H H' : Hp} {b : Addr} (h : BoxT H b) (k : Kp F H H') (n : b ∉ F) : BoxT H' b := let ⟨r, row, i, e, f⟩ := h; ⟨r, row, i, k.get e n, f.up k⟩
section
variable {P : Program} {w : World} {K : PySem.W.Frag} {mg : Str → Option Value} {base : Heap}
abbrev sp__law_cell (P : Program) (w : World) (K : PySem.W.Frag) : Sp := fun vs H Q _ => ∃ (l : Addr) (ns : List Int) (k : Nat), vs = [.ref l, .int k] ∧ SqL K H l (ns.map V.int) ∧ ∀ c, Q (.int c) H
theorem ok__law_cell (T : TX P K mg) : Ok P w K mg base (CX0) 1 ("_law_cell", none) p__law_cell (sp__law_cell P w K) := by
  refine T.ok 61 (d := d__law_cell) rfl rfl rfl sc__law_cell (fun _ _ _ _ _ _ us hl => match us, hl with | [_, _], _ => rfl) (fun vs H Q E h => ?_) fun cdv Ar outer sh H vs Q E hr h => ?_
  · obtain ⟨l, ns, k, rfl, _⟩ := h; rfl
  · obtain ⟨l, ns, k, rfl, sq, q⟩ := h
    obtain ⟨hu, hu1, hu65⟩ := rm_of hr
    refine ⟨_, PSs.nox (pss_cons (ps_if (pt_cmpR op_lt (pv 1) (pe_callB call_lenQ (by rfl) T.f_len (by decide +kernel) (pa_cons (pv 0) pa_nil)) (nomark _))
      (pss_one (ps_ret (pe_ix ix_list (pv 0) (pv 1) (fun _ _ => rfl))))
      pss_nil)
      (pss_one (ps_ret pe_int))), ?_⟩
    walk_at "w"
    refine rd_lenL sq ?_
    walk_at "w"
    rw [List.length_map]
    refine rd_if (fun hb => ?_) fun hb => ?_
    · have hk : k < ns.length := by have := of_decide_eq_true hb; omega
      walk_at "w"
      exact rd_ixL sq (v := .int ns[k]) (atN (by omega) (by rw [Int.toNat_natCast, List.getElem?_map, List.getElem?_eq_getElem hk]; rfl)) (q _)
    · walk_at "w"
      exact q 0
abbrev sp__law_row (P : Program) (w : World) (K : PySem.W.Frag) : Sp := fun vs H Q _ => ∃ (c : Int) (k m : Nat), vs = [.int c, .int k, .int m] ∧ m ≤ 100 ∧ ∀ p (row : List Int) H', H p = none → Kp [] H H' → H' p = some (.lst (row.map V.int)) → row.length ≤ 100 → Q (.ref p) H'
theorem pow18 : ((10 : Int) ^ (18 : Int).toNat) = 1000000000000000000 := by decide +kernel
theorem ok__law_row (T : TX P K mg) : Ok P w K mg base (CX0) 1 ("_law_row", none) p__law_row (sp__law_row P w K) := by
  refine T.ok 62 (d := d__law_row) rfl rfl rfl sc__law_row (fun _ _ _ _ _ _ us hl => match us, hl with | [_, _, _], _ => rfl) (fun vs H Q E h => ?_) fun cdv Ar outer sh H vs Q E hr h => ?_
  · obtain ⟨c, k, m, rfl, _⟩ := h; rfl
  · obtain ⟨c, k, m, rfl, hm, q⟩ := h
    obtain ⟨hu, hu1, hu65⟩ := rm_of hr
    refine ⟨_, PSs.nox (pss_cons (ps_set (i := 3) sc__law_row.nd rfl (Or.inl rfl) (pe_lst pa_nil))
      (pss_cons (ps_if (pt_cmpR op_lt (pv 0) pe_int (nomark _))
      (pss_one (ps_set (i := 0) sc__law_row.nd rfl (Or.inl rfl) (pe_op op_sub pe_int (pe_op op_mul pe_int (pv 0)))))
      pss_nil)
      (pss_cons (ps_if (pt_cmpR op_ge (pv 0) (pe_op op_pow pe_int pe_int) (nomark _))
      (pss_cons (ps_for PassesOwn.never rfl (pi_range1 (by rfl) T.f_range (pa_cons pe_int pa_nil)) (pg_name (i := 4) sc__law_row.nd rfl (Or.inl rfl))
      (pss_one (ps_if (PW.pt (pw_and (pt_cmpR op_gt (pv 0) pe_int (nomark _)) (pw_and1 (pt_cmpR op_lt (pe_callB call_lenQ (by rfl) T.f_len (by decide +kernel) (pa_cons (pv 3) pa_nil)) (pv 2) (nomark _)))))
      (pss_cons (ps_expr (pe_bm PySem.F.plainAttrs_list PySem.F.slot_list_append PySem.F.type_list_append mt_append (pv 3) (pa_cons (pe_op op_mod (pe_callTy call_int1Q (by rfl) T.f_int (by decide +kernel) (pa_cons (pv 0) pa_nil)) pe_int) pa_nil)))
      (pss_one (ps_set (i := 0) sc__law_row.nd rfl (Or.inl rfl) (pe_op op_fdiv (pv 0) pe_int))))
      pss_nil)))
      (pss_one (ps_ret (pv 3))))
      pss_nil)
      (pss_cons (ps_set (i := 5) sc__law_row.nd rfl (Or.inl rfl) (pe_op op_mod (pe_callTy call_int1Q (by rfl) T.f_int (by decide +kernel) (pa_cons (pe_op op_add (pe_op op_add (pe_op op_mul (pv 0) pe_int) (pe_op op_mul (pv 1) pe_int)) pe_int) pa_nil)) pe_int))
      (pss_cons (ps_for PassesOwn.never rfl (pi_range1 (by rfl) T.f_range (pa_cons (pv 2) pa_nil)) (pg_name (i := 4) sc__law_row.nd rfl (Or.inl rfl))
      (pss_cons (ps_set (i := 5) sc__law_row.nd rfl (Or.inl rfl) (pe_op op_mod (pe_callTy call_int1Q (by rfl) T.f_int (by decide +kernel) (pa_cons (pe_op op_add (pe_op op_add (pe_op op_mul (pv 5) pe_int) (pe_op op_mul pe_int (pv 4))) pe_int) pa_nil)) pe_int))
      (pss_one (ps_expr (pe_bm PySem.F.plainAttrs_list PySem.F.slot_list_append PySem.F.type_list_append mt_append (pv 3) (pa_cons (pe_op op_mod (pe_callTy call_int1Q (by rfl) T.f_int (by decide +kernel) (pa_cons (pe_op op_fdiv (pv 5) pe_int) pa_nil)) pe_int) pa_nil))))))
      (pss_one (ps_ret (pv 3)))))))), ?_⟩
    walk_at "w"
    refine rd_klst (by simp) fun p H1 n1 k1 e1 => ?_
    walk_at "w"
    have fin : (∀ (row : List Int) H', Kp [] H H' → H' p = some (.lst (row.map V.int)) → row.length ≤ 100 → Q (.ref p) H') := fun row H' k e l => q p row H' n1 k e l
    refine rd_if (fun hb => ?_) fun hb => ?_
    walk_at "w"
    refine rd_I (c := CMul) (.inl (by omega)) ?_
    walk_at "w"
    generalize (1 - 2 * c) = c'
    rotate_left 1
    walk_at "w"
    generalize c = c'
    all_goals
      refine rd_I (c := CPow) ⟨by omega, by omega, by decide⟩ ?_
      walk_at "w"
      refine rd_if (fun hb => ?_) fun hb => ?_
      · walk_at "w"
        refine rd_kir1 (by omega) (by omega) ?_
        refine for_it walk_range (fun i σ H' => ∃ (z : Int) (x : Option V) (row : List Int), σ = [some (.int z), some (.int k), some (.int m), some (.ref p), x, none] ∧ Kp [] H H' ∧ H' p = some (.lst (row.map V.int)) ∧ row.length ≤ i) ⟨_, _, [], rfl, k1, e1, by simp⟩ (fun _ _ _ _ _ => trivial) ?_ ?_
        · rintro i _ σ _ H2 hi ⟨z, x, row, rfl, k2, e2, hl⟩ ⟨rfl, rfl⟩
          walk_at "w"
          refine rd_if (fun hb => ?_) fun hb => ?_
          · walk_at "w"
            refine rd_lenL (.inl (.inl e2)) ?_
            walk_at "w"
            refine rd_if (fun hb => ?_) fun hb => ?_
            · walk_at "w"
              refine rd_kbmL (.inl (.inl e2)) ?_
              walk_at "w"
              refine rd_I (show (0 : Int) < 1000 by decide) ?_
              walk_at "w"
              refine rd_append e2 (by rw [List.length_map]; have : i < 60 := hi; omega) ?_
              walk_at "w"
              refine rd_I (c := CDiv) ⟨by decide, by decide⟩ ?_
              refine ⟨z / 1000, _, row ++ [z % 1000], rfl, k2.wrn n1, by rw [List.map_append]; exact upd_same, by simp; omega⟩
            · walk_at "w"
              exact ⟨z, _, row, rfl, k2, e2, by omega⟩
          · walk_at "w"
            exact ⟨z, _, row, rfl, k2, e2, by omega⟩
        · rintro σ H2 ⟨z, x, row, rfl, k2, e2, hl⟩
          walk_at "w"
          exact fin row H2 k2 e2 (Nat.le_trans hl (by decide))
      · walk_at "w"
        refine rd_I (c := CMul) (.inr (by omega)) ?_
        walk_at "w"
        refine rd_I (c := CMul) (.inr (by omega)) ?_
        walk_at "w"
        refine rd_I (show (0 : Int) < 2147483647 by decide) ?_
        walk_at "w"
        refine rd_kir1 (by omega) (by omega) ?_
        refine for_it walk_range (fun i σ H' => ∃ (z : Int) (x : Option V) (row : List Int), σ = [some (.int c'), some (.int k), some (.int m), some (.ref p), x, some (.int z)] ∧ Kp [] H H' ∧ H' p = some (.lst (row.map V.int)) ∧ row.length ≤ i) ⟨_, _, [], rfl, k1, e1, by simp⟩ (fun _ _ _ _ _ => trivial) ?_ ?_
        · rintro i _ σ _ H2 hi ⟨z, x, row, rfl, k2, e2, hl⟩ ⟨rfl, rfl⟩
          walk_at "w"
          refine rd_I (c := CMul) (.inr (by omega)) ?_
          walk_at "w"
          refine rd_I (c := CMul) (.inl (by omega)) ?_
          walk_at "w"
          refine rd_I (show (0 : Int) < 2147483647 by decide) ?_
          walk_at "w"
          refine rd_kbmL (.inl (.inl e2)) ?_
          walk_at "w"
          refine rd_I (c := CDiv) ⟨by decide, by decide⟩ ?_
          walk_at "w"
          refine rd_I (show (0 : Int) < 1000 by decide) ?_
          walk_at "w"
          refine rd_append e2 (by rw [List.length_map]; have : i < (m : Int).toNat := hi; omega) ?_
          refine ⟨_, _, row ++ [_], rfl, k2.wrn n1, by rw [List.map_append]; exact upd_same, by simp; omega⟩
        · rintro σ H2 ⟨z, x, row, rfl, k2, e2, hl⟩
          walk_at "w"
          exact fin row H2 k2 e2 (by omega)
abbrev sp__law_box (P : Program) (w : World) (K : PySem.W.Frag) : Sp := fun vs H Q _ => ∃ (l : Addr) (ns : List Int) (m : Nat), vs = [.ref l, .int 0, .int m] ∧ SqL K H l (ns.map V.int) ∧ m ≤ 64 ∧ ∀ b H', H b = none → Kp [] H H' → BoxT H' b → Q (.ref b) H'
theorem ok__law_box (T : TX P K mg) : Ok P w K mg base (CX0) 2 ("_law_box", none) p__law_box (sp__law_box P w K) := by
  refine T.ok 63 (d := d__law_box) rfl rfl rfl sc__law_box (fun _ _ _ _ _ _ us hl => match us, hl with | [_, _, _], _ => rfl) (fun vs H Q E h => ?_) fun cdv Ar outer sh H vs Q E hr h => ?_
  · obtain ⟨l, ns, m, rfl, _⟩ := h; rfl
  · obtain ⟨l, ns, m, rfl, sq, hm, q⟩ := h
    obtain ⟨hu, hu1, hu65⟩ := rm_of hr
    refine ⟨_, PSs.nox (pss_cons (ps_set (i := 3) sc__law_box.nd rfl (Or.inl rfl) (pe_lst pa_nil))
      (pss_cons (ps_for PassesOwn.never rfl (pi_range2 (by rfl) T.f_range (pa_cons (pv 1) (pa_cons (pv 2) pa_nil))) (pg_name (i := 4) sc__law_box.nd rfl (Or.inl rfl))
      (pss_one (ps_set (i := 3) sc__law_box.nd rfl (Or.inl rfl) (pe_op op_catL (pe_frz (pv 3)) (pe_fn (ok__law_row T) T.g__law_row (hr.mono (by decide)) pass0 (pa_cons (pe_fn (ok__law_cell T) T.g__law_cell (hr.mono (by decide)) pass0 (pa_cons (pv 0) (pa_cons (pv 4) pa_nil))) (pa_cons (pv 4) (pa_cons pe_int pa_nil))))))))
      (pss_one (ps_ret (pe_lst (pa_cons (pe_frz (pv 3)) (pa_cons pe_int pa_nil))))))), ?_⟩
    walk_at "w"
    refine rd_klst (by simp) fun p H1 n1 k1 e1 => ?_
    walk_at "w"
    refine rd_kir2 (by omega) (by omega) (by omega) ?_
    refine for_it walk_range (fun i σ H' => ∃ (p : Addr) (x : Option V) (row : List Int), σ = [some (.ref l), some (.int 0), some (.int m), some (.ref p), x] ∧ Kp [] H H' ∧ H p = none ∧ H' p = some (.lst (row.map V.int)) ∧ row.length ≤ 100 * i) ⟨p, none, [], rfl, k1, n1, e1, by simp⟩ (fun _ _ _ _ _ => trivial) ?_ ?_
    · rintro i _ σ _ H2 hi ⟨p, x, row, rfl, k2, np, e2, hl⟩ ⟨rfl, rfl⟩
      have hi64 : i < 64 := by have : i < ((m : Int) - 0).toNat := hi; omega
      walk_at "w"
      refine ⟨p, _, e2, trivial, fun o => ?_⟩
      have k3 : Kp [] H (upd H2 p (.frz o (.lst (row.map V.int)))) := k2.wrn np
      have f3 : Fz (upd H2 p (.frz o (.lst (row.map V.int)))) (.ref p) (row.map V.int) := Fz.new
      generalize upd H2 p (.frz o (.lst (row.map V.int))) = H3 at k3 f3 ⊢
      walk_at "w"
      refine ⟨l, ns, i, by show [V.ref l, V.int (0 + (i : Int))] = _; rw [Int.zero_add], sql_kp k3 (by simp) sq, fun c => ?_⟩
      walk_at "w"
      refine ⟨c, i, 12, by show [V.int c, V.int (0 + (i : Int)), V.int 12] = _; rw [Int.zero_add]; rfl, by omega, fun p4 row4 H4 n4 k4 e4 l4 => ?_⟩
      obtain ⟨a, oa, ea, f4⟩ := f3.up k4
      cases ea
      refine rd_cat (.inr ⟨oa, f4⟩) (.inl e4) (by rw [List.length_map, List.length_map]; omega) fun p5 H5 n5 k5 e5 => ?_
      walk_at "w"
      exact ⟨p5, _, row ++ row4, rfl, (k3.trans k4).trans k5, k3.none (k4.none n5), by rw [e5, List.map_append], by rw [List.length_append]; omega⟩
    · rintro σ H2 ⟨p, x, row, rfl, k2, np, e2, hl⟩
      walk_at "w"
      refine ⟨p, _, e2, trivial, fun o => ?_⟩
      have k3 : Kp [] H (upd H2 p (.frz o (.lst (row.map V.int)))) := k2.wrn np
      have f3 : Fz (upd H2 p (.frz o (.lst (row.map V.int)))) (.ref p) (row.map V.int) := Fz.new
      generalize upd H2 p (.frz o (.lst (row.map V.int))) = H3 at k3 f3 ⊢
      walk_at "w"
      refine rd_klst (by simp) fun b H4 n4 k4 e4 => ?_
      exact q b H4 (k3.none n4) (k3.trans k4) ⟨p, row, 0, e4, f3.up k4⟩
abbrev sp__law_draw (P : Program) (w : World) (K : PySem.W.Frag) : Sp := fun vs H Q _ => ∃ (b : Addr) (m : Int), vs = [.ref b, .int m] ∧ BoxT H b ∧ 0 < m ∧ ∀ x H', Kp [b] H H' → BoxT H' b → 0 ≤ x → x < m → Q (.int x) H'
theorem ok__law_draw (T : TX P K mg) : Ok P w K mg base (CX0) 1 ("_law_draw", none) p__law_draw (sp__law_draw P w K) := by
  refine T.ok 64 (d := d__law_draw) rfl rfl rfl sc__law_draw (fun _ _ _ _ _ _ us hl => match us, hl with | [_, _], _ => rfl) (fun vs H Q E h => ?_) fun cdv Ar outer sh H vs Q E hr h => ?_
  · obtain ⟨b, m, rfl, _⟩ := h; rfl
  · obtain ⟨b, m, rfl, ⟨r, row, k, e, fz⟩, hm, q⟩ := h
    obtain ⟨hu, hu1, hu65⟩ := rm_of hr
    refine ⟨_, PSs.nox (pss_cons (ps_set (i := 2) sc__law_draw.nd rfl (Or.inl rfl) (pe_ix ix_list (pv 0) pe_int (fun _ _ => rfl)))
      (pss_cons (ps_asg (pe_op op_add (pv 2) pe_int) (pg_sub (pv 0) pe_int set_list))
      (pss_cons (ps_if (pt_cmpR op_lt (pv 2) (pe_callB call_lenQ (by rfl) T.f_len (by decide +kernel) (pa_cons (pe_ix ix_list (pv 0) pe_int (fun _ _ => rfl)) pa_nil)) (nomark _))
      (pss_one (ps_ret (pe_op op_mod (pe_callTy call_int1Q (by rfl) T.f_int (by decide +kernel) (pa_cons (pe_ix ix_list (pe_ix ix_list (pv 0) pe_int (fun _ _ => rfl)) (pv 2) (fun _ _ => rfl)) pa_nil)) (pv 1))))
      pss_nil)
      (pss_one (ps_ret (pe_op op_mod (pe_callTy call_int1Q (by rfl) T.f_int (by decide +kernel) (pa_cons (pe_op op_add (pe_op op_mul (pv 2) pe_int) pe_int) pa_nil)) (pv 1))))))), ?_⟩
    walk_at "w"
    refine rd_ixL (.inl (.inl e)) (v := .int k) (by rfl) ?_
    walk_at "w"
    refine rd_setL (j := 1) e (by rfl) ?_
    have k1 : Kp [b] H (upd H b (.lst ([V.ref r, V.int k].set 1 (.int ((k : Int) + 1))))) := Kp.refl.wl e (by simp)
    have e1 : (upd H b (.lst ([V.ref r, V.int k].set 1 (.int ((k : Int) + 1))))) b = some (.lst [.ref r, .int ((k + 1 : Nat) : Int)]) := upd_same
    generalize upd H b (.lst ([V.ref r, V.int k].set 1 (.int ((k : Int) + 1)))) = H1 at k1 e1 ⊢
    have fz1 := fz.up k1
    have bx : BoxT H1 b := ⟨r, row, k + 1, e1, fz1⟩
    walk_at "w"
    refine rd_ixL (.inl (.inl e1)) (v := .ref r) (by rfl) ?_
    walk_at "w"
    refine rd_lenL (Fz.sq fz1) ?_
    walk_at "w"
    rw [List.length_map]
    refine rd_if (fun hb => ?_) fun hb => ?_
    · have hk : k < row.length := by have := of_decide_eq_true hb; omega
      walk_at "w"
      refine rd_ixL (.inl (.inl e1)) (v := .ref r) (by rfl) ?_
      walk_at "w"
      refine rd_ixL (Fz.sq fz1) (v := .int row[k]) (atN (by omega) (by rw [Int.toNat_natCast, List.getElem?_map, List.getElem?_eq_getElem hk]; rfl)) ?_
      walk_at "w"
      exact rd_I hm (q _ H1 k1 bx (Int.emod_nonneg _ (by omega)) (Int.emod_lt_of_pos _ hm))
    · walk_at "w"
      refine rd_I (c := CMul) (.inr (by omega)) ?_
      walk_at "w"
      exact rd_I hm (q _ H1 k1 bx (Int.emod_nonneg _ (by omega)) (Int.emod_lt_of_pos _ hm))
abbrev sp__law_pick (P : Program) (w : World) (K : PySem.W.Frag) : Sp := fun vs H Q _ => ∃ (b l : Addr) (xs : List V), vs = [.ref b, .ref l] ∧ BoxT H b ∧ SqL K H l xs ∧ xs ≠ [] ∧ l ≠ b ∧ ∀ v H', v ∈ xs → Kp [b] H H' → BoxT H' b → Q v H'
theorem ok__law_pick (T : TX P K mg) : Ok P w K mg base (CX0) 2 ("_law_pick", none) p__law_pick (sp__law_pick P w K) := by
  refine T.ok 65 (d := d__law_pick) rfl rfl rfl sc__law_pick (fun _ _ _ _ _ _ us hl => match us, hl with | [_, _], _ => rfl) (fun vs H Q E h => ?_) fun cdv Ar outer sh H vs Q E hr h => ?_
  · obtain ⟨b, l, xs, rfl, _⟩ := h; rfl
  · obtain ⟨b, l, xs, rfl, bx, sq, ne, nb, q⟩ := h
    obtain ⟨hu, hu1, hu65⟩ := rm_of hr
    refine ⟨_, PSs.nox (pss_one (ps_ret (pe_ix ix_list (pv 1) (pe_op op_mod (pe_callTy call_int1Q (by rfl) T.f_int (by decide +kernel) (pa_cons (pe_fn (ok__law_draw T) T.g__law_draw (hr.mono (by decide)) pass0 (pa_cons (pv 0) (pa_cons pe_int pa_nil))) pa_nil)) (pe_callB call_lenQ (by rfl) T.f_len (by decide +kernel) (pa_cons (pv 1) pa_nil))) (fun _ _ => rfl)))), ?_⟩
    walk_at "w"
    refine ⟨b, 900, rfl, bx, by decide, fun x H1 k1 bx1 x0 x1 => ?_⟩
    walk_at "w"
    have sq1 := sql_kp k1 (by simpa using nb) sq
    have hl : (0 : Int) < xs.length := by cases xs with
      | nil => exact (ne rfl).elim
      | cons a t => show (0 : Int) < (((a :: t).length : Nat) : Int); rw [List.length_cons]; omega
    refine rd_lenL sq1 ?_
    refine rd_I hl ?_
    have h1 := Int.emod_nonneg x (Int.ne_of_gt hl)
    have h2 := Int.emod_lt_of_pos x hl
    have h3 : (x % xs.length).toNat < xs.length := by omega
    exact rd_ixL sq1 (atN h1 (List.getElem?_eq_getElem h3)) (q _ H1 (List.getElem_mem h3) k1 bx1)
def VlX (l : List Nm) (x : Vl) : Prop := VlG x ∧ VlOk x ∧ ∀ n, x = .rf n → n ∈ l
abbrev sp__law_worth (P : Program) (w : World) (K : PySem.W.Frag) : Sp := fun vs H Q _ => ∃ (b l : Addr) (xs : List V) (m : List Nm), vs = [.ref b, .ref l] ∧ BoxT H b ∧ SqL K H l xs ∧ ImA K H xs (m.map pD) ∧ m ≠ [] ∧ (∀ n ∈ m, NmG n) ∧ l ≠ b ∧ ∀ v (x : Vl) H', Kp [b] H H' → BoxT H' b → Im K H' v (vlD x) → VlX m x → Q v H'
theorem txt_ok : ∀ i : Fin 4, ∃ z : Str, [V.str "", .str "a", .str "zb", .str "sea"][i.val]? = some (.str z) ∧ WdOk z ∧ StrOk z := fun i => by
  have hw : ∀ z : Str, (z.cps.toList.all fun c => decide (97 ≤ c ∧ c ≤ 122)) = true → decide (z.length ≤ 20) = true → WdOk z := fun z h1 h2 => ⟨fun c hc => of_decide_eq_true (List.all_eq_true.mp h1 c hc), of_decide_eq_true h2⟩
  match i with
  | 0 => exact ⟨"", rfl, hw _ (by decide +kernel) (by decide +kernel), by unfold StrOk; decide +kernel⟩
  | 1 => exact ⟨"a", rfl, hw _ (by decide +kernel) (by decide +kernel), by unfold StrOk; decide +kernel⟩
  | 2 => exact ⟨"zb", rfl, hw _ (by decide +kernel) (by decide +kernel), by unfold StrOk; decide +kernel⟩
  | 3 => exact ⟨"sea", rfl, hw _ (by decide +kernel) (by decide +kernel), by unfold StrOk; decide +kernel⟩
theorem fld_ok : ∀ i : Fin 4, ∃ z : Str, [V.str "a", .str "b", .str "next", .str "z"][i.val]? = some (.str z) ∧ WdOk z ∧ 1 ≤ z.length ∧ z.length ≤ 8 ∧ StrOk z := fun i => by
  have hw : ∀ z : Str, (z.cps.toList.all fun c => decide (97 ≤ c ∧ c ≤ 122)) = true → decide (z.length ≤ 20) = true → WdOk z := fun z h1 h2 => ⟨fun c hc => of_decide_eq_true (List.all_eq_true.mp h1 c hc), of_decide_eq_true h2⟩
  match i with
  | 0 => exact ⟨"a", rfl, hw _ (by decide +kernel) (by decide +kernel), by decide +kernel, by decide +kernel, by unfold StrOk; decide +kernel⟩
  | 1 => exact ⟨"b", rfl, hw _ (by decide +kernel) (by decide +kernel), by decide +kernel, by decide +kernel, by unfold StrOk; decide +kernel⟩
  | 2 => exact ⟨"next", rfl, hw _ (by decide +kernel) (by decide +kernel), by decide +kernel, by decide +kernel, by unfold StrOk; decide +kernel⟩
  | 3 => exact ⟨"z", rfl, hw _ (by decide +kernel) (by decide +kernel), by decide +kernel, by decide +kernel, by unfold StrOk; decide +kernel⟩
theorem vlOk_rf (n : Nm) : VlOk (.rf n) := by
  unfold VlOk
  refine shp_of ?_ (by rw [depth_data]; exact Nat.le_trans (dp_vl _) (by decide))
  show PyData.canLay0 (.tuple [.str "ref", .tuple [.int n.1, .int n.2]]) = true
  have h : PyData.strOk "ref" = true := by decide +kernel
  simp only [PyData.canLay0, PyData.canLayAll0, Bool.and_true]
  exact h
theorem at4 {xs : List V} {x : Int} {v : V} (h0 : 0 ≤ x) (h4 : x < 4) (h : xs[x.toNat]? = some v) : atI xs x = some v := atN h0 h
theorem ok__law_worth (T : TX P K mg) : Ok P w K mg base (CX0) 3 ("_law_worth", none) p__law_worth (sp__law_worth P w K) := by
  refine T.ok 67 (d := d__law_worth) rfl rfl rfl sc__law_worth (fun _ _ _ _ _ _ us hl => match us, hl with | [_, _], _ => rfl) (fun vs H Q E h => ?_) fun cdv Ar outer sh H vs Q E hr h => ?_
  · obtain ⟨b, l, xs, m, rfl, _⟩ := h; rfl
  · obtain ⟨b, l, xs, m, rfl, bx, sq, im, ne, ng, nb, q⟩ := h
    obtain ⟨hu, hu1, hu65⟩ := rm_of hr
    refine ⟨_, PSs.nox (pss_cons (ps_set (i := 2) sc__law_worth.nd rfl (Or.inl rfl) (pe_fn (ok__law_draw T) T.g__law_draw (hr.mono (by decide)) pass0 (pa_cons (pv 0) (pa_cons pe_int pa_nil))))
      (pss_cons (ps_if (pt_cmpR op_lt (pv 2) pe_int (nomark _))
      (pss_one (ps_ret (pe_tup (pa_cons pe_str (pa_cons (pe_fn (ok__law_pick T) T.g__law_pick (hr.mono (by decide)) pass0 (pa_cons (pv 0) (pa_cons (pv 1) pa_nil))) pa_nil)))))
      pss_nil)
      (pss_cons (ps_if (pt_cmpR op_eq (pv 2) pe_int (nomark _))
      (pss_one (ps_ret pe_non))
      pss_nil)
      (pss_cons (ps_if (pt_cmpR op_eq (pv 2) pe_int (nomark _))
      (pss_one (ps_ret (pe_ix ix_list (pe_lst (pa_cons pe_str (pa_cons pe_str (pa_cons pe_str (pa_cons pe_str pa_nil))))) (pe_fn (ok__law_draw T) T.g__law_draw (hr.mono (by decide)) pass0 (pa_cons (pv 0) (pa_cons pe_int pa_nil))) (fun _ _ => rfl))))
      pss_nil)
      (pss_one (ps_ret (pe_op op_sub (pe_fn (ok__law_draw T) T.g__law_draw (hr.mono (by decide)) pass0 (pa_cons (pv 0) (pa_cons pe_int pa_nil))) pe_int))))))), ?_⟩
    walk_at "w"
    refine ⟨b, 7, rfl, bx, by decide, fun x H1 k1 bx1 x0 x1 => ?_⟩
    walk_at "w"
    refine rd_if (fun hb => ?_) fun hb => ?_
    · walk_at "w"
      have hxs : xs ≠ [] := fun z => by
        rw [z] at im
        cases m with
        | nil => exact ne rfl
        | cons a t => cases im
      refine ⟨b, l, xs, rfl, bx1, sql_kp k1 (by simpa using nb) sq, hxs, nb, fun v H2 hv k2 bx2 => ?_⟩
      walk_at "w"
      obtain ⟨i, hi⟩ := List.mem_iff_getElem?.mp hv
      obtain ⟨n, hn, iv⟩ := ((im.up k1).up k2).at hi
      refine rd_ktup (K := K) (ks := [.text "ref", pD n]) (.cons (.text _) (.cons iv .nil)) (by simp) fun u H3 k3 iu => ?_
      exact q u (.rf n) H3 ((k1.trans k2).trans k3.nil) (bx2.up k3 (by simp)) iu ⟨ng n (List.mem_of_getElem? hn), vlOk_rf n, fun j e => by cases e; exact List.mem_of_getElem? hn⟩
    · walk_at "w"
      refine rd_if (fun hb => ?_) fun hb => ?_
      · walk_at "w"
        exact q .non .non H1 k1 bx1 .non ⟨trivial, rfl, fun _ e => by cases e⟩
      · walk_at "w"
        refine rd_if (fun hb => ?_) fun hb => ?_
        · walk_at "w"
          refine rd_klst (by simp) fun p H2 n2 k2 e2 => ?_
          walk_at "w"
          have bx2 := bx1.up k2 (by simp)
          refine ⟨b, 4, rfl, bx2, by decide, fun y H3 k3 bx3 y0 y4 => ?_⟩
          obtain ⟨z, hz, wz, sz⟩ := txt_ok ⟨y.toNat, by omega⟩
          have npb : p ≠ b := fun z => by
            obtain ⟨_, _, _, e, _⟩ := bx1
            rw [← z, n2] at e
            cases e
          refine rd_ixL (.inl (.inl (k3.get e2 (by simpa using npb)))) (at4 y0 y4 hz) ?_
          exact q _ (.txt z) H3 ((k1.trans k2.nil).trans k3) bx3 (.text z) ⟨wz, shp_of sz (by rw [depth_data]; exact Nat.le_trans (dp_vl _) (by decide)), fun _ e => by cases e⟩
        · walk_at "w"
          refine ⟨b, 9, rfl, bx1, by decide, fun y H2 k2 bx2 y0 y9 => ?_⟩
          walk_at "w"
          exact q _ (.num (y - 4)) H2 (k1.trans k2) bx2 (.num _) ⟨⟨by omega, by omega⟩, rfl, fun _ e => by cases e⟩
abbrev sp__law_field (P : Program) (w : World) (K : PySem.W.Frag) : Sp := fun vs H Q _ => ∃ (b : Addr), vs = [.ref b] ∧ BoxT H b ∧ ∀ f H', Kp [b] H H' → BoxT H' b → (WdOk f ∧ 1 ≤ f.length ∧ f.length ≤ 8 ∧ StrOk f) → Q (.str f) H'
theorem ok__law_field (T : TX P K mg) : Ok P w K mg base (CX0) 2 ("_law_field", none) p__law_field (sp__law_field P w K) := by
  refine T.ok 68 (d := d__law_field) rfl rfl rfl sc__law_field (fun _ _ _ _ _ _ us hl => match us, hl with | [_], _ => rfl) (fun vs H Q E h => ?_) fun cdv Ar outer sh H vs Q E hr h => ?_
  · obtain ⟨b, rfl, _⟩ := h; rfl
  · obtain ⟨b, rfl, bx, q⟩ := h
    obtain ⟨hu, hu1, hu65⟩ := rm_of hr
    refine ⟨_, PSs.nox (pss_one (ps_ret (pe_ix ix_list (pe_lst (pa_cons pe_str (pa_cons pe_str (pa_cons pe_str (pa_cons pe_str pa_nil))))) (pe_fn (ok__law_draw T) T.g__law_draw (hr.mono (by decide)) pass0 (pa_cons (pv 0) (pa_cons pe_int pa_nil))) (fun _ _ => rfl)))), ?_⟩
    walk_at "w"
    refine rd_klst (by simp) fun p H2 n2 k2 e2 => ?_
    walk_at "w"
    have bx2 := bx.up k2 (by simp)
    refine ⟨b, 4, rfl, bx2, by decide, fun y H3 k3 bx3 y0 y4 => ?_⟩
    obtain ⟨z, hz, h⟩ := fld_ok ⟨y.toNat, by omega⟩
    have npb : p ≠ b := fun z => by
      obtain ⟨_, _, _, e, _⟩ := bx
      rw [← z, n2] at e
      cases e
    refine rd_ixL (.inl (.inl (k3.get e2 (by simpa using npb)))) (at4 y0 y4 hz) ?_
    exact q z H3 (k2.nil.trans k3) bx3 h
abbrev sp__law_cells (P : Program) (w : World) (K : PySem.W.Frag) : Sp := fun vs H Q _ => ∃ (v : V) (cs : List Ch), vs = [v] ∧ LR K chD H v cs ∧ cs.length < 90000 ∧ ∀ d H', H d = none → Kp [] H H' → DCe P w K H' d (cs.foldl takeC []) → Q (.ref d) H'
theorem ok__law_cells (T : TX P K mg) : Ok P w K mg base (CX0) 1 ("_law_cells", none) p__law_cells (sp__law_cells P w K) := by
  refine T.ok 69 (d := d__law_cells) rfl rfl rfl sc__law_cells (fun _ _ _ _ _ _ us hl => match us, hl with | [_], _ => rfl) (fun vs H Q E h => ?_) fun cdv Ar outer sh H vs Q E hr h => ?_
  · obtain ⟨v, cs, rfl, _⟩ := h; rfl
  · obtain ⟨v, cs, rfl, ⟨l, xs, rfl, sq, im⟩, hz, q⟩ := h
    obtain ⟨hu, hu1, hu65⟩ := rm_of hr
    refine ⟨_, PSs.nox (pss_cons (ps_set (i := 1) sc__law_cells.nd rfl (Or.inl rfl) pe_dnewN)
      (pss_cons (ps_for PassesOwn.never rfl (pi_list (pv 0)) (pg_name (i := 2) sc__law_cells.nd rfl (Or.inl rfl))
      (pss_cons (ps_set (i := 3) sc__law_cells.nd rfl (Or.inl rfl) (pe_tup (pa_cons (pe_ix ix_tup (pv 2) pe_int (fun _ _ => rfl)) (pa_cons (pe_ix ix_tup (pv 2) pe_int (fun _ _ => rfl)) pa_nil))))
      (pss_one (ps_if (PW.pt (pw_or (pt_cmpR (op_notInN hu) (pv 3) (pv 1) (by with_unfolding_all rfl)) (pw_or1 (pt_cmpR (op_gtI hu) (pe_ix ix_tup (pv 2) pe_int (fun _ _ => rfl)) (pe_ix ix_tup (pe_ix (ix_dn hu) (pv 1) (pv 3) (fun _ _ => rfl)) pe_int (fun _ _ => rfl)) (nomark _)))))
      (pss_one (ps_asg (pe_tup (pa_cons (pe_ix ix_tup (pv 2) pe_int (fun _ _ => rfl)) (pa_cons (pe_ix ix_tup (pv 2) pe_int (fun _ _ => rfl)) pa_nil))) (pg_sub (pv 1) (pv 3) (set_dn hu))))
      pss_nil))))
      (pss_one (ps_ret (pv 1))))), ?_⟩
    walk_at "w"
    refine rd_newN fun d H1 n1 k1 e1 => ?_
    walk_at "w"
    refine rd_kil (sql_kp k1 (by simp) sq) ?_
    refine for_it (walk_list (xs := xs)) (fun i σ H' => ∃ (x y : Option V), σ = [some (.ref l), some (.ref d), x, y] ∧ Kp [] H H' ∧ DCe P w K H' d ((cs.take i).foldl takeC [])) ⟨none, none, rfl, k1, DV.new e1⟩ (fun i σ H' _ ⟨_, _, _, k, _⟩ => sql_kp k (by simp) sq) ?_ ?_
    · rintro i x σ _ H2 hi ⟨x0, y0, rfl, k2, ce⟩ ⟨rfl, hx⟩
      obtain ⟨c, hc1, hc2⟩ := (im.up k2).at hx
      have lc : ((cs.take i).foldl takeC []).length < 90000 := by
        have h1 := take_len (cs.take i) []
        have h2 : (cs.take i).length ≤ cs.length := by rw [List.length_take]; omega
        simp at h1
        omega
      have ts : (cs.take (i + 1)).foldl takeC [] = takeC ((cs.take i).foldl takeC []) c := by rw [take_snoc hc1, List.foldl_append]; rfl
      rw [ts]
      generalize (cs.take i).foldl takeC [] = cl at ce lc ⊢
      walk_at "w"
      refine rd_ixI (k := pD c.nm) hc2 rfl fun y1 i1 => ?_
      walk_at "w"
      refine rd_ixI (k := .text c.fd) hc2 rfl fun y2 i2 => ?_
      walk_at "w"
      refine rd_ktup (K := K) (ks := [pD c.nm, .text c.fd]) (.cons i1 (.cons i2 .nil)) (by simp) fun kv H3 k3 ik => ?_
      have ce3 := ce.up st_ce k3 (by simp)
      have ik : Im K H3 kv (kyD c.ky) := ik
      have hc3 := hc2.up k3
      walk_at "w"
      refine rd_notInV ce3.r kF_ky (k := c.ky) ik ?_
      walk_at "w"
      have k03 := k2.trans k3
      cases hg : aget cl c.ky with
      | none =>
        have etk : takeC cl c = aput cl c.ky c.ce := by unfold takeC; rw [hg]
        rw [etk]
        refine rd_ifT rfl ?_
        walk_at "w"
        refine rd_ixI (k := pD c.st) hc3 rfl fun y5 i5 => ?_
        walk_at "w"
        refine rd_ixI (k := vlD c.vl) hc3 rfl fun y6 i6 => ?_
        walk_at "w"
        refine rd_ktup (K := K) (ks := [pD c.st, vlD c.vl]) (.cons i5 (.cons i6 .nil)) (by simp) fun v7 H4 k4 i7 => ?_
        walk_at "w"
        refine rd_setV st_ce (ce3.up st_ce k4 (by simp)) kF_ky (k := c.ky) (A := c.ce) (ik.up k4) i7 (by omega) fun H5 k5 ce5 => ?_
        exact ⟨_, _, rfl, ((k03.trans k4).nil.trans k5).weak fun b hb => .inr (by simp at hb; rw [hb]; exact n1), ce5⟩
      | some o =>
        refine rd_ifF rfl ?_
        walk_at "w"
        refine rd_ixI (k := pD c.st) hc3 rfl fun y5 i5 => ?_
        walk_at "w"
        refine rd_getV ce3.r kF_ky (k := c.ky) ik hg fun u iu => ?_
        walk_at "w"
        refine rd_ixI (k := pD o.1) (show Im K H3 u (ceD o) from iu) rfl fun y6 i6 => ?_
        refine ⟨pD c.st, pD o.1, i5, i6, al_p _ _, by simp [pD], dp_p _, ?_⟩
        walk_at "w"
        rw [lt_p]
        refine rd_if (fun hb => ?_) fun hb => ?_
        · have etk : takeC cl c = aput cl c.ky c.ce := by unfold takeC; rw [hg]; simp [hb]
          rw [etk]
          walk_at "w"
          refine rd_ixI (k := pD c.st) hc3 rfl fun y5 i5 => ?_
          walk_at "w"
          refine rd_ixI (k := vlD c.vl) hc3 rfl fun y6 i6 => ?_
          walk_at "w"
          refine rd_ktup (K := K) (ks := [pD c.st, vlD c.vl]) (.cons i5 (.cons i6 .nil)) (by simp) fun v7 H4 k4 i7 => ?_
          walk_at "w"
          refine rd_setV st_ce (ce3.up st_ce k4 (by simp)) kF_ky (k := c.ky) (A := c.ce) (ik.up k4) i7 (by omega) fun H5 k5 ce5 => ?_
          exact ⟨_, _, rfl, ((k03.trans k4).nil.trans k5).weak fun b hb => .inr (by simp at hb; rw [hb]; exact n1), ce5⟩
        · have etk : takeC cl c = cl := by unfold takeC; rw [hg]; simp [hb]
          rw [etk]
          walk_at "w"
          exact ⟨_, _, rfl, k03, ce3⟩
    · rintro σ H2 ⟨x0, y0, rfl, k2, ce⟩
      rw [ImA.mlen im, List.take_length] at ce
      walk_at "w"
      exact q d H2 n1 k2 ce
end
end GT
set_option maxHeartbeats 2000000
namespace GT
open PySem PySem.Spec PyProof.Rows L2
/-- a step of the network and the box b -/
structure StB (b : Addr) (N N' : NAd) (H H' : Hp) : Prop where
  kp : ∃ F, (∀ x ∈ F, N.Own x ∨ x = b) ∧ Kp F H H'
  ow : ∀ x, N'.Own x → N.Own x ∨ H x = none
  nw : N'.nw = N.nw
theorem Stp.b {N N' : NAd} {H H' : Hp} (s : Stp N N' H H') (b : Addr) : StB b N N' H H' := let ⟨F, f, k⟩ := s.kp; ⟨⟨F, fun x hx => .inl (f x hx), k⟩, s.ow, s.nw⟩
theorem StB.box {b : Addr} (N : NAd) {H H' : Hp} (k : Kp [b] H H') : StB b N N H H' := ⟨⟨[b], fun x hx => .inr (by simpa using hx), k⟩, fun _ h => .inl h, rfl⟩
theorem StB.of {b : Addr} (N : NAd) {H H' : Hp} (k : Kp [] H H') : StB b N N H H' := ⟨⟨[], by simp, k⟩, fun _ h => .inl h, rfl⟩
open Classical in
theorem StB.trans {b : Addr} {N N' N'' : NAd} {H H' H'' : Hp} (a : StB b N N' H H') (c : StB b N' N'' H' H'') (bs : H' b ≠ none) : StB b N N'' H H'' := by
  obtain ⟨⟨F, f1, f2⟩, o1, w1⟩ := a
  obtain ⟨⟨G, g1, g2⟩, o2, w2⟩ := c
  have back : ∀ x, ¬ N.Own x → x ≠ b → H' x = none → H x = none := fun x nx nb e => by
    cases h : H x with
    | none => rfl
    | some u => rw [f2.get h (fun z => (f1 x z).elim nx nb)] at e; cases e
  refine ⟨⟨(F ++ G).filter fun x => decide (N.Own x ∨ x = b), fun x hx => of_decide_eq_true (List.mem_filter.mp hx).2, ?_⟩, fun x hx => ?_, w2.trans w1⟩
  · refine ((f2.mono (G := F ++ G) fun x hx => List.mem_append_left _ hx).trans (g2.mono fun x hx => List.mem_append_right _ hx)).weak fun x hx => ?_
    by_cases e : N.Own x ∨ x = b
    · exact .inl (List.mem_filter.mpr ⟨hx, decide_eq_true e⟩)
    · rcases List.mem_append.mp hx with h | h
      · exact (e (f1 x h)).elim
      · rcases g1 x h with z | z
        · rcases o1 x z with z | z
          · exact (e (.inl z)).elim
          · exact .inr z
        · exact (e (.inr z)).elim
  · by_cases e : N.Own x
    · exact .inl e
    · rcases o2 x hx with z | z
      · exact o1 x z
      · by_cases eb : x = b
        · rw [eb] at z
          exact (bs z).elim
        · exact .inr (back x e eb z)
theorem StB.get {b : Addr} {N N' : NAd} {H H' : Hp} (s : StB b N N' H H') {a : Addr} {u : HO} (h : H a = some u) (n : ¬ N.Own a) (nb : a ≠ b) : H' a = some u := let ⟨_, f, k⟩ := s.kp; k.get h fun z => (f a z).elim n nb
theorem StB.no {b : Addr} {N N' : NAd} {H H' : Hp} (s : StB b N N' H H') {a : Addr} {u : HO} (h : H a = some u) (n : ¬ N.Own a) : ¬ N'.Own a := fun z => by
  rcases s.ow a z with e | e
  · exact n e
  · rw [h] at e; cases e
theorem StB.ima {b : Addr} {N N' : NAd} {H H' : Hp} (s : StB b N N' H H') {K : PySem.W.Frag} {v : List V} {d : List D} (h : ImA K H v d) : ImA K H' v d := let ⟨_, _, k⟩ := s.kp; h.up k
theorem StB.fz {b : Addr} {N N' : NAd} {H H' : Hp} (s : StB b N N' H H') {v : V} {xs : List V} (h : Fz H v xs) : Fz H' v xs := let ⟨_, _, k⟩ := s.kp; h.up k
structure Ses (P : Program) (w : World) (K : PySem.W.Frag) (H : Hp) (b : Addr) (N : NAd) (S : Sys) (n t : Nat) (made : List Ch) (nms : List Nm) (AL : List (Nm × List Ch)) : Prop where
  net : Net P w K H N S n t made nms AL
  bx : BoxT H b
  bo : ¬ N.Own b
section
variable {P : Program} {w : World} {K : PySem.W.Frag} {H H' : Hp} {b : Addr} {N N' : NAd} {S S' : Sys} {n t t' : Nat} {made made' : List Ch} {nms nms' : List Nm} {AL AL' : List (Nm × List Ch)}
theorem BoxT.al (h : BoxT H b) : H b ≠ none := by
  obtain ⟨_, _, _, e, _⟩ := h
  rw [e]
  simp
theorem Ses.stp (X : Ses P w K H b N S n t made nms AL) (s : Stp N N' H H') (Y : Net P w K H' N' S' n t' made' nms' AL') : Ses P w K H' b N' S' n t' made' nms' AL' := by
  obtain ⟨r, row, k, e, f⟩ := X.bx
  exact ⟨Y, ⟨r, row, k, s.get e X.bo, s.fz f⟩, s.no e X.bo⟩
theorem Ses.box (X : Ses P w K H b N S n t made nms AL) (k : Kp [b] H H') (bx : BoxT H' b) : Ses P w K H' b N S n t made nms AL := ⟨⟨X.net.nt.up0 k (by simpa using X.bo), X.net.si, X.net.ni⟩, bx, X.bo⟩
theorem Ses.up (X : Ses P w K H b N S n t made nms AL) (k : Kp [] H H') : Ses P w K H' b N S n t made nms AL := ⟨X.net.up k, X.bx.up k (by simp), X.bo⟩
theorem Ses.mono (X : Ses P w K H b N S n t made nms AL) (e : t ≤ t') : Ses P w K H b N S n t' made nms AL := ⟨⟨X.net.nt, X.net.si.mono e, X.net.ni⟩, X.bx, X.bo⟩
/-- a list kept by the law itself -/
def Lst (K : PySem.W.Frag) (H : Hp) (b : Addr) (N : NAd) (p : Addr) (l : List Ch) : Prop := LM K chD H p l ∧ ¬ N.Own p ∧ p ≠ b
theorem Lst.stp {p : Addr} {l : List Ch} (h : Lst K H b N p l) (s : StB b N N' H H') : Lst K H' b N' p l := by
  obtain ⟨⟨xs, e, im⟩, no, nb⟩ := h
  exact ⟨⟨xs, s.get e no nb, s.ima im⟩, s.no e no, nb⟩
theorem Lst.new {p : Addr} {l : List Ch} (X : Ses P w K H b N S n t made nms AL) (hp : H p = none) (h : LM K chD H' p l) : Lst K H' b N p l := ⟨h, fun ⟨x, hx⟩ => X.net.nt.al hx hp, fun z => X.bx.al (by rw [← z]; exact hp)⟩
end
end GT
set_option maxHeartbeats 2000000
namespace GT
open PySem PySem.Spec PyProof.Rows L2
local macro_rules | `(tactic| walk_at "v") => `(tactic| ((with_reducible show tVar _ _ _ _); refine rd_var rfl ?_))
local macro_rules | `(tactic| walk_at "s1") => `(tactic| with_reducible first | refine rd_cons ?_ | refine rd_nil ?_ | refine rd_c ?_ | refine rd_op ?_ | refine rd_seq ?_ | refine rd_fld ?_ | refine rd_asg ?_ | refine rd_gname ?_ | refine rd_I0 ?_ | refine rd_cb ?_ | refine rd_next ?_ | refine rd_drop ?_ | refine rd_ret ?_ | refine rd_mf ?_ | refine rd_cf ?_ | refine rd_ifS ?_ | refine rd_test ?_ | refine rd_kt ?_)
local macro_rules | `(tactic| walk_at "s2") => `(tactic| with_reducible first | refine rd_tup ?_ | refine rd_lst ?_ | refine rd_bm ?_ | refine rd_gcons ?_ | refine rd_gnil ?_ | refine rd_gsub ?_ | refine rd_dm ?_ | refine rd_sfld ?_ | refine rd_fa ?_ | refine rd_frz ?_ | refine rd_nf ?_ | refine rd_retN ?_ | refine rd_cont ?_ | refine rd_par ?_ | refine rd_un ?_ | refine rd_and ?_ | refine rd_or ?_ | refine rd_not ?_ | refine rd_tru ?_ | refine rd_B ?_ | refine rd_chain ?_ | refine rd_sl ?_ | refine rd_nopart ?_ | refine rd_part ?_ | refine rd_kpart ?_)
local macro_rules | `(tactic| walk_at "s3") => `(tactic| with_reducible first | refine rd_U ?_ | refine rd_eqi ?_ | refine rd_nei ?_ | refine rd_eqs ?_ | refine rd_nes ?_ | refine rd_isN ?_ | refine rd_notN ?_ | refine rd_max2 ?_ | refine rd_min2 ?_ | refine rd_int1 ?_ | refine rd_intb ?_ | refine rd_kbmS ?_ | refine rd_il ?_ | refine rd_it ?_ | refine rd_ir1 ?_ | refine rd_ir2 ?_ | refine rd_in ?_ | refine rd_for ?_ | refine rd_lc ?_ | refine rd_yes ?_ | refine rd_tt ?_ | refine rd_ff ?_ | refine rd_listRg ?_ | refine rd_andV ?_ | refine rd_orV ?_ | refine rd_notV ?_ | refine rd_ex ?_)
local macro_rules | `(tactic| walk_at "c") => `(tactic| first | exact TX.c_Channel (by assumption) | exact TX.c_State (by assumption) | exact TX.c_Message (by assumption) | exact TX.c_Replica (by assumption) | exact TX.c_Network (by assumption))
local macro_rules | `(tactic| walk_at "n") => `(tactic| first | exact TX.n_Channel_under_way (by assumption) | exact TX.n_State_cells (by assumption) | exact TX.n_Message_octets (by assumption) | exact TX.n_Message_place (by assumption) | exact TX.n_Message_known (by assumption) | exact TX.n_Replica_peer (by assumption) | exact TX.n_Replica_clock (by assumption) | exact TX.n_Replica_made (by assumption) | exact TX.n_Replica_state (by assumption) | exact TX.n_Replica_roots (by assumption) | exact TX.n_Replica_pending (by assumption) | exact TX.n_Replica_messages (by assumption) | exact TX.n_Network_replicas (by assumption) | exact TX.n_Network_channels (by assumption))
local macro_rules | `(tactic| walk_at "f") => `(tactic| ((with_reducible show KFld _ _ _ _ _); refine rd_kfld (by assumption) (by walk_at "c") (by walk_at "n") rfl ?_))
local macro_rules | `(tactic| walk_at "g") => `(tactic| ((with_reducible show KSf _ _ _ _ _ _); refine rd_ksf (by assumption) (by walk_at "c") (by walk_at "n") (by simp) ?_))
local macro_rules | `(tactic| walk_at "w") => `(tactic| repeat (first | walk_at "v" | walk_at "s1" | walk_at "f" | walk_at "s2" | walk_at "s3"))
section
variable {P : Program} {w : World} {K : PySem.W.Frag} {mg : Str → Option Value} {base : Heap}
abbrev sp__law_known (P : Program) (w : World) (K : PySem.W.Frag) : Sp := fun vs H Q _ => ∃ (A : RAd) (rp : Rep) (nms : List Nm), vs = [.ref A.a] ∧ RepT P w K H A rp ∧ RNm rp nms ∧ ((0, 0) : Nm) ∈ nms ∧ 0 ≤ rp.made ∧ rp.made < 1000 ∧ (∀ m : Int, (rp.peer, m) ∈ nms ↔ 0 ≤ m ∧ m < rp.made) ∧
  ∀ p ys (m : List Nm) H', H p = none → Kp [] H H' → H' p = some (.lst ys) → ImA K H' ys (m.map pD) → (∀ n ∈ m, Known rp n ∧ n ∈ nms) → m ≠ [] → Q (.ref p) H'
theorem ok__law_known (T : TX P K mg) : Ok P w K mg base (CX0) 2 ("_law_known", none) p__law_known (sp__law_known P w K) := by
  refine T.ok 72 (d := d__law_known) rfl rfl rfl sc__law_known (fun _ _ _ _ _ _ us hl => match us, hl with | [_], _ => rfl) (fun vs H Q E h => ?_) fun cdv Ar outer sh H vs Q E hr h => ?_
  · obtain ⟨A, rp, nms, rfl, _⟩ := h; rfl
  · obtain ⟨A, rp, nms, rfl, R, rn, h00, hm0, hm1, hmk, q⟩ := h
    have Rnd := R.nd
    obtain ⟨⟨dx, hob⟩, ⟨⟨dx2, hs⟩, ce⟩, ro, pn, me, n1, n2, n3⟩ := id R
    obtain ⟨kvs, ⟨es, hes, hko, hkv⟩, prf⟩ := ce
    have nad : A.a ≠ A.d := fun z => by rw [z, hes] at hob; cases hob
    have nsd : A.s ≠ A.d := fun z => by rw [z, hes] at hs; cases hs
    have kn0 : Known rp (0, 0) ∧ ((0, 0) : Nm) ∈ nms := ⟨.inl rfl, h00⟩
    obtain ⟨hu, hu1, hu65⟩ := rm_of hr
    refine ⟨_, PSs.nox (pss_cons (ps_set (i := 1) sc__law_known.nd rfl (Or.inl rfl) (pe_op op_catL (pe_lst (pa_cons (pe_tup (pa_cons pe_int (pa_cons pe_int pa_nil))) pa_nil)) (pe_lcW (own := [("_law_count", 4)]) sh rfl sc__law_known.nd (pi_range1 (by rfl) T.f_range (pa_cons (pe_fld (pv 0) rfl) pa_nil)) (blkOk_by (own := [("_law_count", 4)]) (N := n__law_known) (sc := defScope s__law_known) (by decide +kernel)) (pg_name (i := 4) sc__law_known.nd rfl (Or.inl rfl)) pts_nil (pe_tup (pa_cons (pe_fld (pv 0) rfl) (pa_cons (pv 4) pa_nil))) (fun _ _ _ _ _ => (pg_name (i := 4) sc__law_known.nd rfl (Or.inl rfl))) (fun _ _ _ _ _ => pts_nil) (fun _ _ _ _ _ => (pe_tup (pa_cons (pe_fld (pv 0) rfl) (pa_cons (pv 4) pa_nil)))))))
      (pss_cons (ps_lock (ps_for PassesOwn.never rfl (pi_dn (pe_fld (pe_fld (pv 0) rfl) rfl)) (pg_name (i := 2) sc__law_known.nd rfl (Or.inl rfl))
      (pss_cons (ps_expr (pe_bm PySem.F.plainAttrs_list PySem.F.slot_list_append PySem.F.type_list_append mt_append (pv 1) (pa_cons (pe_ix ix_tup (pv 2) pe_int (fun _ _ => rfl)) pa_nil)))
      (pss_cons (ps_set (i := 3) sc__law_known.nd rfl (Or.inl rfl) (pe_fn (ok__law_target T) T.g__law_target (hr.mono (by decide)) pass0 (pa_cons (pe_ix ix_tup (pe_ix (ix_dn hu) (pe_fld (pe_fld (pv 0) rfl) rfl) (pv 2) (fun _ _ => rfl)) pe_int (fun _ _ => rfl)) pa_nil)))
      (pss_one (ps_if (pt_cmpR op_notN1 (pv 3) pe_non (nomark _))
      (pss_one (ps_expr (pe_bm PySem.F.plainAttrs_list PySem.F.slot_list_append PySem.F.type_list_append mt_append (pv 1) (pa_cons (pv 3) pa_nil))))
      pss_nil))))))
      (pss_one (ps_ret (pe_callB (cr_sortedT rfl) (by rfl) T.f_sorted (by decide +kernel) (pa_cons (pe_callTy (cr_setT rfl hu) (by rfl) T.f_set (by decide +kernel) (pa_cons (pv 1) pa_nil)) pa_nil)))))), ?_⟩
    walk_at "w"
    refine rd_ktup (K := K) (ks := [.num 0, .num 0]) (.cons (.num 0) (.cons (.num 0) .nil)) (by simp) fun v1 H1 k1 i1 => ?_
    walk_at "w"
    refine rd_klst (by simp) fun p2 H2 np2 k2 e2 => ?_
    have ho2 := (k1.trans k2).get hob (by simp)
    walk_at "w"
    refine rd_kir1 hm0 (by omega) ?_
    intro D hD
    refine lc_it walk_range (fun i H' => Kp [] H2 H' ∧ ∃ xs, H' D = some (.lst xs) ∧ ImA K H' xs (((List.range i).map fun j : Nat => ((rp.peer, (j : Int)) : Nm)).map pD)) ⟨Kp.new hD, [], upd_same, .nil⟩ (fun _ _ _ _ => trivial) ?_ ?_
    · rintro i _ _ H3 hi ⟨k3, xs, hxs, im⟩ ⟨rfl, rfl⟩
      have ho3 := k3.get ho2 (by simp)
      have hil : i < rp.made.toNat := hi
      walk_at "w"
      refine ⟨rfl, ?_⟩
      walk_at "w"
      refine rd_ktup (K := K) (ks := [.num rp.peer, .num (0 + (i : Int))]) (.cons (.num _) (.cons (.num _) .nil)) (by simp) fun v4 H4 k4 i4 => ?_
      have hxs4 := k4.get hxs (by simp)
      have kw : Kp [D] H4 (upd H4 D (.lst (xs ++ [v4]))) := Kp.refl.wl hxs4 (by simp)
      refine ⟨xs, hxs4, Nat.lt_of_lt_of_le (show xs.length < 1000 by rw [im.len, List.length_map, List.length_map, List.length_range]; omega) (by decide), (k3.trans k4).wrn hD, _, upd_same, ?_⟩
      rw [List.range_succ, List.map_append, List.map_append]
      rw [Int.zero_add] at i4
      exact ImA.snoc ((im.up k4).up kw) (i4.up kw)
    rintro H3 ⟨k3, xs, hxs, im⟩
    have im2 : ImA K H3 [v1] ([((0, 0) : Nm)].map pD) := .cons ((i1.up k2).up k3) .nil
    refine rd_cat (.inl (k3.get e2 (by simp))) (.inl hxs) (by rw [im.len, List.length_map, List.length_map, List.length_range]; simp; omega) fun p5 H5 np5 k5 e5 => ?_
    have k05 := ((k1.trans k2).trans k3).trans k5
    have hp5 : H p5 = none := ((k1.trans k2).trans k3).none np5
    have im5 : ImA K H5 ([v1] ++ xs) (([((0, 0) : Nm)] ++ (List.range rp.made.toNat).map fun j : Nat => ((rp.peer, (j : Int)) : Nm)).map pD) := by
      rw [List.map_append]
      exact ImA.app (im2.up k5) (im.up k5)
    have kn5 : ∀ n ∈ [((0, 0) : Nm)] ++ (List.range rp.made.toNat).map fun j : Nat => ((rp.peer, (j : Int)) : Nm), Known rp n ∧ n ∈ nms := fun n hn => by
      rcases List.mem_append.mp hn with hn | hn
      · rw [List.mem_singleton.mp hn]; exact kn0
      · obtain ⟨j, hj, rfl⟩ := List.mem_map.mp hn
        have := List.mem_range.mp hj
        exact ⟨.inr (.inl ⟨rfl, by show (j : Int) < _; omega⟩), (hmk _).mpr ⟨by omega, by omega⟩⟩
    have len5 : ([((0, 0) : Nm)] ++ (List.range rp.made.toNat).map fun j : Nat => ((rp.peer, (j : Int)) : Nm)).length ≤ 1001 := by simp; omega
    have ne5 : ((0, 0) : Nm) ∈ [((0, 0) : Nm)] ++ (List.range rp.made.toNat).map fun j : Nat => ((rp.peer, (j : Int)) : Nm) := by simp
    generalize [((0, 0) : Nm)] ++ (List.range rp.made.toNat).map (fun j : Nat => ((rp.peer, (j : Int)) : Nm)) = l5 at im5 kn5 len5 ne5
    have hes5 := k05.get hes (by simp)
    have el : es.length = rp.cells.length := by rw [← prF_len prf, ← hkv]; simp [kvE]
    have hcf := rn.few
    walk_at "w"
    refine ⟨A.d, _, hes5, trivial, fun od => ?_⟩
    have kL : Kp [A.d] H5 (upd H5 A.d (.frz od (DN P w A.d es))) := Kp.wr (by rw [hes5]; trivial) (by simp)
    have hoL : upd H5 A.d (.frz od (DN P w A.d es)) A.a = _ := (upd_ne nad).trans (k05.get hob (by simp))
    have hsL : upd H5 A.d (.frz od (DN P w A.d es)) A.s = _ := (upd_ne nsd).trans (k05.get hs (by simp))
    have np5d : p5 ≠ A.d := fun z => by rw [z, hes5] at e5; cases e5
    walk_at "w"
    refine rd_kin upd_same ?_
    refine for_it walk_n (fun i σ H' => ∃ x y, σ = [some (.ref A.a), some (.ref p5), x, y, none] ∧ Kp [p5] (upd H5 A.d (.frz od (DN P w A.d es))) H' ∧ ∃ (xs : List V) (l : List Nm), H' p5 = some (.lst xs) ∧ ImA K H' xs (l.map pD) ∧ (∀ n ∈ l, Known rp n ∧ n ∈ nms) ∧ ((0, 0) : Nm) ∈ l ∧ l.length ≤ 1001 + 2 * i)
      ⟨none, none, rfl, Kp.refl, _, l5, (upd_ne np5d).trans e5, im5.up kL, kn5, ne5, len5⟩ (fun i σ H' _ ⟨_, _, _, k, _⟩ => k.get upd_same (by simpa using np5d.symm)) ?_ ?_
    · rintro i x σ _ H6 hi ⟨x0, y0, rfl, k6, ws, l, eD, iml, hl1, hl2, hl3⟩ ⟨rfl, e, he, rfl⟩
      have k7 : Kp [p5, A.d] H H6 := k05.nil.trans ((kL.mono (by simp)).trans (k6.mono (by simp)))
      have hdz : H6 A.d = some (.frz od (DN P w A.d es)) := k6.get upd_same (by simpa using np5d.symm)
      have ho6 := k6.get hoL (by simpa using ne_of_none hob hp5)
      have hs6 := k6.get hsL (by simpa using ne_of_none hs hp5)
      obtain ⟨q0, hq1, hq2, hq3⟩ := walkV (R := Rce K) (l := rp.cells) hdz (by rw [hkv]; exact prF_mono prf fun _ _ z => st_ce _ _ _ _ _ k7 z) (hko.up k7) he
      have dvr : DVr P w K kyD (Rce K) H6 A.d rp.cells := ⟨kvs, ⟨es, .inr ⟨od, hdz⟩, hko.up k7, hkv⟩, prF_mono prf fun _ _ z => st_ce _ _ _ _ _ k7 z⟩
      have hq1m := List.mem_of_getElem? hq1
      have hag : aget rp.cells q0.1 = some q0.2 := aget_of_mem rn.nd hq1m
      have kn1 : Known rp q0.1.1 ∧ q0.1.1 ∈ nms := ⟨.inr (.inr (.inl ⟨q0, hq1m, rfl⟩)), rn.cn _ (.inl ⟨q0, hq1m, rfl⟩)⟩
      rw [el] at hi
      walk_at "w"
      refine rd_kbmL (.inl (.inl eD)) ?_
      walk_at "w"
      refine rd_ixI (k := pD q0.1.1) hq2 rfl fun v8 i8 => ?_
      walk_at "w"
      refine rd_append eD (by rw [ImA.mlen iml]; omega) ?_
      have kn : Kp [p5] H6 (upd H6 p5 (.lst (ws ++ [v8]))) := Kp.refl.wl eD (by simp)
      have e9 : upd H6 p5 (.lst (ws ++ [v8])) p5 = some (.lst (ws ++ [v8])) := upd_same
      have im9 : ImA K (upd H6 p5 (.lst (ws ++ [v8]))) (ws ++ [v8]) ((l ++ [q0.1.1]).map pD) := by rw [List.map_append]; exact ImA.snoc (iml.up kn) (i8.up kn)
      generalize upd H6 p5 (.lst (ws ++ [v8])) = H9 at kn e9 im9 ⊢
      have ho9 := kn.get ho6 (by simpa using ne_of_none hob hp5)
      have hs9 := kn.get hs6 (by simpa using ne_of_none hs hp5)
      have dvr9 := dvr.up st_ce kn (by simpa using np5d.symm)
      have hq9 := hq2.up kn
      have l9 : ∀ n ∈ l ++ [q0.1.1], Known rp n ∧ n ∈ nms := fun n hn => by
        rcases List.mem_append.mp hn with hn | hn
        · exact hl1 n hn
        · rw [List.mem_singleton.mp hn]; exact kn1
      walk_at "w"
      refine rd_getV dvr9 kF_ky (k := q0.1) hq9 hag fun v hv => ?_
      walk_at "w"
      refine rd_ixI (k := vlD q0.2.2) (show Im K H9 v (ceD q0.2) from hv) rfl fun v2 hv2 => ?_
      walk_at "w"
      refine ⟨v2, q0.2.2, rfl, hv2, fun y hy => ?_⟩
      walk_at "w"
      rw [tg_non hy]
      cases hvl : q0.2.2 with
      | rf t =>
        rw [hvl] at hy
        have knt : Known rp t ∧ t ∈ nms := ⟨.inr (.inr (.inr ⟨q0, hq1m, hvl⟩)), rn.cn _ (.inr ⟨q0, hq1m, hvl⟩)⟩
        refine rd_ifT rfl ?_
        walk_at "w"
        refine rd_kbmL (.inl (.inl e9)) ?_
        walk_at "w"
        refine rd_append e9 (by rw [im9.len, List.length_map]; simp; omega) ?_
        walk_at "w"
        have kn2 : Kp [p5] H9 (upd H9 p5 (.lst (ws ++ [v8] ++ [y]))) := Kp.refl.wl e9 (by simp)
        refine ⟨_, _, rfl, (k6.trans kn).trans kn2, ws ++ [v8] ++ [y], l ++ [q0.1.1] ++ [t], upd_same, ?_, fun n hn => ?_, by simp [hl2], by simp; omega⟩
        · rw [List.map_append]
          exact ImA.snoc (im9.up kn2) ((show Im K H9 y (pD t) from hy).up kn2)
        · rcases List.mem_append.mp hn with hn | hn
          · exact l9 n hn
          · rw [List.mem_singleton.mp hn]; exact knt
      | _ =>
        refine rd_ifF rfl ?_
        walk_at "w"
        exact ⟨_, _, rfl, k6.trans kn, _, l ++ [q0.1.1], e9, im9, l9, by simp [hl2], by simp; omega⟩
    · rintro σ H6 ⟨x, y, rfl, k6, ws, l, eD, iml, hl1, hl2, hl3⟩
      have hdz : H6 A.d = some (.frz od (DN P w A.d es)) := k6.get upd_same (by simpa using np5d.symm)
      refine ⟨hdz, ?_⟩
      have k7 : Kp [p5] H5 (upd H6 A.d (DN P w A.d es)) := Kp.unlock hes5 trivial k6
      have k8 : Kp [] H (upd H6 A.d (DN P w A.d es)) := (k05.nil.trans k7).weak fun b hb => .inr (by simp at hb; rw [hb]; exact hp5)
      have iml2 := ImA.unl hdz dn_nt _ _ iml
      have eD2 : upd H6 A.d (DN P w A.d es) p5 = some (.lst ws) := (upd_ne np5d).trans eD
      walk_at "w"
      refine rd_setNm (.inl (.inl eD2)) iml2 (fun n hn => (hl1 n hn).2) rn.ok.few fun b M H9 nb k9 eb ns => ?_
      walk_at "w"
      refine rd_sortNm eb ns (fun n h => rn.ok.pos n (hl1 n h).2) fun p ys m H10 np k10 ep imp hm _ => ?_
      refine q p ys m H10 (k8.none (k9.none np)) (k8.trans (k9.trans k10)) ep imp (fun n hn => hl1 n ((hm n).mp hn)) fun e => ?_
      have := (hm (0, 0)).mpr hl2
      rw [e] at this
      cases this
abbrev sp__law_readable (P : Program) (w : World) (K : PySem.W.Frag) : Sp := fun vs H Q _ => ∃ (l : Addr) (os : List Int), vs = [.ref l] ∧ Rd H l (.lst (os.map V.int)) ∧ os.length ≤ 100000 ∧ (((∃ s n cs, MsG s n cs ∧ os = msgO s n cs) ∧ ∀ H', Kp [] H H' → Q (.bl true) H') ∨ (Bad os ∧ ∀ H', Kp [] H H' → Q (.bl false) H'))
theorem ok__law_readable (T : TX P K mg) : Ok P w K mg base (CX0) 10 ("_law_readable", none) p__law_readable (sp__law_readable P w K) := by
  refine T.ok 74 (d := d__law_readable) rfl rfl rfl sc__law_readable (fun _ _ _ _ _ _ us hl => match us, hl with | [_], _ => rfl) (fun vs H Q E h => ?_) fun cdv Ar outer sh H vs Q E hr h => ?_
  · obtain ⟨l, os, rfl, _⟩ := h; rfl
  · obtain ⟨l, os, rfl, rd, few, hq⟩ := h
    obtain ⟨hu, hu1, hu65⟩ := rm_of hr
    refine ⟨_, PSs.nox (pss_cons (ps_try_onlyW rfl rfl ⟨rfl, by decide, .inl T.g_CodeError⟩ takes0 (fun W tk po => (pss_one (ps_expr (pe_fn (ok_read_message T) T.g_read_message (hr.mono (by decide)) (passes_call (E := fun cls d H => ∀ σ, W cls d σ H) tk fun _ _ σ _ z => z σ) (pa_cons (pv 0) pa_nil))))) (fun W pn xe tk po => (pss_one (ps_expr (pe_fn (ok_read_message T) T.g_read_message (hr.mono (by decide)) (passes_call (E := fun cls d H => ∀ σ, W cls d σ H) tk fun _ _ σ _ z => z σ) (pa_cons (pv 0) pa_nil))))) (fun a oe cls d pn _ _ => (pss_one (ps_ret pe_bl))))
      (pss_one (ps_ret pe_bl))), ?_⟩
    walk_at "w"
    refine ⟨l, os, rfl, rd, few, ?_⟩
    rcases hq with ⟨⟨s, n, cs, g, e⟩, q⟩ | ⟨hb, q⟩
    · refine .inl ⟨s, n, cs, g, e, fun v H1 k1 _ => ?_⟩
      walk_at "w"
      exact q H1 k1
    · refine .inr ⟨hb, fun d H1 k1 σ => ⟨true, TX.x_CodeError T, fun _ a na => ?_, fun h => by cases h⟩⟩
      exact q H1 k1
end
end GT
set_option maxHeartbeats 2000000
namespace GT
open PySem PySem.Spec PyProof.Rows L2
local macro_rules | `(tactic| walk_at "v") => `(tactic| ((with_reducible show tVar _ _ _ _); refine rd_var rfl ?_))
local macro_rules | `(tactic| walk_at "s1") => `(tactic| with_reducible first | refine rd_cons ?_ | refine rd_nil ?_ | refine rd_c ?_ | refine rd_op ?_ | refine rd_seq ?_ | refine rd_fld ?_ | refine rd_asg ?_ | refine rd_gname ?_ | refine rd_I0 ?_ | refine rd_cb ?_ | refine rd_next ?_ | refine rd_drop ?_ | refine rd_ret ?_ | refine rd_mf ?_ | refine rd_cf ?_ | refine rd_ifS ?_ | refine rd_test ?_ | refine rd_kt ?_)
local macro_rules | `(tactic| walk_at "s2") => `(tactic| with_reducible first | refine rd_tup ?_ | refine rd_lst ?_ | refine rd_bm ?_ | refine rd_gcons ?_ | refine rd_gnil ?_ | refine rd_gsub ?_ | refine rd_dm ?_ | refine rd_sfld ?_ | refine rd_fa ?_ | refine rd_frz ?_ | refine rd_nf ?_ | refine rd_retN ?_ | refine rd_cont ?_ | refine rd_par ?_ | refine rd_un ?_ | refine rd_and ?_ | refine rd_or ?_ | refine rd_not ?_ | refine rd_tru ?_ | refine rd_B ?_ | refine rd_chain ?_ | refine rd_sl ?_ | refine rd_nopart ?_ | refine rd_part ?_ | refine rd_kpart ?_)
local macro_rules | `(tactic| walk_at "s3") => `(tactic| with_reducible first | refine rd_U ?_ | refine rd_eqi ?_ | refine rd_nei ?_ | refine rd_eqs ?_ | refine rd_nes ?_ | refine rd_isN ?_ | refine rd_notN ?_ | refine rd_max2 ?_ | refine rd_min2 ?_ | refine rd_int1 ?_ | refine rd_intb ?_ | refine rd_kbmS ?_ | refine rd_il ?_ | refine rd_it ?_ | refine rd_ir1 ?_ | refine rd_ir2 ?_ | refine rd_in ?_ | refine rd_for ?_ | refine rd_lc ?_ | refine rd_yes ?_ | refine rd_tt ?_ | refine rd_ff ?_ | refine rd_listRg ?_ | refine rd_andV ?_ | refine rd_orV ?_ | refine rd_notV ?_ | refine rd_ex ?_)
local macro_rules | `(tactic| walk_at "c") => `(tactic| first | exact TX.c_Channel (by assumption) | exact TX.c_State (by assumption) | exact TX.c_Message (by assumption) | exact TX.c_Replica (by assumption) | exact TX.c_Network (by assumption))
local macro_rules | `(tactic| walk_at "n") => `(tactic| first | exact TX.n_Channel_under_way (by assumption) | exact TX.n_State_cells (by assumption) | exact TX.n_Message_octets (by assumption) | exact TX.n_Message_place (by assumption) | exact TX.n_Message_known (by assumption) | exact TX.n_Replica_peer (by assumption) | exact TX.n_Replica_clock (by assumption) | exact TX.n_Replica_made (by assumption) | exact TX.n_Replica_state (by assumption) | exact TX.n_Replica_roots (by assumption) | exact TX.n_Replica_pending (by assumption) | exact TX.n_Replica_messages (by assumption) | exact TX.n_Network_replicas (by assumption) | exact TX.n_Network_channels (by assumption))
local macro_rules | `(tactic| walk_at "f") => `(tactic| ((with_reducible show KFld _ _ _ _ _); refine rd_kfld (by assumption) (by walk_at "c") (by walk_at "n") rfl ?_))
local macro_rules | `(tactic| walk_at "g") => `(tactic| ((with_reducible show KSf _ _ _ _ _ _); refine rd_ksf (by assumption) (by walk_at "c") (by walk_at "n") (by simp) ?_))
local macro_rules | `(tactic| walk_at "w") => `(tactic| repeat (first | walk_at "v" | walk_at "s1" | walk_at "f" | walk_at "s2" | walk_at "s3"))
section
variable {P : Program} {w : World} {K : PySem.W.Frag} {mg : Str → Option Value} {base : Heap}
theorem SysI.nmg {n t : Nat} {made : List Ch} {nms : List Nm} {AL : List (Nm × List Ch)} {S : Sys} (h : SysI n t made nms AL S) (ht : t ≤ 58) {m : Nm} (hm : m ∈ nms) : NmG m := by
  have := h.np m hm
  have := h.n2
  exact ⟨by omega, by omega⟩
abbrev QDeed (P : Program) (w : World) (K : PySem.W.Frag) (H : Hp) (b : Addr) (N : NAd) (n t : Nat) (made : List Ch) (AL : List (Nm × List Ch)) (Q : VK) : Prop := ∀ p (new : List Ch) N' S' nms' H', StB b N N' H H' → Ses P w K H' b N' S' n t (made ++ new) nms' AL → Lst K H' b N' p new → Q (.ref p) H'
abbrev sp__law_deed (P : Program) (w : World) (K : PySem.W.Frag) : Sp := fun vs H Q _ => ∃ (b : Addr) (N : NAd) (S : Sys) (n t : Nat) (made : List Ch) (nms : List Nm) (AL : List (Nm × List Ch)) (i : Nat) (A : RAd), vs = [.ref b, .ref A.a] ∧ Ses P w K H b N S n t made nms AL ∧ N.As[i]? = some A ∧ t + 2 ≤ 58 ∧ QDeed P w K H b N n (t + 2) made AL Q
/-- a put done, its change in a new list -/
theorem deed_end {H H6 : Hp} {b : Addr} {N N6 : NAd} {S6 : Sys} {n t t6 : Nat} {made : List Ch} {nms6 : List Nm} {AL : List (Nm × List Ch)} {i : Nat} {A : RAd} {r : Rep} {Q : VK} (q : QDeed P w K H b N n (t + 2) made AL Q) (st6 : StB b N N6 H H6) (X6 : Ses P w K H6 b N6 S6 n t6 made nms6 AL) (h6 : t6 + 1 ≤ t + 2) (ht : t + 2 ≤ 58)
    (hA : N6.As[i]? = some A) (hr : S6.reps[i]? = some r) {nm : Nm} {f : Str} {x : Vl} (hn : nm ∈ nms6) (hf : WdOk f ∧ 1 ≤ f.length ∧ f.length ≤ 8 ∧ StrOk f) (hx : VlX nms6 x) : QCh P w K H6 A r (noteC r nm f x) fun v H7 => KLst Q [v] H7 := by
  intro v H7 k7 R7 iv
  obtain ⟨X7, s7⟩ := X6.net.setR (A' := A) hA (k7.mono (by simp [RAd.own])) (fun b hb => .inl hb) rfl R7 (X6.net.si.note hr (by omega) hn hf hx)
  have Y7 := X6.stp s7 X7
  refine rd_klst (by simp) fun p H8 n8 k8 e8 => ?_
  have Y8 := (Y7.up k8).mono h6
  have st8 := (st6.trans (s7.b b) X6.bx.al).trans (StB.of _ k8) Y7.bx.al
  exact q p [noteC r nm f x] _ _ _ H8 st8 Y8 (Lst.new (H := H7) Y7 n8 ⟨[v], e8, .cons (iv.up k8) .nil⟩)
theorem ok__law_deed (T : TX P K mg) : Ok P w K mg base (CX0) 6 ("_law_deed", none) p__law_deed (sp__law_deed P w K) := by
  refine T.ok 73 (d := d__law_deed) rfl rfl rfl sc__law_deed (fun _ _ _ _ _ _ us hl => match us, hl with | [_, _], _ => rfl) (fun vs H Q E h => ?_) fun cdv Ar outer sh H vs Q E hr h => ?_
  · obtain ⟨b, N, S, n, t, made, nms, AL, i, A, rfl, _⟩ := h; rfl
  · obtain ⟨b, N, S, n, t, made, nms, AL, i, A, rfl, X, hA, ht, q⟩ := h
    have hin : i < n := by rw [← X.net.si.sz, ← X.net.nt.rn]; exact (List.getElem?_eq_some_iff.mp hA).1
    obtain ⟨hu, hu1, hu65⟩ := rm_of hr
    refine ⟨_, PSs.nox (pss_cons (ps_set (i := 2) sc__law_deed.nd rfl (Or.inl rfl) (pe_fn (ok__law_draw T) T.g__law_draw (hr.mono (by decide)) pass0 (pa_cons (pv 0) (pa_cons pe_int pa_nil))))
      (pss_cons (ps_set (i := 3) sc__law_deed.nd rfl (Or.inl rfl) (pe_fn (ok__law_known T) T.g__law_known (hr.mono (by decide)) pass0 (pa_cons (pv 1) pa_nil)))
      (pss_cons (ps_if (pt_cmpR op_eq (pv 2) pe_int (nomark _))
      (pss_cons (ps_set (i := 4) sc__law_deed.nd rfl (Or.inl rfl) (pe_mt0 (ok_Replica_begin T) T.c_Replica T.m_Replica_begin (hr.mono (by decide)) pass0 (pv 1)))
      (pss_one (ps_ret (pe_lst (pa_cons (pe_mt' (ok_Replica_put T) T.c_Replica T.m_Replica_put (hr.mono (by decide)) pass0 (pv 1) (pa_cons (pe_fn (ok__law_pick T) T.g__law_pick (hr.mono (by decide)) pass0 (pa_cons (pv 0) (pa_cons (pv 3) pa_nil))) (pa_cons (pe_fn (ok__law_field T) T.g__law_field (hr.mono (by decide)) pass0 (pa_cons (pv 0) pa_nil)) (pa_cons (pe_tup (pa_cons pe_str (pa_cons (pv 4) pa_nil))) pa_nil)))) pa_nil)))))
      pss_nil)
      (pss_cons (ps_if (PW.pt (pw_and (pt_cmpR op_eq (pv 2) pe_int (nomark _)) (pw_and1 (pt_cmpR op_eq (pe_fn (ok__law_draw T) T.g__law_draw (hr.mono (by decide)) pass0 (pa_cons (pv 0) (pa_cons pe_int pa_nil))) pe_int (nomark _)))))
      (pss_cons (ps_expr (pe_mt' (ok_Replica_hold T) T.c_Replica T.m_Replica_hold (hr.mono (by decide)) pass0 (pv 1) (pa_cons (pe_fn (ok__law_pick T) T.g__law_pick (hr.mono (by decide)) pass0 (pa_cons (pv 0) (pa_cons (pv 3) pa_nil))) pa_nil)))
      (pss_one (ps_ret (pe_lst pa_nil))))
      pss_nil)
      (pss_one (ps_ret (pe_lst (pa_cons (pe_mt' (ok_Replica_put T) T.c_Replica T.m_Replica_put (hr.mono (by decide)) pass0 (pv 1) (pa_cons (pe_fn (ok__law_pick T) T.g__law_pick (hr.mono (by decide)) pass0 (pa_cons (pv 0) (pa_cons (pv 3) pa_nil))) (pa_cons (pe_fn (ok__law_field T) T.g__law_field (hr.mono (by decide)) pass0 (pa_cons (pv 0) pa_nil)) (pa_cons (pe_fn (ok__law_worth T) T.g__law_worth (hr.mono (by decide)) pass0 (pa_cons (pv 0) (pa_cons (pv 3) pa_nil))) pa_nil)))) pa_nil)))))))), ?_⟩
    walk_at "w"
    refine ⟨b, 6, rfl, X.bx, by decide, fun kd H1 k1 bx1 kd0 kd6 => ?_⟩
    have X1 := X.box k1 bx1
    have st1 : StB b N N H H1 := StB.box N k1
    obtain ⟨A', r, hA', hrr, R1, RI⟩ := X1.net.rep hin
    rw [hA] at hA'
    cases hA'
    have rn := X1.net.si.rnm (by omega) hrr
    have hnl := X1.net.si.nl
    have hmade : r.made < 1000 := by
      have h1 := RI.mde.1
      by_cases z : r.made ≤ 0
      · omega
      · have := (RI.mde.2 (r.made - 1)).mpr ⟨by omega, by omega⟩
        have := (X1.net.si.np _ this).2.2.2
        have this : r.made - 1 ≤ t := this
        omega
    walk_at "w"
    refine ⟨A, r, nms, rfl, R1, rn, X1.net.si.n0, RI.mde.1, hmade, by rw [RI.pe]; exact RI.mde.2, fun p ys m H2 np2 k2 e2 im2 hm2 ne2 => ?_⟩
    have X2 := X1.up k2
    have st2 := st1.trans (StB.of N k2) X1.bx.al
    have R2 := R1.up0 k2
    have npb : p ≠ b := fun z => X1.bx.al (by rw [← z]; exact np2)
    have npo : ¬ N.Own p := fun ⟨x, hx⟩ => X1.net.nt.al hx np2
    have hys : ys ≠ [] := fun z => by
      rw [z] at im2
      cases m with
      | nil => exact ne2 rfl
      | cons a t => cases im2
    have hml := X1.net.si.ml
    have hpl := RI.pl
    have ng : ∀ n ∈ m, NmG n := fun n hn => X1.net.si.nmg (by omega) (hm2 n hn).2
    walk_at "w"
    refine rd_if (fun hb => ?_) fun hb => ?_
    · walk_at "w"
      obtain ⟨dx2, ho2⟩ := R2.ob
      refine rd_kmf ho2 rfl ?_
      walk_at "w"
      refine ⟨A, r, rfl, R2, fun fv H3 k3 R3 ifv => ?_⟩
      have si3 := X2.net.si.begin hrr
      obtain ⟨Y3, s3⟩ := X2.net.setR (A' := A) hA (k3.mono (by simp [RAd.own])) (fun b hb => .inl hb) rfl R3 si3
      have X3 := X2.stp s3 Y3
      have st3 := st2.trans (s3.b b) X2.bx.al
      have hr3 : (S.setR i { r with made := r.made + 1 }).reps[i]? = some { r with made := r.made + 1 } := by
        show (S.reps.set i _)[i]? = _
        rw [List.getElem?_set_self (by rw [X.net.si.sz]; exact hin)]
      have hA3 : (N.setR i A).As[i]? = some A := by
        show (N.As.set i A)[i]? = _
        rw [List.getElem?_set_self (List.getElem?_eq_some_iff.mp hA).1]
      generalize N.setR i A = N3 at X3 Y3 s3 st3 hA3
      generalize S.setR i { r with made := r.made + 1 } = S3 at X3 Y3 hr3
      have fin_in : (r.peer, r.made) ∈ nms ++ [(r.peer, r.made)] := by simp
      have rn3 := X3.net.si.rnm (by omega) hr3
      generalize hnms : nms ++ [(r.peer, r.made)] = nms3 at X3 Y3 si3 rn3 fin_in
      have sub3 : ∀ n ∈ nms, n ∈ nms3 := fun n hn => by rw [← hnms]; exact List.mem_append_left _ hn
      have ep3 : H3 p = some (.lst ys) := s3.get e2 npo
      have npo3 : ¬ N3.Own p := s3.no e2 npo
      have im3 := s3.ima im2
      obtain ⟨dx3, ho3⟩ := R3.ob
      walk_at "w"
      refine rd_kmf ho3 rfl ?_
      walk_at "w"
      refine ⟨b, p, ys, rfl, X3.bx, .inl (.inl ep3), hys, npb, fun v4 H4 hv4 k4 bx4 => ?_⟩
      have X4 := X3.box k4 bx4
      have st4 := st3.trans (StB.box N3 k4) X3.bx.al
      walk_at "w"
      refine ⟨b, rfl, bx4, fun f H5 k5 bx5 hf => ?_⟩
      have X5 := X4.box k5 bx5
      have st5 := st4.trans (StB.box N3 k5) X4.bx.al
      walk_at "w"
      have if5 := ((show Im K H3 fv (pD (r.peer, r.made)) from ifv).up k4).up k5
      refine rd_ktup (K := K) (ks := [.text "ref", pD (r.peer, r.made)]) (.cons (.text _) (.cons if5 .nil)) (by simp) fun v6 H6 k6 i6 => ?_
      have X6 := X5.up k6
      have st6 := st5.trans (StB.of N3 k6) X5.bx.al
      obtain ⟨j, hj⟩ := List.mem_iff_getElem?.mp hv4
      obtain ⟨nm, hnm1, hnm2⟩ := (((im3.up k4).up k5).up k6).at hj
      have hnm := hm2 nm (List.mem_of_getElem? hnm1)
      obtain ⟨A6, r6, hA6, hr6, R6, RI6⟩ := X6.net.rep hin
      rw [hA3] at hA6
      cases hA6
      rw [hr3] at hr6
      cases hr6
      have kn : ∀ n, Known r n → Known { r with made := r.made + 1 } n := fun n h => by
        rcases h with h | h | h
        · exact .inl h
        · exact .inr (.inl ⟨h.1, by show n.2 < r.made + 1; omega⟩)
        · exact .inr (.inr h)
      refine ⟨A, { r with made := r.made + 1 }, v4, v6, nm, f, .rf (r.peer, r.made), nms3, rfl, R6, hnm2, i6, by show r.pend.length < 1000; omega, kn nm hnm.1, fun n e => by cases e; exact .inr (.inl ⟨rfl, by show r.made < r.made + 1; omega⟩), rn3, ?_⟩
      have := deed_end q st6 X6 (by omega) ht hA3 hr3 (nm := nm) (f := f) (x := .rf (r.peer, r.made)) (sub3 _ hnm.2) hf ⟨X6.net.si.nmg (by omega) fin_in, vlOk_rf _, fun n e => by cases e; exact fin_in⟩
      exact this
    · walk_at "w"
      refine rd_if (fun hb => ?_) fun hb => ?_
      · walk_at "w"
        refine ⟨b, 3, rfl, X2.bx, by decide, fun kd2 H3 k3 bx3 _ _ => ?_⟩
        have X3 := X2.box k3 bx3
        have st3 := st2.trans (StB.box N k3) X2.bx.al
        have ep3 : H3 p = some (.lst ys) := k3.get e2 (by simpa using npb)
        have im3 := im2.up k3
        obtain ⟨A3, r3, hA3, hr3, R3, RI3⟩ := X3.net.rep hin
        rw [hA] at hA3
        cases hA3
        rw [hrr] at hr3
        cases hr3
        walk_at "w"
        refine rd_if (fun hb => ?_) fun hb => ?_
        · walk_at "w"
          obtain ⟨dx3, ho3⟩ := R3.ob
          refine rd_kmf ho3 rfl ?_
          walk_at "w"
          refine ⟨b, p, ys, rfl, X3.bx, .inl (.inl ep3), hys, npb, fun v4 H4 hv4 k4 bx4 => ?_⟩
          have X4 := X3.box k4 bx4
          have st4 := st3.trans (StB.box N k4) X3.bx.al
          obtain ⟨j, hj⟩ := List.mem_iff_getElem?.mp hv4
          obtain ⟨nm, hnm1, hnm2⟩ := (im3.up k4).at hj
          have hnm := hm2 nm (List.mem_of_getElem? hnm1)
          obtain ⟨A4, r4, hA4, hr4, R4, RI4⟩ := X4.net.rep hin
          rw [hA] at hA4
          cases hA4
          rw [hrr] at hr4
          cases hr4
          walk_at "w"
          refine ⟨A, r, v4, nm, nms, rfl, R4, hnm2, hnm.1, rn, ?_, fun z H5 k5 R5 => ?_⟩
          · have := nodup_len RI4.rt.1 RI4.rt.2
            omega
          obtain ⟨Y5, s5⟩ := X4.net.setR (A' := A) hA (k5.mono (by simp [RAd.own])) (fun b hb => .inl hb) rfl R5 (X4.net.si.hold hrr hnm.2)
          have X5 := X4.stp s5 Y5
          have st5 := st4.trans (s5.b b) X4.bx.al
          walk_at "w"
          refine rd_klst (by simp) fun p6 H6 n6 k6 e6 => ?_
          have X6 := (X5.up k6).mono (show t ≤ t + 2 by omega)
          have st6 := st5.trans (StB.of _ k6) X5.bx.al
          exact q p6 [] _ _ _ H6 st6 (by rw [List.append_nil]; exact X6) (Lst.new (H := H5) X5 n6 ⟨[], e6, .nil⟩)
        · skip
          walk_at "w"
          obtain ⟨dx3, ho3⟩ := R3.ob
          refine rd_kmf ho3 rfl ?_
          walk_at "w"
          refine ⟨b, p, ys, rfl, X3.bx, .inl (.inl ep3), hys, npb, fun v4 H4 hv4 k4 bx4 => ?_⟩
          have X4 := X3.box k4 bx4
          have st4 := st3.trans (StB.box N k4) X3.bx.al
          walk_at "w"
          refine ⟨b, rfl, bx4, fun f H5 k5 bx5 hf => ?_⟩
          have X5 := X4.box k5 bx5
          have st5 := st4.trans (StB.box N k5) X4.bx.al
          walk_at "w"
          have ep5 : H5 p = some (.lst ys) := k5.get (k4.get ep3 (by simpa using npb)) (by simpa using npb)
          refine ⟨b, p, ys, m, rfl, bx5, .inl (.inl ep5), (im3.up k4).up k5, ne2, ng, npb, fun v6 x H6 k6 bx6 i6 hx => ?_⟩
          have X6 := X5.box k6 bx6
          have st6 := st5.trans (StB.box N k6) X5.bx.al
          obtain ⟨j, hj⟩ := List.mem_iff_getElem?.mp hv4
          obtain ⟨nm, hnm1, hnm2⟩ := (((im3.up k4).up k5).up k6).at hj
          have hnm := hm2 nm (List.mem_of_getElem? hnm1)
          obtain ⟨A6, r6, hA6, hr6, R6, RI6⟩ := X6.net.rep hin
          rw [hA] at hA6
          cases hA6
          rw [hrr] at hr6
          cases hr6
          walk_at "w"
          refine ⟨A, r, v4, v6, nm, f, x, nms, rfl, R6, hnm2, i6, by omega, hnm.1, fun n e => (hm2 n (hx.2.2 n e)).1, rn, ?_⟩
          exact deed_end q st6 X6 (by omega) ht hA hrr hnm.2 hf ⟨hx.1, hx.2.1, fun n e => (hm2 n (hx.2.2 n e)).2⟩
      · have X3 := X2
        have st3 := st2
        have ep3 := e2
        have im3 := im2
        have R3 := R2
        walk_at "w"
        obtain ⟨dx3, ho3⟩ := R3.ob
        refine rd_kmf ho3 rfl ?_
        walk_at "w"
        refine ⟨b, p, ys, rfl, X3.bx, .inl (.inl ep3), hys, npb, fun v4 H4 hv4 k4 bx4 => ?_⟩
        have X4 := X3.box k4 bx4
        have st4 := st3.trans (StB.box N k4) X3.bx.al
        walk_at "w"
        refine ⟨b, rfl, bx4, fun f H5 k5 bx5 hf => ?_⟩
        have X5 := X4.box k5 bx5
        have st5 := st4.trans (StB.box N k5) X4.bx.al
        walk_at "w"
        have ep5 : H5 p = some (.lst ys) := k5.get (k4.get ep3 (by simpa using npb)) (by simpa using npb)
        refine ⟨b, p, ys, m, rfl, bx5, .inl (.inl ep5), (im3.up k4).up k5, ne2, ng, npb, fun v6 x H6 k6 bx6 i6 hx => ?_⟩
        have X6 := X5.box k6 bx6
        have st6 := st5.trans (StB.box N k6) X5.bx.al
        obtain ⟨j, hj⟩ := List.mem_iff_getElem?.mp hv4
        obtain ⟨nm, hnm1, hnm2⟩ := (((im3.up k4).up k5).up k6).at hj
        have hnm := hm2 nm (List.mem_of_getElem? hnm1)
        obtain ⟨A6, r6, hA6, hr6, R6, RI6⟩ := X6.net.rep hin
        rw [hA] at hA6
        cases hA6
        rw [hrr] at hr6
        cases hr6
        walk_at "w"
        refine ⟨A, r, v4, v6, nm, f, x, nms, rfl, R6, hnm2, i6, by omega, hnm.1, fun n e => (hm2 n (hx.2.2 n e)).1, rn, ?_⟩
        exact deed_end q st6 X6 (by omega) ht hA hrr hnm.2 hf ⟨hx.1, hx.2.1, fun n e => (hm2 n (hx.2.2 n e)).2⟩
end
end GT
set_option maxHeartbeats 2000000
namespace GT
open PySem PySem.Spec PyProof.Rows L2
local macro_rules | `(tactic| walk_at "v") => `(tactic| ((with_reducible show tVar _ _ _ _); refine rd_var rfl ?_))
local macro_rules | `(tactic| walk_at "s1") => `(tactic| with_reducible first | refine rd_cons ?_ | refine rd_nil ?_ | refine rd_c ?_ | refine rd_op ?_ | refine rd_seq ?_ | refine rd_fld ?_ | refine rd_asg ?_ | refine rd_gname ?_ | refine rd_I0 ?_ | refine rd_cb ?_ | refine rd_next ?_ | refine rd_drop ?_ | refine rd_ret ?_ | refine rd_mf ?_ | refine rd_cf ?_ | refine rd_ifS ?_ | refine rd_test ?_ | refine rd_kt ?_)
local macro_rules | `(tactic| walk_at "s2") => `(tactic| with_reducible first | refine rd_tup ?_ | refine rd_lst ?_ | refine rd_bm ?_ | refine rd_gcons ?_ | refine rd_gnil ?_ | refine rd_gsub ?_ | refine rd_dm ?_ | refine rd_sfld ?_ | refine rd_fa ?_ | refine rd_frz ?_ | refine rd_nf ?_ | refine rd_retN ?_ | refine rd_cont ?_ | refine rd_par ?_ | refine rd_un ?_ | refine rd_and ?_ | refine rd_or ?_ | refine rd_not ?_ | refine rd_tru ?_ | refine rd_B ?_ | refine rd_chain ?_ | refine rd_sl ?_ | refine rd_nopart ?_ | refine rd_part ?_ | refine rd_kpart ?_)
local macro_rules | `(tactic| walk_at "s3") => `(tactic| with_reducible first | refine rd_U ?_ | refine rd_eqi ?_ | refine rd_nei ?_ | refine rd_eqs ?_ | refine rd_nes ?_ | refine rd_isN ?_ | refine rd_notN ?_ | refine rd_max2 ?_ | refine rd_min2 ?_ | refine rd_int1 ?_ | refine rd_intb ?_ | refine rd_kbmS ?_ | refine rd_il ?_ | refine rd_it ?_ | refine rd_ir1 ?_ | refine rd_ir2 ?_ | refine rd_in ?_ | refine rd_for ?_ | refine rd_lc ?_ | refine rd_yes ?_ | refine rd_tt ?_ | refine rd_ff ?_ | refine rd_listRg ?_ | refine rd_andV ?_ | refine rd_orV ?_ | refine rd_notV ?_ | refine rd_ex ?_)
local macro_rules | `(tactic| walk_at "c") => `(tactic| first | exact TX.c_Channel (by assumption) | exact TX.c_State (by assumption) | exact TX.c_Message (by assumption) | exact TX.c_Replica (by assumption) | exact TX.c_Network (by assumption))
local macro_rules | `(tactic| walk_at "n") => `(tactic| first | exact TX.n_Channel_under_way (by assumption) | exact TX.n_State_cells (by assumption) | exact TX.n_Message_octets (by assumption) | exact TX.n_Message_place (by assumption) | exact TX.n_Message_known (by assumption) | exact TX.n_Replica_peer (by assumption) | exact TX.n_Replica_clock (by assumption) | exact TX.n_Replica_made (by assumption) | exact TX.n_Replica_state (by assumption) | exact TX.n_Replica_roots (by assumption) | exact TX.n_Replica_pending (by assumption) | exact TX.n_Replica_messages (by assumption) | exact TX.n_Network_replicas (by assumption) | exact TX.n_Network_channels (by assumption))
local macro_rules | `(tactic| walk_at "f") => `(tactic| ((with_reducible show KFld _ _ _ _ _); refine rd_kfld (by assumption) (by walk_at "c") (by walk_at "n") rfl ?_))
local macro_rules | `(tactic| walk_at "g") => `(tactic| ((with_reducible show KSf _ _ _ _ _ _); refine rd_ksf (by assumption) (by walk_at "c") (by walk_at "n") (by simp) ?_))
local macro_rules | `(tactic| walk_at "w") => `(tactic| repeat (first | walk_at "v" | walk_at "s1" | walk_at "f" | walk_at "s2" | walk_at "s3"))
section
variable {P : Program} {w : World} {K : PySem.W.Frag} {mg : Str → Option Value} {base : Heap}
theorem refs_len {N : NAd} : (refsA N.As).length = N.As.length := by show (N.As.map _).length = _; rw [List.length_map]
/-- a channel is changed -/
theorem Ses.chan {H H' : Hp} {b : Addr} {N : NAd} {S : Sys} {n t : Nat} {made : List Ch} {nms : List Nm} {AL : List (Nm × List Ch)} (X : Ses P w K H b N S n t made nms AL) {j t' : Nat} {p : Nm × (Addr × Addr)} {q : Nm × List (List Int)} {u' : Addr} {rows' : List (List Int)} (hp : N.cs[j]? = some p) (hq : S.ch[j]? = some q) (k : Kp [p.2.1, p.2.2] H H') (ow : u' = p.2.2 ∨ H u' = none) (C' : ChA K H' p.2.1 u' rows') (ht : t ≤ t') (hl : rows'.length ≤ t') (hr : ∀ r ∈ rows', RowI AL r) :
    ∃ N' S', Ses P w K H' b N' S' n t' made nms AL ∧ StB b N N' H H' := by
  obtain ⟨Y, s⟩ := X.net.setC hp hq k ow C' ht hl hr
  exact ⟨_, _, X.stp s Y, s.b b⟩
abbrev sp__law_session (P : Program) (w : World) (K : PySem.W.Frag) : Sp := fun vs H Q _ => ∃ (b : Addr) (N : NAd) (S : Sys) (n t : Nat) (made : List Ch) (nms : List Nm) (AL : List (Nm × List Ch)) (m : Nat), vs = [.ref b, .ref N.nw, .int m] ∧ Ses P w K H b N S n t made nms AL ∧ t + 2 * m ≤ 56 ∧
  ∀ p (new : List Ch) N' S' nms' AL' H', StB b N N' H H' → Ses P w K H' b N' S' n (t + 2 * m) (made ++ new) nms' AL' → Lst K H' b N' p new → Q (.ref p) H'
theorem ok__law_session (T : TX P K mg) : Ok P w K mg base (CX0) 12 ("_law_session", none) p__law_session (sp__law_session P w K) := by
  refine T.ok 75 (d := d__law_session) rfl rfl rfl sc__law_session (fun _ _ _ _ _ _ us hl => match us, hl with | [_, _, _], _ => rfl) (fun vs H Q E h => ?_) fun cdv Ar outer sh H vs Q E hr h => ?_
  · obtain ⟨b, N, S, n, t, made, nms, AL, m, rfl, _⟩ := h; rfl
  · obtain ⟨b, N, S, n, t, made, nms, AL, m, rfl, X, ht, q⟩ := h
    obtain ⟨dx, hob⟩ := X.net.nt.ob
    obtain ⟨hu, hu1, hu65⟩ := rm_of hr
    refine ⟨_, PSs.nox (pss_cons (ps_set (i := 3) sc__law_session.nd rfl (Or.inl rfl) (pe_lst pa_nil))
      (pss_cons (ps_set (i := 4) sc__law_session.nd rfl (Or.inl rfl) (pe_callB (call_sortN hu rfl) (by rfl) T.f_sorted (by decide +kernel) (pa_cons (pe_fld (pv 1) rfl) pa_nil)))
      (pss_cons (ps_for PassesOwn.never rfl (pi_range1 (by rfl) T.f_range (pa_cons (pv 2) pa_nil)) (pg_name (i := 5) sc__law_session.nd rfl (Or.inl rfl))
      (pss_cons (ps_set (i := 6) sc__law_session.nd rfl (Or.inl rfl) (pe_fn (ok__law_draw T) T.g__law_draw (hr.mono (by decide)) pass0 (pa_cons (pv 0) (pa_cons pe_int pa_nil))))
      (pss_cons (ps_set (i := 7) sc__law_session.nd rfl (Or.inl rfl) (pe_op op_mod (pe_callTy call_int1Q (by rfl) T.f_int (by decide +kernel) (pa_cons (pe_fn (ok__law_draw T) T.g__law_draw (hr.mono (by decide)) pass0 (pa_cons (pv 0) (pa_cons pe_int pa_nil))) pa_nil)) (pe_callB call_lenQ (by rfl) T.f_len (by decide +kernel) (pa_cons (pe_fld (pv 1) rfl) pa_nil))))
      (pss_one (ps_if (pt_cmpR op_lt (pv 6) pe_int (nomark _))
      (pss_one (ps_set (i := 3) sc__law_session.nd rfl (Or.inl rfl) (pe_op op_catL (pv 3) (pe_fn (ok__law_deed T) T.g__law_deed (hr.mono (by decide)) pass0 (pa_cons (pv 0) (pa_cons (pe_ix ix_list (pe_fld (pv 1) rfl) (pv 7) (fun _ _ => rfl)) pa_nil))))))
      (pss_one (ps_if (pt_cmpR op_lt (pv 6) pe_int (nomark _))
      (pss_one (ps_expr (pe_mt' (ok_Network_say T) T.c_Network T.m_Network_say (hr.mono (by decide)) pass0 (pv 1) (pa_cons (pv 7) pa_nil))))
      (pss_one (ps_if (pt_tru (pv 4))
      (pss_cons (ps_set (i := 8) sc__law_session.nd rfl (Or.inl rfl) (pe_fn (ok__law_pick T) T.g__law_pick (hr.mono (by decide)) pass0 (pa_cons (pv 0) (pa_cons (pv 4) pa_nil))))
      (pss_cons (ps_set (i := 9) sc__law_session.nd rfl (Or.inl rfl) (pe_ix (ix_dn hu) (pe_fld (pv 1) rfl) (pv 8) (fun _ _ => rfl)))
      (pss_cons (ps_set (i := 10) sc__law_session.nd rfl (Or.inl rfl) (pe_callB call_lenQ (by rfl) T.f_len (by decide +kernel) (pa_cons (pe_fld (pv 9) rfl) pa_nil)))
      (pss_one (ps_if (pt_cmpR op_gt (pv 10) pe_int (nomark _))
      (pss_cons (ps_set (i := 11) sc__law_session.nd rfl (Or.inl rfl) (pe_op op_mod (pe_callTy call_int1Q (by rfl) T.f_int (by decide +kernel) (pa_cons (pe_fn (ok__law_draw T) T.g__law_draw (hr.mono (by decide)) pass0 (pa_cons (pv 0) (pa_cons pe_int pa_nil))) pa_nil)) (pv 10)))
      (pss_cons (ps_set (i := 12) sc__law_session.nd rfl (Or.inl rfl) (pe_fn (ok__law_draw T) T.g__law_draw (hr.mono (by decide)) pass0 (pa_cons (pv 0) (pa_cons pe_int pa_nil))))
      (pss_one (ps_if (pt_cmpR op_eq (pv 12) pe_int (nomark _))
      (pss_one (ps_expr (pe_mt' (ok_Channel_lose T) T.c_Channel T.m_Channel_lose (hr.mono (by decide)) pass0 (pv 9) (pa_cons (pv 11) pa_nil))))
      (pss_one (ps_if (pt_cmpR op_eq (pv 12) pe_int (nomark _))
      (pss_one (ps_expr (pe_mt' (ok_Channel_double T) T.c_Channel T.m_Channel_double (hr.mono (by decide)) pass0 (pv 9) (pa_cons (pv 11) pa_nil))))
      (pss_one (ps_if (pt_cmpR op_eq (pv 12) pe_int (nomark _))
      (pss_one (ps_expr (pe_mt' (ok_Channel_exchange T) T.c_Channel T.m_Channel_exchange (hr.mono (by decide)) pass0 (pv 9) (pa_cons (pv 11) (pa_cons (pe_op op_sub (pv 10) pe_int) pa_nil)))))
      (pss_one (ps_if (pt_cmpR op_eq (pv 12) pe_int (nomark _))
      (pss_one (ps_if (pt_val (pe_fn (ok__law_readable T) T.g__law_readable (hr.mono (by decide)) pass0 (pa_cons (pe_ix ix_list (pe_fld (pv 9) rfl) (pv 11) (fun _ _ => rfl)) pa_nil)))
      (pss_one (ps_expr (pe_mt' (ok_Channel_damage T) T.c_Channel T.m_Channel_damage (hr.mono (by decide)) pass0 (pv 9) (pa_cons (pv 11) (pa_cons (pe_fn (ok__law_draw T) T.g__law_draw (hr.mono (by decide)) pass0 (pa_cons (pv 0) (pa_cons pe_int pa_nil))) (pa_cons (pe_fn (ok__law_draw T) T.g__law_draw (hr.mono (by decide)) pass0 (pa_cons (pv 0) (pa_cons pe_int pa_nil))) pa_nil))))))
      pss_nil))
      (pss_one (ps_expr (pe_mt' (ok_Network_deliver T) T.c_Network T.m_Network_deliver (hr.mono (by decide)) pass0 (pv 1) (pa_cons (pe_ix ix_tup (pv 8) pe_int (fun _ _ => rfl)) (pa_cons (pe_ix ix_tup (pv 8) pe_int (fun _ _ => rfl)) (pa_cons (pv 11) pa_nil))))))))))))))))
      pss_nil)))))
      pss_nil)))))))))
      (pss_one (ps_ret (pv 3)))))), ?_⟩
    walk_at "w"
    refine rd_klst (by simp) fun p0 H1 np1 k1 e1 => ?_
    have hob1 := k1.get hob (by simp)
    walk_at "w"
    refine rd_sortV (X.net.nt.dn.up st_ad k1 (by simp)).r (srtOk_p _) fun pp ys H2 np2 k2 e2 im2 => ?_
    have k02 := k1.trans k2
    have X2 := X.up k02
    have npb : pp ≠ b := fun z => X.bx.al (by rw [← z]; exact k1.none np2)
    have npo : ¬ N.Own pp := fun ⟨x, hx⟩ => X.net.nt.al hx (k1.none np2)
    have hkey : ∀ k ∈ srt pD ((N.cs.map fun p => (p.1, p.2.1)).map (·.1)), 0 ≤ k.1 ∧ k.1 < n ∧ 0 ≤ k.2 ∧ k.2 < n ∧ k.1 ≠ k.2 := fun k hk => by
      have := srt_mem.mp hk
      rw [List.map_map] at this
      exact (X.net.ni.mem k).mp this
    have lys : ys.length < 1000 := by
      have h1 := ImA.mlen im2
      rw [srt_len, List.length_map, List.length_map] at h1
      have nd := X.net.ni.nd
      have h2 := nodup_len nd (ns := (List.range n).flatMap fun i => (List.range n).map fun j => ((((i : Nat) : Int), ((j : Nat) : Int)) : Nm)) fun k hk => by
        have := (X.net.ni.mem k).mp hk
        exact List.mem_flatMap.mpr ⟨k.1.toNat, List.mem_range.mpr (by omega), List.mem_map.mpr ⟨k.2.toNat, List.mem_range.mpr (by omega), Prod.ext (by show ((k.1.toNat : Nat) : Int) = _; omega) (by show ((k.2.toNat : Nat) : Int) = _; omega)⟩⟩
      rw [List.length_map] at h2
      have h3 : ((List.range n).flatMap fun i => (List.range n).map fun j => ((((i : Nat) : Int), ((j : Nat) : Int)) : Nm)).length ≤ 16 := by
        have hn := X.net.si.n2
        have : ∀ n : Nat, n = 2 ∨ n = 3 ∨ n = 4 → ((List.range n).flatMap fun i => (List.range n).map fun j => ((((i : Nat) : Int), ((j : Nat) : Int)) : Nm)).length ≤ 16 := fun n h => by rcases h with rfl | rfl | rfl <;> decide +kernel
        exact this n (by omega)
      omega
    generalize hks : srt pD ((N.cs.map fun p => (p.1, p.2.1)).map (·.1)) = ks at im2 hkey
    walk_at "w"
    refine rd_kir1 (by omega) (by omega) ?_
    refine for_it walk_range (fun i σ H' => ∃ (x5 x6 x7 x8 x9 x10 x11 x12 : Option V) (p : Addr) (new : List Ch) (N' : NAd) (S' : Sys) (nms' : List Nm) (AL' : List (Nm × List Ch)), σ = [some (.ref b), some (.ref N.nw), some (.int m), some (.ref p), some (.ref pp), x5, x6, x7, x8, x9, x10, x11, x12] ∧ StB b N N' H H' ∧ Ses P w K H' b N' S' n (t + 2 * i) (made ++ new) nms' AL' ∧ Lst K H' b N' p new ∧ H' pp = some (.lst ys) ∧ ¬ N'.Own pp ∧ ImA K H' ys (ks.map pD))
      ⟨none, none, none, none, none, none, none, none, p0, [], N, S, nms, AL, rfl, StB.of N k02, by rw [List.append_nil]; exact X2, (Lst.new (H := H) (H' := H1) X np1 ⟨[], e1, .nil⟩).stp (StB.of N k2), e2, npo, im2⟩ (fun _ _ _ _ _ => trivial) ?_ ?_
    · rintro i _ σ _ H3 hi ⟨x5, x6, x7, x8, x9, x10, x11, x12, p, new, N3, S3, nms3, AL3, rfl, st3, X3, L3, ep3, npo3, im3⟩ ⟨rfl, rfl⟩
      have him : i < m := by have : i < (m : Int).toNat := hi; omega
      have hn2 := X3.net.si.n2
      walk_at "w"
      refine ⟨b, 9, rfl, X3.bx, by decide, fun kd H4 k4 bx4 _ _ => ?_⟩
      have X4 := X3.box k4 bx4
      have st4 := st3.trans (StB.box N3 k4) X3.bx.al
      have ep4 : H4 pp = some (.lst ys) := k4.get ep3 (by simpa using npb)
      have L4 := L3.stp (StB.box N3 k4)
      walk_at "w"
      refine ⟨b, 900, rfl, bx4, by decide, fun pe H5 k5 bx5 _ _ => ?_⟩
      have X5 := X4.box k5 bx5
      have st5 := st4.trans (StB.box N3 k5) X4.bx.al
      have ep5 : H5 pp = some (.lst ys) := k5.get ep4 (by simpa using npb)
      have L5 := L4.stp (StB.box N3 k5)
      have im5 := (im3.up k4).up k5
      obtain ⟨dx5, ho5⟩ := X5.net.nt.ob
      have enw : N3.nw = N.nw := st3.nw
      rw [enw] at ho5
      walk_at "w"
      refine rd_lenL (Fz.sq X5.net.nt.rl) ?_
      have hln : (refsA N3.As).length = n := by rw [refs_len, X5.net.nt.rn, X5.net.si.sz]
      rw [hln]
      refine rd_I (show (0 : Int) < (n : Int) by omega) ?_
      have pi0 := Int.emod_nonneg pe (show (n : Int) ≠ 0 by omega)
      have pi1 := Int.emod_lt_of_pos pe (show (0 : Int) < (n : Int) by omega)
      generalize hpi : pe % (n : Int) = pi at pi0 pi1
      have epi : pi = ((pi.toNat : Nat) : Int) := by omega
      walk_at "w"
      refine rd_if (fun hb => ?_) fun hb => ?_
      · walk_at "w"
        obtain ⟨A, r, hA, hrr, R, RI⟩ := X5.net.rep (i := pi.toNat) (by omega)
        refine rd_ixL (Fz.sq X5.net.nt.rl) (atN pi0 (refs_at hA)) ?_
        walk_at "w"
        refine ⟨b, N3, S3, n, t + 2 * i, made ++ new, nms3, AL3, pi.toNat, A, rfl, X5, hA, by omega, fun p6 new6 N6 S6 nms6 H6 s6 X6 L6 => ?_⟩
        have st6 := st5.trans s6 X5.bx.al
        have L6' := L5.stp s6
        obtain ⟨⟨xs, ex, ix⟩, _, _⟩ := L6'
        obtain ⟨⟨zs, ez, iz⟩, _, _⟩ := L6
        have lx := X6.net.si.ml
        rw [List.length_append, List.length_append] at lx
        refine rd_cat (.inl ex) (.inl ez) (by rw [ImA.mlen ix, ImA.mlen iz]; omega) fun p7 H7 n7 k7 e7 => ?_
        have X7 := X6.up k7
        walk_at "w"
        refine ⟨_, _, _, _, _, _, _, _, p7, new ++ new6, N6, S6, nms6, AL3, rfl, st6.trans (StB.of N6 k7) X6.bx.al, by rw [← List.append_assoc]; exact X7, Lst.new (H := H6) X6 n7 ⟨_, e7, by rw [List.map_append]; exact ImA.app (ix.up k7) (iz.up k7)⟩, k7.get (s6.get ep5 npo3 npb) (by simp), s6.no ep5 npo3, (s6.ima im5).up k7⟩
      · walk_at "w"
        refine rd_if (fun hb2 => ?_) fun hb2 => ?_
        · walk_at "w"
          refine rd_kmf ho5 rfl ?_
          walk_at "w"
          refine ⟨N3, S3, n, t + 2 * i, made ++ new, nms3, AL3, pi.toNat, by rw [enw, ← epi], X5.net, by omega, by omega, fun z N6 S6 AL6 H6 s6 Y6 => ?_⟩
          have X6 := (X5.stp s6 Y6).mono (show t + 2 * i + 1 ≤ t + 2 * (i + 1) by omega)
          walk_at "w"
          exact ⟨_, _, _, _, _, _, _, _, p, new, N6, S6, nms3, AL6, rfl, st5.trans (s6.b b) X5.bx.al, X6, L5.stp (s6.b b), s6.get ep5 npo3, s6.no ep5 npo3, s6.ima im5⟩
        · walk_at "w"
          refine rd_ktruL (.inl (.inl ep5)) ?_
          refine rd_if (fun hb3 => ?_) fun hb3 => ?_
          · have hys : ys ≠ [] := fun z => by rw [z] at hb3; cases hb3
            walk_at "w"
            refine ⟨b, pp, ys, rfl, bx5, .inl (.inl ep5), hys, npb, fun v6 H6 hv6 k6 bx6 => ?_⟩
            have X6 := X5.box k6 bx6
            have st6 := st5.trans (StB.box N3 k6) X5.bx.al
            have ep6 : H6 pp = some (.lst ys) := k6.get ep5 (by simpa using npb)
            have L6 := L5.stp (StB.box N3 k6)
            obtain ⟨j0, hj0⟩ := List.mem_iff_getElem?.mp hv6
            obtain ⟨k, hk1, hk2⟩ := (im5.up k6).at hj0
            have hkk := hkey k (List.mem_of_getElem? hk1)
            obtain ⟨j, cp, cq, hcp, hcq, ek, eq, C6, hag⟩ := X6.net.chan (k := k) ((X6.net.ni.mem k).mpr hkk)
            obtain ⟨dx6, ho6⟩ := X6.net.nt.ob
            rw [enw] at ho6
            walk_at "w"
            refine rd_getV X6.net.nt.dn.r kF_p (k := k) hk2 hag fun v7 hv7 => ?_
            cases (show v7 = .ref cp.2.1 from hv7)
            obtain ⟨dxc, xsc, hoc, hlc, hrc⟩ := id C6
            have hrows := X6.net.si.rows cq (List.mem_of_getElem? hcq)
            have lrc := Paired.length hrc
            walk_at "w"
            refine rd_lenL (.inl (.inl hlc)) ?_
            walk_at "w"
            rw [lrc]
            have same : ∀ {H' N' S'}, StB b N3 N' H6 H' → Ses P w K H' b N' S' n (t + 2 * (i + 1)) (made ++ new) nms3 AL3 → StB b N N' H H' ∧ Ses P w K H' b N' S' n (t + 2 * (i + 1)) (made ++ new) nms3 AL3 ∧ Lst K H' b N' p new ∧ H' pp = some (.lst ys) ∧ ¬ N'.Own pp ∧ ImA K H' ys (ks.map pD) := fun {H' N' S'} s Y =>
              ⟨st6.trans s X6.bx.al, Y, L6.stp s, s.get ep6 npo3 npb, s.no ep6 npo3, s.ima (im5.up k6)⟩
            refine rd_if (fun hb4 => ?_) fun hb4 => ?_
            · have hmany : (0 : Int) < (cq.2.length : Int) := of_decide_eq_true hb4
              walk_at "w"
              refine ⟨b, 900, rfl, X6.bx, by decide, fun d7 H7 k7 bx7 _ _ => ?_⟩
              walk_at "w"
              refine rd_I hmany ?_
              have pl0 := Int.emod_nonneg d7 (Int.ne_of_gt hmany)
              have pl1 := Int.emod_lt_of_pos d7 hmany
              generalize d7 % (cq.2.length : Int) = pl at pl0 pl1
              have X7 := X6.box k7 bx7
              walk_at "w"
              refine ⟨b, 8, rfl, bx7, by decide, fun fl H8 k8 bx8 _ _ => ?_⟩
              have X8 := X7.box k8 bx8
              have st8 := (StB.box N3 k7).trans (StB.box N3 k8) X7.bx.al
              obtain ⟨cq', hcq', _, C8⟩ := X8.net.nt.ct j cp hcp
              rw [hcq] at hcq'
              cases hcq'
              obtain ⟨dx8, xs8, hoc8, hlc8, hrc8⟩ := id C8
              have hplr : cq.2[pl.toNat]? = some cq.2[pl.toNat] := List.getElem?_eq_getElem (by omega)
              have hrow := hrows.2 _ (List.mem_of_getElem? hplr)
              generalize hrw : cq.2[pl.toNat] = row at hplr hrow
              have hfew : row.length ≤ 10000 := by
                rcases hrow with ⟨k0, l0, hk0, e⟩ | ⟨_, h⟩
                · rw [e]
                  have g := X8.net.si.ms (by omega) hk0
                  have lz := (X8.net.si.alk k0 l0 hk0).2.2.2.2.1
                  have := flat_len (cs := l0) fun c hc => (g.c c hc).w
                  simp [msgO, bodyO, chkO, numO_len] at this ⊢
                  omega
                · exact h
              have chn : ∀ {u' : Addr} {H9 : Hp} {rows' : List (List Int)}, Kp [cp.2.1, cp.2.2] H8 H9 → (u' = cp.2.2 ∨ H8 u' = none) → ChA K H9 cp.2.1 u' rows' → rows'.length ≤ t + 2 * (i + 1) → (∀ r ∈ rows', RowI AL3 r) → ∃ N' S', Ses P w K H9 b N' S' n (t + 2 * (i + 1)) (made ++ new) nms3 AL3 ∧ StB b N3 N' H6 H9 := fun k9 hn9 C9 hl hr => by
                obtain ⟨N', S', Y, s⟩ := X8.chan hcp hcq k9 hn9 C9 (show t + 2 * i ≤ t + 2 * (i + 1) by omega) hl hr
                exact ⟨N', S', Y, st8.trans s X8.bx.al⟩
              walk_at "w"
              refine rd_if (fun hb5 => ?_) fun hb5 => ?_
              · walk_at "w"
                refine rd_kmf hoc8 rfl ?_
                walk_at "w"
                refine ⟨cp.2.1, cp.2.2, cq.2, pl, rfl, C8, pl0, pl1, by omega, fun u' H9 k9 hn9 C9 => ?_⟩
                obtain ⟨N', S', Y, s⟩ := chn k9 hn9 C9 (by rw [List.length_append, List.length_take, List.length_drop]; omega) fun r hr => by
                  rcases List.mem_append.mp hr with h | h
                  · exact hrows.2 r (List.mem_of_mem_take h)
                  · exact hrows.2 r (List.mem_of_mem_drop h)
                walk_at "w"
                exact ⟨_, _, _, _, _, _, _, _, p, new, N', S', nms3, AL3, rfl, same s Y⟩
              walk_at "w"
              refine rd_if (fun hb6 => ?_) fun hb6 => ?_
              · walk_at "w"
                refine rd_kmf hoc8 rfl ?_
                walk_at "w"
                refine ⟨cp.2.1, cp.2.2, cq.2, pl, row, rfl, C8, pl0, hplr, by omega, by omega, fun u' H9 k9 hn9 C9 => ?_⟩
                obtain ⟨N', S', Y, s⟩ := chn k9 hn9 C9 (by rw [List.length_append]; simp; omega) fun r hr => by
                  rcases List.mem_append.mp hr with h | h
                  · exact hrows.2 r h
                  · rw [List.mem_singleton.mp h]; exact hrow
                walk_at "w"
                exact ⟨_, _, _, _, _, _, _, _, p, new, N', S', nms3, AL3, rfl, same s Y⟩
              walk_at "w"
              refine rd_if (fun hb7 => ?_) fun hb7 => ?_
              · walk_at "w"
                refine rd_kmf hoc8 rfl ?_
                walk_at "w"
                have hlast : cq.2[((cq.2.length : Int) - 1).toNat]? = some (cq.2[((cq.2.length : Int) - 1).toNat]'(by omega)) := List.getElem?_eq_getElem (by omega)
                refine ⟨cp.2.1, cp.2.2, cq.2, pl, (cq.2.length : Int) - 1, row, _, rfl, C8, pl0, hplr, by omega, hlast, fun u' H9 k9 hn9 C9 => ?_⟩
                obtain ⟨N', S', Y, s⟩ := chn k9 hn9 C9 (by rw [List.length_set, List.length_set]; omega) fun r hr => by
                  rcases List.mem_or_eq_of_mem_set hr with h | h
                  · rcases List.mem_or_eq_of_mem_set h with h | h
                    · exact hrows.2 r h
                    · rw [h]; exact hrows.2 _ (List.mem_of_getElem? hlast)
                  · rw [h]; exact hrow
                walk_at "w"
                exact ⟨_, _, _, _, _, _, _, _, p, new, N', S', nms3, AL3, rfl, same s Y⟩
              walk_at "w"
              refine rd_if (fun hb8 => ?_) fun hb8 => ?_
              · walk_at "w"
                obtain ⟨rv, hrv, frv⟩ := hrc8.get hplr
                refine rd_ixL (.inl (.inl hlc8)) (atN pl0 hrv) ?_
                walk_at "w"
                obtain ⟨ra, ro, rfl, era⟩ := frv
                refine ⟨ra, row, rfl, .inr ⟨ro, era⟩, by omega, ?_⟩
                rcases hrow with ⟨k0, l0, hk0, e⟩ | ⟨hbad, _⟩
                · have g := X8.net.si.ms (by omega) hk0
                  refine .inl ⟨⟨_, _, _, g, e⟩, fun H9 k9 => ?_⟩
                  have X9 := X8.up k9
                  have st9 := st8.trans (StB.of N3 k9) X8.bx.al
                  walk_at "w"
                  refine rd_kmf (k9.get hoc8 (by simp)) rfl ?_
                  walk_at "w"
                  refine ⟨b, 40, rfl, X9.bx, by decide, fun sp HA kA bxA sp0 _ => ?_⟩
                  have XA := X9.box kA bxA
                  have stA := st9.trans (StB.box N3 kA) X9.bx.al
                  walk_at "w"
                  refine ⟨b, 250, rfl, bxA, by decide, fun oc HB kB bxB oc0 oc1 => ?_⟩
                  have XB := XA.box kB bxB
                  have sB := stA.trans (StB.box N3 kB) XA.bx.al
                  obtain ⟨cqB, hcqB, _, CB⟩ := XB.net.nt.ct j cp hcp
                  rw [hcq] at hcqB
                  cases hcqB
                  refine ⟨cp.2.1, cp.2.2, cq.2, pl, sp, oc, row, rfl, CB, pl0, hplr, by omega, fun u' HC kC hnC CC z => ?_⟩
                  obtain ⟨N', S', Y, s⟩ := XB.chan hcp hcq kC hnC CC (show t + 2 * i ≤ t + 2 * (i + 1) by omega) (by split <;> (try rw [List.length_set]) <;> omega) fun r hr => by
                    split at hr
                    · rename_i c
                      rcases List.mem_or_eq_of_mem_set hr with h | h
                      · exact hrows.2 r h
                      · rw [h, e]
                        rw [e] at c
                        refine .inr ⟨msgO_bad g (by omega) c.2.2 ⟨oc0, by omega⟩, ?_⟩
                        rw [List.length_set, ← e]
                        exact hfew
                    · exact hrows.2 r hr
                  walk_at "w"
                  exact ⟨_, _, _, _, _, _, _, _, p, new, N', S', nms3, AL3, rfl, same (sB.trans s XB.bx.al) Y⟩
                · refine .inr ⟨hbad, fun H9 k9 => ?_⟩
                  walk_at "w"
                  exact ⟨_, _, _, _, _, _, _, _, p, new, N3, S3, nms3, AL3, rfl, same (st8.trans (StB.of N3 k9) X8.bx.al) ((X8.up k9).mono (by omega))⟩
              · walk_at "w"
                have hk8 := (hk2.up k7).up k8
                obtain ⟨dy8, ho8⟩ := X8.net.nt.ob
                rw [enw] at ho8
                refine rd_kmf ho8 rfl ?_
                walk_at "w"
                refine rd_ixI (k := .num k.1) hk8 rfl fun y1 i1 => ?_
                cases i1.int
                walk_at "w"
                refine rd_ixI (k := .num k.2) hk8 rfl fun y2 i2 => ?_
                cases i2.int
                walk_at "w"
                refine ⟨N3, S3, n, t + 2 * i, made ++ new, nms3, AL3, k, pl, j, cp, cq, row, by rw [enw], X8.net, by omega, hcp, hcq, ek, pl0, hplr, fun z N' S' H9 s9 Y9 => ?_⟩
                walk_at "w"
                exact ⟨_, _, _, _, _, _, _, _, p, new, N', S', nms3, AL3, rfl, same (st8.trans (s9.b b) X8.bx.al) ((X8.stp s9 Y9).mono (by omega))⟩
            · walk_at "w"
              exact ⟨_, _, _, _, _, _, _, _, p, new, N3, S3, nms3, AL3, rfl, same (StB.of N3 Kp.refl) (X6.mono (by omega))⟩
          · walk_at "w"
            exact ⟨_, _, _, _, _, _, _, _, p, new, N3, S3, nms3, AL3, rfl, st5, X5.mono (by omega), L5, ep5, npo3, im5⟩
    · rintro σ H3 ⟨x5, x6, x7, x8, x9, x10, x11, x12, p, new, N3, S3, nms3, AL3, rfl, st3, X3, L3, ep3, npo3, im3⟩
      walk_at "w"
      rw [Int.toNat_natCast] at X3
      exact q p new N3 S3 nms3 AL3 H3 st3 X3 L3
end
end GT
set_option maxHeartbeats 2000000
namespace GT
open PySem PySem.Spec PyProof.Rows L2
theorem dp_ce (c : Cell) : (ceD c).depth ≤ 8 := by
  have := dp_vl c.2
  simp [ceD, pD, NestedKey.depth, NestedKey.depthAll]
  omega
section
variable {P : Program} {w : World} {K : PySem.W.Frag}
theorem len_same {cs cs' : List (Ky × Cell)} (n1 : (cs.map (·.1)).Nodup) (n2 : (cs'.map (·.1)).Nodup) (e : ∀ k, aget cs k = aget cs' k) : cs.length = cs'.length := by
  have := (perm_of_nodup n1 n2 fun k => by rw [← aget_isSome, ← aget_isSome, e]).length_eq
  rwa [List.length_map, List.length_map] at this
theorem rd_neCe {H : Hp} {Q : VK} {d d' : Addr} {cs cs' : List (Ky × Cell)} (h1 : DVr P w K kyD (Rce K) H d cs) (h2 : DVr P w K kyD (Rce K) H d' cs') (n1 : (cs.map (·.1)).Nodup) (n2 : (cs'.map (·.1)).Nodup) (e : ∀ k, aget cs k = aget cs' k) (q : Q (.bl false) H) : rNeDN P w K (.ref d) (.ref d') H Q := by
  obtain ⟨kvs, dr, prf⟩ := h1
  obtain ⟨kvs', dr', prf'⟩ := h2
  refine ⟨d, d', kvs, kvs', rfl, rfl, dr, dr', by rw [prF_len prf, prF_len prf', len_same n1 n2 e], fun p hp => ?_, q⟩
  obtain ⟨i, hi⟩ := List.mem_iff_getElem?.mp hp
  obtain ⟨q0, hq0, hq1, hq2⟩ := prF_at prf hi
  have ha : aget cs' q0.1 = some q0.2 := by rw [← e]; exact aget_of_mem n1 (List.mem_of_getElem? hq0)
  rcases prF_get kF_ky.inj prf' q0.1 with ⟨z, _⟩ | ⟨a, v, ea, ev, r⟩
  · rw [ha] at z; cases z
  · rw [ha] at ea
    cases ea
    exact ⟨v, ceD q0.2, by rw [hq1]; exact ev, hq2, r, dp_ce _⟩
end
section
variable {n t : Nat} {made : List Ch} {nms : List Nm} {AL : List (Nm × List Ch)} {S : Sys} {i : Nat} {r : Rep}
theorem tog_taken (h : SysI n t made nms AL S) (tg : TogR S.reps) (hr : S.reps[i]? = some r) {c : Ch} (hc : c ∈ made) : c ∈ taken r := by
  have R := h.rep i r hr
  have hp := (h.mok c hc).p
  have hl : c.st.2.toNat < S.reps.length := by rw [h.sz]; omega
  have hq : S.reps[c.st.2.toNat]? = some S.reps[c.st.2.toNat] := List.getElem?_eq_getElem hl
  have Q := h.rep _ _ hq
  have mr := List.mem_of_getElem? hr
  have mq := List.mem_of_getElem? hq
  exact (taken_same h R Q (tg r mr).1 (tg _ mq).1 ((tg r mr).2 _ mq) c).mpr (Q.own c hc (by omega))
theorem late_best {cs : List (Ky × Cell)} {c : Ch} (h : BestC cs (fun x => x ∈ made ++ [c])) (l : ∀ x ∈ made, ltP x.st c.st = true) : vlC cs c.ky = c.vl := by
  unfold vlC
  cases e : aget cs c.ky with
  | none => exact (h.no _ e c (by simp) rfl).elim
  | some ce =>
    obtain ⟨c0, t0, k0, e0, b0⟩ := h.so _ _ e
    have := b0 c (by simp) rfl
    rcases List.mem_append.mp t0 with m | m
    · rw [l c0 m] at this; cases this
    · rw [List.mem_singleton.mp m] at e0
      rw [← e0]
      rfl
/-- the cells of the law are the best -/
theorem law_same (h : SysI n t made nms AL S) {cs : List (Ky × Cell)} (b : BestC cs (fun c => c ∈ made)) (k : Ky) : aget cs k = aget (made.foldl takeC []) k := b.uniq (BestC.of_list made) (fun a b ha hb => h.uq a b ha hb) k
end
/-! the parts of a graph -/
section
variable {K : PySem.W.Frag} {H : Hp}
theorem paired_take' {α β : Type} {R : α → β → Prop} {xs : List α} {ys : List β} (h : Paired R xs ys) (n : Nat) : Paired R (xs.take n) (ys.take n) := paired_take h n
def thT (cs : List (Ky × Cell)) (L L' : List Nm) : PyData := .list (L'.map fun n => .list (NestedKey.datas (thing cs L n)))
theorem thT_dp {cs : List (Ky × Cell)} {L : List Nm} {b : Addr} {xs : List V} {L' : List Nm} (s : SqL K H b xs) (h : ThP K H cs L xs L') : Dp K H (.ref b) (thT cs L L') :=
  .lst s (dp_pair (f := fun n => .list (NestedKey.datas (thing cs L n))) (fun _ _ ⟨_, a, b⟩ => fz_dp a b) h)
theorem thT_shp {cs : List (Ky × Cell)} (ok : CsOk cs) (L L' : List Nm) : SeqAt.shaped (thT cs L L') = true := shp_of (thD_lay ok L L').1 (by have := (thD_lay ok L L').2; unfold thT; omega)
end
theorem al_all {l : List Nm} : PySem.W.AlikeAll ((l.map pD).map NestedKey.data) := by
  refine ⟨fun a ha b hb => ?_, fun a ha => ?_⟩
  · simp only [List.map_map, List.mem_map, Function.comp] at ha hb
    obtain ⟨x, _, rfl⟩ := ha
    obtain ⟨y, _, rfl⟩ := hb
    exact al_p x y
  · simp only [List.map_map, List.mem_map, Function.comp] at ha
    obtain ⟨x, _, rfl⟩ := ha
    simp [pD, NestedKey.data]
end GT
set_option maxHeartbeats 4000000
namespace GT
open PySem PySem.Spec PyProof.Rows L2
local macro_rules | `(tactic| walk_at "v") => `(tactic| ((with_reducible show tVar _ _ _ _); refine rd_var rfl ?_))
local macro_rules | `(tactic| walk_at "s1") => `(tactic| with_reducible first | refine rd_cons ?_ | refine rd_nil ?_ | refine rd_c ?_ | refine rd_op ?_ | refine rd_seq ?_ | refine rd_fld ?_ | refine rd_asg ?_ | refine rd_gname ?_ | refine rd_I0 ?_ | refine rd_cb ?_ | refine rd_next ?_ | refine rd_drop ?_ | refine rd_ret ?_ | refine rd_mf ?_ | refine rd_cf ?_ | refine rd_ifS ?_ | refine rd_test ?_ | refine rd_kt ?_)
local macro_rules | `(tactic| walk_at "s2") => `(tactic| with_reducible first | refine rd_tup ?_ | refine rd_lst ?_ | refine rd_bm ?_ | refine rd_gcons ?_ | refine rd_gnil ?_ | refine rd_gsub ?_ | refine rd_dm ?_ | refine rd_sfld ?_ | refine rd_fa ?_ | refine rd_frz ?_ | refine rd_nf ?_ | refine rd_retN ?_ | refine rd_cont ?_ | refine rd_par ?_ | refine rd_un ?_ | refine rd_and ?_ | refine rd_or ?_ | refine rd_not ?_ | refine rd_tru ?_ | refine rd_B ?_ | refine rd_chain ?_ | refine rd_sl ?_ | refine rd_nopart ?_ | refine rd_part ?_ | refine rd_kpart ?_)
local macro_rules | `(tactic| walk_at "s3") => `(tactic| with_reducible first | refine rd_U ?_ | refine rd_eqi ?_ | refine rd_nei ?_ | refine rd_eqs ?_ | refine rd_nes ?_ | refine rd_isN ?_ | refine rd_notN ?_ | refine rd_max2 ?_ | refine rd_min2 ?_ | refine rd_int1 ?_ | refine rd_intb ?_ | refine rd_kbmS ?_ | refine rd_il ?_ | refine rd_it ?_ | refine rd_ir1 ?_ | refine rd_ir2 ?_ | refine rd_in ?_ | refine rd_for ?_ | refine rd_lc ?_ | refine rd_yes ?_ | refine rd_tt ?_ | refine rd_ff ?_ | refine rd_listRg ?_ | refine rd_andV ?_ | refine rd_orV ?_ | refine rd_notV ?_ | refine rd_ex ?_)
local macro_rules | `(tactic| walk_at "c") => `(tactic| first | exact TX.c_Channel (by assumption) | exact TX.c_State (by assumption) | exact TX.c_Message (by assumption) | exact TX.c_Replica (by assumption) | exact TX.c_Network (by assumption))
local macro_rules | `(tactic| walk_at "n") => `(tactic| first | exact TX.n_Channel_under_way (by assumption) | exact TX.n_State_cells (by assumption) | exact TX.n_Message_octets (by assumption) | exact TX.n_Message_place (by assumption) | exact TX.n_Message_known (by assumption) | exact TX.n_Replica_peer (by assumption) | exact TX.n_Replica_clock (by assumption) | exact TX.n_Replica_made (by assumption) | exact TX.n_Replica_state (by assumption) | exact TX.n_Replica_roots (by assumption) | exact TX.n_Replica_pending (by assumption) | exact TX.n_Replica_messages (by assumption) | exact TX.n_Network_replicas (by assumption) | exact TX.n_Network_channels (by assumption))
local macro_rules | `(tactic| walk_at "f") => `(tactic| ((with_reducible show KFld _ _ _ _ _); refine rd_kfld (by assumption) (by walk_at "c") (by walk_at "n") rfl ?_))
local macro_rules | `(tactic| walk_at "g") => `(tactic| ((with_reducible show KSf _ _ _ _ _ _); refine rd_ksf (by assumption) (by walk_at "c") (by walk_at "n") (by simp) ?_))
local macro_rules | `(tactic| walk_at "w") => `(tactic| repeat (first | walk_at "v" | walk_at "s1" | walk_at "f" | walk_at "s2" | walk_at "s3"))
theorem cutN {xs : List V} {n : Nat} : cutV xs none (some (n : Int)) = xs.take n := by
  unfold cutV
  rw [HT.sIx_nat, HT.sIx_none, List.drop_zero, Nat.sub_zero]
  rcases Nat.le_total n xs.length with h | h
  · rw [Nat.min_eq_left h]
  · rw [Nat.min_eq_right h, List.take_length, List.take_of_length_le h]
section
variable {P : Program} {w : World} {K : PySem.W.Frag} {mg : Str → Option Value} {base : Heap}
abbrev sp_law (P : Program) (w : World) (K : PySem.W.Frag) : Sp := fun vs H Q _ => ∃ (l : Addr) (ns : List Int), vs = [.ref l] ∧ SqL K H l (ns.map V.int) ∧ ∀ H', Q (.bl true) H'
/-- a def by its datum, bound at every state -/
theorem TX.okA (T : TX P K mg) {CX : CXT} {N ps : List Str} {k : Nat} {sp : Sp} (i : Nat) {d : He.DefD} (hd : fnL[i]? = some d) (hl : d.dfl = []) (hk : d.kwd = []) (S : FnScope N ps d.scope)
    (hb : ∀ (kV doc pm : Value) (an : Option Addr) (cdv ct : Value) (us : List Value), us.length = ps.length → bindArgs (PySem.W.fnOf d.name d.qual d.params d.body d.scope .none kV doc pm an cdv ct) ⟨us, []⟩ = pure (ps.zip us))
    (len : ∀ vs H Q E, sp vs H Q E → vs.length = ps.length)
    (hbody : ∀ (base : Heap) (cdv : Value) (A : Around) (outer : List Env) (s : Shared) (H : Hp) (vs : List V) (Q : VK) (E : XK), Room k (A.deeper (envOfC d.qual d.scope s.heap.objs.size (He.fAd K d.at_) cdv)) → sp vs H Q E →
      ∃ t, PSs (cxOf CX P w K mg base N d.qual d.scope (He.fAd K d.at_) cdv A outer s H E) d.body t ∧ t { nx := fun _ H' => Q .non H', rt := Q } (start N vs) H) :
    ∃ fd, (∀ base : Heap, FnOk P w K mg base CX (k + 1) (He.fAd K d.at_) fd ps sp) ∧ ∀ (s : Shared) (us : List Value), us.length = ps.length → BindsTo s fd ⟨us, []⟩ (ps.zip us) := by
  obtain ⟨fd, F⟩ := T.d.def_ i hd
  have e1 : d.dvs K = [] := by unfold He.DefD.dvs; rw [hl]; rfl
  have e2 : d.kws K = [] := by unfold He.DefD.kws; rw [hk]; rfl
  rw [e1, e2] at F
  exact ⟨fd, fun base => F.ok S len (hbody base), F.bindsA hb⟩
theorem ok_law (T : TX P K mg) : ∃ fd, (∀ base : Heap, FnOk P w K mg base CX0 13 (He.fAd K ("law", none)) fd p_law (sp_law P w K)) ∧ ∀ (s : Shared) (us : List Value), us.length = p_law.length → BindsTo s fd ⟨us, []⟩ (p_law.zip us) := by
  refine T.okA 76 (d := d_law) rfl rfl rfl sc_law (fun _ _ _ _ _ _ us hl => match us, hl with | [_], _ => rfl) (fun vs H Q E h => ?_) fun base cdv Ar outer sh H vs Q E hr h => ?_
  · obtain ⟨l, ns, rfl, _⟩ := h; rfl
  · obtain ⟨l, ns, rfl, sq, q⟩ := h
    obtain ⟨hu, hu1, hu65⟩ := rm_of hr
    refine ⟨_, PSs.nox (pss_cons (ps_set (i := 1) sc_law.nd rfl (Or.inl rfl) (pe_fn (ok__law_box T) T.g__law_box (hr.mono (by decide)) pass0 (pa_cons (pv 0) (pa_cons pe_int (pa_cons pe_int pa_nil)))))
      (pss_cons (ps_set (i := 2) sc_law.nd rfl (Or.inl rfl) (pe_mk' T.k_Network (ok_Network_init T) T.g_Network (hr.mono (by decide)) pass0 (pa_cons (pe_op op_add pe_int (pe_fn (ok__law_draw T) T.g__law_draw (hr.mono (by decide)) pass0 (pa_cons (pv 1) (pa_cons pe_int pa_nil)))) pa_nil)))
      (pss_cons (ps_set (i := 3) sc_law.nd rfl (Or.inl rfl) (pe_lst pa_nil))
      (pss_cons (ps_for PassesOwn.never rfl (pi_range1 (by rfl) T.f_range (pa_cons pe_int pa_nil)) (pg_name (i := 4) sc_law.nd rfl (Or.inl rfl))
      (pss_cons (ps_set (i := 3) sc_law.nd rfl (Or.inl rfl) (pe_op op_catL (pv 3) (pe_fn (ok__law_session T) T.g__law_session (hr.mono (by decide)) pass0 (pa_cons (pv 1) (pa_cons (pv 2) (pa_cons pe_int pa_nil))))))
      (pss_cons (ps_for PassesOwn.never rfl (pi_list (pe_fld (pv 2) rfl)) (pg_name (i := 5) sc_law.nd rfl (Or.inl rfl))
      (pss_cons (ps_set (i := 6) sc_law.nd rfl (Or.inl rfl) (pe_callTy call_listQ (by rfl) T.f_list (by decide +kernel) (pa_cons (pe_fld (pv 5) rfl) pa_nil)))
      (pss_cons (ps_lock (ps_for PassesOwn.never rfl (pi_dn (pe_fld (pv 5) rfl)) (pg_name (i := 7) sc_law.nd rfl (Or.inl rfl))
      (pss_one (ps_set (i := 6) sc_law.nd rfl (Or.inl rfl) (pe_op op_catL (pv 6) (pe_ix (ix_dn hu) (pe_fld (pv 5) rfl) (pv 7) (fun _ _ => rfl)))))))
      (pss_one (ps_if (pt_cmpR (op_neDN hu) (pe_fld (pe_fld (pv 5) rfl) rfl) (pe_fn (ok__law_cells T) T.g__law_cells (hr.mono (by decide)) pass0 (pa_cons (pv 6) pa_nil)) (nomark _))
      (pss_one (ps_ret pe_bl))
      pss_nil)))))
      (pss_one (ps_for PassesOwn.never rfl (pi_list (pe_fld (pv 2) rfl)) (pg_name (i := 8) sc_law.nd rfl (Or.inl rfl))
      (pss_one (ps_for PassesOwn.never rfl (pi_list (pe_fld (pv 2) rfl)) (pg_name (i := 9) sc_law.nd rfl (Or.inl rfl))
      (pss_one (ps_if (PW.pt (pw_and (pt_not (pt_tru (pe_fld (pv 8) rfl))) (pw_and (pt_not (pt_tru (pe_fld (pv 9) rfl))) (pw_and1 (pt_cmpR (op_eqLI hu) (pe_callB (call_sortN hu rfl) (by rfl) T.f_sorted (by decide +kernel) (pa_cons (pe_fld (pv 8) rfl) pa_nil)) (pe_callB (call_sortN hu rfl) (by rfl) T.f_sorted (by decide +kernel) (pa_cons (pe_fld (pv 9) rfl) pa_nil)) (nomark _))))))
      (pss_one (ps_if (pt_not (pt_val (pe_fn (ok_are_alike T) T.g_are_alike (hr.mono (by decide)) pass0 (pa_cons (pe_fld (pv 8) rfl) (pa_cons (pe_lst (pa_cons (pe_tup (pa_cons pe_int (pa_cons pe_int pa_nil))) pa_nil)) (pa_cons (pe_fld (pv 9) rfl) (pa_cons (pe_lst (pa_cons (pe_tup (pa_cons pe_int (pa_cons pe_int pa_nil))) pa_nil)) pa_nil)))))))
      (pss_one (ps_ret pe_bl))
      pss_nil))
      pss_nil)))))))))
      (pss_cons (ps_setLcW (i := 10) (own := [("_law_change", 13)]) sh rfl sc_law.nd rfl rfl (sw_true rfl rfl rfl (by decide +kernel)) (pi_list (pv 3)) (blkOk_by (own := [("_law_change", 13)]) (N := n_law) (sc := defScope s_law) (by decide +kernel)) (pg_name (i := 13) sc_law.nd rfl (Or.inl rfl)) pts_nil (pe_ix ix_tup (pv 13) pe_int (fun _ _ => rfl)) (fun _ _ _ _ _ => (pg_name (i := 13) sc_law.nd rfl (Or.inl rfl))) (fun _ _ _ _ _ => pts_nil) (fun _ _ _ _ _ => (pe_ix ix_tup (pv 13) pe_int (fun _ _ => rfl))))
      (pss_cons (ps_if (pt_cmpR op_ne (pe_callB cr_lenT (by rfl) T.f_len (by decide +kernel) (pa_cons (pe_callTy (cr_setT rfl hu) (by rfl) T.f_set (by decide +kernel) (pa_cons (pv 10) pa_nil)) pa_nil)) (pe_callB call_lenQ (by rfl) T.f_len (by decide +kernel) (pa_cons (pv 10) pa_nil)) (nomark _))
      (pss_one (ps_ret pe_bl))
      pss_nil)
      (pss_cons (ps_expr (pe_mt0 (ok_Network_settle T) T.c_Network T.m_Network_settle (hr.mono (by decide)) pass0 (pv 2)))
      (pss_cons (ps_set (i := 11) sc_law.nd rfl (Or.inl rfl) (pe_fn (ok__law_graph T) T.g__law_graph (hr.mono (by decide)) pass0 (pa_cons (pe_fn (ok__law_cells T) T.g__law_cells (hr.mono (by decide)) pass0 (pa_cons (pv 3) pa_nil)) (pa_cons (pe_lst (pa_cons (pe_tup (pa_cons pe_int (pa_cons pe_int pa_nil))) pa_nil)) pa_nil))))
      (pss_cons (ps_for PassesOwn.never rfl (pi_list (pe_fld (pv 2) rfl)) (pg_name (i := 5) sc_law.nd rfl (Or.inl rfl))
      (pss_cons (ps_if (pt_not (pt_val (pe_fn (ok_are_alike T) T.g_are_alike (hr.mono (by decide)) pass0 (pa_cons (pe_fld (pv 5) rfl) (pa_cons (pe_lst (pa_cons (pe_tup (pa_cons pe_int (pa_cons pe_int pa_nil))) pa_nil)) (pa_cons (pe_fld (pe_ix ix_list (pe_fld (pv 2) rfl) pe_int (fun _ _ => rfl)) rfl) (pa_cons (pe_lst (pa_cons (pe_tup (pa_cons pe_int (pa_cons pe_int pa_nil))) pa_nil)) pa_nil)))))))
      (pss_one (ps_ret pe_bl))
      pss_nil)
      (pss_one (ps_if (PW.pt (pw_and (pt_cmpR (op_neD hu) (pe_slice sl_list (pe_ix ix_tup (pe_mt0 (ok_Replica_graph T) T.c_Replica T.m_Replica_graph (hr.mono (by decide)) pass0 (pv 5)) pe_int (fun _ _ => rfl)) po_none (po_some (pe_callB call_lenQ (by rfl) T.f_len (by decide +kernel) (pa_cons (pe_ix ix_tup (pv 11) pe_int (fun _ _ => rfl)) pa_nil)))) (pe_ix ix_tup (pv 11) pe_int (fun _ _ => rfl)) (nomark _)) (pw_and1 (pt_cmpR (op_eqLI hu) (pe_fld (pv 5) rfl) (pe_lst (pa_cons (pe_tup (pa_cons pe_int (pa_cons pe_int pa_nil))) pa_nil)) (nomark _)))))
      (pss_one (ps_ret pe_bl))
      pss_nil))))
      (pss_cons (ps_set (i := 12) sc_law.nd rfl (Or.inl rfl) (pe_mt' (ok_Replica_put T) T.c_Replica T.m_Replica_put (hr.mono (by decide)) pass0 (pe_ix ix_list (pe_fld (pv 2) rfl) pe_int (fun _ _ => rfl)) (pa_cons (pe_tup (pa_cons pe_int (pa_cons pe_int pa_nil))) (pa_cons pe_str (pa_cons pe_int pa_nil)))))
      (pss_cons (ps_expr (pe_mt0 (ok_Network_settle T) T.c_Network T.m_Network_settle (hr.mono (by decide)) pass0 (pv 2)))
      (pss_one (ps_ret (pe_and (pe_cmpR (op_gtI hu) (pe_ix ix_tup (pv 12) pe_int (fun _ _ => rfl)) (pe_callB (call_maxI hu rfl) (by rfl) T.f_max (by decide +kernel) (pa_cons (pe_op op_catL (pv 10) (pe_lst (pa_cons (pe_tup (pa_cons pe_int (pa_cons pe_int pa_nil))) pa_nil))) pa_nil)) (nomark _)) (pe_one (pe_cmpR (op_eqLI hu) (pe_lcW (own := [("_law_one", 8)]) sh rfl sc_law.nd (pi_list (pe_fld (pv 2) rfl)) (blkOk_by (own := [("_law_one", 8)]) (N := n_law) (sc := defScope s_law) (by decide +kernel)) (pg_name (i := 8) sc_law.nd rfl (Or.inl rfl)) (pts_one (pt_cmpR (op_neI hu) (pe_mt' (ok_State_value T) T.c_State T.m_State_value (hr.mono (by decide)) pass0 (pe_fld (pv 8) rfl) (pa_cons (pe_tup (pa_cons pe_int (pa_cons pe_int pa_nil))) (pa_cons pe_str pa_nil))) pe_int (nomark _))) pe_int (fun _ _ _ _ _ => (pg_name (i := 8) sc_law.nd rfl (Or.inl rfl))) (fun _ _ _ _ _ => (pts_one (pt_cmpR (op_neI hu) (pe_mt' (ok_State_value T) T.c_State T.m_State_value (hr.mono (by decide)) pass0 (pe_fld (pv 8) rfl) (pa_cons (pe_tup (pa_cons pe_int (pa_cons pe_int pa_nil))) (pa_cons pe_str pa_nil))) pe_int (nomark _)))) (fun _ _ _ _ _ => pe_int)) (pe_lst pa_nil) (nomark _))))))))))))))))), ?_⟩
    walk_at "w"
    refine ⟨l, ns, 63, rfl, sq, by omega, fun b H1 n1 k1 bx1 => ?_⟩
    walk_at "w"
    refine ⟨b, 3, rfl, bx1, by decide, fun x H2 k2 bx2 x0 x3 => ?_⟩
    walk_at "w"
    intro nw dx nnw ndx nxd
    refine ⟨nw, dx, (2 + x).toNat, by rw [Int.toNat_of_nonneg (by omega)], upd_same, by omega, by omega, fun N S H3 enw k3 ow Nt => ⟨rfl, ?_⟩⟩
    generalize hnn : (2 + x).toNat = n at Nt
    have hbn : b ≠ nw := fun z => bx2.al (by rw [z]; exact nnw)
    have kx : Kp [] H2 H3 := ((((Kp.new ndx).wrn nnw).nil (F := [nw])).trans k3).weak fun b hb => .inr (by simp at hb; rw [hb]; exact nnw)
    have X3 : Ses P w K H3 b N S n 0 [] [(0, 0)] [] := ⟨Nt, bx2.up kx (by simp), fun z => by
      rcases ow b z with e | e
      · exact hbn e
      · have := none_upd e
        exact bx2.al this⟩
    walk_at "w"
    refine rd_klst (by simp) fun p0 H4 n4 k4 e4 => ?_
    have X4 := X3.up k4
    walk_at "w"
    refine rd_kir1 (by omega) (by omega) ?_
    refine for_it walk_range (fun i σ H' => ∃ (x4 x5 x6 x7 x8 x9 : Option V) (p : Addr) (made : List Ch) (N' : NAd) (S' : Sys) (nms : List Nm) (AL : List (Nm × List Ch)), σ = [some (.ref l), some (.ref b), some (.ref nw), some (.ref p), x4, x5, x6, x7, x8, x9, none, none, none, none] ∧ Ses P w K H' b N' S' n (24 * i) made nms AL ∧ Lst K H' b N' p made ∧ N'.nw = nw)
      ⟨none, none, none, none, none, none, p0, [], N, S, _, _, rfl, X4, Lst.new (H := H3) X3 n4 ⟨[], e4, .nil⟩, enw⟩ (fun _ _ _ _ _ => trivial) ?_ ?_
    · rintro i _ σ _ H5 hi ⟨x4, x5, x6, x7, x8, x9, p, made, N5, S5, nms, AL, rfl, X5, L5, enw5⟩ ⟨rfl, rfl⟩
      have hi2 : i < 2 := hi
      walk_at "w"
      refine ⟨b, N5, S5, n, 24 * i, made, nms, AL, 12, by rw [enw5]; rfl, X5, by omega, fun p6 new N6 S6 nms6 AL6 H6 st6 X6 L6 => ?_⟩
      have X6 : Ses P w K H6 b N6 S6 n (24 * i + 2 * 12) (made ++ new) nms6 AL6 := X6
      have L6 : Lst K H6 b N6 p6 new := L6
      have L5' := L5.stp st6
      obtain ⟨⟨xs, ex, ix⟩, _, _⟩ := L5'
      obtain ⟨⟨zs, ez, iz⟩, _, _⟩ := L6
      have lx := X6.net.si.ml
      rw [List.length_append] at lx
      refine rd_cat (.inl ex) (.inl ez) (by rw [ImA.mlen ix, ImA.mlen iz]; omega) fun p7 H7 n7 k7 e7 => ?_
      have X7 := X6.up k7
      have L7 : Lst K H7 b N6 p7 (made ++ new) := Lst.new (H := H6) X6 n7 ⟨_, e7, by rw [List.map_append]; exact ImA.app (ix.up k7) (iz.up k7)⟩
      have enw7 : N6.nw = nw := st6.nw.trans enw5
      generalize made ++ new = made7 at X7 L7 X6
      obtain ⟨dx7, ho7⟩ := X7.net.nt.ob
      rw [enw7] at ho7
      have hn7 : n = n := rfl
      have htb : 24 * i + 2 * 12 ≤ 48 := by omega
      have rlen : (refsA N6.As).length = n := by rw [refs_len, X7.net.nt.rn, X7.net.si.sz]
      have hrl := X7.net.nt.rl
      walk_at "w"
      refine rd_kil (Fz.sq hrl) ?_
      refine for_it (walk_list (xs := refsA N6.As)) (fun j σ H' => ∃ (x5 x6 x7 : Option V), σ = [some (.ref l), some (.ref b), some (.ref nw), some (.ref p7), some (.int (0 + (i : Int))), x5, x6, x7, x8, x9, none, none, none, none] ∧ Kp [] H7 H')
        ⟨_, _, _, rfl, Kp.refl⟩ (fun j σ H' _ ⟨_, _, _, _, k⟩ => Fz.sq (hrl.up k)) ?_ ?_
      · rintro j x σ _ H8 hj ⟨y5, y6, y7, rfl, k8⟩ ⟨rfl, hx⟩
        rw [rlen] at hj
        obtain ⟨A, hA, rfl⟩ := refs_get hx
        have X8 := X7.up k8
        obtain ⟨A', r, hA', hrr, R, RI⟩ := X8.net.rep hj
        rw [hA] at hA'
        cases hA'
        obtain ⟨dx8, ho8⟩ := R.ob
        obtain ⟨ps, eps, imps⟩ := id R.pn
        have hml8 := X8.net.si.ml
        have hpl := RI.pl
        have hmsl := X8.net.si.msl hrr
        walk_at "w"
        refine rd_listL (.inl (.inl eps)) fun pc H9 n9 k9 e9 => ?_
        walk_at "w"
        have R9 := R.up0 k9
        have Rnd := R9.nd
        obtain ⟨kvs, ⟨es, hes, hko, hkv⟩, prf⟩ := id R9.me
        have ho9 := k9.get ho8 (by simp)
        have nam : A.a ≠ A.ms := fun z => by rw [z, hes] at ho9; cases ho9
        have el : es.length = r.msgs.length := by rw [← prF_len prf, ← hkv]; simp [kvE]
        have pcm : pc ≠ A.ms := fun z => by rw [z, hes] at e9; cases e9
        refine ⟨A.ms, _, hes, trivial, fun od => ?_⟩
        have kL : Kp [A.ms] H9 (upd H9 A.ms (.frz od (DN P w A.ms es))) := Kp.wr (by rw [hes]; trivial) (by simp)
        have hoL : upd H9 A.ms (.frz od (DN P w A.ms es)) A.a = _ := (upd_ne nam).trans ho9
        walk_at "w"
        refine rd_kin upd_same ?_
        refine for_it walk_n (fun u σ H' => ∃ (pc : Addr) (x7 : Option V), σ = [some (.ref l), some (.ref b), some (.ref nw), some (.ref p7), some (.int (0 + (i : Int))), some (.ref A.a), some (.ref pc), x7, x8, x9, none, none, none, none] ∧ Kp [] (upd H9 A.ms (.frz od (DN P w A.ms es))) H' ∧ LM K chD H' pc (r.pend ++ (r.msgs.take u).flatMap (·.2)) ∧ pc ≠ A.ms ∧ (r.pend ++ (r.msgs.take u).flatMap (·.2)).length ≤ 60 + 60 * u)
          ⟨pc, _, rfl, Kp.refl, ⟨_, (upd_ne pcm).trans e9, by rw [List.take_zero]; show ImA K _ ps ((r.pend ++ []).map chD); rw [List.append_nil]; exact (imps.up k9).up kL⟩, pcm, by simp; omega⟩ (fun u σ H' _ ⟨_, _, _, k, _⟩ => k.get upd_same (by simp)) ?_ ?_
        · rintro u x σ _ HA hu ⟨pc, z7, rfl, kA, ⟨ws, ew, iw⟩, npc, lw⟩ ⟨rfl, e, he, rfl⟩
          have k9A : Kp [A.ms] H9 HA := kL.trans kA.nil
          have hdz : HA A.ms = some (.frz od (DN P w A.ms es)) := kA.get upd_same (by simp)
          have hoA := kA.get hoL (by simp)
          have prfA : PrF pD (Rms K HA) kvs r.msgs := prF_mono prf fun _ _ z => st_ms _ _ _ _ _ k9A z
          obtain ⟨q0, hq1, hq2, -⟩ := walkV (R := Rms K) (l := r.msgs) hdz (by rw [hkv]; exact prfA) (hko.up k9A) he
          have dvr : DVr P w K pD (Rms K) HA A.ms r.msgs := ⟨kvs, ⟨es, .inr ⟨od, hdz⟩, hko.up k9A, hkv⟩, prfA⟩
          have hag : aget r.msgs q0.1 = some q0.2 := aget_of_mem RI.mnd (List.mem_of_getElem? hq1)
          have hal := RI.au _ _ hag
          have hql := (X8.net.si.alk _ _ hal).2.2.2.2.1
          rw [el] at hu
          walk_at "w"
          refine rd_getV dvr kF_p (k := q0.1) hq2 hag fun v ⟨ms, fz, im⟩ => ?_
          obtain ⟨va, vo, rfl, ev⟩ := fz
          refine rd_cat (.inl ew) (.inr ⟨vo, ev⟩) (by rw [ImA.mlen iw, ImA.mlen im]; omega) fun pd HB nB kB eB => ?_
          walk_at "w"
          refine ⟨pd, _, rfl, kA.trans kB, ?_, fun z => ?_, ?_⟩
          · rw [take_snoc hq1, List.flatMap_append, ← List.append_assoc]
            exact ⟨_, eB, by rw [List.map_append]; exact ImA.app (iw.up kB) (by simpa using im.up kB)⟩
          · rw [z, hdz] at nB; cases nB
          · rw [take_snoc hq1, List.flatMap_append, ← List.append_assoc, List.length_append]
            have : (List.flatMap (fun x : Nm × List Ch => x.2) [q0]).length = q0.2.length := by simp
            omega
        · rintro σ HA ⟨pc, z7, rfl, kA, lm, npc, lw⟩
          have hdz : HA A.ms = some (.frz od (DN P w A.ms es)) := kA.get upd_same (by simp)
          refine ⟨hdz, ?_⟩
          have kU : Kp [] H9 (upd HA A.ms (DN P w A.ms es)) := Kp.unlock hes trivial kA
          rw [el, List.take_length] at lm lw
          obtain ⟨ws, ew, iw⟩ := lm
          have lmU : LM K chD (upd HA A.ms (DN P w A.ms es)) pc (taken r) := ⟨ws, (upd_ne npc).trans ew, ImA.unl hdz dn_nt _ _ iw⟩
          generalize upd HA A.ms (DN P w A.ms es) = HB at kU lmU ⊢
          have k8B := (k8.trans k9).trans kU
          have RB := R9.up0 kU
          obtain ⟨dxB, hoB⟩ := RB.ob
          obtain ⟨dxs, hsB⟩ := RB.st.st
          walk_at "w"
          refine ⟨.ref pc, taken r, rfl, lmU.r, ?_, fun d HC nC kC ceC => ?_⟩
          · show (r.pend ++ r.msgs.flatMap (·.2)).length < 90000
            omega
          have b1 := RI.best
          have b2 : BestC ((taken r).foldl takeC []) (fun c => c ∈ taken r) := BestC.of_list _
          refine rd_neCe ((RB.st.ce.up st_ce kC (by simp)).r) ceC.r b1.nd b2.nd (fun k => b1.uniq b2 (fun a b ha hb => X8.net.si.uq a b (RI.sub a ha) (RI.sub b hb)) k) ?_
          walk_at "w"
          exact ⟨_, _, _, rfl, k8B.trans kC⟩
      · rintro σ H8 ⟨y5, y6, y7, rfl, k8⟩
        have X8 := X7.up k8
        obtain ⟨dx8, ho8⟩ := X8.net.nt.ob
        rw [enw7] at ho8
        have hrl8 := X8.net.nt.rl
        walk_at "w"
        refine rd_kil (Fz.sq hrl8) ?_
        refine for_it (walk_list (xs := refsA N6.As)) (fun j σ H' => ∃ (z8 z9 : Option V), σ = [some (.ref l), some (.ref b), some (.ref nw), some (.ref p7), some (.int (0 + (i : Int))), y5, y6, y7, z8, z9, none, none, none, none] ∧ Kp [] H7 H') ⟨_, _, rfl, k8⟩ (fun j σ H' _ ⟨_, _, _, k⟩ => Fz.sq (hrl.up k)) ?_ ?_
        · rintro j x σ _ H9 hj ⟨z8, z9, rfl, k9⟩ ⟨rfl, hx⟩
          rw [rlen] at hj
          obtain ⟨A, hA, rfl⟩ := refs_get hx
          have ho9 := k9.get ho7 (by simp)
          walk_at "w"
          refine rd_kil (Fz.sq (hrl.up k9)) ?_
          refine for_it (walk_list (xs := refsA N6.As)) (fun m σ H' => ∃ (z9 : Option V), σ = [some (.ref l), some (.ref b), some (.ref nw), some (.ref p7), some (.int (0 + (i : Int))), y5, y6, y7, some (.ref A.a), z9, none, none, none, none] ∧ Kp [] H7 H') ⟨_, rfl, k9⟩ (fun j σ H' _ ⟨_, _, k⟩ => Fz.sq (hrl.up k)) ?_ ?_
          · rintro m x σ _ HA hm ⟨z9, rfl, kA⟩ ⟨rfl, hx2⟩
            rw [rlen] at hm
            obtain ⟨B, hB, rfl⟩ := refs_get hx2
            have XA := X7.up kA
            obtain ⟨A', r, hA', hrr, R, RI⟩ := XA.net.rep hj
            rw [hA] at hA'
            cases hA'
            obtain ⟨B', rq, hB', hqq, RB, QI⟩ := XA.net.rep hm
            rw [hB] at hB'
            cases hB'
            obtain ⟨dxA, hoA⟩ := R.ob
            obtain ⟨dxB, hoB⟩ := RB.ob
            obtain ⟨ps, eps, imps⟩ := id R.pn
            obtain ⟨qs, eqs, imqs⟩ := id RB.pn
            walk_at "w"
            refine rd_ktruL (.inl (.inl eps)) ?_
            cases hpr : r.pend with
            | cons c0 cs0 =>
              have e : ps.isEmpty = false := by
                rw [hpr] at imps
                obtain ⟨_, _, rfl, _⟩ := imps.hd
                rfl
              rw [e]
              refine rd_ifF rfl ?_
              walk_at "w"
              exact ⟨_, rfl, kA⟩
            | nil =>
              have e : ps.isEmpty = true := by
                rw [hpr] at imps
                cases imps
                rfl
              rw [e]
              refine rd_ifT rfl ?_
              walk_at "w"
              refine rd_ktruL (.inl (.inl eqs)) ?_
              cases hpq : rq.pend with
              | cons c0 cs0 =>
                have e : qs.isEmpty = false := by
                  rw [hpq] at imqs
                  obtain ⟨_, _, rfl, _⟩ := imqs.hd
                  rfl
                rw [e]
                refine rd_ifF rfl ?_
                walk_at "w"
                exact ⟨_, rfl, kA⟩
              | nil =>
                have e : qs.isEmpty = true := by
                  rw [hpq] at imqs
                  cases imqs
                  rfl
                rw [e]
                refine rd_ifT rfl ?_
                walk_at "w"
                refine rd_sortV R.me.r (srtOk_p _) fun p3 ys3 HC n3 kC e3 im3 => ?_
                have hoB' := kC.get hoB (by simp)
                walk_at "w"
                refine rd_sortV (RB.up0 kC).me.r (srtOk_p _) fun p4 ys4 HD n4 kD e4 im4 => ?_
                refine ⟨p3, p4, ys3, ys4, _, _, rfl, rfl, .inl (.inl (kD.get e3 (by simp))), .inl (.inl e4), im3.up kD, im4, shpL_p _, shpL_p _, ?_⟩
                have kAD := kC.trans kD
                walk_at "w"
                refine rd_if (fun hb => ?_) fun hb => ?_
                · have hb := of_decide_eq_true hb
                  have keys : ∀ k, k ∈ keysR r ↔ k ∈ keysR rq := fun k => by
                    unfold keysR
                    rw [← srt_mem (f := pD) (l := r.msgs.map (·.1)), ← srt_mem (f := pD) (l := rq.msgs.map (·.1)), ← mem_p (l := srt pD (r.msgs.map (·.1))), ← mem_p (l := srt pD (rq.msgs.map (·.1))), hb]
                  have hA6 := kAD.get hoA (by simp)
                  have hB6 := kAD.get hoB (by simp)
                  walk_at "w"
                  refine rd_ktup (K := K) (ks := [.num 0, .num 0]) (.cons (.num 0) (.cons (.num 0) .nil)) (by simp) fun v1 HE kE i1 => ?_
                  walk_at "w"
                  refine rd_klst (by simp) fun r1 HF nF kF eF => ?_
                  have hB7 := (kE.trans kF).get hB6 (by simp)
                  walk_at "w"
                  refine rd_ktup (K := K) (ks := [.num 0, .num 0]) (.cons (.num 0) (.cons (.num 0) .nil)) (by simp) fun v2 HG kG i2 => ?_
                  walk_at "w"
                  refine rd_klst (by simp) fun r2 HI nI kI eI => ?_
                  walk_at "w"
                  have kAF := (kAD.trans kE).trans kF
                  have kFI := kG.trans kI
                  have kAI := kAF.trans kFI
                  have XI := XA.up kAI
                  have rn := XI.net.si.rnm (by omega) hrr
                  have rnq := XI.net.si.rnm (by omega) hqq
                  refine ⟨A.s, A.d, r1, B.s, B.d, r2, r.cells, rq.cells, [v1], [v2], [(0, 0)], nms6, rfl, R.st.up kAI (by simp) (by simp), RB.st.up kAI (by simp) (by simp), .inl (.inl (kFI.get eF (by simp))), .inl (.inl eI), .cons ((i1.up kF).up kFI) .nil, .cons (i2.up kI) .nil, rn.ok, rn.cn, rnq.cn, fun n hn => by rw [List.mem_singleton.mp hn]; exact XI.net.si.n0, rn.nd, rnq.nd, rn.few, rnq.few, by simp, XI.net.si.ok hrr, fields_same rn.nd rnq.nd (cells_same XI.net.si RI QI hpr hpq keys), fun HJ kJ => ?_⟩
                  walk_at "w"
                  refine rd_ifF rfl ?_
                  walk_at "w"
                  exact ⟨_, rfl, (kA.trans kAI).trans kJ⟩
                · walk_at "w"
                  exact ⟨_, rfl, kA.trans kAD⟩
          · rintro σ HA ⟨z9, rfl, kA⟩
            exact ⟨_, _, rfl, kA⟩
        · rintro σ H9 ⟨z8, z9, rfl, k9⟩
          exact ⟨_, _, _, _, _, _, p7, made7, N6, S6, nms6, AL6, rfl, by rw [show 24 * (i + 1) = 24 * i + 2 * 12 by omega]; exact X7.up k9, L7.stp (StB.of N6 k9), enw7⟩
    · rintro σ H5 ⟨x4, x5, x6, x7, x8, x9, p, made, N5, S5, nms, AL, rfl, X5, L5, enw5⟩
      have X5 : Ses P w K H5 b N5 S5 n 48 made nms AL := X5
      obtain ⟨⟨xs, ex, ix⟩, npo, npb⟩ := id L5
      have hml := X5.net.si.ml
      walk_at "w"
      refine rd_kil (.inl (.inl ex)) ?_
      intro D hD
      refine lc_it (walk_list (xs := xs)) (fun i H' => Kp [] H5 H' ∧ ∃ ys, H' D = some (.lst ys) ∧ ImA K H' ys (((made.take i).map (·.st)).map pD)) ⟨Kp.new hD, [], upd_same, .nil⟩ (fun i H' _ ⟨k, _⟩ => .inl (.inl (k.get ex (by simp)))) ?_ ?_
      · rintro i x _ H6 hi ⟨k6, ys, ey, iy⟩ ⟨rfl, hx⟩
        obtain ⟨c, hc1, hc2⟩ := (ix.up k6).at hx
        walk_at "w"
        refine ⟨rfl, ?_⟩
        walk_at "w"
        refine rd_ixI (k := pD c.st) hc2 rfl fun u iu => ?_
        have kw : Kp [D] H6 (upd H6 D (.lst (ys ++ [u]))) := Kp.refl.wl ey (by simp)
        refine ⟨ys, ey, Nat.lt_of_lt_of_le (show ys.length < 1000 by rw [iy.len, List.length_map, List.length_map, List.length_take]; omega) (by decide), k6.wrn hD, ys ++ [u], upd_same, ?_⟩
        rw [take_snoc hc1, List.map_append, List.map_append]
        exact ImA.snoc (iy.up kw) (iu.up kw)
      rintro H6 ⟨k6, ys, ey, iy⟩
      rw [ImA.mlen ix, List.take_length] at iy
      have X6 := X5.up k6
      have nDo : ¬ N5.Own D := fun ⟨x, hx⟩ => X5.net.nt.al hx hD
      have nDb : D ≠ b := fun z => X5.bx.al (by rw [← z]; exact hD)
      walk_at "w"
      refine rd_setNm (nms := made.map (·.st)) (.inl (.inl ey)) iy (fun n h => h) (by rw [List.length_map]; omega) fun a M H7 na k7 ea ns => ?_
      walk_at "w"
      refine ⟨a, M, rfl, ea, ?_⟩
      walk_at "w"
      refine rd_lenL (.inl (.inl (k7.get ey (by simp)))) ?_
      walk_at "w"
      have hM : M.length = ys.length := by
        obtain ⟨Nn, h1, h2, h3⟩ := ns.n
        have e1 := congrArg List.length h1
        rw [List.length_map, List.length_map] at e1
        have e2 := (perm_of_nodup h2 X5.net.si.mst h3).length_eq
        rw [iy.len, List.length_map, ← e2, ← e1]
      refine rd_ifF (by rw [hM]; simp) ?_
      have X7 := X6.up k7
      obtain ⟨dx7, ho7⟩ := X7.net.nt.ob
      rw [enw5] at ho7
      walk_at "w"
      refine rd_kmf ho7 rfl ?_
      walk_at "w"
      refine ⟨N5, S5, n, 48, made, nms, AL, by rw [enw5], X7.net, by omega, fun z N8 S8 AL8 H8 st8 Y8 tg8 => ?_⟩
      have X8 : Ses P w K H8 b N8 S8 n 52 made nms AL8 := X7.stp st8 Y8
      have k57 := k6.trans k7
      have ex8 : H8 p = some (.lst xs) := st8.get (k57.get ex (by simp)) npo
      have ix8 := st8.ima (ix.up k57)
      have ey8 : H8 D = some (.lst ys) := st8.get (k7.get ey (by simp)) nDo
      have iy8 := st8.ima (iy.up k7)
      have nDo8 : ¬ N8.Own D := st8.no (k7.get ey (by simp)) nDo
      have enw8 : N8.nw = nw := st8.nw.trans enw5
      walk_at "w"
      refine ⟨.ref p, made, rfl, ⟨p, xs, rfl, .inl (.inl ex8), ix8⟩, by omega, fun d H9 nd9 k9 ce9 => ?_⟩
      walk_at "w"
      refine rd_ktup (K := K) (ks := [.num 0, .num 0]) (.cons (.num 0) (.cons (.num 0) .nil)) (by simp) fun v1 HA kA i1 => ?_
      walk_at "w"
      refine rd_klst (by simp) fun r1 HB nB kB eB => ?_
      walk_at "w"
      have k9B := kA.trans kB
      have b0 : BestC (made.foldl takeC []) (fun c => c ∈ made) := BestC.of_list made
      have l0 := b0.len (l := made) fun c h => h
      have nm0 := b0.names (nms := nms) fun c hc => ⟨(X8.net.si.mok c hc).nm, (X8.net.si.mok c hc).vl⟩
      have ok0 := b0.csok fun c hc => ⟨(X8.net.si.mok c hc).so, (X8.net.si.mok c hc).vo⟩
      refine ⟨d, r1, made.foldl takeC [], [v1], [(0, 0)], nms, rfl, ce9.up st_ce k9B (by simp), .inl (.inl eB), .cons (i1.up kB) .nil, X8.net.si.nm (by omega), nm0, fun n hn => by rw [List.mem_singleton.mp hn]; exact X8.net.si.n0, b0.nd, by omega, by simp, fun dv L0 HC kC rch0 gr0 => ?_⟩
      have k8C := (k9.trans k9B).trans kC
      have XC := X8.up k8C
      obtain ⟨dxC, hoC⟩ := XC.net.nt.ob
      rw [enw8] at hoC
      have hrl := XC.net.nt.rl
      have rlen : (refsA N8.As).length = n := by rw [refs_len, XC.net.nt.rn, XC.net.si.sz]
      obtain ⟨gt, ga, gb, gxs, rfl, gs1, gs2, gs3, gth⟩ := id gr0
      have hL0 : gxs.length = L0.length := Paired.length gth
      walk_at "w"
      refine rd_kil (Fz.sq hrl) ?_
      refine for_it (walk_list (xs := refsA N8.As)) (fun j σ H' => ∃ (y5 : Option V), σ = [some (.ref l), some (.ref b), some (.ref nw), some (.ref p), x4, y5, x6, x7, x8, x9, some (.ref D), some (.ref gt), none, none] ∧ Kp [] HC H') ⟨_, rfl, Kp.refl⟩ (fun j σ H' _ ⟨_, _, k⟩ => Fz.sq (hrl.up k)) ?_ ?_
      · rintro j x σ _ HD hj ⟨y5, rfl, kD⟩ ⟨rfl, hx⟩
        rw [rlen] at hj
        obtain ⟨A, hA, rfl⟩ := refs_get hx
        have XD := XC.up kD
        obtain ⟨A', r, hA', hrr, R, RI⟩ := XD.net.rep hj
        rw [hA] at hA'
        cases hA'
        obtain ⟨A0, r0, hA0, hrr0, R0, RI0⟩ := XD.net.rep (i := 0) (by omega)
        obtain ⟨dxA, hoA⟩ := R.ob
        obtain ⟨dx0, hoA0⟩ := R0.ob
        have hoD := kD.get hoC (by simp)
        have bA := tog_all XD.net.si tg8 hrr
        have bA0 := tog_all XD.net.si tg8 hrr0
        have rn := XD.net.si.rnm (by omega) hrr
        have rn0 := XD.net.si.rnm (by omega) hrr0
        walk_at "w"
        refine rd_ktup (K := K) (ks := [.num 0, .num 0]) (.cons (.num 0) (.cons (.num 0) .nil)) (by simp) fun v1 HE kE i1 => ?_
        walk_at "w"
        refine rd_klst (by simp) fun q1 HF nF kF eF => ?_
        have kDF := kE.trans kF
        have hoF := kDF.get hoD (by simp)
        have hoA0F := kDF.get hoA0 (by simp)
        walk_at "w"
        refine rd_ixL (Fz.sq (hrl.up (kD.trans kDF))) (v := .ref A0.a) (atN (by omega) (refs_at hA0)) ?_
        walk_at "w"
        refine rd_ktup (K := K) (ks := [.num 0, .num 0]) (.cons (.num 0) (.cons (.num 0) .nil)) (by simp) fun v2 HG kG i2 => ?_
        walk_at "w"
        refine rd_klst (by simp) fun q2 HI nI kI eI => ?_
        walk_at "w"
        have kFI := kG.trans kI
        have kDI := kDF.trans kFI
        refine ⟨A.s, A.d, q1, A0.s, A0.d, q2, r.cells, r0.cells, [v1], [v2], [(0, 0)], nms, rfl, R.st.up kDI (by simp) (by simp), R0.st.up kDI (by simp) (by simp), .inl (.inl (kFI.get eF (by simp))), .inl (.inl eI), .cons ((i1.up kF).up kFI) .nil, .cons (i2.up kI) .nil, rn.ok, rn.cn, rn0.cn, fun n hn => by rw [List.mem_singleton.mp hn]; exact XD.net.si.n0, rn.nd, rn0.nd, rn.few, rn0.few, by simp, XD.net.si.ok hrr, fields_same rn.nd rn0.nd (fun k => (law_same XD.net.si bA k).trans (law_same XD.net.si bA0 k).symm), fun HJ kJ => ?_⟩
        walk_at "w"
        refine rd_ifF rfl ?_
        have kDJ := kDI.trans kJ
        have RJ := R.up0 kDJ
        have hoAJ := kDJ.get hoA (by simp)
        walk_at "w"
        refine rd_kmf hoAJ rfl ?_
        walk_at "w"
        have rlr := nodup_len RI.rt.1 RI.rt.2
        have nlr := XD.net.si.nl
        refine ⟨A, r, nms, rfl, RJ, rn, RI.rt.2, by omega, fun gv L HK kK rch gr => ?_⟩
        obtain ⟨ht, ha, hb0, hxs, rfl, hs1, hs2, hs3, hth⟩ := id gr
        walk_at "w"
        refine rd_ixT hs1 (v := .ref hb0) (by rfl) ?_
        walk_at "w"
        have kCK := kD.trans (kDJ.trans kK)
        refine rd_ixT (sqt_kp kCK gs1) (v := .ref gb) (by rfl) ?_
        walk_at "w"
        refine rd_lenL (sql_kp kCK (by simp) gs3) ?_
        walk_at "w"
        refine rd_slL hs3 fun q3 HL nL kL eL => ?_
        walk_at "w"
        have kCL := kCK.trans kL
        refine rd_ixT (sqt_kp kCL gs1) (v := .ref gb) (by rfl) ?_
        rw [cutN] at eL
        have hf := fields_same rn.nd b0.nd (law_same XD.net.si bA)
        have dpx : Dp K HL (.ref q3) (thT r.cells L (L.take gxs.length)) := thT_dp (.inl (.inl eL)) (paired_take (Paired.mapP hth fun _ _ ⟨ys, a, b⟩ => ⟨ys, a.up kL, b.up kL⟩) _)
        have dpy : Dp K HL (.ref gb) (thT (made.foldl takeC []) L0 L0) := thT_dp (sql_kp kCL (by simp) gs3) (Paired.mapP gth fun _ _ ⟨ys, a, b⟩ => ⟨ys, a.up kCL, b.up kCL⟩)
        have same : r.roots = [(0, 0)] → PyData.eqv (thT r.cells L (L.take gxs.length)) (thT (made.foldl takeC []) L0 L0) = true := fun e => by
          have eL : L = L0 := by
            have h1 : Reach r.cells (rootsN r.roots) 0 L := rch
            rw [e] at h1
            exact (h1.same hf).det rch0
          rw [eL, hL0, List.take_length]
          unfold thT
          rw [thing_same hf]
          exact thD_self _ _
        refine ⟨_, _, dpx, dpy, thT_shp (XD.net.si.ok hrr) _ _, thT_shp ok0 _ _, ?_⟩
        walk_at "w"
        have hoAL := (kK.trans kL).get hoAJ (by simp)
        obtain ⟨rs, ers, imr⟩ := id (RJ.up0 (kK.trans kL)).ro
        refine rd_if (fun hb => ?_) fun hb => ?_
        · walk_at "w"
          refine rd_ktup (K := K) (ks := [.num 0, .num 0]) (.cons (.num 0) (.cons (.num 0) .nil)) (by simp) fun v3 HM kM i3 => ?_
          walk_at "w"
          refine rd_klst (by simp) fun q4 HN nN kN eN => ?_
          have kMN := kM.trans kN
          refine ⟨A.r, q4, rs, [v3], r.roots.map pD, [((0, 0) : Nm)].map pD, rfl, rfl, .inl (.inl (kMN.get ers (by simp))), .inl (.inl eN), imr.up kMN, .cons (i3.up kN) .nil, shpL_p _, shpL_p _, ?_⟩
          walk_at "w"
          refine rd_if (fun hb2 => ?_) fun hb2 => ?_
          · have e := of_decide_eq_true hb2
            have e2 : r.roots = [(0, 0)] := by
              have : ∀ (a b : List Nm), a.map pD = b.map pD → a = b := fun a => by
                induction a with
                | nil => intro b h; cases b with
                  | nil => rfl
                  | cons _ _ => cases h
                | cons x a ih => intro b h; cases b with
                  | nil => cases h
                  | cons y b =>
                    rw [List.map_cons, List.map_cons] at h
                    injection h with h1 h2
                    rw [pD_inj h1, ih b h2]
              exact this _ _ e
            rw [same e2] at hb
            cases hb
          · walk_at "w"
            exact ⟨_, rfl, kCL.trans kMN⟩
        · walk_at "w"
          exact ⟨_, rfl, kCL⟩
      · rintro σ HD ⟨y5, rfl, kD⟩
        have XD := XC.up kD
        obtain ⟨A0, r0, hA0, hrr0, R0, RI0⟩ := XD.net.rep (i := 0) (by omega)
        have rn0 := XD.net.si.rnm (by omega) hrr0
        have hoD := kD.get hoC (by simp)
        obtain ⟨dx0, hoA0⟩ := R0.ob
        have pe0 : r0.pend = [] := (tg8 r0 (List.mem_of_getElem? hrr0)).1
        have ey9 : HD D = some (.lst ys) := (k8C.trans kD).get ey8 (by simp)
        have iy9 := iy8.up (k8C.trans kD)
        walk_at "w"
        refine rd_ixL (Fz.sq (hrl.up kD)) (v := .ref A0.a) (atN (by omega) (refs_at hA0)) ?_
        refine rd_kmf hoA0 rfl ?_
        walk_at "w"
        refine rd_ktup (K := K) (ks := [.num 0, .num 0]) (.cons (.num 0) (.cons (.num 0) .nil)) (by simp) fun v1 HE kE i1 => ?_
        walk_at "w"
        have XE := XD.up kE
        have ho_E := kE.get hoD (by simp)
        refine ⟨A0, r0, v1, .int 1, (0, 0), "a", .num 1, nms, rfl, R0.up0 kE, i1, .num 1, by rw [pe0]; decide, .inl rfl, fun _ e => (by cases e), rn0, fun lv HF kF RF ilv => ?_⟩
        have fa : WdOk "a" ∧ 1 ≤ ("a" : Str).length ∧ ("a" : Str).length ≤ 8 ∧ StrOk "a" := by
          obtain ⟨z, hz, h⟩ := fld_ok 0
          cases hz
          exact h
        have siF := XE.net.si.note hrr0 (nm := (0, 0)) (f := "a") (x := .num 1) (by omega) XE.net.si.n0 fa ⟨⟨by decide, by decide⟩, rfl, fun _ e => by cases e⟩
        obtain ⟨YF, sF⟩ := XE.net.setR (A' := A0) hA0 (kF.mono (by simp [RAd.own])) (fun b hb => .inl hb) rfl RF siF
        have XF := XE.stp sF YF
        have eyF : HF D = some (.lst ys) := sF.get (kE.get ey9 (by simp)) nDo8
        have iyF := sF.ima (iy9.up kE)
        have nDoF : ¬ (N8.setR 0 A0).Own D := sF.no (kE.get ey9 (by simp)) nDo8
        have enwF : (N8.setR 0 A0).nw = nw := enw8
        have clk0 : ∀ c ∈ made, c.st.1 ≤ r0.clock := fun c hc => RI0.ck c (tog_taken XD.net.si tg8 hrr0 hc)
        have c00 := RI0.c0.1
        generalize hcc : noteC r0 (0, 0) "a" (.num 1) = c at XF YF siF ilv
        have cst : c.st = (r0.clock + 1, r0.peer) := by rw [← hcc]; rfl
        have cky : c.ky = (((0, 0) : Nm), ("a" : Str)) := by rw [← hcc]; rfl
        have cvl : c.vl = .num 1 := by rw [← hcc]; rfl
        obtain ⟨dxF, hoF⟩ := XF.net.nt.ob
        rw [enwF] at hoF
        walk_at "w"
        refine rd_kmf hoF rfl ?_
        walk_at "w"
        refine ⟨N8.setR 0 A0, _, n, 53, made ++ [c], nms, AL8, by rw [enwF], XF.net, by omega, fun z NG SG ALG HG sG YG tgG => ?_⟩
        have XG : Ses P w K HG b NG SG n 57 (made ++ [c]) nms ALG := XF.stp sG YG
        have eyG : HG D = some (.lst ys) := sG.get eyF nDoF
        have iyG := sG.ima iyF
        have ilvG := sG.im ilv
        have enwG : NG.nw = nw := sG.nw.trans enwF
        obtain ⟨dxG, hoG⟩ := XG.net.nt.ob
        rw [enwG] at hoG
        have hrlG := XG.net.nt.rl
        walk_at "w"
        refine rd_ixI (k := pD c.st) ilvG rfl fun y1 iy1 => ?_
        walk_at "w"
        refine rd_ktup (K := K) (ks := [.num 0, .num 0]) (.cons (.num 0) (.cons (.num 0) .nil)) (by simp) fun v2 HH kH i2 => ?_
        walk_at "w"
        refine rd_klst (by simp) fun q1 HI nI kI eI => ?_
        have kGI := kH.trans kI
        refine rd_cat (.inl (kGI.get eyG (by simp))) (.inl eI) (by rw [iyG.len, List.length_map, List.length_map]; simp; omega) fun q2 HJ nJ kJ eJ => ?_
        walk_at "w"
        have kGJ := kGI.trans kJ
        have imJ : ImA K HJ (ys ++ [v2]) ((made.map (·.st) ++ [((0, 0) : Nm)]).map pD) := by
          rw [List.map_append]
          exact ImA.snoc (iyG.up kGJ) ((i2.up kI).up kJ)
        refine ⟨q2, ys ++ [v2], _, rfl, .inl (.inl eJ), imJ, by simp, al_all, fun k hk => ?_, fun v k hk iv => ?_⟩
        · obtain ⟨m, _, rfl⟩ := List.mem_map.mp hk
          exact dp_p m
        obtain ⟨m, hm, rfl⟩ := List.mem_map.mp hk
        refine ⟨pD c.st, pD m, iy1.up kGJ, iv, al_p _ _, by simp [pD], dp_p _, ?_⟩
        have hlt : ∀ m ∈ made.map (·.st) ++ [((0, 0) : Nm)], ltP m c.st = true := fun m hm => by
          unfold ltP
          rw [cst]
          refine decide_eq_true (.inl ?_)
          show m.1 < r0.clock + 1
          rcases List.mem_append.mp hm with h | h
          · obtain ⟨c', hc', rfl⟩ := List.mem_map.mp h
            have := clk0 c' hc'
            omega
          · rw [List.mem_singleton.mp h]
            show (0 : Int) < _
            omega
        rw [lt_p, hlt m hm]
        have hoJ := kGJ.get hoG (by simp)
        walk_at "w"
        refine rd_kil (Fz.sq (hrlG.up kGJ)) ?_
        intro E0 hE0
        have rlenG : (refsA NG.As).length = n := by rw [refs_len, XG.net.nt.rn, XG.net.si.sz]
        refine lc_it (walk_list (xs := refsA NG.As)) (fun i H' => Kp [] HJ H' ∧ H' E0 = some (.lst [])) ⟨Kp.new hE0, upd_same⟩ (fun i H' _ ⟨k, _⟩ => Fz.sq ((hrlG.up kGJ).up k)) ?_ ?_
        · rintro i x _ HK hi ⟨kK, eK⟩ ⟨rfl, hx⟩
          rw [rlenG] at hi
          obtain ⟨A, hA, rfl⟩ := refs_get hx
          have XK := XG.up (kGJ.trans kK)
          obtain ⟨A', r, hA', hrr, R, RI⟩ := XK.net.rep hi
          rw [hA] at hA'
          cases hA'
          obtain ⟨dxA, hoA⟩ := R.ob
          obtain ⟨dxs, hsA⟩ := R.st.st
          have bA := tog_all XK.net.si tgG hrr
          have ev : vlC r.cells (((0, 0) : Nm), ("a" : Str)) = .num 1 := by
            rw [← cky, late_best bA (fun x hx => hlt x.st (List.mem_append_left _ (List.mem_map_of_mem hx))), cvl]
          walk_at "w"
          refine ⟨rfl, ?_⟩
          walk_at "w"
          refine rd_kmf hsA rfl ?_
          walk_at "w"
          refine rd_ktup (K := K) (ks := [.num 0, .num 0]) (.cons (.num 0) (.cons (.num 0) .nil)) (by simp) fun v3 HL kL i3 => ?_
          walk_at "w"
          have RL := R.up0 kL
          refine ⟨A.s, A.d, r.cells, v3, (0, 0), "a", rfl, RL.st.st, RL.st.ce.r, i3, fun y HM kM iy => ?_⟩
          rw [ev] at iy
          walk_at "w"
          refine ⟨vlD (.num 1), .num 1, iy, .num 1, rfl, rfl, ?_⟩
          walk_at "w"
          refine rd_ifF (by simp [vlD]) ?_
          exact ⟨(kK.trans kL).trans kM, (kL.trans kM).get eK (by simp)⟩
        · rintro HK ⟨kK, eK⟩
          walk_at "w"
          refine rd_klst (by simp) fun q5 HL nL kL eL => ?_
          refine ⟨E0, q5, [], [], ([] : List Nm).map pD, ([] : List Nm).map pD, rfl, rfl, .inl (.inl (kL.get eK (by simp))), .inl (.inl eL), .nil, .nil, shpL_p _, shpL_p _, ?_⟩
          rw [decide_eq_true rfl]
          exact q HL
end
end GT
set_option maxHeartbeats 0
namespace GT
open PySem PySem.Spec PyProof.Rows L2
/-! ### the end: the head gives the facts, the walk its promise -/
theorem facts {P : Program} {w : World} {K : PySem.W.Frag} {h : Heap} {mg : Str → Option Value} {f : Addr} (file : P.main.file = progF) (ns : (P.main.scope.names.lookup ("super" : Str)).isSome = false) (X : K.In h) (G : h.Ns mainGlobals mg) (hfa : mg ("law" : Str) = some (.ref f)) (c : He.SaysD faL [] K) (d : He.SaysD [] fnL K) (b : exB K = true) (ew : errW K = errVal) :
    ∃ fd : FuncData, (∀ (s : Shared) (v : Value), BindsTo s fd ⟨[v], []⟩ [("_law_script", v)]) ∧ ∀ base : Heap, K.In base → base.Ns mainGlobals mg → FnOk P w K mg base CX0 13 f fd ["_law_script"] (sp_law P w K) := by
  have T : TX P K mg := ⟨c, d, ⟨h, X, G⟩, b, ew, file, ns⟩
  have e := hfa.symm.trans T.g_law
  cases e
  obtain ⟨fd, F, B⟩ := ok_law (w := w) T
  exact ⟨fd, fun s v => B s [v] rfl, fun base _ _ => F base⟩
end GT
open PySem PySem.W PySem.Calls PyProof.Rows
theorem PySem.Challenge.cw_graphtwins_k90_whole_alike_in_the_end_holds : PySem.Challenge.rw_graphtwins_k90_whole_alike_in_the_end.Holds := by
  w_on; o_law
  refine HandSHeadRun.head_any (r := OpenLaw.row PySem.Challenge.rw_graphtwins_k90_whole_alike_in_the_end) (q := view (OpenLaw.row PySem.Challenge.rw_graphtwins_k90_whole_alike_in_the_end).prog [80]) (H := GT.hkG) (ob := GT.ob) (M := 6000) (loose := GT.loose) (d := HandSHeadRun.topDef (OpenLaw.row PySem.Challenge.rw_graphtwins_k90_whole_alike_in_the_end).prog 80) (kwd := []) GT.ob_eq
    (by kernel_rfl) (fun s => by kernel_rfl) GT.run (by kernel_rfl) (by kernel_rfl) (by kernel_rfl) (by rfl) (by first | assumption | decide +kernel) (by decide +kernel) ⟨rfl, rfl, rfl, rfl, rfl, by decide +kernel⟩ ?hw ?hc
  case hw => w_witness2
  case hc =>
    refine L2.walk_ofE (l := PySem.Challenge.rw_graphtwins_k90_whole_alike_in_the_end) (n := 63) (k := 13) (x := "_law_script") (CX := L2.CX0) rfl (by decide) (by kernel_rfl) ⟨rfl, by decide, by decide⟩ ?F (fun _ _ _ _ z => z)
    intro w mg fa h Y G hmg0
    obtain ⟨K, KX, c, d, b, ew⟩ := Y
    have hmg : mg ("law" : PySem.Str) = some (.ref fa) := by
      have e : (HandSHeadRun.topDef (OpenLaw.row PySem.Challenge.rw_graphtwins_k90_whole_alike_in_the_end).prog 80).name = ("law" : PySem.Str) := by kernel_rfl
      rw [← e]
      exact hmg0
    obtain ⟨fd, hb, hF⟩ := GT.facts (P := (PySem.Challenge.rw_graphtwins_k90_whole_alike_in_the_end).prog) (w := w) (by kernel_rfl) (by kernel_rfl) KX G hmg c d b ew
    exact ⟨K, fd, GT.sp_law _ w K, KX, hb, fun H a ns hl _ hS => ⟨a, ns, rfl, hS, fun _ => rfl⟩, hF⟩
