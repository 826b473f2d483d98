import PyProof.Rows.All
import Wide.All
import OpenK.AllK
import Wide.FinOn
import HandS.ForMost
import HandS.Dict
import HandS.Iter
import KE.KeyNested
import HandS.ForExc
import HandS.Defaults
import HandS.HeadHook1
import HandS.HeadHook2
import HandS.Style
import HandS.More
import HandS.Text
import HandS.TupAny
import HandS.TupMul
import HandS.Wide
import HandS.Deep
import HandS.IsInst
import HandS.StrMore
import HandS.Strs
import KE.GoesEnum
import KE.GoesZip
import KE.GoesMore
import HandS.HeadEnd
import HandS.ReplaceLit
import KE.KDictDisplayH
import PyProof.Rows.TupDisplay
import KE.KStateDown
import HandS.Head0
import HandS.Head1
import HandS.Head2
import PySem.Challenge.RW_hyphenpatterns_k20_whole_counts_add
section
set_option Elab.async false
set_option linter.all false
set_option maxRecDepth 100000
set_option maxHeartbeats 1600000
set_option autoImplicit false
/-! Lw: dicts whose keys are tuples, nested. -/
namespace Lw
open PySem PySem.Spec PyProof.Rows L2
abbrev Ent := NestedKey × Addr × V
abbrev EntV := NestedKey × Addr × Value
abbrev EP2 : List Ent → List EntV → Prop := Paired fun p q => p.1 = q.1 ∧ p.2.1 = q.2.1 ∧ RelV p.2.2 q.2.2
/-- what the object ob, a dict at a, holds -/
def DNs (P : Program) (w : World) (a : Addr) (ob : Obj) (xs : List Ent) : Prop :=
  (a == sysModules) = false ∧ ob.ExactDict ∧ xs.length ≤ sizeLine ∧ ∃ es ep ws, ob.data = .dict es ep ∧ EP2 xs ws ∧ es.toList = ws.map (entryOfKey (nestedKind P w)) ∧ (ws.map (·.1)).Nodup
def DN (P : Program) (w : World) (a : Addr) (ob : Obj) (xs : List Ent) : HO := .ext fun h => h.get? a = some ob ∧ DNs P w a ob xs
def valN (xs : List Ent) (k : NestedKey) : Option V := (xs.find? fun x => decide (x.1 = k)).map (·.2.2)
def putN (xs : List Ent) (k : NestedKey) (b : Addr) (v : V) : List Ent := if (valN xs k).isSome then xs.map (fun x => if x.1 = k then (x.1, x.2.1, v) else x) else xs ++ [(k, b, v)]
section
variable {P : Program} {w : World} {H H' : Hp} {h h' : Heap} {a b : Addr} {ob : Obj} {xs : List Ent} {ws : List EntV} {k : NestedKey}
theorem dn_ok (e : h.get? a = some ob) (d : DNs P w a ob xs) : ObjOk P w H h a (DN P w a ob xs) := ⟨⟨e, d⟩, ⟨ob, e⟩, fun h1 h2 z q => ⟨q _ z.1, z.2⟩⟩
theorem dn_rd (ok : HOk P w H h) (e : H a = some (DN P w a ob xs)) : h.get? a = some ob ∧ DNs P w a ob xs := (ok a _ e).1
theorem EP2.val (r : EP2 xs ws) (k : NestedKey) : RelO (valN xs k) ((atKey ws k).map (·.2)) := by
  induction r with
  | nil => exact True.intro
  | @cons p q ps qs z t ih =>
    obtain ⟨z1, z2, z3⟩ := z
    by_cases e : p.1 = k
    · have e' : q.1 = k := z1.symm.trans e
      have q1 : valN (p :: ps) k = some p.2.2 := by simp [valN, e]
      have q2 : atKey (q :: qs) k = some q.2 := by simp [atKey, e']
      rw [q1, q2]; exact z3
    · have e' : ¬q.1 = k := fun y => e (z1.trans y)
      have q1 : valN (p :: ps) k = valN ps k := by simp [valN, e]
      have q2 : atKey (q :: qs) k = atKey qs k := by simp [atKey, e']
      rw [q1, q2]; exact ih
theorem EP2.isSome (r : EP2 xs ws) (k : NestedKey) : (valN xs k).isSome = (atKey ws k).isSome := by
  have := (r.val k).isSome_eq
  rwa [Option.isSome_map] at this
theorem EP2.put (r : EP2 xs ws) (k : NestedKey) {v : V} {u : Value} (rv : RelV v u) : EP2 (putN xs k b v) (storedH ws k b u) := by
  unfold putN storedH
  rw [r.isSome k]
  by_cases q : (atKey ws k).isSome = true
  · rw [if_pos q, if_pos q]
    clear q
    induction r with
    | nil => exact .nil
    | @cons p q ps qs z t ih =>
      rw [List.map_cons, List.map_cons]
      refine .cons ?_ ih
      obtain ⟨z1, z2, z3⟩ := z
      unfold putAt
      by_cases e : p.1 = k
      · rw [if_pos e, if_pos (z1.symm.trans e)]; exact ⟨z1, z2, rv⟩
      · rw [if_neg e, if_neg fun y => e (z1.trans y)]; exact ⟨z1, z2, z3⟩
  · rw [if_neg q, if_neg q]
    exact Paired.snoc r ⟨rfl, rfl, rv⟩
theorem putN_len (xs : List Ent) (k : NestedKey) (b : Addr) (v : V) : (putN xs k b v).length ≤ xs.length + 1 := by
  unfold putN
  split
  · rw [List.length_map]; omega
  · rw [List.length_append]; exact Nat.le_refl _
mutual
/-- the value is this key, by what is known -/
inductive KeyIs (H : Hp) : NestedKey → V → Prop
  | int (i : Int) : KeyIs H (.num i) (.int i)
  | str (x : Str) : KeyIs H (.text x) (.str x)
  | tup {ks : List NestedKey} {c : Addr} {ys : List V} : H c = some (.tup ys) → KeysAre H ks ys → KeyIs H (.tup ks) (.ref c)
inductive KeysAre (H : Hp) : List NestedKey → List V → Prop
  | nil : KeysAre H [] []
  | cons {k : NestedKey} {ks : List NestedKey} {y : V} {ys : List V} : KeyIs H k y → KeysAre H ks ys → KeysAre H (k :: ks) (y :: ys)
end
mutual
theorem KeyIs.is (ok : HOk P w H h) {k : NestedKey} {x : V} {u : Value} (q : KeyIs H k x) (r : RelV x u) : NestedIs h k u := by
  cases q with
  | int i => obtain ⟨t, rfl⟩ := r; exact .int i t
  | str x => obtain ⟨t, rfl⟩ := r; exact .text x t
  | @tup ks c ys e z =>
    cases (show u = Value.ref c from r)
    obtain ⟨_, its, rs, o, h1, h2, n, h3⟩ := (show ObjOk P w H h c (.tup ys) from ok c _ e)
    exact .tup h1 h2 h3 (by simpa using KeysAre.are ok z rs)
theorem KeysAre.are (ok : HOk P w H h) {ks : List NestedKey} {ys : List V} {us : List Value} (q : KeysAre H ks ys) (r : Vals ys us) : NestedAll h ks us := by
  cases q with
  | nil => cases r; exact .nil
  | cons z zs =>
    cases r with
    | cons r1 r2 => exact .cons (KeyIs.is ok z r1) (KeysAre.are ok zs r2)
end
mutual
theorem KeyIs.mono (s : Same H H') {k : NestedKey} {x : V} (q : KeyIs H k x) : KeyIs H' k x := by
  cases q with
  | int i => exact .int i
  | str x => exact .str x
  | tup e z => exact .tup (s _ _ e) (KeysAre.mono s z)
theorem KeysAre.mono (s : Same H H') {ks : List NestedKey} {ys : List V} (q : KeysAre H ks ys) : KeysAre H' ks ys := by
  cases q with
  | nil => exact .nil
  | cons z zs => exact .cons (KeyIs.mono s z) (KeysAre.mono s zs)
end
/-- all keys of a dict are keys -/
def KsOk (H : Hp) (xs : List Ent) : Prop := ∀ x ∈ xs, KeyIs H x.1 (.ref x.2.1) ∧ x.1.depth ≤ 8
theorem KsOk.mono (s : Same H H') (z : KsOk H xs) : KsOk H' xs := fun x hx => ⟨(z x hx).1.mono s, (z x hx).2⟩
theorem dn_dict (ok : HOk P w H h) (e : H a = some (DN P w a ob xs)) (z : KsOk H xs) : (a == sysModules) = false ∧ xs.length ≤ sizeLine ∧ ∃ ws, EP2 xs ws ∧ h.DictOfH (nestedKind P w) a ws := by
  obtain ⟨g, hs, hx, hl, es, ep, ws, hd, r, he, hn⟩ := dn_rd ok e
  refine ⟨hs, hl, ws, r, ob, es, ep, g, hx, hd, he, ?_, hn⟩
  clear he hn hd hl e
  induction r with
  | nil => intro x hx; cases hx
  | @cons p q ps qs y t ih =>
    intro x hx
    rcases List.mem_cons.mp hx with rfl | hx
    · obtain ⟨k1, k2⟩ := z p (List.mem_cons_self ..)
      rw [← y.1, ← y.2.1]
      exact ⟨KeyIs.is ok k1 rfl, k2⟩
    · exact ih (fun x hx => z x (List.mem_cons_of_mem _ hx)) x hx
/-- an empty dict of the other kind -/
theorem dk_nil (ok : HOk P w H h) (e : H a = some (.dK [])) : (a == sysModules) = false ∧ h.DictOfH (nestedKind P w) a [] := by
  obtain ⟨_, hs, vs, r, o, es, ep, h1, h2, h3, _, h5, _⟩ := dk_of ok e
  cases r
  have e0 : es.toList = [] := by
    generalize es.toList = l at h5
    cases h5
    rfl
  exact ⟨hs, o, es, ep, h1, h2, h3, e0, (fun x hx => nomatch hx), List.nodup_nil⟩
end
end Lw

end
section
set_option Elab.async false
set_option linter.all false
set_option maxRecDepth 100000
set_option maxHeartbeats 1600000
set_option autoImplicit false
/-! Lw: such dicts read and written. -/
namespace Lw
open PySem PySem.Spec PyProof.Rows L2
/-- what stands at the key k -/
def NGet (P : Program) (w : World) (H : Hp) (a : Addr) (k : NestedKey) (r : Option V) : Prop :=
  (∃ ob xs, H a = some (DN P w a ob xs) ∧ KsOk H xs ∧ r = valN xs k) ∨ (H a = some (.dK []) ∧ r = none)
section
variable {X : Cx} {pins : List (Addr × Obj)} {σ : L2.St} {H : Hp} {s : Shared} {a b : Addr} {k : NestedKey} {v : V} {o : Option V} {r : Value} {A : Around} {E : Value → Shared → Prop}
theorem n_dict (I : Inv X pins σ H s) (g : NGet X.prog X.w H a k o) : (a == sysModules) = false ∧ ∃ ws, s.heap.DictOfH (nestedKind X.prog X.w) a ws ∧ RelO o ((atKey ws k).map (·.2)) := by
  rcases g with ⟨ob, xs, e, z, rfl⟩ | ⟨e, rfl⟩
  · obtain ⟨hs, _, ws, r, d⟩ := dn_dict I.hok e z
    exact ⟨hs, ws, d, r.val k⟩
  · obtain ⟨hs, d⟩ := dk_nil I.hok e
    exact ⟨hs, [], d, True.intro⟩
theorem n_is (I : Inv X pins σ H s) (q : KeyIs H k (.ref b)) (hd : k.depth ≤ 8) : (nestedKind X.prog X.w).is s.heap k b := ⟨q.is I.hok rfl, hd⟩
theorem n_room (hu : A.units + 16 < cLine) : (nestedKind X.prog X.w).room A.in1 := by show A.units + 1 + 8 < cLine; omega
theorem n_getItem {Q : Value → Shared → Prop} (hu : A.units + 16 < cLine) (I : Inv X pins σ H s) (g : NGet X.prog X.w H a k (some v)) (q : KeyIs H k (.ref b)) (hd : k.depth ≤ 8) (h : ∀ u s1, Inv X pins σ H s1 → RelV v u → Q u s1) :
    wpAny (model X.prog X.w) A (getItem (.ref a) (.ref b)) Q E s := by
  obtain ⟨_, ws, d, rl⟩ := n_dict I g
  obtain ⟨u, hw, ru⟩ := rl.some_of
  obtain ⟨p, hp, rfl⟩ := Option.map_eq_some_iff.mp hw
  exact wpAny_getItem_heap (n_room hu) (n_is I q hd) d hp (h _ _ (I.tok _) ru)
theorem n_in {Q : Value → Shared → Prop} (hu : A.units + 16 < cLine) (I : Inv X pins σ H s) (g : NGet X.prog X.w H a k o) (q : KeyIs H k (.ref b)) (hd : k.depth ≤ 8) (h : ∀ s1, Inv X pins σ H s1 → Q (.bool o.isSome) s1) :
    wpAny (model X.prog X.w) A (compareOp .In (.ref b) (.ref a)) Q E s := by
  obtain ⟨hs, ws, d, rl⟩ := n_dict I g
  refine wpAny_in_heap (n_room hu) (n_is I q hd) hs d ?_
  have e := rl.isSome_eq
  rw [Option.isSome_map] at e
  rw [← e]
  exact h _ (I.tok _)
theorem n_notIn {Q : Value → Shared → Prop} (hu : A.units + 16 < cLine) (I : Inv X pins σ H s) (g : NGet X.prog X.w H a k o) (q : KeyIs H k (.ref b)) (hd : k.depth ≤ 8) (h : ∀ s1, Inv X pins σ H s1 → Q (.bool (!o.isSome)) s1) :
    wpAny (model X.prog X.w) A (compareOp .NotIn (.ref b) (.ref a)) Q E s := by
  obtain ⟨hs, ws, d, rl⟩ := n_dict I g
  refine wpAny_notIn_heap (n_room hu) (n_is I q hd) hs d ?_
  have e := rl.isSome_eq
  rw [Option.isSome_map] at e
  rw [← e]
  exact h _ (I.tok _)
theorem n_get2 {y : V} {Q : Value → Shared → Prop} (hu : A.units + 16 < cLine) (I : Inv X pins σ H s) (g : NGet X.prog X.w H a k o) (q : KeyIs H k (.ref b)) (hd : k.depth ≤ 8) (ry : RelV y r) (h : ∀ u s1, Inv X pins σ H s1 → RelV (o.getD y) u → Q u s1) :
    wpAny (model X.prog X.w) A (call (.builtin "dict.get") [.ref a, .ref b, r]) Q E s := by
  obtain ⟨hs, ws, d, rl⟩ := n_dict I g
  refine call_meetsIn F.slot_dict_get d.typeIs F.entry_dict_get (F.args_dict_get_3 _ _ _) (meetsH_dict_get_default (nestedKind X.prog X.w) a b hs r) ⟨n_room hu, k, ws, n_is I q hd, d, h _ _ (I.tok _) ?_⟩
  exact rl.getD ry
/-- the dict behind d[k] = v: its object is some object -/
theorem n_setItem {xs : List Ent} {Q : Unit → Shared → Prop} (hu : A.units + 16 < cLine) (I : Inv X pins σ H s) (g : (∃ ob, H a = some (DN X.prog X.w a ob xs)) ∨ (H a = some (.dK []) ∧ xs = [])) (z : KsOk H xs) (hl : xs.length < sizeLine) (q : KeyIs H k (.ref b)) (hd : k.depth ≤ 8) (rv : RelV v r)
    (h : ∀ ob s1, Inv X pins σ (upd H a (DN X.prog X.w a ob (putN xs k b v))) s1 → Q () s1) : wpAny (model X.prog X.w) A (setItem (.ref a) (.ref b) r) Q E s := by
  have g' : (a == sysModules) = false ∧ Mut (H a) ∧ ∃ ws, EP2 xs ws ∧ s.heap.DictOfH (nestedKind X.prog X.w) a ws := by
    rcases g with ⟨ob, e⟩ | ⟨e, rfl⟩
    · obtain ⟨hs, _, ws, r, d⟩ := dn_dict I.hok e z
      exact ⟨hs, by rw [e]; exact True.intro, ws, r, d⟩
    · obtain ⟨hs, d⟩ := dk_nil I.hok e
      exact ⟨hs, by rw [e]; exact True.intro, [], .nil, d⟩
  obtain ⟨hs, mu, ws, rl, d⟩ := g'
  have hz : ws.length ≤ sizeLine := by rw [← Paired.length rl]; omega
  refine wpAny_setItem_heap (hsz := hz) (n_room hu) (n_is I q hd) d fun h' d' sb => ?_
  obtain ⟨ob, es, ep, hg, hx, hdt, he, _, hn⟩ := d'
  have pl := putN_len xs k b v
  exact h ob _ (d_write I mu sb ⟨ob, hg⟩ (dn_ok hg ⟨hs, hx, by omega, es, ep, _, hdt, rl.put k rv, he, hn⟩))
/-- the tail of a subscription of a dict -/
theorem tail_d {slice value : Expr} {v u : Value} {Q : Value → Shared → Prop} (hT : s.TypeIs v "dict") (hs : subscripted slice false v u = operate [v, u] (getItem v u)) (h : wpAny (model X.prog X.w) A (getItem v u) Q E s) :
    wpAny (model X.prog X.w) A (subscriptTail value slice v u) Q E s := by
  unfold subscriptTail
  refine wpAny_bind ?_
  rw [getitemInPython_of_ne hT.not_modules]
  refine wpAny_bind (wpAny_specialOf hT F.slot_dict_getitem.lookup ?_)
  have fin : wpAny (model X.prog X.w) A (subscripted slice false v u) (fun r s2 => wpAny (model X.prog X.w) A (letTemporaryGo value v r >>= fun _ => pure r) Q E s2) E s := by
    rw [hs]
    refine wpAny_operating (wpAny_mono h (fun r s2 h2 => ?_) fun _ _ x => x)
    exact wpAny_bind (wpAny_letTemporaryGo (wpAny_pure h2))
  first
  | exact wpAny_pure (wpAny_bind fin)
  | exact wpAny_bind (wpAny_pure (wpAny_bind fin))
  | exact wpAny_bind fin
end
/-- d[k], nested keys; ints and texts -/
abbrev rNIx (P : Program) (w : World) : R2 := fun x y H Q => ∃ a b k v, x = .ref a ∧ y = .ref b ∧ KeyIs H k y ∧ k.depth ≤ 8 ∧ NGet P w H a k (some v) ∧ Q v H
abbrev rKIx : R2 := fun x y H Q => ∃ a v, x = .ref a ∧ DGet H a y (some v) ∧ Q v H
abbrev rNIn (P : Program) (w : World) (n : Bool) : R2 := fun y x H Q => ∃ a b k o, x = .ref a ∧ y = .ref b ∧ KeyIs H k y ∧ k.depth ≤ 8 ∧ NGet P w H a k o ∧ Q (.bl (n ^^ o.isSome)) H
abbrev rKIn (n : Bool) : R2 := fun y x H Q => ∃ a o, x = .ref a ∧ DGet H a y o ∧ Q (.bl (n ^^ o.isSome)) H
section
variable {X : Cx}
theorem ix_n (hu : X.A.units + 16 < cLine) : IxR X (rNIx X.prog X.w) := by
  intro value slice pins s σ H x y v u Q I rx ry q hs
  obtain ⟨a, b, k, z, rfl, rfl, hk, hd, g, q⟩ := q
  obtain rfl : v = Value.ref a := rx
  obtain rfl : u = Value.ref b := ry
  obtain ⟨_, ws, d, _⟩ := n_dict I g
  exact tail_d d.typeIs hs (n_getItem hu I g hk hd fun u' s1 I1 r1 => ⟨z, H, I1, r1, q⟩)
theorem ix_k (hu : X.A.units + 16 < cLine) : IxR X rKIx := by
  intro value slice pins s σ H x y v u Q I rx ry q hs
  obtain ⟨a, z, rfl, g, q⟩ := q
  obtain rfl : v = Value.ref a := rx
  exact tail_d (dict_typeIs I g) hs (d_getItem (by omega) I g ry fun u' s1 I1 r1 => ⟨z, H, I1, r1, q⟩)
theorem op_nin (hu : X.A.units + 16 < cLine) : OpR X (compareOp .In) (rNIn X.prog X.w false) := by
  intro pins s σ H y x u v Q I ry rx q
  obtain ⟨a, b, k, o, rfl, rfl, hk, hd, g, q⟩ := q
  obtain rfl : v = Value.ref a := rx
  obtain rfl : u = Value.ref b := ry
  rw [Bool.false_xor] at q
  exact n_in hu I g hk hd fun s1 I1 => ⟨.bl o.isSome, H, I1, rfl, q⟩
theorem op_nnotin (hu : X.A.units + 16 < cLine) : OpR X (compareOp .NotIn) (rNIn X.prog X.w true) := by
  intro pins s σ H y x u v Q I ry rx q
  obtain ⟨a, b, k, o, rfl, rfl, hk, hd, g, q⟩ := q
  obtain rfl : v = Value.ref a := rx
  obtain rfl : u = Value.ref b := ry
  rw [Bool.true_xor] at q
  exact n_notIn hu I g hk hd fun s1 I1 => ⟨.bl (!o.isSome), H, I1, rfl, q⟩
theorem op_kin (hu : X.A.units + 16 < cLine) : OpR X (compareOp .In) (rKIn false) := by
  intro pins s σ H y x u v Q I ry rx q
  obtain ⟨a, o, rfl, g, q⟩ := q
  obtain rfl : v = Value.ref a := rx
  rw [Bool.false_xor] at q
  exact d_in (by omega) I g ry fun s1 I1 => ⟨.bl o.isSome, H, I1, rfl, q⟩
theorem op_knotin (hu : X.A.units + 16 < cLine) : OpR X (compareOp .NotIn) (rKIn true) := by
  intro pins s σ H y x u v Q I ry rx q
  obtain ⟨a, o, rfl, g, q⟩ := q
  obtain rfl : v = Value.ref a := rx
  rw [Bool.true_xor] at q
  exact d_notIn (by omega) I g ry fun s1 I1 => ⟨.bl (!o.isSome), H, I1, rfl, q⟩
end
end Lw

end
section
set_option Elab.async false
set_option linter.all false
set_option maxRecDepth 100000
set_option maxHeartbeats 1000000
set_option autoImplicit false
/-! Lw: values without a heap, what they stand for, states, results. -/
namespace Lw
open PySem L2

/-- a value, with what it holds -/
inductive Val where
  | non | bl (b : Bool) | int (i : Int) | str (x : List Nat)
  | lst (xs : List Val) | tup (xs : List Val)
  | dct (ks vs : List Val) | ins (C : Str) (ns : List Str) (vs : List Val)
  | ty (n : String) | glo (x : Str) | scr (ns : List Int)

/-- program, world, written part -/
structure Tx where
  P : Program
  w : World
  K : PySem.W.Frag
abbrev tx (X : Cx) : Tx := ⟨X.prog, X.w, X.K⟩

mutual
/-- a value as a key -/
def nk : Val → Option NestedKey
  | .int i => some (.num i)
  | .str z => some (.text ⟨z.toArray⟩)
  | .tup vs => (nks vs).map .tup
  | _ => none
def nks : List Val → Option (List NestedKey)
  | [] => some []
  | v :: vs => match nk v, nks vs with
    | some k, some ks => some (k :: ks)
    | _, _ => none
end
/-- a dict of these keys and values; one whose keys are tuples says so by a None ahead of its keys -/
def IsDct (T : Tx) (a : Addr) (o : HO) (ks : List Val) (kys vys : List V) : Prop :=
  (∃ kvs : List (Key × V), o = .dK kvs ∧ kys = kvs.map (fun p => kV p.1) ∧ vys = kvs.map (·.2)) ∨
  ∃ (ob : PySem.Obj) (xs : List Ent), o = DN T.P T.w a ob xs ∧ kys = V.non :: xs.map (fun e => V.ref e.2.1) ∧ vys = xs.map (·.2.2) ∧ ks.tail.map nk = xs.map (fun e => some e.1) ∧ ∀ e ∈ xs, e.1.depth ≤ 8

mutual
/-- the value stands so, by what is known (B) -/
inductive Rep (T : Tx) (B : Hp) : V → Val → Prop
  | non : Rep T B .non .non
  | bl (b : Bool) : Rep T B (.bl b) (.bl b)
  | int (i : Int) : Rep T B (.int i) (.int i)
  | str (x : Str) : Rep T B (.str x) (.str x.cps.toList)
  | lst {a : Addr} {ys : List V} {vs : List Val} : B a = some (.lst ys) → RepAll T B ys vs → Rep T B (.ref a) (.lst vs)
  | tup {a : Addr} {ys : List V} {vs : List Val} : B a = some (.tup ys) → RepAll T B ys vs → Rep T B (.ref a) (.tup vs)
  | dct {a : Addr} {o : HO} {kys vys : List V} {ks vs : List Val} : B a = some o → IsDct T a o ks kys vys → RepAll T B kys ks → RepAll T B vys vs → Rep T B (.ref a) (.dct ks vs)
  | ins {a C dx : Addr} {fs : List (Str × V)} {c : Str} {ns : List Str} {vs : List Val} : B a = some (.ins C dx fs) → C = He.ga T.K c → fs.map (·.1) = ns → RepAll T B (fs.map (·.2)) vs → Rep T B (.ref a) (.ins c ns vs)
  | ty (n : String) : Rep T B (.ty n) (.ty n)
  | glo (x : Str) : Rep T B (.ref (He.ga T.K x)) (.glo x)
  | scr {a : Addr} {ns : List Int} : SqL T.K B a (ns.map V.int) → Rep T B (.ref a) (.scr ns)
inductive RepAll (T : Tx) (B : Hp) : List V → List Val → Prop
  | nil : RepAll T B [] []
  | cons {y : V} {ys : List V} {v : Val} {vs : List Val} : Rep T B y v → RepAll T B ys vs → RepAll T B (y :: ys) (v :: vs)
end

theorem same_l {K : PySem.W.Frag} {H H' : Hp} {a : Addr} {xs : List V} (e : Same H H') (h : SqL K H a xs) : SqL K H' a xs := e.seq h
theorem same_t {K : PySem.W.Frag} {H H' : Hp} {a : Addr} {xs : List V} (e : Same H H') (h : SqT K H a xs) : SqT K H' a xs := by
  rcases h with (h | ⟨o, h⟩) | h
  · exact .inl (.inl (e _ _ h))
  · exact .inl (.inr ⟨o, e _ _ h⟩)
  · exact .inr h
section
variable {T : Tx} {B B' : Hp}
mutual
theorem Rep.mono (e : Same B B') {y : V} {v : Val} (h : Rep T B y v) : Rep T B' y v := by
  cases h with
  | non => exact .non
  | bl b => exact .bl b
  | int i => exact .int i
  | str x => exact .str x
  | lst h r => exact .lst (e _ _ h) (RepAll.mono e r)
  | tup h r => exact .tup (e _ _ h) (RepAll.mono e r)
  | dct h d r q => exact .dct (e _ _ h) d (RepAll.mono e r) (RepAll.mono e q)
  | ins h c n r => exact .ins (e _ _ h) c n (RepAll.mono e r)
  | ty n => exact .ty n
  | glo x => exact .glo x
  | scr h => exact .scr (same_l e h)
theorem RepAll.mono (e : Same B B') {ys : List V} {vs : List Val} (h : RepAll T B ys vs) : RepAll T B' ys vs := by
  cases h with
  | nil => exact .nil
  | cons a b => exact .cons (Rep.mono e a) (RepAll.mono e b)
end
theorem RepAll.length {ys : List V} : ∀ {vs : List Val}, RepAll T B ys vs → ys.length = vs.length := by
  induction ys with
  | nil => intro vs h; cases h; rfl
  | cons y ys ih => intro vs h; cases h with | cons a b => rw [List.length_cons, List.length_cons, ih b]
theorem RepAll.append {ys zs : List V} : ∀ {vs ws : List Val}, RepAll T B ys vs → RepAll T B zs ws → RepAll T B (ys ++ zs) (vs ++ ws) := by
  induction ys with
  | nil => intro vs ws h k; cases h; exact k
  | cons y ys ih => intro vs ws h k; cases h with | cons a b => exact .cons a (ih b k)
theorem RepAll.get {ys : List V} : ∀ {vs : List Val} {i : Nat} {v : Val}, RepAll T B ys vs → vs[i]? = some v → ∃ y, ys[i]? = some y ∧ Rep T B y v := by
  induction ys with
  | nil => intro vs i v h e; cases h; simp at e
  | cons y ys ih =>
    intro vs i v h e
    cases h with
    | cons a b =>
      cases i with
      | zero => simp at e; subst e; exact ⟨y, rfl, a⟩
      | succ i => obtain ⟨z, h1, h2⟩ := ih b (i := i) (by simpa using e); exact ⟨z, by simpa using h1, h2⟩
theorem RepAll.get' {ys : List V} : ∀ {vs : List Val} {i : Nat} {y : V}, RepAll T B ys vs → ys[i]? = some y → ∃ v, vs[i]? = some v ∧ Rep T B y v := by
  induction ys with
  | nil => intro vs i y h e; simp at e
  | cons z ys ih =>
    intro vs i y h e
    cases h with
    | cons a b =>
      cases i with
      | zero => simp at e; subst e; exact ⟨_, rfl, a⟩
      | succ i => obtain ⟨z, h1, h2⟩ := ih b (i := i) (by simpa using e); exact ⟨z, by simpa using h1, h2⟩
theorem RepAll.set {ys : List V} : ∀ {vs : List Val} (i : Nat) {y : V} {v : Val}, RepAll T B ys vs → Rep T B y v → RepAll T B (ys.set i y) (vs.set i v) := by
  induction ys with
  | nil => intro vs i y v h e; cases h; exact .nil
  | cons z ys ih =>
    intro vs i y v h e
    cases h with
    | cons a b =>
      cases i with
      | zero => exact .cons e b
      | succ i => exact .cons a (ih i b e)
theorem RepAll.take {ys : List V} : ∀ {vs : List Val} (n : Nat), RepAll T B ys vs → RepAll T B (ys.take n) (vs.take n) := by
  induction ys with
  | nil => intro vs n h; cases h; simp; exact .nil
  | cons z ys ih =>
    intro vs n h
    cases h with
    | cons a b => cases n with
      | zero => exact .nil
      | succ n => exact .cons a (ih n b)
theorem RepAll.drop {ys : List V} : ∀ {vs : List Val} (n : Nat), RepAll T B ys vs → RepAll T B (ys.drop n) (vs.drop n) := by
  induction ys with
  | nil => intro vs n h; cases h; simp; exact .nil
  | cons z ys ih =>
    intro vs n h
    cases h with
    | cons a b => cases n with
      | zero => exact .cons a b
      | succ n => exact ih n b
theorem RepAll.reverse {ys : List V} : ∀ {vs : List Val}, RepAll T B ys vs → RepAll T B ys.reverse vs.reverse := by
  induction ys with
  | nil => intro vs h; cases h; exact .nil
  | cons z ys ih => intro vs h; cases h with | cons a b => rw [List.reverse_cons, List.reverse_cons]; exact (ih b).append (.cons a .nil)
theorem RepAll.eraseIdx {ys : List V} : ∀ {vs : List Val} (i : Nat), RepAll T B ys vs → RepAll T B (ys.eraseIdx i) (vs.eraseIdx i) := by
  induction ys with
  | nil => intro vs i h; cases h; exact .nil
  | cons z ys ih =>
    intro vs i h
    cases h with
    | cons a b => cases i with
      | zero => exact b
      | succ i => exact .cons a (ih i b)
theorem RepAll.ints : ∀ ns : List Int, RepAll T B (ns.map V.int) (ns.map Val.int)
  | [] => .nil
  | n :: r => .cons (.int n) (RepAll.ints r)
/-- ints, strs, bools, None -/
def flat : Val → Bool
  | .non => true | .bl _ => true | .int _ => true | .str _ => true | .ty _ => true | .glo _ => true | _ => false
theorem Rep.flat {y : V} {v : Val} (h : Rep T B y v) (f : flat v = true) (B' : Hp) : Rep T B' y v := by
  cases h <;> first | exact .non | exact .bl _ | exact .int _ | exact .str _ | exact .ty _ | exact .glo _ | (cases f)
theorem Rep.of_str {x : Str} {l : List Nat} (e : x.cps.toList = l) : Rep T B (.str x) (.str l) := by
  subst e; exact .str x
theorem Rep.str_mk (l : List Nat) : Rep T B (.str ⟨l.toArray⟩) (.str l) := Rep.of_str rfl
end

/-! ### slots -/
inductive Slot where
  /-- nothing known | a value that may be shared | a list, dict, instance of one's own | one that was handed in to be changed -/
  | un | shr (v : Val) | own (v : Val) | io (v : Val)
abbrev Env := List Slot
def Slot.ow : Slot → Option Val
  | .own v => some v
  | .io v => some v
  | _ => none
def own? (env : Env) (i : Nat) : Option Val := (env[i]?).bind Slot.ow

mutual
inductive OwnR (T : Tx) (B H : Hp) : List Addr → Addr → Val → Prop
  | lst {a : Addr} {ys : List V} {vs : List Val} : H a = some (.lst ys) → RepAll T B ys vs → OwnR T B H [a] a (.lst vs)
  | dct {a : Addr} {o : HO} {kys vys : List V} {ks vs : List Val} : H a = some o → IsDct T a o ks kys vys → RepAll T B kys ks → RepAll T B vys vs → OwnR T B H [a] a (.dct ks vs)
  | ins {a C dx : Addr} {fs : List (Str × V)} {c : Str} {ns : List Str} {vs : List Val} {fp : List Addr} : H a = some (.ins C dx fs) → C = He.ga T.K c → fs.map (·.1) = ns → FldR T B H fp (fs.map (·.2)) vs → a ∉ fp → OwnR T B H (a :: fp) a (.ins c ns vs)
/-- an instance's fields: shared, or dicts of its own -/
inductive FldR (T : Tx) (B H : Hp) : List Addr → List V → List Val → Prop
  | nil : FldR T B H [] [] []
  | shr {y : V} {ys : List V} {v : Val} {vs : List Val} {fp : List Addr} : Rep T B y v → FldR T B H fp ys vs → FldR T B H fp (y :: ys) (v :: vs)
  | own {a : Addr} {ys : List V} {vs : List Val} {fp : List Addr} {o : HO} {kys vys : List V} {ks ws : List Val} : H a = some o → IsDct T a o ks kys vys → RepAll T B kys ks → RepAll T B vys ws → a ∉ fp → FldR T B H fp ys vs →
      FldR T B H (a :: fp) (.ref a :: ys) (.dct ks ws :: vs)
end
section
variable {T : Tx} {B B' H H' : Hp}
theorem FldR.mono (e : Same B B') {fp : List Addr} {ys : List V} {vs : List Val} (h : FldR T B H fp ys vs) (k : ∀ b ∈ fp, ∀ o, H b = some o → H' b = some o) : FldR T B' H' fp ys vs := by
  cases h with
  | nil => exact .nil
  | shr r q => exact .shr (r.mono e) (FldR.mono e q k)
  | own h d r q n f => exact .own (k _ List.mem_cons_self _ h) d (r.mono e) (q.mono e) n (FldR.mono e f fun b hb => k b (List.mem_cons_of_mem _ hb))
theorem FldR.there {fp : List Addr} {ys : List V} {vs : List Val} (h : FldR T B H fp ys vs) : ∀ b ∈ fp, ∃ o, H b = some o := by
  cases h with
  | nil => intro b hb; cases hb
  | shr r q => exact FldR.there q
  | own h d r q n f =>
    intro b hb
    rcases List.mem_cons.mp hb with rfl | hb
    · exact ⟨_, h⟩
    · exact FldR.there f b hb
theorem OwnR.mono (e : Same B B') {fp : List Addr} {a : Addr} {v : Val} (h : OwnR T B H fp a v) (k : ∀ b ∈ fp, ∀ o, H b = some o → H' b = some o) : OwnR T B' H' fp a v := by
  cases h with
  | lst h r => exact .lst (k _ List.mem_cons_self _ h) (r.mono e)
  | dct h d r q => exact .dct (k _ List.mem_cons_self _ h) d (r.mono e) (q.mono e)
  | ins h c n f na => exact .ins (k _ List.mem_cons_self _ h) c n (f.mono e fun b hb => k b (List.mem_cons_of_mem _ hb)) na
theorem OwnR.there {fp : List Addr} {a : Addr} {v : Val} (h : OwnR T B H fp a v) : ∀ b ∈ fp, ∃ o, H b = some o := by
  cases h with
  | lst h r => intro b hb; rw [List.mem_singleton] at hb; exact ⟨_, by rw [hb]; exact h⟩
  | dct h d r q => intro b hb; rw [List.mem_singleton] at hb; exact ⟨_, by rw [hb]; exact h⟩
  | ins h c n f na =>
    intro b hb
    rcases List.mem_cons.mp hb with rfl | hb
    · exact ⟨_, h⟩
    · exact f.there b hb
theorem OwnR.mem {fp : List Addr} {a : Addr} {v : Val} (h : OwnR T B H fp a v) : a ∈ fp := by
  cases h <;> exact List.mem_cons_self
end

/-! ### states -/
/-- env: the slots' values; σ: where they stand; B: what is known for good; H: the heap; F i: what the slot i owns -/
structure RS (T : Tx) (env : Env) (σ : L2.St) (B H : Hp) (F : Nat → List Addr) : Prop where
  sub : Same B H
  len : σ.length = env.length
  shr : ∀ (i : Nat) v, env[i]? = some (Slot.shr v) → ∃ x, σ[i]? = some (some x) ∧ Rep T B x v
  own : ∀ (i : Nat) v, own? env i = some v → ∃ a, σ[i]? = some (some (.ref a)) ∧ OwnR T B H (F i) a v
  non : ∀ (i : Nat), own? env i = none → F i = []
  free : ∀ (i : Nat) a, a ∈ F i → B a = none
  disj : ∀ i j a, a ∈ F i → a ∈ F j → i = j

structure Go (env : Env) (σ : L2.St) (H : Hp) (F : Nat → List Addr) (B : Hp) (env1 : Env) (σ1 : L2.St) (H1 : Hp) (F1 : Nat → List Addr) (B1 : Hp) : Prop where
  fr : ∀ a o, H a = some o → (∀ i, a ∉ F i) → H1 a = some o
  al : ∀ a, H1 a = none → H a = none
  kn : Same B B1
  nb : ∀ a o, B1 a = some o → B a = some o ∨ H a = none ∨ ∃ (i : Nat) (v : Val), env[i]? = some (Slot.own v) ∧ a ∈ F i
  ow : ∀ i a, a ∈ F1 i → (∃ j, a ∈ F j) ∨ H a = none
  io : ∀ (i : Nat) v, env[i]? = some (Slot.io v) → ∃ v1, env1[i]? = some (Slot.io v1) ∧ σ1[i]? = σ[i]? ∧ ∀ a ∈ F i, a ∈ F1 i
  iw : ∀ (i : Nat) v, env1[i]? = some (Slot.io v) → ∃ v0, env[i]? = some (Slot.io v0)
  ln : env1.length = env.length

section
variable {T : Tx} {env env1 env2 : Env} {σ σ1 σ2 : L2.St} {H H1 H2 B B1 B2 : Hp} {F F1 F2 : Nat → List Addr}
theorem RS.there (S : RS T env σ B H F) {i : Nat} {a : Addr} (h : a ∈ F i) : ∃ o, H a = some o := by
  cases e : own? env i with
  | none => rw [S.non i e] at h; cases h
  | some v => obtain ⟨b, _, r⟩ := S.own i v e; exact r.there a h
theorem RS.fresh (S : RS T env σ B H F) {a : Addr} (h : H a = none) : ∀ i, a ∉ F i := fun i q => by
  obtain ⟨o, e⟩ := S.there q
  rw [h] at e; cases e
theorem RS.bnone (S : RS T env σ B H F) {a : Addr} (h : H a = none) : B a = none := S.sub.free h
theorem own_io {i : Nat} {v : Val} (h : env[i]? = some (Slot.io v)) : own? env i = some v := by unfold own?; rw [h]; rfl
theorem own_own {i : Nat} {v : Val} (h : env[i]? = some (Slot.own v)) : own? env i = some v := by unfold own?; rw [h]; rfl
theorem own_cases {i : Nat} {v : Val} (h : own? env i = some v) : env[i]? = some (Slot.own v) ∨ env[i]? = some (Slot.io v) := by
  unfold own? at h
  cases e : env[i]? with
  | none => rw [e] at h; cases h
  | some s => rw [e] at h; cases s <;> first | (cases h; exact .inl rfl) | (cases h; exact .inr rfl) | (cases h)
theorem Go.refl : Go env σ H F B env σ H F B := ⟨fun _ _ h _ => h, fun _ h => h, Same.refl _, fun _ _ h => .inl h, fun i a h => .inl ⟨i, h⟩, fun i v h => ⟨v, h, rfl, fun _ q => q⟩, fun i v h => ⟨v, h⟩, rfl⟩
theorem Go.trans (S : RS T env σ B H F) (S1 : RS T env1 σ1 B1 H1 F1) (a : Go env σ H F B env1 σ1 H1 F1 B1) (b : Go env1 σ1 H1 F1 B1 env2 σ2 H2 F2 B2) : Go env σ H F B env2 σ2 H2 F2 B2 where
  fr := fun c o h n => b.fr c o (a.fr c o h n) fun i q => by
    rcases a.ow i c q with ⟨j, z⟩ | z
    · exact n j z
    · rw [h] at z; cases z
  al := fun c h => a.al c (b.al c h)
  kn := a.kn.trans b.kn
  nb := fun c o h => by
    rcases b.nb c o h with h | h | ⟨i, v, e, h⟩
    · exact a.nb c o h
    · exact .inr (.inl (a.al c h))
    · rcases a.ow i c h with ⟨j, z⟩ | z
      · have hj : own? env j ≠ none := fun e2 => by rw [S.non j e2] at z; cases z
        cases e2 : own? env j with
        | none => exact absurd e2 hj
        | some v2 =>
          rcases own_cases e2 with e3 | e3
          · exact .inr (.inr ⟨j, v2, e3, z⟩)
          · obtain ⟨v3, e4, _, m⟩ := a.io j v2 e3
            have := S1.disj i j c h (m c z)
            subst this
            rw [e] at e4; cases e4
      · exact .inr (.inl z)
  ow := fun i c h => by
    rcases b.ow i c h with ⟨j, z⟩ | z
    · exact a.ow j c z
    · exact .inr (a.al c z)
  io := fun i v h => by
    obtain ⟨v1, e1, s1, m1⟩ := a.io i v h
    obtain ⟨v2, e2, s2, m2⟩ := b.io i v1 e1
    exact ⟨v2, e2, s2.trans s1, fun c q => m2 c (m1 c q)⟩
  iw := fun i v h => by
    obtain ⟨v1, e1⟩ := b.iw i v h
    exact a.iw i v1 e1
  ln := b.ln.trans a.ln

/-- nothing changed but that something new may stand, may be known -/
structure PG (B H B1 H1 : Hp) : Prop where
  hh : Same H H1
  kn : Same B B1
  sub : Same B1 H1
  nb : ∀ a o, B1 a = some o → B a = some o ∨ H a = none
theorem PG.refl (h : Same B H) : PG B H B H := ⟨Same.refl _, Same.refl _, h, fun _ _ e => .inl e⟩
theorem PG.trans (a : PG B H B1 H1) (b : PG B1 H1 B2 H2) : PG B H B2 H2 := ⟨a.hh.trans b.hh, a.kn.trans b.kn, b.sub, fun c o h => by
  rcases b.nb c o h with h | h
  · exact a.nb c o h
  · exact .inr (a.hh.free h)⟩
theorem PG.rs (S : RS T env σ B H F) (g : PG B H B1 H1) : RS T env σ B1 H1 F where
  sub := g.sub
  len := S.len
  shr := fun i v e => let ⟨x, h1, h2⟩ := S.shr i v e; ⟨x, h1, h2.mono g.kn⟩
  own := fun i v e => let ⟨a, h1, h2⟩ := S.own i v e; ⟨a, h1, h2.mono g.kn fun b _ o q => g.hh b o q⟩
  non := S.non
  free := fun i a h => by
    cases e : B1 a with
    | none => rfl
    | some o =>
      rcases g.nb a o e with z | z
      · rw [S.free i a h] at z; cases z
      · exact absurd h (S.fresh z i)
  disj := S.disj
theorem PG.go (g : PG B H B1 H1) : Go env σ H F B env σ H1 F B1 where
  fr := fun a o h _ => g.hh a o h
  al := fun a h => g.hh.free h
  kn := g.kn
  nb := fun a o h => (g.nb a o h).elim .inl fun z => .inr (.inl z)
  ow := fun i a h => .inl ⟨i, h⟩
  io := fun i v h => ⟨v, h, rfl, fun _ q => q⟩
  iw := fun i v h => ⟨v, h⟩
  ln := rfl
end

/-! ### results -/
/-- a value: shared; a new object; the slot's own object -/
inductive Opd where
  | shr (v : Val) | new (v : Val) | var (i : Nat)
inductive RV where
  | shr (v : Val) | new (v : Val)
def RV.opd : RV → Opd
  | .shr v => .shr v
  | .new v => .new v
def Opd.get (o : Opd) (env : Env) : Option Val := match o with
  | .shr v => some v
  | .new v => some v
  | .var i => own? env i
inductive ERes where
  | val (o : Opd) | exc (c : Str)
abbrev EF := Env → Option (ERes × Env)

def OpdR (T : Tx) (env : Env) (σ : L2.St) (B H : Hp) (F : Nat → List Addr) (H0 : Hp) (x : V) : Opd → Prop
  | .shr v => Rep T B x v
  | .new v => ∃ a fp, x = .ref a ∧ OwnR T B H fp a v ∧ ∀ b ∈ fp, H0 b = none ∧ B b = none ∧ ∀ i, b ∉ F i
  | .var i => σ[i]? = some (some x)
/-- an operand at the moment of an operation -/
def OprR (T : Tx) (B H : Hp) (x : V) (v : Val) : Prop := Rep T B x v ∨ ∃ a fp, x = .ref a ∧ OwnR T B H fp a v ∧ ∀ b ∈ fp, B b = none
def RvR (T : Tx) (B1 H1 H : Hp) (z : V) : RV → Prop
  | .shr v => Rep T B1 z v
  | .new v => ∃ a fp, z = .ref a ∧ OwnR T B1 H1 fp a v ∧ ∀ b ∈ fp, H b = none ∧ B1 b = none

section
variable {T : Tx} {env env1 env2 : Env} {σ σ1 σ2 : L2.St} {H0 H H1 H2 B B1 B2 : Hp} {F F1 F2 : Nat → List Addr} {x : V} {o : Opd} {v : Val}
theorem OpdR.opr (S : RS T env σ B H F) (h : OpdR T env σ B H F H0 x o) (e : o.get env = some v) : OprR T B H x v := by
  cases o with
  | shr u => cases e; exact .inl h
  | new u =>
    cases e
    obtain ⟨a, fp, h1, h2, h3⟩ := h
    exact .inr ⟨a, fp, h1, h2, fun b hb => (h3 b hb).2.1⟩
  | var i =>
    have h2 : σ[i]? = some (some x) := h
    have e' : own? env i = some v := e
    obtain ⟨a, s1, r⟩ := S.own i _ e'
    rw [h2] at s1
    cases s1
    exact .inr ⟨a, F i, rfl, r, fun b hb => S.free i b hb⟩
/-- an operand, while others are reckoned -/
theorem OpdR.go (S : RS T env σ B H F) (S1 : RS T env1 σ B1 H1 F1) (g : Go env σ H F B env1 σ H1 F1 B1) (h : OpdR T env σ B H F H0 x o) : OpdR T env1 σ B1 H1 F1 H0 x o := by
  cases o with
  | shr u => exact Rep.mono g.kn h
  | new u =>
    obtain ⟨a, fp, h1, h2, h3⟩ := h
    refine ⟨a, fp, h1, h2.mono g.kn fun b hb o q => g.fr b o q (h3 b hb).2.2, fun b hb => ⟨(h3 b hb).1, ?_, fun i q => ?_⟩⟩
    · cases e : B1 b with
      | none => rfl
      | some o =>
        obtain ⟨o2, e2⟩ := h2.there b hb
        rcases g.nb b o e with z | z | ⟨i, _, _, z⟩
        · rw [(h3 b hb).2.1] at z; cases z
        · rw [z] at e2; cases e2
        · exact absurd z ((h3 b hb).2.2 i)
    · obtain ⟨o2, e2⟩ := h2.there b hb
      rcases g.ow i b q with ⟨j, z⟩ | z
      · exact (h3 b hb).2.2 j z
      · rw [z] at e2; cases e2
  | var i => exact h
/-- .. with another start -/
theorem OpdR.from (h : OpdR T env σ B H F H1 x o) (al : ∀ a, H1 a = none → H0 a = none) : OpdR T env σ B H F H0 x o := by
  cases o with
  | shr u => exact h
  | new u =>
    obtain ⟨a, fp, h1, h2, h3⟩ := h
    exact ⟨a, fp, h1, h2, fun b hb => ⟨al b (h3 b hb).1, (h3 b hb).2⟩⟩
  | var i => exact h
theorem RvR.opd (S : RS T env σ B H F) {r : RV} (h : RvR T B1 H1 H x r) (al : ∀ a, H a = none → H0 a = none) : OpdR T env σ B1 H1 F H0 x r.opd := by
  cases r with
  | shr v => exact h
  | new v =>
    obtain ⟨a, fp, h1, h2, h3⟩ := h
    exact ⟨a, fp, h1, h2, fun b hb => ⟨al b (h3 b hb).1, (h3 b hb).2, S.fresh (h3 b hb).1⟩⟩
end

/-! ### expressions -/
/-- what is wanted behind an expression that started at env, H, ..; Hs: the heap ahead of it, for what is new -/
def Post (T : Tx) (W : WX) (Q : VK) (Hs : Hp) (env : Env) (σ : L2.St) (H : Hp) (F : Nat → List Addr) (B : Hp) (env2 : Env) (r : ERes) : Prop :=
  ∀ H2 F2 B2, RS T env2 σ B2 H2 F2 → Go env σ H F B env2 σ H2 F2 B2 → match r with
  | .val o => ∀ x, OpdR T env2 σ B2 H2 F2 Hs x o → Q x H2
  | .exc c => W (.ref (He.ga T.K c)) none σ H2
/-- the reading of a semantic function; W: the wish of exceptions -/
def eG (T : Tx) (W : WX) (f : EF) : TE := fun σ H Q => ∃ env F B r env1, RS T env σ B H F ∧ f env = some (r, env1) ∧ Post T W Q H env σ H F B env1 r
abbrev SE (X : Cx) (W : WX) (e : Expr) (f : EF) : Prop := PE X e (eG (tx X) W f)
theorem PE.mono {X : Cx} {e : Expr} {t t' : TE} (h : PE X e t) (i : ∀ σ H Q, t' σ H Q → t σ H Q) : PE X e t' := ⟨fun pins s σ H Q I q => h.run pins s σ H Q I (i σ H Q q)⟩
theorem PT.mono {X : Cx} {e : Expr} {t t' : TT} (h : PT X e t) (i : ∀ σ H Q, t' σ H Q → t σ H Q) : PT X e t' := ⟨fun pins s σ H Q I q => h.run pins s σ H Q I (i σ H Q q)⟩
theorem PW.mono {X : Cx} {e : Expr} {t t' : TT} (h : PW X e t) (i : ∀ σ H Q, t' σ H Q → t σ H Q) : PW X e t' := ⟨fun wh pins s σ H Q I q => h.run wh pins s σ H Q I (i σ H Q q)⟩
theorem PA.mono {X : Cx} {e : List Expr} {t t' : TA} (h : PA X e t) (i : ∀ σ H Q, t' σ H Q → t σ H Q) : PA X e t' := ⟨fun pos pins s σ H Q I q => h.run pos pins s σ H Q I (i σ H Q q)⟩
theorem PS.mono {X : Cx} {e : Stmt} {t t' : TS} (h : PS X e t) (i : ∀ D σ H, t' D σ H → t D σ H) : PS X e t' := ⟨fun pins s σ H D I q => h.run pins s σ H D I (i D σ H q)⟩
theorem PSs.mono {X : Cx} {e : List Stmt} {t t' : TS} (h : PSs X e t) (i : ∀ D σ H, t' D σ H → t D σ H) : PSs X e t' := ⟨fun pins s σ H D I q => h.run pins s σ H D I (i D σ H q)⟩

def ebind (f : EF) (k : Opd → EF) : EF := fun env => match f env with
  | some (.val o, env1) => k o env1
  | some (.exc c, env1) => some (.exc c, env1)
  | none => none
section
variable {T : Tx} {W : WX} {Q : VK} {Hs : Hp} {env env1 env2 : Env} {σ : L2.St} {H H1 B B1 : Hp} {F F1 : Nat → List Addr} {r : ERes} {f : EF} {k : Opd → EF}
theorem Post.shift (S : RS T env σ B H F) (S1 : RS T env1 σ B1 H1 F1) (g : Go env σ H F B env1 σ H1 F1 B1) (p : Post T W Q Hs env σ H F B env2 r) : Post T W Q Hs env1 σ H1 F1 B1 env2 r :=
  fun H2 F2 B2 S2 G2 => p H2 F2 B2 S2 (g.trans S S1 G2)
theorem run_cut (S : RS T env σ B H F) (e : ebind f k env = some (r, env2)) (p : Post T W Q Hs env σ H F B env2 r) {Q' : VK}
    (hq : ∀ o env1 H1 F1 B1 x, k o env1 = some (r, env2) → RS T env1 σ B1 H1 F1 → Go env σ H F B env1 σ H1 F1 B1 → OpdR T env1 σ B1 H1 F1 H x o → Post T W Q Hs env1 σ H1 F1 B1 env2 r → Q' x H1) : eG T W f σ H Q' := by
  unfold ebind at e
  cases h : f env with
  | none => rw [h] at e; cases e
  | some z =>
    obtain ⟨r1, env1⟩ := z
    rw [h] at e
    refine ⟨env, F, B, r1, env1, S, h, fun H1 F1 B1 S1 G1 => ?_⟩
    cases r1 with
    | val o => exact fun x hx => hq o env1 H1 F1 B1 x e S1 G1 hx (p.shift S S1 G1)
    | exc c =>
      cases e
      exact p H1 F1 B1 S1 G1
/-- an operation's end -/
theorem Post.done {x : V} {rv : RV} (S : RS T env σ B H F) (p : Post T W Q Hs env σ H F B env (.val rv.opd)) (al : ∀ a, H a = none → Hs a = none) (g : PG B H B1 H1) (h : RvR T B1 H1 H x rv) : Q x H1 :=
  p H1 F B1 (g.rs S) g.go x (h.opd S al)
end
end Lw

end
section
set_option Elab.async false
set_option linter.all false
set_option maxRecDepth 100000
set_option maxHeartbeats 1000000
set_option autoImplicit false
/-! Lw: expressions. -/
namespace Lw
open PySem L2

/-! ### names, constants -/
def sVar (i : Nat) : EF := fun env => match env[i]? with
  | some (.shr v) => some (.val (.shr v), env)
  | some (.own _) => some (.val (.var i), env)
  | some (.io _) => some (.val (.var i), env)
  | _ => none
def sC (v : Val) : EF := fun env => some (.val (.shr v), env)
section
variable {X : Cx} {W : WX} {a b c : Expr} {f g k : EF} {pos : Pos}
theorem RS.var {T : Tx} {env : Env} {σ : L2.St} {B H : Hp} {F : Nat → List Addr} {Hs : Hp} (S : RS T env σ B H F) {i : Nat} {r : ERes} {env2 : Env} (e : sVar i env = some (r, env2)) :
    ∃ x o, σ[i]? = some (some x) ∧ r = .val o ∧ env2 = env ∧ OpdR T env σ B H F Hs x o := by
  unfold sVar at e
  cases h : env[i]? with
  | none => rw [h] at e; cases e
  | some s =>
    rw [h] at e
    cases s with
    | un => cases e
    | shr v =>
      cases e
      obtain ⟨x, h1, h2⟩ := S.shr i v h
      exact ⟨x, _, h1, rfl, rfl, h2⟩
    | own v =>
      cases e
      obtain ⟨x, h1, h2⟩ := S.own i v (own_own h)
      exact ⟨_, _, h1, rfl, rfl, h1⟩
    | io v =>
      cases e
      obtain ⟨x, h1, h2⟩ := S.own i v (own_io h)
      exact ⟨_, _, h1, rfl, rfl, h1⟩
theorem se_var {i : Nat} (h : PE X a (tVar i)) : SE X W a (sVar i) := by
  refine PE.mono h fun σ H Q q => ?_
  obtain ⟨env, F, B, r, env2, S, e, p⟩ := q
  obtain ⟨x, o, h1, rfl, rfl, h2⟩ := S.var (Hs := H) e
  exact ⟨x, h1, p H F B S .refl x h2⟩
theorem se_c {x : V} {v : Val} (h : PE X a (tC x)) (r : ∀ B, Rep (tx X) B x v) : SE X W a (sC v) := by
  refine PE.mono h fun σ H Q q => ?_
  obtain ⟨env, F, B, r1, env2, S, e, p⟩ := q
  cases e
  exact p H F B S .refl x (r B)
theorem se_int {i : Int} {j : Nat} : SE X W (.Constant (.int i) j pos) (sC (.int i)) := se_c pe_int fun _ => .int i
theorem se_bl {i : Bool} {j : Nat} : SE X W (.Constant (.bool i) j pos) (sC (.bl i)) := se_c pe_bl fun _ => .bl i
theorem se_non {j : Nat} : SE X W (.Constant .none j pos) (sC .non) := se_c pe_non fun _ => .non
theorem se_str {x : Str} {l : List Nat} {j : Nat} (e : x.cps.toList = l) : SE X W (.Constant (.str x) j pos) (sC (.str l)) := se_c pe_str fun _ => Rep.of_str e
/-- a module's constant -/
theorem se_gint {x : Str} {i : Int} (hg : Gl X x) (hm : ∃ t, X.mg x = some (.int i t)) (hd : (x == ("__debug__" : Str)) = false := by decide) : SE X W (.Name x pos) (sC (.int i)) := by
  obtain ⟨t, hm⟩ := hm
  exact se_c (pe_glob (v := .int i) hg hm ⟨t, rfl⟩ hd) fun _ => .int i
theorem se_gstr {x z : Str} {l : List Nat} (hg : Gl X x) (hm : ∃ t, X.mg x = some (.str z t)) (e : z.cps.toList = l) (hd : (x == ("__debug__" : Str)) = false := by decide) : SE X W (.Name x pos) (sC (.str l)) := by
  obtain ⟨t, hm⟩ := hm
  exact se_c (pe_glob (v := .str z) hg hm ⟨t, rfl⟩ hd) fun _ => Rep.of_str e
/-- a class, a def as a value -/
theorem se_gref {x : Str} (hg : Gl X x) (hm : X.mg x = some (.ref (He.ga X.K x))) (hd : (x == ("__debug__" : Str)) = false := by decide) : SE X W (.Name x pos) (sC (.glo x)) :=
  se_c (pe_glob (v := .ref (He.ga X.K x)) hg hm rfl hd) fun _ => .glo x
theorem se_ty {x : Str} {n : String} (hg : Gl X x) (hm : X.mg x = none) (hv : bootBuiltins x = some (.type n)) (hn : x ≠ "__name__" := by decide) (hd : (x == ("__debug__" : Str)) = false := by decide) : SE X W (.Name x pos) (sC (.ty n)) :=
  se_c (pe_bltn (v := .ty n) hg hm hv rfl hn hd) fun _ => .ty n

/-! ### two-place operations -/
def eop2 (op : Val → Val → Option RV) (o1 o2 : Opd) : EF := fun env => match o1.get env, o2.get env with
  | some x, some y => (match op x y with | some r => some (.val r.opd, env) | none => none)
  | _, _ => none
def sBin (op : Val → Val → Option RV) (f g : EF) : EF := ebind f fun o1 => ebind g fun o2 => eop2 op o1 o2
/-- the operation on values is what the rule says -/
def OpS (T : Tx) (r : R2) (op : Val → Val → Option RV) : Prop := ∀ B H x y vx vy rv, Same B H → OprR T B H x vx → OprR T B H y vy → op vx vy = some rv →
  ∀ Q : VK, (∀ z H1 B1, PG B H B1 H1 → RvR T B1 H1 H z rv → Q z H1) → r x y H Q
theorem bin_mono {r : R2} {op : Val → Val → Option RV} (hs : OpS (tx X) r op) : ∀ σ H Q, eG (tx X) W (sBin op f g) σ H Q → tOp r (eG (tx X) W f) (eG (tx X) W g) σ H Q := by
  intro σ H Q h
  obtain ⟨env, F, B, r0, env2, S, e, p⟩ := h
  refine run_cut S e p fun o1 env1 H1 F1 B1 x e1 S1 G1 x1 p1 => ?_
  refine run_cut S1 e1 p1 fun o2 env3 H2 F2 B2 y e2 S2 G2 y2 p2 => ?_
  unfold eop2 at e2
  cases h1 : o1.get env3 with
  | none => rw [h1] at e2; cases e2
  | some vx =>
    cases h2 : o2.get env3 with
    | none => rw [h1, h2] at e2; cases e2
    | some vy =>
      rw [h1, h2] at e2
      dsimp only at e2
      cases h3 : op vx vy with
      | none => rw [h3] at e2; cases e2
      | some rv =>
        rw [h3] at e2
        cases e2
        refine hs B2 H2 x y vx vy rv S2.sub ((x1.go S1 S2 G2).opr S2 h1) (y2.opr S2 h2) h3 Q fun z H3 B3 g h => p2.done S2 (fun a q => G1.al a (G2.al a q)) g h
theorem se_bin {op : Operator} {r : R2} {opv : Val → Val → Option RV} (ho : OpR X (binaryOp op) r) (hs : OpS (tx X) r opv) (ha : SE X W a f) (hb : SE X W b g) : SE X W (.BinOp a op b pos) (sBin opv f g) :=
  PE.mono (pe_op ho ha hb) (bin_mono hs)
theorem se_cmp {op : CmpOp} {r : R2} {opv : Val → Val → Option RV} (ho : OpR X (compareOp op) r) (hs : OpS (tx X) r opv) (ha : SE X W a f) (hb : SE X W b g) (hm : behindInMarks op b = false) : SE X W (.Compare a [op] [b] pos) (sBin opv f g) :=
  PE.mono (pe_cmpR ho ha hb hm) (bin_mono hs)
theorem se_ix {r : R2} {opv : Val → Val → Option RV} (ho : IxR X r) (hs : OpS (tx X) r opv) (ha : SE X W a f) (hb : SE X W b g) (hp : PlainIx b) : SE X W (.Subscript a b pos) (sBin opv f g) :=
  PE.mono (pe_ix ho ha hb hp) (bin_mono hs)

/-! ### one-place operations -/
def eop1 (op : Val → Option RV) (o1 : Opd) : EF := fun env => match o1.get env with
  | some x => (match op x with | some r => some (.val r.opd, env) | none => none)
  | _ => none
def sUn (op : Val → Option RV) (f : EF) : EF := ebind f fun o1 => eop1 op o1
def OpS1 (T : Tx) (r : V → Hp → VK → Prop) (op : Val → Option RV) : Prop := ∀ B H x vx rv, Same B H → OprR T B H x vx → op vx = some rv → ∀ Q : VK, (∀ z H1 B1, PG B H B1 H1 → RvR T B1 H1 H z rv → Q z H1) → r x H Q
theorem un_mono {r : V → Hp → VK → Prop} {op : Val → Option RV} (hs : OpS1 (tx X) r op) : ∀ σ H Q, eG (tx X) W (sUn op f) σ H Q → tUn r (eG (tx X) W f) σ H Q := by
  intro σ H Q h
  obtain ⟨env, F, B, r0, env2, S, e, p⟩ := h
  refine run_cut S e p fun o1 env1 H1 F1 B1 x e1 S1 G1 x1 p1 => ?_
  unfold eop1 at e1
  cases h1 : o1.get env1 with
  | none => rw [h1] at e1; cases e1
  | some vx =>
    rw [h1] at e1
    dsimp only at e1
    cases h3 : op vx with
    | none => rw [h3] at e1; cases e1
    | some rv =>
      rw [h3] at e1
      cases e1
      exact hs B1 H1 x vx rv S1.sub (x1.opr S1 h1) h3 Q fun z H3 B3 g h => p1.done S1 G1.al g h
theorem se_un {op : UnaryOp} {r : V → Hp → VK → Prop} {opv : Val → Option RV} (ho : UnR X (unaryOp op) r) (hs : OpS1 (tx X) r opv) (ha : SE X W a f) : SE X W (.UnaryOp op a pos) (sUn opv f) :=
  PE.mono (pe_un ho ha) (un_mono hs)

/-! ### tests: a semantic function that gives a bool -/
def tG (T : Tx) (W : WX) (f : EF) : TT := fun σ H Q => ∃ env F B r env1, RS T env σ B H F ∧ f env = some (r, env1) ∧ (∀ o, r = .val o → ∃ b, o = .shr (.bl b)) ∧ Post T W (fun x H1 => ∃ b, x = .bl b ∧ Q b H1) H env σ H F B env1 r
abbrev ST (X : Cx) (W : WX) (e : Expr) (f : EF) : Prop := PT X e (tG (tx X) W f)
abbrev SW (X : Cx) (W : WX) (e : Expr) (f : EF) : Prop := PW X e (tG (tx X) W f)
theorem eG_of_tG {T : Tx} {σ : L2.St} {H : Hp} {Q : Bool → Hp → Prop} (h : tG T W f σ H Q) : eG T W f σ H (fun x H1 => ∃ b, x = .bl b ∧ Q b H1) := by
  obtain ⟨env, F, B, r, env1, S, e, _, p⟩ := h
  exact ⟨env, F, B, r, env1, S, e, p⟩
/-- an expression whose value is a bool -/
theorem st_val (h : SE X W a f) (he : ∀ whole, isTrue a X.env whole = (do let v ← whole; standAt a.pos; holding [v] (truthy v)) := by intro _; rfl) : ST X W a f :=
  PT.mono (pt_val h he) fun _ _ _ q => eG_of_tG q
theorem st_cmp {op : CmpOp} {r : R2} {opv : Val → Val → Option RV} (ho : OpR X (compareOp op) r) (hs : OpS (tx X) r opv) (ha : SE X W a f) (hb : SE X W b g) (hm : behindInMarks op b = false) : ST X W (.Compare a [op] [b] pos) (sBin opv f g) :=
  PT.mono (pt_cmpR ho ha hb hm) fun _ _ _ q => bin_mono hs _ _ _ (eG_of_tG q)
/-- a value's truth -/
def truV : Val → Option Bool
  | .non => some false
  | .bl b => some b
  | .int i => some (i != 0)
  | .str x => if x.length ≤ 1000000 then some (!x.isEmpty) else none
  | .lst xs => some (!xs.isEmpty)
  | .tup xs => some (!xs.isEmpty)
  | _ => none
def sTru (f : EF) : EF := sUn (fun v => (truV v).map fun b => .shr (.bl b)) f
theorem line_ok {n : Nat} (h : n ≤ 16000000) : n ≤ sizeLine := Nat.le_trans h (by decide)
theorem line_lt {n : Nat} (h : n < 16000000) : n < sizeLine := Nat.lt_of_lt_of_le h (by decide)
theorem OprR.flat {T : Tx} {B H : Hp} {x : V} {v : Val} (h : OprR T B H x v) (hf : flat v = true) : Rep T B x v := by
  rcases h with h | ⟨a, fp, rfl, h, _⟩
  · exact h
  · cases h <;> cases hf
theorem Rep.int_inv {T : Tx} {B : Hp} {x : V} {i : Int} (h : Rep T B x (.int i)) : x = .int i := by cases h; rfl
theorem Rep.bl_inv {T : Tx} {B : Hp} {x : V} {i : Bool} (h : Rep T B x (.bl i)) : x = .bl i := by cases h; rfl
theorem Rep.non_inv {T : Tx} {B : Hp} {x : V} (h : Rep T B x .non) : x = .non := by cases h; rfl
theorem Rep.str_inv {T : Tx} {B : Hp} {x : V} {l : List Nat} (h : Rep T B x (.str l)) : x = .str ⟨l.toArray⟩ := by
  cases h with
  | str z => cases z; rfl
theorem OprR.int {T : Tx} {B H : Hp} {x : V} {i : Int} (h : OprR T B H x (.int i)) : x = .int i := (h.flat rfl).int_inv
theorem OprR.bl {T : Tx} {B H : Hp} {x : V} {i : Bool} (h : OprR T B H x (.bl i)) : x = .bl i := (h.flat rfl).bl_inv
theorem OprR.non {T : Tx} {B H : Hp} {x : V} (h : OprR T B H x .non) : x = .non := (h.flat rfl).non_inv
theorem OprR.str {T : Tx} {B H : Hp} {x : V} {l : List Nat} (h : OprR T B H x (.str l)) : x = .str ⟨l.toArray⟩ := (h.flat rfl).str_inv
theorem OprR.lst {T : Tx} {B H : Hp} {x : V} {vs : List Val} (s : Same B H) (h : OprR T B H x (.lst vs)) : ∃ a ys, x = .ref a ∧ H a = some (.lst ys) ∧ RepAll T B ys vs := by
  rcases h with h | ⟨a, fp, rfl, h, _⟩
  · cases h with
    | lst q r => exact ⟨_, _, rfl, s _ _ q, r⟩
  · cases h with
    | lst q r => exact ⟨_, _, rfl, q, r⟩
theorem OprR.tup {T : Tx} {B H : Hp} {x : V} {vs : List Val} (s : Same B H) (h : OprR T B H x (.tup vs)) : ∃ a ys, x = .ref a ∧ H a = some (.tup ys) ∧ RepAll T B ys vs := by
  rcases h with h | ⟨a, fp, rfl, h, _⟩
  · cases h with
    | tup q r => exact ⟨_, _, rfl, s _ _ q, r⟩
  · cases h
theorem OprR.scr {T : Tx} {B H : Hp} {x : V} {ns : List Int} (s : Same B H) (h : OprR T B H x (.scr ns)) : ∃ a, x = .ref a ∧ SqL T.K H a (ns.map V.int) := by
  rcases h with h | ⟨a, fp, rfl, h, _⟩
  · cases h with
    | scr q => exact ⟨_, rfl, same_l s q⟩
  · cases h
theorem isEmpty_of_all {T : Tx} {B : Hp} {ys : List V} {vs : List Val} (h : RepAll T B ys vs) : ys.isEmpty = vs.isEmpty := by cases h <;> rfl
theorem st_truth (h : SE X W a f) (he : ∀ whole, isTrue a X.env whole = (do let v ← whole; standAt a.pos; holding [v] (truthy v)) := by intro _; rfl) : ST X W a (sTru f) := by
  refine PT.mono (pt_truth h he) fun σ H Q q => ?_
  have q1 := eG_of_tG q
  have z := un_mono (X := X) (W := W) (f := f) (op := fun v => (truV v).map fun b => RV.shr (.bl b)) (r := fun x H1 Q1 => ∃ k, TruV X.K x H1 k ∧ Q1 (.bl k) H1) ?_ σ H _ q1
  rotate_left
  · intro B H1 x v rv hs hx hv Q1 hq
    dsimp only at hv
    cases hb : truV v with
    | none => rw [hb] at hv; cases hv
    | some k =>
      rw [hb] at hv
      cases hv
      refine ⟨k, ?_, hq _ H1 B (.refl hs) (.bl k)⟩
      cases v with
      | non => rw [hx.non]; cases hb; rfl
      | bl b => rw [hx.bl]; cases hb; rfl
      | int i => rw [hx.int]; cases hb; rfl
      | str l =>
        rw [hx.str]
        have hb' : (if l.length ≤ 1000000 then some (!l.isEmpty) else none) = some k := hb
        split at hb'
        · rename_i hl
          cases hb'
          refine ⟨line_ok (by show l.toArray.size ≤ _; simp; omega), ?_⟩
          show (!l.isEmpty) = (((l.toArray.size : Nat) : Int) != 0)
          cases l <;> simp <;> omega
        · cases hb'
      | lst vs =>
        obtain ⟨a, ys, rfl, q, r⟩ := hx.lst hs
        cases hb
        exact .inl ⟨ys, .of q, by rw [isEmpty_of_all r]⟩
      | tup vs =>
        obtain ⟨a, ys, rfl, q, r⟩ := hx.tup hs
        cases hb
        exact .inr (.inl ⟨ys, .of q, by rw [isEmpty_of_all r]⟩)
      | _ => cases hb
  · -- back to a test's reading
    obtain ⟨env, F, B, r0, env1, S, e, p⟩ := z
    refine ⟨env, F, B, r0, env1, S, e, fun H2 F2 B2 S2 G2 => ?_⟩
    have p' := p H2 F2 B2 S2 G2
    cases r0 with
    | exc c => exact p'
    | val o =>
      intro x hx
      obtain ⟨k, hk, b, hb, q⟩ := p' x hx
      cases hb
      exact ⟨_, hk, q⟩
def sAnd (f g : EF) : EF := ebind f fun o => match o with
  | .shr (.bl true) => g
  | .shr (.bl false) => fun env => some (.val (.shr (.bl false)), env)
  | _ => fun _ => none
def sOr (f g : EF) : EF := ebind f fun o => match o with
  | .shr (.bl true) => fun env => some (.val (.shr (.bl true)), env)
  | .shr (.bl false) => g
  | _ => fun _ => none
def sNot (f : EF) : EF := ebind f fun o => match o with
  | .shr (.bl b) => fun env => some (.val (.shr (.bl (!b))), env)
  | _ => fun _ => none
theorem tG_cut {T : Tx} {Q : VK} {Hs : Hp} {env env2 : Env} {σ : L2.St} {H B : Hp} {F : Nat → List Addr} {r : ERes} {k : Opd → EF} (S : RS T env σ B H F) (e : ebind f k env = some (r, env2)) (p : Post T W Q Hs env σ H F B env2 r) {Q' : Bool → Hp → Prop}
    (hb : ∀ o env1, k o env1 = some (r, env2) → ∃ b, o = .shr (.bl b))
    (hq : ∀ b env1 H1 F1 B1, k (.shr (.bl b)) env1 = some (r, env2) → RS T env1 σ B1 H1 F1 → Go env σ H F B env1 σ H1 F1 B1 → Post T W Q Hs env1 σ H1 F1 B1 env2 r → Q' b H1) : tG T W f σ H Q' := by
  unfold ebind at e
  cases h : f env with
  | none => rw [h] at e; cases e
  | some z =>
    obtain ⟨r1, env1⟩ := z
    rw [h] at e
    refine ⟨env, F, B, r1, env1, S, h, fun o ho => ?_, fun H1 F1 B1 S1 G1 => ?_⟩
    · subst ho
      exact hb o env1 e
    · cases r1 with
      | val o =>
        obtain ⟨b, rfl⟩ := hb o env1 e
        intro x hx
        have ex : x = .bl b := Rep.bl_inv hx
        exact ⟨b, ex, hq b env1 H1 F1 B1 e S1 G1 (p.shift S S1 G1)⟩
      | exc c =>
        cases e
        exact p H1 F1 B1 S1 G1
theorem Post.from {T : Tx} {Q : VK} {Hs Hs' : Hp} {env env2 : Env} {σ : L2.St} {H B : Hp} {F : Nat → List Addr} {r : ERes} (p : Post T W Q Hs env σ H F B env2 r) (al : ∀ a, Hs' a = none → Hs a = none) : Post T W Q Hs' env σ H F B env2 r := fun H2 F2 B2 S2 G2 => by
  have p' := p H2 F2 B2 S2 G2
  cases r with
  | exc c => exact p'
  | val o => exact fun x hx => p' x (hx.from al)
section
variable {T : Tx} {σ : L2.St} {H : Hp} {Q : Bool → Hp → Prop}
theorem and_mono (h : tG T W (sAnd f g) σ H Q) : tAnd (tG T W f) (tG T W g) σ H Q := by
  obtain ⟨env, F, B, r0, env2, S, e, hb, p⟩ := h
  refine tG_cut S e p (fun o env1 e1 => ?_) fun b env1 H1 F1 B1 e1 S1 G1 p1 => ?_
  · try dsimp only at e1
    split at e1
    · exact ⟨_, rfl⟩
    · exact ⟨_, rfl⟩
    · cases e1
  · cases b with
    | true => exact iteT ⟨env1, F1, B1, r0, env2, S1, e1, hb, p1.from G1.al⟩
    | false =>
      cases e1
      refine iteF ?_
      obtain ⟨c, ec, q⟩ := p1 H1 F1 B1 S1 .refl (.bl false) (.bl false)
      cases ec
      exact q
theorem or_mono (h : tG T W (sOr f g) σ H Q) : tOr (tG T W f) (tG T W g) σ H Q := by
  obtain ⟨env, F, B, r0, env2, S, e, hb, p⟩ := h
  refine tG_cut S e p (fun o env1 e1 => ?_) fun b env1 H1 F1 B1 e1 S1 G1 p1 => ?_
  · try dsimp only at e1
    split at e1
    · exact ⟨_, rfl⟩
    · exact ⟨_, rfl⟩
    · cases e1
  · cases b with
    | false => exact iteF ⟨env1, F1, B1, r0, env2, S1, e1, hb, p1.from G1.al⟩
    | true =>
      cases e1
      refine iteT ?_
      obtain ⟨c, ec, q⟩ := p1 H1 F1 B1 S1 .refl (.bl true) (.bl true)
      cases ec
      exact q
end
theorem sw_one (h : ST X W a f) : SW X W (.BoolOp .And [a] pos) f := pw_and1 h
theorem sw_and {rest : List Expr} (ha : ST X W a f) (hb : SW X W (.BoolOp .And (b :: rest) pos) g) : SW X W (.BoolOp .And (a :: b :: rest) pos) (sAnd f g) := PW.mono (pw_and ha hb) fun _ _ _ => and_mono
theorem sw_one' (h : ST X W a f) : SW X W (.BoolOp .Or [a] pos) f := pw_or1 h
theorem sw_or {rest : List Expr} (ha : ST X W a f) (hb : SW X W (.BoolOp .Or (b :: rest) pos) g) : SW X W (.BoolOp .Or (a :: b :: rest) pos) (sOr f g) := PW.mono (pw_or ha hb) fun _ _ _ => or_mono
theorem st_w (h : SW X W a f) : ST X W a f := PW.pt h
theorem st_not (ha : ST X W a f) : ST X W (.UnaryOp .Not a pos) (sNot f) := by
  refine PT.mono (pt_not ha) fun σ H Q h => ?_
  obtain ⟨env, F, B, r0, env2, S, e, hb, p⟩ := h
  refine tG_cut S e p (fun o env1 e1 => ?_) fun b env1 H1 F1 B1 e1 S1 G1 p1 => ?_
  · try dsimp only at e1
    split at e1
    · exact ⟨_, rfl⟩
    · cases e1
  · cases e1
    obtain ⟨c, ec, q⟩ := p1 H1 F1 B1 S1 .refl (.bl (!b)) (.bl _)
    cases ec
    exact q
/-- as values (bools) -/
theorem andV_mono {T : Tx} {σ : L2.St} {H : Hp} {Q : VK} (h : eG T W (sAnd f g) σ H Q) : tAndV (eG T W f) (eG T W g) σ H Q := by
  obtain ⟨env, F, B, r0, env2, S, e, p⟩ := h
  refine run_cut S e p fun o env1 H1 F1 B1 x e1 S1 G1 x1 p1 => ?_
  try dsimp only at e1
  split at e1
  · exact ⟨true, Rep.bl_inv x1, iteT ⟨env1, F1, B1, r0, env2, S1, e1, p1.from G1.al⟩⟩
  · cases e1
    exact ⟨false, Rep.bl_inv x1, iteF (p1 H1 F1 B1 S1 .refl (.bl false) (.bl false))⟩
  · cases e1
theorem orV_mono {T : Tx} {σ : L2.St} {H : Hp} {Q : VK} (h : eG T W (sOr f g) σ H Q) : tOrV (eG T W f) (eG T W g) σ H Q := by
  obtain ⟨env, F, B, r0, env2, S, e, p⟩ := h
  refine run_cut S e p fun o env1 H1 F1 B1 x e1 S1 G1 x1 p1 => ?_
  try dsimp only at e1
  split at e1
  · cases e1
    exact ⟨true, Rep.bl_inv x1, iteT (p1 H1 F1 B1 S1 .refl (.bl true) (.bl true))⟩
  · exact ⟨false, Rep.bl_inv x1, iteF ⟨env1, F1, B1, r0, env2, S1, e1, p1.from G1.al⟩⟩
  · cases e1
theorem se_one {op : BoolOp} (h : SE X W a f) : SE X W (.BoolOp op [a] pos) f := pe_one h
theorem se_and {rest : List Expr} (ha : SE X W a f) (hb : SE X W (.BoolOp .And (b :: rest) pos) g) : SE X W (.BoolOp .And (a :: b :: rest) pos) (sAnd f g) := PE.mono (pe_and ha hb) fun _ _ _ => andV_mono
theorem se_or {rest : List Expr} (ha : SE X W a f) (hb : SE X W (.BoolOp .Or (b :: rest) pos) g) : SE X W (.BoolOp .Or (a :: b :: rest) pos) (sOr f g) := PE.mono (pe_or ha hb) fun _ _ _ => orV_mono
theorem se_not (ha : SE X W a f) : SE X W (.UnaryOp .Not a pos) (sNot f) := by
  refine PE.mono (pe_not ha) fun σ H Q h => ?_
  obtain ⟨env, F, B, r0, env2, S, e, p⟩ := h
  refine run_cut S e p fun o env1 H1 F1 B1 x e1 S1 G1 x1 p1 => ?_
  try dsimp only at e1
  split at e1
  · cases e1
    exact ⟨_, Rep.bl_inv x1, p1 H1 F1 B1 S1 .refl (.bl _) (.bl _)⟩
  · cases e1
/-- a if t else b -/
def sIf (c f g : EF) : EF := ebind c fun o => match o with
  | .shr (.bl true) => f
  | .shr (.bl false) => g
  | _ => fun _ => none
theorem se_if (hc : ST X W c k) (ha : SE X W a f) (hb : SE X W b g) : SE X W (.IfExp c a b pos) (sIf k f g) := by
  refine PE.mono (pe_ifExp hc ha hb) fun σ H Q h => ?_
  obtain ⟨env, F, B, r0, env2, S, e, p⟩ := h
  refine tG_cut S e p (fun o env1 e1 => ?_) fun b env1 H1 F1 B1 e1 S1 G1 p1 => ?_
  · try dsimp only at e1
    split at e1
    · exact ⟨_, rfl⟩
    · exact ⟨_, rfl⟩
    · cases e1
  · cases b with
    | true => exact iteT ⟨env1, F1, B1, r0, env2, S1, e1, p1.from G1.al⟩
    | false => exact iteF ⟨env1, F1, B1, r0, env2, S1, e1, p1.from G1.al⟩
end
end Lw

end
section
set_option Elab.async false
set_option linter.all false
set_option maxRecDepth 100000
set_option maxHeartbeats 1000000
set_option autoImplicit false
/-! Lw: arguments, displays, calls of what is built in, methods of lists. -/
namespace Lw
open PySem L2

/-! ### what is owned becomes known -/
def addK (B H : Hp) (fp : List Addr) : Hp := fun b => if b ∈ fp then H b else B b
section
variable {T : Tx} {env env0 : Env} {σ σ0 : L2.St} {B B0 H H0 : Hp} {F F0 : Nat → List Addr} {fp : List Addr}
theorem addK_in {b : Addr} (h : b ∈ fp) : addK B H fp b = H b := if_pos h
theorem addK_out {b : Addr} (h : b ∉ fp) : addK B H fp b = B b := if_neg h
theorem addK_same (n : ∀ b ∈ fp, B b = none) : Same B (addK B H fp) := fun b o e => by
  rw [addK_out fun z => by rw [n b z] at e; cases e]
  exact e
theorem addK_sub (s : Same B H) : Same (addK B H fp) H := fun b o e => by
  by_cases h : b ∈ fp
  · rw [addK_in h] at e; exact e
  · rw [addK_out h] at e; exact s b o e
theorem FldR.rep {B' : Hp} (e : Same B B') {ys : List V} {vs : List Val} {fq : List Addr} (h : FldR T B H fq ys vs) (k : ∀ b ∈ fq, B' b = H b) : RepAll T B' ys vs := by
  cases h with
  | nil => exact .nil
  | shr r q => exact .cons (r.mono e) (FldR.rep e q k)
  | own h d r q n f => exact .cons (.dct ((k _ List.mem_cons_self).trans h) d (r.mono e) (q.mono e)) (FldR.rep e f fun b hb => k b (List.mem_cons_of_mem _ hb))
theorem OwnR.rep {B' : Hp} (e : Same B B') {a : Addr} {v : Val} (h : OwnR T B H fp a v) (k : ∀ b ∈ fp, B' b = H b) : Rep T B' (.ref a) v := by
  cases h with
  | lst h r => exact .lst ((k _ List.mem_cons_self).trans h) (r.mono e)
  | dct h d r q => exact .dct ((k _ List.mem_cons_self).trans h) d (r.mono e) (q.mono e)
  | ins h c n f na => exact .ins ((k _ List.mem_cons_self).trans h) c n (f.rep e fun b hb => k b (List.mem_cons_of_mem _ hb))
/-- knowledge of objects that no slot owns -/
theorem RS.add (S : RS T env σ B H F) (n : ∀ b ∈ fp, B b = none) (d : ∀ b ∈ fp, ∀ i, b ∉ F i) : RS T env σ (addK B H fp) H F where
  sub := addK_sub S.sub
  len := S.len
  shr := fun i v e => let ⟨x, h1, h2⟩ := S.shr i v e; ⟨x, h1, h2.mono (addK_same n)⟩
  own := fun i v e => let ⟨a, h1, h2⟩ := S.own i v e; ⟨a, h1, h2.mono (addK_same n) fun _ _ _ q => q⟩
  non := S.non
  free := fun i a h => by rw [addK_out fun z => d a z i h]; exact S.free i a h
  disj := S.disj
theorem Go.add (G : Go env0 σ0 H0 F0 B0 env σ H F B) (n : ∀ b ∈ fp, B b = none) (d : ∀ b ∈ fp, H0 b = none) : Go env0 σ0 H0 F0 B0 env σ H F (addK B H fp) where
  fr := G.fr
  al := G.al
  kn := G.kn.trans (addK_same n)
  nb := fun a o e => by
    by_cases h : a ∈ fp
    · exact .inr (.inl (d a h))
    · rw [addK_out h] at e; exact G.nb a o e
  ow := G.ow
  io := G.io
  iw := G.iw
  ln := G.ln
def noF (F : Nat → List Addr) (i : Nat) : Nat → List Addr := fun j => if j = i then [] else F j
theorem mem_noF {i j : Nat} {a : Addr} (h : a ∈ noF F i j) : a ∈ F j ∧ j ≠ i := by
  unfold noF at h
  split at h
  · cases h
  · rename_i n; exact ⟨h, n⟩
theorem own_set {i j : Nat} {s : Slot} : own? (env.set i s) j = if j = i ∧ i < env.length then s.ow else own? env j := by
  unfold own?
  by_cases h : j = i
  · subst h
    by_cases hl : j < env.length
    · rw [List.getElem?_set_self hl, if_pos ⟨rfl, hl⟩]; rfl
    · rw [if_neg fun z => hl z.2, List.getElem?_eq_none (by simpa using hl), List.getElem?_eq_none (by simpa using hl)]
  · rw [List.getElem?_set_ne (Ne.symm h), if_neg fun z => h z.1]
theorem lt_of_get {α : Type} {l : List α} {i : Nat} {x : α} (h : l[i]? = some x) : i < l.length := (List.getElem?_eq_some_iff.mp h).1
/-- a slot's own object is shared from now on -/
theorem RS.freeze (S : RS T env σ B H F) {i : Nat} {v : Val} (e : env[i]? = some (Slot.own v)) : RS T (env.set i (.shr v)) σ (addK B H (F i)) H (noF F i) where
  sub := addK_sub S.sub
  len := by rw [List.length_set]; exact S.len
  shr := fun j w h => by
    have n : ∀ b ∈ F i, B b = none := fun b hb => S.free i b hb
    by_cases q : j = i
    · subst q
      rw [List.getElem?_set_self (lt_of_get e)] at h
      cases h
      obtain ⟨a, h1, h2⟩ := S.own j v (own_own e)
      exact ⟨_, h1, h2.rep (addK_same n) fun b hb => addK_in hb⟩
    · rw [List.getElem?_set_ne (Ne.symm q)] at h
      obtain ⟨x, h1, h2⟩ := S.shr j w h
      exact ⟨x, h1, h2.mono (addK_same n)⟩
  own := fun j w h => by
    have n : ∀ b ∈ F i, B b = none := fun b hb => S.free i b hb
    rw [own_set] at h
    split at h
    · cases h
    · rename_i nj
      have nj' : j ≠ i := fun z => nj ⟨z, lt_of_get e⟩
      obtain ⟨a, h1, h2⟩ := S.own j w h
      refine ⟨a, h1, ?_⟩
      unfold noF
      rw [if_neg nj']
      exact h2.mono (addK_same n) fun _ _ _ q => q
  non := fun j h => by
    unfold noF
    split
    · rfl
    · rename_i nj
      rw [own_set, if_neg fun z => nj z.1] at h
      exact S.non j h
  free := fun j a h => by
    obtain ⟨h1, h2⟩ := mem_noF h
    rw [addK_out fun z => h2 (S.disj _ _ a h1 z)]
    exact S.free j a h1
  disj := fun j k a h1 h2 => S.disj j k a (mem_noF h1).1 (mem_noF h2).1
theorem Go.freeze (S : RS T env σ B H F) {i : Nat} {v : Val} (e : env[i]? = some (Slot.own v)) : Go env σ H F B (env.set i (.shr v)) σ H (noF F i) (addK B H (F i)) where
  fr := fun _ _ h _ => h
  al := fun _ h => h
  kn := addK_same fun b hb => S.free i b hb
  nb := fun a o h => by
    by_cases q : a ∈ F i
    · exact .inr (.inr ⟨i, v, e, q⟩)
    · rw [addK_out q] at h; exact .inl h
  ow := fun j a h => .inl ⟨j, (mem_noF h).1⟩
  io := fun j w h => by
    have nj : j ≠ i := fun z => by subst z; rw [e] at h; cases h
    refine ⟨w, by rw [List.getElem?_set_ne (Ne.symm nj)]; exact h, rfl, fun a q => ?_⟩
    unfold noF
    rw [if_neg nj]
    exact q
  iw := fun j w h => by
    by_cases q : j = i
    · subst q
      rw [List.getElem?_set_self (lt_of_get e)] at h
      cases h
    · rw [List.getElem?_set_ne (Ne.symm q)] at h
      exact ⟨w, h⟩
  ln := List.length_set
end

/-- the operand is handed on: what it owned is shared from now on -/
def efix (o : Opd) : EF := fun env => match o with
  | .shr v => some (.val (.shr v), env)
  | .new v => some (.val (.shr v), env)
  | .var i => match env[i]? with
    | some (.own v) => some (.val (.shr v), env.set i (.shr v))
    | _ => none
def esh (f : EF) : EF := ebind f efix
section
variable {X : Cx} {W : WX} {a : Expr} {es : List Expr} {f : EF} {fs : List EF} {pos : Pos}
theorem se_esh (h : SE X W a f) : SE X W a (esh f) := by
  refine PE.mono h fun σ H Q q => ?_
  obtain ⟨env, F, B, r, env2, S, e, p⟩ := q
  refine run_cut S e p fun o env1 H1 F1 B1 x e1 S1 G1 x1 p1 => ?_
  cases o with
  | shr v => cases e1; exact p1 H1 F1 B1 S1 .refl x x1
  | new v =>
    cases e1
    obtain ⟨b, fp, rfl, h2, h3⟩ := x1
    have n : ∀ b ∈ fp, B1 b = none := fun b hb => (h3 b hb).2.1
    exact p H1 F1 _ (S1.add n fun b hb => (h3 b hb).2.2) (G1.add n fun b hb => (h3 b hb).1) _ (h2.rep (addK_same n) fun b hb => addK_in hb)
  | var i =>
    unfold efix at e1
    dsimp only at e1
    split at e1
    · rename_i v hv
      cases e1
      have S2 := S1.freeze hv
      obtain ⟨y, h1, h2⟩ := S2.shr i v (List.getElem?_set_self (lt_of_get hv))
      have x1' : σ[i]? = some (some x) := x1
      rw [h1] at x1'
      cases x1'
      exact p1 H1 _ _ S2 (Go.freeze S1 hv) _ h2
    · cases e1

/-! ### argument lists -/
def sArgs : List EF → (List Opd → EF) → EF
  | [], k => k []
  | f :: fs, k => ebind f fun o => sArgs fs fun os => k (o :: os)
def aR (T : Tx) (W : WX) : List EF → TA
  | [] => tNil
  | f :: fs => tCons (eG T W f) (aR T W fs)
abbrev SA (X : Cx) (W : WX) (es : List Expr) (fs : List EF) : Prop := PA X es (aR (tx X) W fs)
theorem sa_nil : SA X W [] [] := pa_nil
theorem sa_cons (ha : SE X W a f) (hr : SA X W es fs) (hs : starEach (a :: es) X.env = (false, eval a X.env) :: starEach es X.env := by rfl) : SA X W (a :: es) (f :: fs) := pa_cons ha hr hs
abbrev OpdsR (T : Tx) (env : Env) (σ : L2.St) (B H : Hp) (F : Nat → List Addr) (Hs : Hp) : List V → List Opd → Prop := Paired (OpdR T env σ B H F Hs)
theorem args_cut {T : Tx} {Q : VK} {σ : L2.St} {r : ERes} {env2 : Env} : ∀ {fs : List EF} {k : List Opd → EF} {env : Env} {H B Hs : Hp} {F : Nat → List Addr}, RS T env σ B H F → sArgs fs k env = some (r, env2) → Post T W Q Hs env σ H F B env2 r →
    ∀ {Q' : List V → Hp → Prop}, (∀ os env1 H1 F1 B1 xs, k os env1 = some (r, env2) → RS T env1 σ B1 H1 F1 → Go env σ H F B env1 σ H1 F1 B1 → OpdsR T env1 σ B1 H1 F1 H xs os → Post T W Q Hs env1 σ H1 F1 B1 env2 r → Q' xs H1) → aR T W fs σ H Q'
  | [], k, env, H, B, Hs, F, S, e, p, Q', hq => hq [] env H F B [] e S .refl .nil p
  | f :: fs, k, env, H, B, Hs, F, S, e, p, Q', hq => by
    refine run_cut S e p fun o env1 H1 F1 B1 x e1 S1 G1 x1 p1 => ?_
    refine args_cut S1 e1 p1 fun os env3 H2 F2 B2 xs e2 S2 G2 xs2 p2 => ?_
    refine hq (o :: os) env3 H2 F2 B2 (x :: xs) e2 S2 (G1.trans S S1 G2) (.cons (x1.go S1 S2 G2) ?_) p2
    exact Paired.mapP xs2 fun y o h => h.from G1.al

/-- what all operands are -/
def gets : List Opd → Env → Option (List Val)
  | [], _ => some []
  | o :: os, env => match o.get env, gets os env with
    | some v, some vs => some (v :: vs)
    | _, _ => none
def shrs : List Opd → Option (List Val)
  | [] => some []
  | .shr v :: os => (shrs os).map (v :: ·)
  | _ => none
abbrev OprsR (T : Tx) (B H : Hp) : List V → List Val → Prop := Paired (OprR T B H)
theorem OpdsR.oprs {T : Tx} {env : Env} {σ : L2.St} {B H Hs : Hp} {F : Nat → List Addr} (S : RS T env σ B H F) : ∀ {xs : List V} {os : List Opd} {vs : List Val}, OpdsR T env σ B H F Hs xs os → gets os env = some vs → OprsR T B H xs vs
  | [], [], vs, .nil, e => by cases e; exact .nil
  | x :: xs, o :: os, vs, .cons h t, e => by
    unfold gets at e
    cases h1 : o.get env with
    | none => rw [h1] at e; cases e
    | some v =>
      cases h2 : gets os env with
      | none => rw [h1, h2] at e; cases e
      | some ws =>
        rw [h1, h2] at e
        cases e
        exact .cons (h.opr S h1) (OpdsR.oprs S t h2)
theorem OpdsR.shrs {T : Tx} {env : Env} {σ : L2.St} {B H Hs : Hp} {F : Nat → List Addr} : ∀ {xs : List V} {os : List Opd} {vs : List Val}, OpdsR T env σ B H F Hs xs os → shrs os = some vs → RepAll T B xs vs
  | [], [], vs, .nil, e => by cases e; exact .nil
  | x :: xs, o :: os, vs, .cons h t, e => by
    cases o with
    | shr v =>
      have e' : (Lw.shrs os).map (v :: ·) = some vs := e
      cases h2 : Lw.shrs os with
      | none => rw [h2] at e'; cases e'
      | some ws => rw [h2] at e'; cases e'; exact .cons h (OpdsR.shrs t h2)
    | new v => cases e
    | var i => cases e

/-! ### displays -/
def sTup (fs : List EF) : EF := sArgs (fs.map esh) fun os env => match shrs os with
  | some vs => if vs.length ≤ 16000000 then some (.val (.shr (.tup vs)), env) else none
  | none => none
def sLst (fs : List EF) : EF := sArgs (fs.map esh) fun os env => match shrs os with
  | some vs => if vs.length ≤ 16000000 then some (.val (.new (.lst vs)), env) else none
  | none => none
theorem upd_addK {B H : Hp} {a : Addr} {o : HO} : addK B (upd H a o) [a] = upd B a o := by
  funext b
  unfold addK upd
  by_cases h : b = a
  · subst h; simp
  · simp [h]
theorem PG.new {B H : Hp} (s : Same B H) {a : Addr} (o : HO) (n : H a = none) : PG B H (upd B a o) (upd H a o) where
  hh := fun b u e => by rw [upd_ne (ne_of_none e n)]; exact e
  kn := fun b u e => by rw [upd_ne (ne_of_none e (s.free n))]; exact e
  sub := fun b u e => by
    by_cases h : b = a
    · subst h; rw [upd_same] at e ⊢; exact e
    · rw [upd_ne h] at e ⊢; exact s b u e
  nb := fun b u e => by
    by_cases h : b = a
    · subst h; exact .inr n
    · rw [upd_ne h] at e; exact .inl e
/-- .. of one's own -/
theorem PG.fresh {B H : Hp} (s : Same B H) {a : Addr} (o : HO) (n : H a = none) : PG B H B (upd H a o) where
  hh := fun b u e => by rw [upd_ne (ne_of_none e n)]; exact e
  kn := Same.refl _
  sub := fun b u e => by rw [upd_ne (ne_of_none e (s.free n))]; exact s b u e
  nb := fun b u e => .inl e
theorem se_tup {k : Nat} (h : SA X W es (fs.map esh)) : SE X W (.Tuple es k pos) (sTup fs) := by
  refine PE.mono (pe_tup h) fun σ H Q q => ?_
  obtain ⟨env, F, B, r, env2, S, e, p⟩ := q
  refine args_cut S e p fun os env1 H1 F1 B1 xs e1 S1 G1 xs1 p1 => ?_
  try dsimp only at e1
  split at e1
  · rename_i vs hvs
    have R := xs1.shrs hvs
    split at e1
    · rename_i hl
      cases e1
      refine ⟨by rw [R.length]; exact line_ok hl, fun a n => ?_⟩
      have g := PG.new S1.sub (HO.tup xs) n
      exact p1.done (rv := .shr (.tup vs)) S1 G1.al g (.tup upd_same (R.mono g.kn))
    · cases e1
  · cases e1
theorem se_lst (h : SA X W es (fs.map esh)) : SE X W (.List es pos) (sLst fs) := by
  refine PE.mono (pe_lst h) fun σ H Q q => ?_
  obtain ⟨env, F, B, r, env2, S, e, p⟩ := q
  refine args_cut S e p fun os env1 H1 F1 B1 xs e1 S1 G1 xs1 p1 => ?_
  try dsimp only at e1
  split at e1
  · rename_i vs hvs
    have R := xs1.shrs hvs
    split at e1
    · rename_i hl
      cases e1
      refine ⟨by rw [R.length]; exact line_ok hl, fun a n => ?_⟩
      have g := PG.fresh S1.sub (HO.lst xs) n
      exact p1.done (rv := .new (.lst vs)) S1 G1.al g ⟨a, [a], rfl, .lst upd_same R, fun b hb => by
        rw [List.mem_singleton] at hb; subst hb; exact ⟨n, S1.sub.free n⟩⟩
    · cases e1
  · cases e1

/-! ### calls of what is built in -/
def eopn (op : List Val → Option RV) (os : List Opd) : EF := fun env => match gets os env with
  | some vs => (match op vs with | some r => some (.val r.opd, env) | none => none)
  | none => none
def sCallB (op : List Val → Option RV) (fs : List EF) : EF := sArgs fs fun os => eopn op os
def OpSn (T : Tx) (r : List V → Hp → VK → Prop) (op : List Val → Option RV) : Prop := ∀ B H xs vs rv, Same B H → OprsR T B H xs vs → op vs = some rv →
  ∀ Q : VK, (∀ z H1 B1, PG B H B1 H1 → RvR T B1 H1 H z rv → Q z H1) → r xs H Q
theorem callB_mono {r : List V → Hp → VK → Prop} {op : List Val → Option RV} (hs : OpSn (tx X) r op) : ∀ σ H Q, eG (tx X) W (sCallB op fs) σ H Q → tCB r (aR (tx X) W fs) σ H Q := by
  intro σ H Q q
  obtain ⟨env, F, B, r0, env2, S, e, p⟩ := q
  refine args_cut S e p fun os env1 H1 F1 B1 xs e1 S1 G1 xs1 p1 => ?_
  unfold eopn at e1
  split at e1
  · rename_i vs hvs
    split at e1
    · rename_i rv hrv
      cases e1
      exact hs B1 H1 xs vs rv S1.sub (xs1.oprs S1 hvs) hrv Q fun z H3 B3 g h => p1.done S1 G1.al g h
    · cases e1
  · cases e1
theorem se_callB {id : String} {r : List V → Hp → VK → Prop} {op : List Val → Option RV} {x : Str} {p : Pos} (hc : CallR X (.builtin id) r) (hs : OpSn (tx X) r op) (hg : Gl X x) (hm : X.mg x = none) (hv : bootBuiltins x = some (.builtin id)) (ha : SA X W (a :: es) fs)
    (hn : x ≠ "__name__" := by decide) (hdb : (x == ("__debug__" : Str)) = false := by decide)
    (he : starEach (a :: es) X.env = (false, eval a X.env) :: starEach es X.env := by rfl) (hpl : (backTo pos (starEach es X.env)).any (·.1) = false := by rfl) : SE X W (.Call (.Name x p) (a :: es) [] pos) (sCallB op fs) :=
  PE.mono (pe_callB hc hg hm hv ha hn hdb he hpl) (callB_mono hs)
theorem se_callTy {id : String} {r : List V → Hp → VK → Prop} {op : List Val → Option RV} {x : Str} {p : Pos} (hc : CallR X (.type id) r) (hs : OpSn (tx X) r op) (hg : Gl X x) (hm : X.mg x = none) (hv : bootBuiltins x = some (.type id)) (ha : SA X W (a :: es) fs)
    (hn : x ≠ "__name__" := by decide) (hdb : (x == ("__debug__" : Str)) = false := by decide)
    (he : starEach (a :: es) X.env = (false, eval a X.env) :: starEach es X.env := by rfl) (hpl : (backTo pos (starEach es X.env)).any (·.1) = false := by rfl) : SE X W (.Call (.Name x p) (a :: es) [] pos) (sCallB op fs) :=
  PE.mono (pe_callTy hc hg hm hv ha hn hdb he hpl) (callB_mono hs)

/-! ### methods of built-in types that change nothing -/
def tyOf : String → Val → Bool
  | "str", .str _ => true
  | "list", .lst _ => true
  | _, _ => false
def sMeth (ty : String) (op : Val → List Val → Option RV) (f : EF) (fs : List EF) : EF := ebind f fun o env => match o.get env with
  | some v => if tyOf ty v = true then sArgs fs (fun os => fun env => match o.get env, gets os env with
      | some v, some vs => (match op v vs with | some r => some (.val r.opd, env) | none => none)
      | _, _ => none) env else none
  | none => none
def OpSm (T : Tx) (r : V → List V → Hp → VK → Prop) (op : Val → List Val → Option RV) : Prop := ∀ B H x xs v vs rv, Same B H → OprR T B H x v → OprsR T B H xs vs → op v vs = some rv →
  ∀ Q : VK, (∀ z H1 B1, PG B H B1 H1 → RvR T B1 H1 H z rv → Q z H1) → r x xs H Q
theorem tyOf_ok {T : Tx} {B H : Hp} {x : V} {v : Val} {ty : String} (s : Same B H) (h : OprR T B H x v) (e : tyOf ty v = true) : tyV T.K ty x H := by
  unfold tyOf at e
  split at e
  · rw [h.str]; rfl
  · obtain ⟨a, ys, rfl, q, _⟩ := h.lst s
    exact .inl ⟨rfl, _, .of q⟩
  · cases e
theorem meth_mono {ty : String} {r : V → List V → Hp → VK → Prop} {op : Val → List Val → Option RV} (hs : OpSm (tx X) r op) : ∀ σ H Q, eG (tx X) W (sMeth ty op f fs) σ H Q → tBM X.K ty r (eG (tx X) W f) (aR (tx X) W fs) σ H Q := by
  intro σ H Q q
  obtain ⟨env, F, B, r0, env2, S, e, p⟩ := q
  refine run_cut S e p fun o env1 H1 F1 B1 x e1 S1 G1 x1 p1 => ?_
  try dsimp only at e1
  split at e1
  · rename_i v hv
    split at e1
    · rename_i ht
      refine ⟨tyOf_ok S1.sub (x1.opr S1 hv) ht, ?_⟩
      refine args_cut S1 e1 p1 fun os env3 H2 F2 B2 xs e2 S2 G2 xs2 p2 => ?_
      try dsimp only at e2
      split at e2
      · rename_i u vs hu hvs
        split at e2
        · rename_i rv hrv
          cases e2
          exact hs B2 H2 x xs u vs rv S2.sub ((x1.go S1 S2 G2).opr S2 hu) (xs2.oprs S2 hvs) hrv Q fun z H3 B3 g h => p2.done S2 (fun a q => G1.al a (G2.al a q)) g h
        · cases e2
      · cases e2
    · cases e1
  · cases e1
theorem meth0_mono {ty : String} {r : V → List V → Hp → VK → Prop} {op : Val → List Val → Option RV} (hs : OpSm (tx X) r op) : ∀ σ H Q, eG (tx X) W (sMeth ty op f []) σ H Q → tBM0 X.K ty r (eG (tx X) W f) σ H Q := by
  intro σ H Q q
  exact meth_mono (fs := []) hs σ H Q q
theorem se_bm {T id : String} {r : V → List V → Hp → VK → Prop} {op : Val → List Val → Option RV} {name : Str} {o : Expr} {apos cpos : Pos} (pa : PlainAttrs T) (slot : PySem.Slot T name id) (hty : typeOf (.builtin id) = pure (.type "method_descriptor")) (hm : MtR X id r) (hs : OpSm (tx X) r op) (ho : SE X W o f) (ha : SA X W (a :: es) fs)
    (hbase : attributeBase o name X.env (eval o X.env) = eval o X.env := by rfl)
    (hfew : ((backTo cpos (starEach (a :: es) X.env)).all (fun x => !x.1) && (backToKw cpos (keywordEach [] X.env)).all (fun x => x.1.isSome)
      && decide ((a :: es).length + ([] : List Keyword).length + (if ([] : List Keyword).isEmpty then 0 else 1) < 30)) = true := by rfl)
    (hline : (apos.endLine == cpos.line) = true := by rfl) (hss : starEach (a :: es) X.env = (false, eval a X.env) :: starEach es X.env := by rfl) (hplain : (backTo cpos (starEach es X.env)).any (·.1) = false := by rfl) :
    SE X W (.Call (.Attribute o name apos) (a :: es) [] cpos) (sMeth T op f fs) := PE.mono (pe_bm pa slot hty hm ho ha hbase hfew hline hss hplain) (meth_mono hs)
theorem se_bm0 {T id : String} {r : V → List V → Hp → VK → Prop} {op : Val → List Val → Option RV} {name : Str} {o : Expr} {apos cpos : Pos} (pa : PlainAttrs T) (slot : PySem.Slot T name id) (hty : typeOf (.builtin id) = pure (.type "method_descriptor")) (hm : MtR X id r) (hs : OpSm (tx X) r op) (ho : SE X W o f)
    (hbase : attributeBase o name X.env (eval o X.env) = eval o X.env := by rfl) (hline : (apos.endLine == cpos.line) = true := by rfl) : SE X W (.Call (.Attribute o name apos) [] [] cpos) (sMeth T op f []) := PE.mono (pe_bm0 pa slot hty hm ho hbase hline) (meth0_mono hs)
end
end Lw

end
section
set_option Elab.async false
set_option linter.all false
set_option maxRecDepth 100000
set_option maxHeartbeats 1000000
set_option autoImplicit false
/-! Lw: statements. -/
namespace Lw
open PySem L2

inductive FRes where
  | nx | brk | ct | ret (r : RV) | exc (c : Str)
abbrev SF := Env → Option (FRes × Env)

/-- what is handed back -/
def RetR (T : Tx) (env : Env) (H : Hp) (F : Nat → List Addr) (env2 : Env) (B2 H2 : Hp) (F2 : Nat → List Addr) (x : V) : RV → Prop
  | .shr v => Rep T B2 x v
  | .new v => ∃ a fp, x = .ref a ∧ OwnR T B2 H2 fp a v ∧ ∀ b ∈ fp, B2 b = none ∧ ((∃ (j : Nat) (w : Val), env[j]? = some (.own w) ∧ b ∈ F j) ∨ H b = none) ∧ ∀ (i : Nat) (w : Val), env2[i]? = some (.io w) → b ∉ F2 i
def PostS (T : Tx) (W : WX) (D : Ends) (env : Env) (σ : L2.St) (H : Hp) (F : Nat → List Addr) (B : Hp) (env2 : Env) (r : FRes) : Prop :=
  ∀ σ2 H2 F2 B2, RS T env2 σ2 B2 H2 F2 → Go env σ H F B env2 σ2 H2 F2 B2 → match r with
  | .nx => D.nx σ2 H2
  | .brk => D.bk σ2 H2
  | .ct => D.ct σ2 H2
  | .ret rv => ∀ x, RetR T env H F env2 B2 H2 F2 x rv → D.rt x H2
  | .exc c => W (.ref (He.ga T.K c)) none σ2 H2
def sG (T : Tx) (W : WX) (g : SF) : TS := fun D σ H => ∃ env F B r env1, RS T env σ B H F ∧ g env = some (r, env1) ∧ PostS T W D env σ H F B env1 r
abbrev SS (X : Cx) (W : WX) (st : Stmt) (g : SF) : Prop := PS X st (sG (tx X) W g)
abbrev SSs (X : Cx) (W : WX) (st : List Stmt) (g : SF) : Prop := PSs X st (sG (tx X) W g)

section
variable {T : Tx} {W : WX} {D : Ends} {env env1 env2 : Env} {σ σ1 : L2.St} {H H1 B B1 : Hp} {F F1 : Nat → List Addr}
theorem RetR.shift {B2 H2 : Hp} {F2 : Nat → List Addr} {x : V} {rv : RV} (S : RS T env σ B H F) (S1 : RS T env1 σ1 B1 H1 F1) (G : Go env σ H F B env1 σ1 H1 F1 B1) (h : RetR T env1 H1 F1 env2 B2 H2 F2 x rv) : RetR T env H F env2 B2 H2 F2 x rv := by
  cases rv with
  | shr v => exact h
  | new v =>
    obtain ⟨a, fp, h1, h2, h3⟩ := h
    refine ⟨a, fp, h1, h2, fun b hb => ⟨(h3 b hb).1, ?_, (h3 b hb).2.2⟩⟩
    rcases (h3 b hb).2.1 with ⟨j, w, e, m⟩ | z
    · rcases G.ow j b m with ⟨k, z⟩ | z
      · cases e2 : own? env k with
        | none => rw [S.non k e2] at z; cases z
        | some v2 =>
          rcases own_cases e2 with e3 | e3
          · exact .inl ⟨k, v2, e3, z⟩
          · obtain ⟨v3, e4, _, mm⟩ := G.io k v2 e3
            have := S1.disj j k b m (mm b z)
            subst this
            rw [e] at e4; cases e4
      · exact .inr z
    · exact .inr (G.al b z)
theorem PostS.shift {r : FRes} (S : RS T env σ B H F) (S1 : RS T env1 σ1 B1 H1 F1) (G : Go env σ H F B env1 σ1 H1 F1 B1) (p : PostS T W D env σ H F B env2 r) : PostS T W D env1 σ1 H1 F1 B1 env2 r := fun σ2 H2 F2 B2 S2 G2 => by
  have p' := p σ2 H2 F2 B2 S2 (G.trans S S1 G2)
  cases r with
  | ret rv => exact fun x hx => p' x (hx.shift S S1 G)
  | _ => exact p'
end

def obind (f : EF) (k : Opd → SF) : SF := fun env => match f env with
  | some (.val o, env1) => k o env1
  | some (.exc c, env1) => some (.exc c, env1)
  | none => none
def oargs : List EF → (List Opd → SF) → SF
  | [], k => k []
  | f :: fs, k => obind f fun o => oargs fs fun os => k (o :: os)
section
variable {T : Tx} {W : WX} {D : Ends} {env env2 : Env} {σ : L2.St} {H B : Hp} {F : Nat → List Addr} {r : FRes} {f : EF} {k : Opd → SF}
theorem ocut2 (S : RS T env σ B H F) (e : obind f k env = some (r, env2)) (p : PostS T W D env σ H F B env2 r) {Q' : VK}
    (hq : ∀ o env1 H1 F1 B1 x, f env = some (.val o, env1) → k o env1 = some (r, env2) → RS T env1 σ B1 H1 F1 → Go env σ H F B env1 σ H1 F1 B1 → OpdR T env1 σ B1 H1 F1 H x o → Q' x H1) : eG T W f σ H Q' := by
  unfold obind at e
  cases h : f env with
  | none => rw [h] at e; cases e
  | some z =>
    obtain ⟨r1, env1⟩ := z
    rw [h] at e
    refine ⟨env, F, B, r1, env1, S, h, fun H1 F1 B1 S1 G1 => ?_⟩
    cases r1 with
    | val o => exact fun x hx => hq o env1 H1 F1 B1 x h e S1 G1 hx
    | exc c =>
      cases e
      exact p σ H1 F1 B1 S1 G1
theorem ocut (S : RS T env σ B H F) (e : obind f k env = some (r, env2)) (p : PostS T W D env σ H F B env2 r) {Q' : VK}
    (hq : ∀ o env1 H1 F1 B1 x, k o env1 = some (r, env2) → RS T env1 σ B1 H1 F1 → Go env σ H F B env1 σ H1 F1 B1 → OpdR T env1 σ B1 H1 F1 H x o → Q' x H1) : eG T W f σ H Q' :=
  ocut2 S e p fun o env1 H1 F1 B1 x _ => hq o env1 H1 F1 B1 x
theorem ocutT (S : RS T env σ B H F) (e : obind f k env = some (r, env2)) (p : PostS T W D env σ H F B env2 r) {Q' : Bool → Hp → Prop}
    (hb : ∀ o env1, k o env1 = some (r, env2) → ∃ b, o = .shr (.bl b))
    (hq : ∀ b env1 H1 F1 B1, k (.shr (.bl b)) env1 = some (r, env2) → RS T env1 σ B1 H1 F1 → Go env σ H F B env1 σ H1 F1 B1 → Q' b H1) : tG T W f σ H Q' := by
  unfold obind at e
  cases h : f env with
  | none => rw [h] at e; cases e
  | some z =>
    obtain ⟨r1, env1⟩ := z
    rw [h] at e
    refine ⟨env, F, B, r1, env1, S, h, fun o ho => ?_, fun H1 F1 B1 S1 G1 => ?_⟩
    · subst ho
      exact hb o env1 e
    · cases r1 with
      | val o =>
        obtain ⟨b, rfl⟩ := hb o env1 e
        intro x hx
        exact ⟨b, Rep.bl_inv hx, hq b env1 H1 F1 B1 e S1 G1⟩
      | exc c =>
        cases e
        exact p σ H1 F1 B1 S1 G1
end

/-! ### blocks -/
def sNil : SF := fun env => some (.nx, env)
def sSeq (g1 g2 : SF) : SF := fun env => match g1 env with
  | some (.nx, env1) => g2 env1
  | z => z
section
variable {X : Cx} {W : WX} {st : Stmt} {rest : List Stmt} {g g1 g2 : SF} {a e : Expr} {f : EF} {pos : Pos}
theorem sss_nil : SSs X W [] sNil := by
  refine PSs.mono pss_nil fun D σ H h => ?_
  obtain ⟨env, F, B, r, env1, S, e, p⟩ := h
  cases e
  exact p σ H F B S .refl
theorem seq_mono {T : Tx} {D : Ends} {σ : L2.St} {H : Hp} (h : sG T W (sSeq g1 g2) D σ H) : sG T W g1 { D with nx := sG T W g2 D } σ H := by
  obtain ⟨env, F, B, r, env2, S, e, p⟩ := h
  unfold sSeq at e
  cases h1 : g1 env with
  | none => rw [h1] at e; cases e
  | some z =>
    obtain ⟨r1, env1⟩ := z
    rw [h1] at e
    refine ⟨env, F, B, r1, env1, S, h1, fun σ1 H1 F1 B1 S1 G1 => ?_⟩
    cases r1 with
    | nx => exact ⟨env1, F1, B1, r, env2, S1, e, p.shift S S1 G1⟩
    | brk => cases e; exact p σ1 H1 F1 B1 S1 G1
    | ct => cases e; exact p σ1 H1 F1 B1 S1 G1
    | ret rv => cases e; exact p σ1 H1 F1 B1 S1 G1
    | exc c => cases e; exact p σ1 H1 F1 B1 S1 G1
theorem sss_cons (h1 : SS X W st g1) (h2 : SSs X W rest g2) : SSs X W (st :: rest) (sSeq g1 g2) := PSs.mono (pss_cons h1 h2) fun _ _ _ h => seq_mono h
theorem sss_one (h1 : SS X W st g1) : SSs X W [st] g1 := pss_one h1
/-! ### small statements -/
def sBrk : SF := fun env => some (.brk, env)
def sCt : SF := fun env => some (.ct, env)
theorem ss_pass : SS X W (.Pass pos) sNil := by
  refine PS.mono ps_pass fun D σ H h => ?_
  obtain ⟨env, F, B, r, env1, S, e, p⟩ := h
  cases e
  exact p σ H F B S .refl
theorem ss_brk : SS X W (.Break pos) sBrk := by
  refine PS.mono ps_break fun D σ H h => ?_
  obtain ⟨env, F, B, r, env1, S, e, p⟩ := h
  cases e
  exact p σ H F B S .refl
theorem ss_ct : SS X W (.Continue pos) sCt := by
  refine PS.mono ps_continue fun D σ H h => ?_
  obtain ⟨env, F, B, r, env1, S, e, p⟩ := h
  cases e
  exact p σ H F B S .refl
def sExpr (f : EF) : SF := obind f fun _ env => some (.nx, env)
theorem ss_expr (he : SE X W e f) (hs : swapsWith e none pos.line X.env = pure false := by rfl) : SS X W (.Expr e pos) (sExpr f) := by
  refine PS.mono (ps_expr he hs) fun D σ H h => ?_
  obtain ⟨env, F, B, r, env2, S, e, p⟩ := h
  refine ocut S e p fun o env1 H1 F1 B1 x e1 S1 G1 x1 => ?_
  cases e1
  exact p σ H1 F1 B1 S1 G1
/-- return -/
def opdRet (o : Opd) (env : Env) : Option RV := match o with
  | .shr v => some (.shr v)
  | .new v => some (.new v)
  | .var i => match env[i]? with
    | some (.own v) => some (.new v)
    | _ => none
def sRet (f : EF) : SF := obind f fun o env => match opdRet o env with
  | some r => some (.ret r, env)
  | none => none
theorem ret_ok {T : Tx} {env env1 : Env} {σ : L2.St} {B H B1 H1 : Hp} {F F1 : Nat → List Addr} {x : V} {o : Opd} {r : RV} (S : RS T env σ B H F) (S1 : RS T env1 σ B1 H1 F1) (G : Go env σ H F B env1 σ H1 F1 B1) (x1 : OpdR T env1 σ B1 H1 F1 H x o) (h : opdRet o env1 = some r) : RetR T env H F env1 B1 H1 F1 x r := by
  cases o with
  | shr v => cases h; exact x1
  | new v =>
    cases h
    obtain ⟨a, fp, h1, h2, h3⟩ := x1
    exact ⟨a, fp, h1, h2, fun b hb => ⟨(h3 b hb).2.1, .inr (h3 b hb).1, fun i w _ => (h3 b hb).2.2 i⟩⟩
  | var i =>
    unfold opdRet at h
    try dsimp only at h
    split at h
    · rename_i v hv
      cases h
      obtain ⟨a, h1, h2⟩ := S1.own i v (own_own hv)
      have x1' : σ[i]? = some (some x) := x1
      rw [h1] at x1'
      cases x1'
      have hr : RetR T env1 H1 F1 env1 B1 H1 F1 (.ref a) (.new v) := ⟨a, F1 i, rfl, h2, fun b hb => ⟨S1.free i b hb, .inl ⟨i, v, hv, hb⟩, fun j w e q => by
        have := S1.disj i j b hb q
        subst this
        rw [hv] at e; cases e⟩⟩
      exact hr.shift S S1 G
    · cases h
theorem ss_ret (he : SE X W e f) : SS X W (.Return (some e) pos) (sRet f) := by
  refine PS.mono (ps_ret he) fun D σ H h => ?_
  obtain ⟨env, F, B, r, env2, S, e, p⟩ := h
  refine ocut S e p fun o env1 H1 F1 B1 x e1 S1 G1 x1 => ?_
  try dsimp only at e1
  split at e1
  · rename_i rv hrv
    cases e1
    exact p σ H1 F1 B1 S1 G1 x (ret_ok S S1 G1 x1 hrv)
  · cases e1
def sRetN : SF := fun env => some (.ret (.shr .non), env)
theorem ss_retN : SS X W (.Return none pos) sRetN := by
  refine PS.mono ps_retN fun D σ H h => ?_
  obtain ⟨env, F, B, r, env1, S, e, p⟩ := h
  cases e
  exact p σ H F B S .refl .non .non
def sIfS (c : EF) (g1 g2 : SF) : SF := obind c fun o => match o with
  | .shr (.bl true) => g1
  | .shr (.bl false) => g2
  | _ => fun _ => none
theorem ss_if {c : Expr} {a b : List Stmt} (hc : ST X W c f) (ha : SSs X W a g1) (hb : SSs X W b g2) : SS X W (.If c a b pos) (sIfS f g1 g2) := by
  refine PS.mono (ps_if hc ha hb) fun D σ H h => ?_
  obtain ⟨env, F, B, r, env2, S, e, p⟩ := h
  refine ocutT S e p (fun o env1 e1 => ?_) fun b env1 H1 F1 B1 e1 S1 G1 => ?_
  · try dsimp only at e1
    split at e1
    · exact ⟨_, rfl⟩
    · exact ⟨_, rfl⟩
    · cases e1
  · cases b with
    | true => exact iteT ⟨env1, F1, B1, r, env2, S1, e1, p.shift S S1 G1⟩
    | false => exact iteF ⟨env1, F1, B1, r, env2, S1, e1, p.shift S S1 G1⟩
end

/-! ### names are given values -/
/-- what may be put into a slot -/
def slotOf : Opd → Option Slot
  | .shr v => some (.shr v)
  | .new v => some (.own v)
  | .var _ => none
/-- not of a slot that was handed in -/
def setSlot (env : Env) (i : Nat) (o : Opd) : Option Env := match env[i]?, slotOf o with
  | some (.io _), _ => none
  | some _, some s => some (env.set i s)
  | _, _ => none
/-- an operand with what it owns -/
def OpdF (T : Tx) (B H : Hp) (F : Nat → List Addr) (Hs : Hp) (x : V) (o : Opd) (fp : List Addr) : Prop := match o with
  | .shr v => fp = [] ∧ Rep T B x v
  | .new v => ∃ a, x = .ref a ∧ OwnR T B H fp a v ∧ ∀ b ∈ fp, Hs b = none ∧ B b = none ∧ ∀ i, b ∉ F i
  | .var _ => False
def setF (F : Nat → List Addr) (i : Nat) (fp : List Addr) : Nat → List Addr := fun j => if j = i then fp else F j
section
variable {T : Tx} {env env1 : Env} {σ : L2.St} {H H1 Hs B B1 : Hp} {F F1 : Nat → List Addr} {i : Nat} {x : V} {o : Opd} {fp : List Addr}
theorem setSlot_inv (h : setSlot env i o = some env1) : ∃ s s0, slotOf o = some s ∧ env[i]? = some s0 ∧ (∀ w, s0 ≠ .io w) ∧ env1 = env.set i s := by
  unfold setSlot at h
  cases h1 : env[i]? with
  | none => rw [h1] at h; cases h
  | some s0 =>
    rw [h1] at h
    cases h2 : slotOf o with
    | none => rw [h2] at h; cases s0 <;> cases h
    | some s =>
      rw [h2] at h
      cases s0 with
      | io w => cases h
      | un => cases h; exact ⟨s, _, rfl, rfl, (fun w z => nomatch z), rfl⟩
      | shr v => cases h; exact ⟨s, _, rfl, rfl, (fun w z => nomatch z), rfl⟩
      | own v => cases h; exact ⟨s, _, rfl, rfl, (fun w z => nomatch z), rfl⟩
theorem mem_setF {j : Nat} {a : Addr} (h : a ∈ setF F i fp j) : (j = i ∧ a ∈ fp) ∨ (j ≠ i ∧ a ∈ F j) := by
  unfold setF at h
  split at h
  · rename_i e; exact .inl ⟨e, h⟩
  · rename_i e; exact .inr ⟨e, h⟩
theorem setF_ne {j : Nat} (h : j ≠ i) : setF F i fp j = F j := if_neg h
theorem setF_at : setF F i fp i = fp := if_pos rfl
theorem RS.set (S : RS T env σ B H F) (h : OpdF T B H F Hs x o fp) (e : setSlot env i o = some env1) : RS T env1 (σ.set i (some x)) B H (setF F i fp) := by
  obtain ⟨s, s0, hs, h0, nio, rfl⟩ := setSlot_inv e
  have hl : i < env.length := lt_of_get h0
  have hσ : i < σ.length := by rw [S.len]; exact hl
  have nb : ∀ b ∈ fp, B b = none ∧ ∀ j, b ∉ F j := fun b hb => by
    cases o with
    | shr v => rw [h.1] at hb; cases hb
    | new v => obtain ⟨a, _, _, h3⟩ := h; exact (h3 b hb).2
    | var k => exact h.elim
  refine ⟨S.sub, by rw [List.length_set, List.length_set]; exact S.len, fun j v ej => ?_, fun j v ej => ?_, fun j ej => ?_, fun j a ha => ?_, fun j k a h1 h2 => ?_⟩
  · by_cases q : j = i
    · subst q
      rw [List.getElem?_set_self hl] at ej
      rw [List.getElem?_set_self hσ]
      cases o with
      | shr w => cases hs; cases ej; exact ⟨x, rfl, h.2⟩
      | new w => cases hs; cases ej
      | var k => cases hs
    · rw [List.getElem?_set_ne (Ne.symm q)] at ej ⊢
      exact S.shr j v ej
  · by_cases q : j = i
    · subst q
      rw [own_set, if_pos ⟨rfl, hl⟩] at ej
      rw [List.getElem?_set_self hσ, setF_at]
      cases o with
      | shr w => cases hs; cases ej
      | new w =>
        cases hs; cases ej
        obtain ⟨a, rfl, h2, _⟩ := h
        exact ⟨a, rfl, h2⟩
      | var k => cases hs
    · rw [own_set, if_neg fun z => q z.1] at ej
      rw [List.getElem?_set_ne (Ne.symm q), setF_ne q]
      exact S.own j v ej
  · by_cases q : j = i
    · subst q
      rw [own_set, if_pos ⟨rfl, hl⟩] at ej
      rw [setF_at]
      cases o with
      | shr w => exact h.1
      | new w => cases hs; cases ej
      | var k => cases hs
    · rw [own_set, if_neg fun z => q z.1] at ej
      rw [setF_ne q]
      exact S.non j ej
  · rcases mem_setF ha with ⟨_, h1⟩ | ⟨_, h1⟩
    · exact (nb a h1).1
    · exact S.free j a h1
  · rcases mem_setF h1 with ⟨e1, m1⟩ | ⟨e1, m1⟩
    · rcases mem_setF h2 with ⟨e2, m2⟩ | ⟨e2, m2⟩
      · rw [e1, e2]
      · exact absurd m2 ((nb a m1).2 k)
    · rcases mem_setF h2 with ⟨e2, m2⟩ | ⟨e2, m2⟩
      · exact absurd m1 ((nb a m2).2 j)
      · exact S.disj j k a m1 m2
/-- with the way from a start at which what is new was not there -/
theorem Go.set {env0 : Env} {σ0 : L2.St} {H0 B0 : Hp} {F0 : Nat → List Addr} (S : RS T env σ B H F) (G : Go env0 σ0 H0 F0 B0 env σ H F B) (h : OpdF T B H F H0 x o fp) (e : setSlot env i o = some env1) : Go env0 σ0 H0 F0 B0 env1 (σ.set i (some x)) H (setF F i fp) B := by
  obtain ⟨s, s0, hs, h0, nio, rfl⟩ := setSlot_inv e
  have hl : i < env.length := lt_of_get h0
  refine ⟨G.fr, G.al, G.kn, G.nb, fun j a ha => ?_, fun j v ej => ?_, fun j v ej => ?_, List.length_set.trans G.ln⟩
  · rcases mem_setF ha with ⟨_, h1⟩ | ⟨_, h1⟩
    · cases o with
      | shr w => rw [h.1] at h1; cases h1
      | new w => obtain ⟨_, _, _, h3⟩ := h; exact .inr (h3 a h1).1
      | var k => exact h.elim
    · exact G.ow j a h1
  · obtain ⟨v1, e1, s1, m1⟩ := G.io j v ej
    have q : j ≠ i := fun z => by subst z; rw [e1] at h0; cases h0; exact nio _ rfl
    exact ⟨v1, by rw [List.getElem?_set_ne (Ne.symm q)]; exact e1, by rw [List.getElem?_set_ne (Ne.symm q)]; exact s1, by rw [setF_ne q]; exact m1⟩
  · by_cases q : j = i
    · subst q
      rw [List.getElem?_set_self hl] at ej
      cases o <;> cases hs <;> cases ej
    · rw [List.getElem?_set_ne (Ne.symm q)] at ej
      exact G.iw j v ej
theorem OpdR.toF (h : OpdR T env σ B H F Hs x o) (n : ∀ i, o ≠ .var i) : ∃ fp, OpdF T B H F Hs x o fp := by
  cases o with
  | shr v => exact ⟨[], rfl, h⟩
  | new v => obtain ⟨a, fp, h1, h2, h3⟩ := h; exact ⟨fp, a, h1, h2, h3⟩
  | var i => exact absurd rfl (n i)
end
/-- no alias: another name's object is shared from now on -/
def eun (f : EF) : EF := ebind f fun o env => match o with
  | .var i => efix (.var i) env
  | o => some (.val o, env)
theorem eun_nv {f : EF} {env env1 : Env} {o : Opd} (h : eun f env = some (.val o, env1)) : ∀ i, o ≠ .var i := by
  intro i z
  subst z
  unfold eun ebind at h
  split at h
  · try dsimp only at h
    split at h
    · unfold efix at h
      try dsimp only at h
      split at h <;> cases h
    · rename_i hn
      cases h
      exact hn _ rfl
  · cases h
  · cases h
section
variable {X : Cx} {W : WX} {st : Stmt} {rest : List Stmt} {g g1 g2 : SF} {a e : Expr} {f : EF} {pos : Pos}
theorem eun_mono {T : Tx} {σ : L2.St} {H : Hp} {Q : VK} (q : eG T W (eun f) σ H Q) : eG T W f σ H Q := by
  obtain ⟨env, F, B, r, env2, S, e, p⟩ := q
  refine run_cut S e p fun o env1 H1 F1 B1 x e1 S1 G1 x1 p1 => ?_
  cases o with
  | shr v => cases e1; exact p1 H1 F1 B1 S1 .refl x x1
  | new v => cases e1; exact p1 H1 F1 B1 S1 .refl x x1
  | var i =>
    have e1' : efix (.var i) env1 = some (r, env2) := e1
    unfold efix at e1'
    try dsimp only at e1'
    split at e1'
    · rename_i v hv
      cases e1'
      have S2 := S1.freeze hv
      obtain ⟨y, h1, h2⟩ := S2.shr i v (List.getElem?_set_self (lt_of_get hv))
      have x1' : σ[i]? = some (some x) := x1
      rw [h1] at x1'
      cases x1'
      exact p1 H1 _ _ S2 (Go.freeze S1 hv) _ h2
    · cases e1'
theorem se_eun (h : SE X W a f) : SE X W a (eun f) := PE.mono h fun _ _ _ q => eun_mono q
/-- name = e -/
def sAsg (i : Nat) (f : EF) : SF := obind (eun f) fun o env => (setSlot env i o).map (FRes.nx, ·)
theorem asg_end {T : Tx} {D : Ends} {env env1 env2 : Env} {σ : L2.St} {H H1 B B1 : Hp} {F F1 : Nat → List Addr} {r : FRes} {i : Nat} {x : V} {o : Opd} (p : PostS T W D env σ H F B env2 r) (S1 : RS T env1 σ B1 H1 F1) (G1 : Go env σ H F B env1 σ H1 F1 B1)
    (x1 : OpdR T env1 σ B1 H1 F1 H x o) (e1 : (setSlot env1 i o).map (FRes.nx, ·) = some (r, env2)) : D.nx (σ.set i (some x)) H1 := by
  cases h : setSlot env1 i o with
  | none => rw [h] at e1; cases e1
  | some env3 =>
    rw [h] at e1
    cases e1
    obtain ⟨s, s0, hs, _⟩ := setSlot_inv h
    obtain ⟨fp, xf⟩ := x1.toF fun j z => by subst z; cases hs
    exact p (σ.set i (some x)) H1 (setF F1 i fp) B1 (S1.set xf h) (Go.set S1 G1 xf h)
theorem asg_mono {T : Tx} {D : Ends} {σ : L2.St} {H : Hp} {i : Nat} (h : sG T W (sAsg i f) D σ H) : tAsg (eG T W (eun f)) (gName i) D σ H := by
  obtain ⟨env, F, B, r, env2, S, e, p⟩ := h
  refine ocut S e p fun o env1 H1 F1 B1 x e1 S1 G1 x1 => ?_
  exact asg_end p S1 G1 x1 e1
theorem ss_asg {i : Nat} {x : Str} {pos' : Pos} (hN : X.N.Nodup) (hi : X.N[i]? = some x) (hx : Loc X.env.scope x) (he : SE X W e f) (hs : swapsWith e (some (.Name x pos')) pos.line X.env = pure false := by rfl) (hf : X.fn x = true ∨ X.env.scope.names.lookup x = some .local := by first | exact .inl rfl | exact .inr rfl | assumption) :
    SS X W (.Assign [.Name x pos'] e pos) (sAsg i f) := PS.mono (ps_set hN hi hx (se_eun he) hs hf) fun _ _ _ h => asg_mono h

/-! ### several names at once -/
/-- operands with what each owns, apart -/
inductive OpdsF (T : Tx) (B H : Hp) (F : Nat → List Addr) (Hs : Hp) : List V → List Opd → List (List Addr) → Prop
  | nil : OpdsF T B H F Hs [] [] []
  | cons {x : V} {xs : List V} {o : Opd} {os : List Opd} {fp : List Addr} {fps : List (List Addr)} : OpdF T B H F Hs x o fp → OpdsF T B H F Hs xs os fps → (∀ b ∈ fp, ∀ q ∈ fps, b ∉ q) → OpdsF T B H F Hs (x :: xs) (o :: os) (fp :: fps)
theorem OpdF.there {T : Tx} {B H Hs : Hp} {F : Nat → List Addr} {x : V} {o : Opd} {fp : List Addr} (h : OpdF T B H F Hs x o fp) : ∀ b ∈ fp, Hs b = none ∧ ∃ u, H b = some u := fun b hb => by
  cases o with
  | shr v => rw [h.1] at hb; cases hb
  | new v => obtain ⟨a, _, h2, h3⟩ := h; exact ⟨(h3 b hb).1, h2.there b hb⟩
  | var i => exact h.elim
theorem OpdsF.there {T : Tx} {B H Hs : Hp} {F : Nat → List Addr} : ∀ {xs : List V} {os : List Opd} {fps : List (List Addr)}, OpdsF T B H F Hs xs os fps → ∀ q ∈ fps, ∀ b ∈ q, Hs b = none ∧ ∃ u, H b = some u
  | _, _, _, .nil, q, hq, _, _ => by cases hq
  | _, _, _, .cons h t _, q, hq, b, hb => by
    rcases List.mem_cons.mp hq with rfl | hq
    · exact h.there b hb
    · exact OpdsF.there t q hq b hb
theorem OpdF.from {T : Tx} {B H Hs Hs' : Hp} {F : Nat → List Addr} {x : V} {o : Opd} {fp : List Addr} (h : OpdF T B H F Hs x o fp) (al : ∀ a, Hs a = none → Hs' a = none) : OpdF T B H F Hs' x o fp := by
  cases o with
  | shr v => exact h
  | new v => obtain ⟨a, h1, h2, h3⟩ := h; exact ⟨a, h1, h2, fun b hb => ⟨al b (h3 b hb).1, (h3 b hb).2⟩⟩
  | var i => exact h.elim
theorem OpdsF.from {T : Tx} {B H Hs Hs' : Hp} {F : Nat → List Addr} (al : ∀ a, Hs a = none → Hs' a = none) : ∀ {xs : List V} {os : List Opd} {fps : List (List Addr)}, OpdsF T B H F Hs xs os fps → OpdsF T B H F Hs' xs os fps
  | _, _, _, .nil => .nil
  | _, _, _, .cons h t d => .cons (h.from al) (OpdsF.from al t) d
theorem OpdF.go {T : Tx} {env env1 : Env} {σ : L2.St} {B B1 H H1 Hs : Hp} {F F1 : Nat → List Addr} {x : V} {o : Opd} {fp : List Addr} (S : RS T env σ B H F) (S1 : RS T env1 σ B1 H1 F1) (g : Go env σ H F B env1 σ H1 F1 B1) (h : OpdF T B H F Hs x o fp) : OpdF T B1 H1 F1 Hs x o fp := by
  cases o with
  | shr u => exact ⟨h.1, h.2.mono g.kn⟩
  | new u =>
    obtain ⟨a, h1, h2, h3⟩ := h
    refine ⟨a, h1, h2.mono g.kn fun b hb o q => g.fr b o q (h3 b hb).2.2, fun b hb => ⟨(h3 b hb).1, ?_, fun i q => ?_⟩⟩
    · cases e : B1 b with
      | none => rfl
      | some o =>
        obtain ⟨o2, e2⟩ := h2.there b hb
        rcases g.nb b o e with z | z | ⟨i, _, _, z⟩
        · rw [(h3 b hb).2.1] at z; cases z
        · rw [z] at e2; cases e2
        · exact absurd z ((h3 b hb).2.2 i)
    · obtain ⟨o2, e2⟩ := h2.there b hb
      rcases g.ow i b q with ⟨j, z⟩ | z
      · exact (h3 b hb).2.2 j z
      · rw [z] at e2; cases e2
  | var i => exact h.elim
theorem oargs_cut {T : Tx} {D : Ends} {σ : L2.St} {r : FRes} {env2 : Env} : ∀ {fs : List EF} {k : List Opd → SF} {env : Env} {H B : Hp} {F : Nat → List Addr}, RS T env σ B H F → oargs (fs.map eun) k env = some (r, env2) → PostS T W D env σ H F B env2 r →
    ∀ {Q' : List V → Hp → Prop}, (∀ os env1 H1 F1 B1 xs fps, k os env1 = some (r, env2) → RS T env1 σ B1 H1 F1 → Go env σ H F B env1 σ H1 F1 B1 → OpdsF T B1 H1 F1 H xs os fps → Q' xs H1) → aR T W (fs.map eun) σ H Q'
  | [], k, env, H, B, F, S, e, p, Q', hq => hq [] env H F B [] [] e S .refl .nil
  | f :: fs, k, env, H, B, F, S, e, p, Q', hq => by
    refine ocut2 (f := eun f) (k := fun o => oargs (fs.map eun) fun os => k (o :: os)) S e p fun o env1 H1 F1 B1 x h1 e1 S1 G1 x1 => ?_
    obtain ⟨fp, xf⟩ := x1.toF (eun_nv h1)
    refine oargs_cut S1 e1 (p.shift S S1 G1) fun os env3 H2 F2 B2 xs fps e2 S2 G2 xs2 => ?_
    refine hq (o :: os) env3 H2 F2 B2 (x :: xs) (fp :: fps) e2 S2 (G1.trans S S1 G2) (.cons (xf.go S1 S2 G2) (xs2.from G1.al) fun b hb q hq' z => ?_)
    obtain ⟨u, hu⟩ := (xf.there b hb).2
    rw [(xs2.there q hq' b z).1] at hu
    cases hu
/-- the slots, one after another -/
def setSlots (env : Env) : List Nat → List Opd → Option Env
  | [], [] => some env
  | i :: is, o :: os => match setSlot env i o with
    | some env1 => setSlots env1 is os
    | none => none
  | _, _ => none
def setSt (σ : L2.St) : List Nat → List V → L2.St
  | i :: is, x :: xs => setSt (σ.set i (some x)) is xs
  | _, _ => σ
def setFs (F : Nat → List Addr) : List Nat → List (List Addr) → Nat → List Addr
  | i :: is, fp :: fps => setFs (setF F i fp) is fps
  | _, _ => F
theorem OpdsF.setF {T : Tx} {B H Hs : Hp} {F : Nat → List Addr} {i : Nat} {fp : List Addr} : ∀ {xs : List V} {os : List Opd} {fps : List (List Addr)}, (∀ b ∈ fp, ∀ q ∈ fps, b ∉ q) → OpdsF T B H F Hs xs os fps → OpdsF T B H (setF F i fp) Hs xs os fps
  | _, _, _, _, .nil => .nil
  | _, o :: _, fq :: fps, d, .cons h t d2 => by
    refine .cons ?_ (OpdsF.setF (fun b hb q hq => d b hb q (List.mem_cons_of_mem _ hq)) t) d2
    cases o with
    | shr v => exact h
    | new v =>
      obtain ⟨a, h1, h2, h3⟩ := h
      refine ⟨a, h1, h2, fun b hb => ⟨(h3 b hb).1, (h3 b hb).2.1, fun j q => ?_⟩⟩
      rcases mem_setF q with ⟨_, q⟩ | ⟨_, q⟩
      · exact d b q fq List.mem_cons_self hb
      · exact (h3 b hb).2.2 j q
    | var k => exact h.elim
theorem sets_ok {T : Tx} {env0 : Env} {σ0 : L2.St} {H0 B0 B H : Hp} {F0 : Nat → List Addr} : ∀ {is : List Nat} {os : List Opd} {env env1 : Env} {σ : L2.St} {F : Nat → List Addr} {xs : List V} {fps : List (List Addr)}, RS T env σ B H F → Go env0 σ0 H0 F0 B0 env σ H F B → OpdsF T B H F H0 xs os fps → setSlots env is os = some env1 →
    ∃ F1, RS T env1 (setSt σ is xs) B H F1 ∧ Go env0 σ0 H0 F0 B0 env1 (setSt σ is xs) H F1 B
  | [], [], env, env1, σ, F, xs, fps, S, G, h, e => by cases e; cases h; exact ⟨F, S, G⟩
  | i :: is, o :: os, env, env1, σ, F, _, _, S, G, .cons h t d, e => by
    unfold setSlots at e
    cases h1 : setSlot env i o with
    | none => rw [h1] at e; cases e
    | some env2 =>
      rw [h1] at e
      have e' : setSlots env2 is os = some env1 := e
      have q := sets_ok (is := is) (S.set h h1) (Go.set S G h h1) (t.setF d) e'
      exact q
  | [], _ :: _, _, _, _, _, _, _, _, _, _, e => by cases e
  | _ :: _, [], _, _, _, _, _, _, _, _, _, e => by cases e
def sPar (is : List Nat) (fs : List EF) : SF := oargs (fs.map eun) fun os env => (setSlots env is os).map (FRes.nx, ·)
theorem par_end {T : Tx} {D : Ends} {env env1 env2 : Env} {σ : L2.St} {H H1 B B1 : Hp} {F F1 : Nat → List Addr} {r : FRes} {is : List Nat} {xs : List V} {os : List Opd} {fps : List (List Addr)} (p : PostS T W D env σ H F B env2 r) (S1 : RS T env1 σ B1 H1 F1) (G1 : Go env σ H F B env1 σ H1 F1 B1)
    (x1 : OpdsF T B1 H1 F1 H xs os fps) (e1 : (setSlots env1 is os).map (FRes.nx, ·) = some (r, env2)) : D.nx (setSt σ is xs) H1 := by
  cases h : setSlots env1 is os with
  | none => rw [h] at e1; cases e1
  | some env3 =>
    rw [h] at e1
    cases e1
    obtain ⟨F2, S2, G2⟩ := sets_ok S1 G1 x1 h
    exact p _ H1 F2 B1 S2 G2
theorem OpdsF.len {T : Tx} {B H Hs : Hp} {F : Nat → List Addr} : ∀ {xs : List V} {os : List Opd} {fps : List (List Addr)}, OpdsF T B H F Hs xs os fps → xs.length = os.length
  | _, _, _, .nil => rfl
  | _, _, _, .cons _ t _ => congrArg Nat.succ (OpdsF.len t)
theorem setSlots_len : ∀ {is : List Nat} {os : List Opd} {env env1 : Env}, setSlots env is os = some env1 → is.length = os.length
  | [], [], _, _, _ => rfl
  | i :: is, o :: os, env, env1, e => by
    unfold setSlots at e
    cases h1 : setSlot env i o with
    | none => rw [h1] at e; cases e
    | some env2 => rw [h1] at e; exact congrArg Nat.succ (setSlots_len e)
  | [], _ :: _, _, _, e => by cases e
  | _ :: _, [], _, _, e => by cases e
section
variable {b c : Expr} {f1 f2 f3 : EF} {i j l : Nat} {x y z : Str} {px py pz pt : Pos} {kt k2 : Nat} {pt2 : Pos}
theorem ss_par2 (hc : X.calm = true) (hN : X.N.Nodup) (hi : X.N[i]? = some x) (hj : X.N[j]? = some y) (hij : i ≠ j)
    (hx : X.env.scope.names.lookup x = some .local) (hy : X.env.scope.names.lookup y = some .local) (ha : SA X W [a, b] ([f1, f2].map eun))
    (hw : swappedStores [.Tuple [.Name x px, .Name y py] kt pt] (.Tuple [a, b] k2 pt2) X.env = pure (some [x, y]))
    (hs : swapsWithSole [.Tuple [.Name x px, .Name y py] kt pt] (.Tuple [a, b] k2 pt2) pos.line X.env = pure false := by rfl) :
    SS X W (.Assign [.Tuple [.Name x px, .Name y py] kt pt] (.Tuple [a, b] k2 pt2) pos) (sPar [i, j] [f1, f2]) := by
  refine PS.mono (ps_par hc hN hi hj hij hx hy ha hw hs) fun D σ H h => ?_
  obtain ⟨env, F, B, r, env2, S, e, p⟩ := h
  refine oargs_cut S e p fun os env1 H1 F1 B1 xs fps e1 S1 G1 xs1 => ?_
  have hl : xs.length = 2 := by
    rw [xs1.len]
    cases h : setSlots env1 [i, j] os with
    | none => rw [h] at e1; cases e1
    | some env3 => exact (setSlots_len h).symm
  match xs, hl with
  | [u, v], _ => exact ⟨u, v, rfl, par_end p S1 G1 xs1 e1⟩
theorem ss_par3 (hc : X.calm = true) (hN : X.N.Nodup) (hi : X.N[i]? = some x) (hj : X.N[j]? = some y) (hl : X.N[l]? = some z) (hij : i ≠ j) (hil : i ≠ l) (hjl : j ≠ l)
    (hx : X.env.scope.names.lookup x = some .local) (hy : X.env.scope.names.lookup y = some .local) (hz : X.env.scope.names.lookup z = some .local) (ha : SA X W [a, b, c] ([f1, f2, f3].map eun))
    (hw : swappedStores [.Tuple [.Name x px, .Name y py, .Name z pz] kt pt] (.Tuple [a, b, c] k2 pt2) X.env = pure (some [x, y, z]))
    (hs : swapsWithSole [.Tuple [.Name x px, .Name y py, .Name z pz] kt pt] (.Tuple [a, b, c] k2 pt2) pos.line X.env = pure false := by rfl) :
    SS X W (.Assign [.Tuple [.Name x px, .Name y py, .Name z pz] kt pt] (.Tuple [a, b, c] k2 pt2) pos) (sPar [i, j, l] [f1, f2, f3]) := by
  refine PS.mono (ps_par3 hc hN hi hj hl hij hil hjl hx hy hz ha hw hs) fun D σ H h => ?_
  obtain ⟨env, F, B, r, env2, S, e, p⟩ := h
  refine oargs_cut S e p fun os env1 H1 F1 B1 xs fps e1 S1 G1 xs1 => ?_
  have hl : xs.length = 3 := by
    rw [xs1.len]
    cases h : setSlots env1 [i, j, l] os with
    | none => rw [h] at e1; cases e1
    | some env3 => exact (setSlots_len h).symm
  match xs, hl with
  | [u, v, w], _ => exact ⟨u, v, w, rfl, par_end p S1 G1 xs1 e1⟩
end
/-- a, b, .. = x, y, .. by a tuple that is made and taken apart: the targets are names -/
def gNames : List Nat → TGs
  | [] => gNil
  | i :: is => gCons (gName i) (gNames is)
theorem gNames_ok : ∀ {is : List Nat} {xs : List V} {σ : L2.St} {H : Hp} {Q : L2.St → Hp → Prop}, is.length = xs.length → Q (setSt σ is xs) H → gNames is xs σ H Q
  | [], [], _, _, _, _, q => ⟨rfl, q⟩
  | i :: is, x :: xs, σ, H, Q, e, q => ⟨x, xs, rfl, gNames_ok (Nat.succ.inj e) q⟩
theorem ss_parT {es ts : List Expr} {fs : List EF} {is : List Nat} {kt k2 n : Nat} {pt pt2 : Pos} (hc : X.calm = true) (ha : SA X W es (fs.map eun)) (hg : PGs X ts (gNames is)) (hn : n = is.length) (hn2 : (assignEach ts X.env).length = n := by rfl) (hst : (assignEach ts X.env).findIdx? (·.1) = none := by rfl)
    (hs : swapsWithSole [.Tuple ts kt pt] (.Tuple es k2 pt2) pos.line X.env = pure false := by rfl) (hw : swappedStores [.Tuple ts kt pt] (.Tuple es k2 pt2) X.env = pure none := by rfl)
    (h1 : (assignEach [.Tuple ts kt pt] X.env).map (·.2) = [assign (.Tuple ts kt pt) X.env] := by rfl) (hl : decide (is.length ≤ 1000) = true := by rfl) :
    SS X W (.Assign [.Tuple ts kt pt] (.Tuple es k2 pt2) pos) (sPar is fs) := by
  refine PS.mono (ps_asg (pe_tup ha) (pg_tup hc hg hn2 hst) hs hw h1) fun D σ H h => ?_
  obtain ⟨env, F, B, r, env2, S, e, p⟩ := h
  refine oargs_cut S e p fun os env1 H1 F1 B1 xs fps e1 S1 G1 xs1 => ?_
  have hlen : is.length = xs.length := by
    rw [xs1.len]
    cases h : setSlots env1 is os with
    | none => rw [h] at e1; cases e1
    | some env3 => exact setSlots_len h
  have hl' := of_decide_eq_true hl
  refine ⟨by rw [← hlen]; exact line_ok (by omega), fun a na => ⟨a, xs, rfl, .of upd_same, by rw [hn]; exact hlen.symm, ?_⟩⟩
  have g := PG.fresh S1.sub (HO.tup xs) na
  have S2 := g.rs S1
  have G2 : Go env1 σ H1 F1 B1 env1 σ (upd H1 a (.tup xs)) F1 B1 := g.go
  have xs2 : OpdsF (tx X) B1 (upd H1 a (.tup xs)) F1 H xs os fps := by
    clear p e1 hlen hn hl
    generalize hxs : HO.tup xs = ho at *
    clear hxs
    induction xs1 with
    | nil => exact .nil
    | cons h t d ih => exact .cons (h.go S1 S2 G2) ih d
  exact gNames_ok hlen (par_end p S2 (G1.trans S S1 G2) xs2 e1)
end
end Lw

end
section
set_option Elab.async false
set_option linter.all false
set_option maxRecDepth 100000
set_option maxHeartbeats 1000000
set_option autoImplicit false
/-! Lw: targets, what is walked, for, while, comprehensions, raise. -/
namespace Lw
open PySem L2

/-! ### targets: names -/
inductive Tgt where
  | one (i : Nat) | many (is : List Nat)
def Tgt.is : Tgt → List Nat
  | .one i => [i]
  | .many is => is
def tgSet (t : Tgt) (v : Val) (env : Env) : Option Env := match t, v with
  | .one i, v => setSlot env i (.shr v)
  | .many is, .tup vs => setSlots env is (vs.map Opd.shr)
  | _, _ => none
def gT (K : PySem.W.Frag) : Tgt → TG
  | .one i => gName i
  | .many is => gTup K is.length (gNames is)
section
variable {T : Tx} {env env1 : Env} {σ : L2.St} {B H : Hp} {F : Nat → List Addr}
theorem opds_shr {Hs : Hp} : ∀ {ys : List V} {vs : List Val}, RepAll T B ys vs → ∃ fps, OpdsF T B H F Hs ys (vs.map Opd.shr) fps ∧ ∀ q ∈ fps, q = []
  | _, _, .nil => ⟨[], .nil, fun _ h => by cases h⟩
  | _, _, .cons r t => by
    obtain ⟨fps, h, e⟩ := opds_shr (Hs := Hs) t
    refine ⟨[] :: fps, .cons ⟨rfl, r⟩ h (fun _ hb => by cases hb), fun q hq => ?_⟩
    rcases List.mem_cons.mp hq with rfl | hq
    · rfl
    · exact e q hq
/-- the target is given the value -/
theorem tg_ok {t : Tgt} {x : V} {v : Val} {Q : L2.St → Hp → Prop} (S : RS T env σ B H F) (r : Rep T B x v) (e : tgSet t v env = some env1)
    (h : ∀ xs F1, RS T env1 (setSt σ t.is xs) B H F1 → Go env σ H F B env1 (setSt σ t.is xs) H F1 B → Q (setSt σ t.is xs) H) : gT T.K t x σ H Q := by
  cases t with
  | one i =>
    have e' : setSlot env i (.shr v) = some env1 := by cases v <;> exact e
    have hf : OpdF T B H F H x (.shr v) [] := ⟨rfl, r⟩
    exact h [x] _ (S.set hf e') (Go.set S .refl hf e')
  | many is =>
    cases v with
    | tup vs =>
      have e' : setSlots env is (vs.map Opd.shr) = some env1 := e
      cases r with
      | tup q ra =>
        rename_i a ys
        obtain ⟨fps, hf, _⟩ := opds_shr (H := H) (F := F) (Hs := H) ra
        obtain ⟨F1, S1, G1⟩ := sets_ok S .refl hf e'
        have hl : is.length = ys.length := by rw [setSlots_len e', List.length_map, ra.length]
        exact ⟨a, ys, rfl, SqT.of (S.sub _ _ q), hl.symm, gNames_ok hl (h ys F1 S1 G1)⟩
    | _ => cases e
end

/-! ### what is walked -/
inductive IRes where
  | items (vs : List Val) | exc (c : Str)
/-- J gives these, wherever the heap holds Bi and B0 is known -/
structure ItOk (T : Tx) (J : It) (Bi B0 : Hp) (vs : List Val) : Prop where
  go : ∀ i H, Same Bi H → i < vs.length → J.go i H
  stop : ∀ i H, Same Bi H → vs.length ≤ i → J.stop i H
  yld : ∀ i H x H' B, Same Bi H → Same B0 B → Same B H → i < vs.length → J.yld i H x H' → ∃ v B', vs[i]? = some v ∧ PG B H B' H' ∧ Rep T B' x v
def iG (T : Tx) (W : WX) (f : Env → Option (IRes × Env)) : TI := fun σ H R => ∃ env F B r env1, RS T env σ B H F ∧ f env = some (r, env1) ∧ ∀ H1 F1 B1, RS T env1 σ B1 H1 F1 → Go env σ H F B env1 σ H1 F1 B1 → match r with
  | .items vs => ∀ J Bi, ItOk T J Bi B1 vs → Same Bi H1 → (∀ a o, Bi a = some o → ∀ i, a ∉ F1 i) → R J H1
  | .exc c => W (.ref (He.ga T.K c)) none σ H1
abbrev SI (X : Cx) (W : WX) (tg iter : Expr) (f : Env → Option (IRes × Env)) : Prop := PI X tg iter (iG (tx X) W f)
theorem PI.mono {X : Cx} {tg e : Expr} {t t' : TI} (h : PI X tg e t) (i : ∀ σ H Q, t' σ H Q → t σ H Q) : PI X tg e t' := ⟨fun pins s σ H Q I q => h.run pins s σ H Q I (i σ H Q q)⟩
section
variable {T : Tx} {B : Hp}
theorem it_list {a : Addr} {ys : List V} {vs : List Val} (h : SqL T.K B a ys) (r : RepAll T B ys vs) : ItOk T (Itl T.K a) B B vs where
  go := fun i H s hi => by
    obtain ⟨x, hx, _⟩ := r.get (List.getElem?_eq_getElem hi)
    exact ⟨ys, x, same_l s h, hx⟩
  stop := fun i H s hi => ⟨ys, same_l s h, by rw [r.length]; exact hi⟩
  yld := fun i H x H' B' s s0 s1 hi hy => by
    obtain ⟨rfl, hx⟩ := hy
    obtain ⟨v, hv, hr⟩ := r.get' (hx ys (same_l s h))
    exact ⟨v, B', hv, .refl s1, hr.mono s0⟩
theorem it_tup {a : Addr} {ys : List V} {vs : List Val} (h : SqT T.K B a ys) (r : RepAll T B ys vs) : ItOk T (Itt T.K a) B B vs where
  go := fun i H s hi => by
    obtain ⟨x, hx, _⟩ := r.get (List.getElem?_eq_getElem hi)
    exact ⟨ys, x, same_t s h, hx⟩
  stop := fun i H s hi => ⟨ys, same_t s h, by rw [r.length]; exact hi⟩
  yld := fun i H x H' B' s s0 s1 hi hy => by
    obtain ⟨rfl, hx⟩ := hy
    obtain ⟨v, hv, hr⟩ := r.get' (hx ys (same_t s h))
    exact ⟨v, B', hv, .refl s1, hr.mono s0⟩
def rangeV (lo : Int) (n : Nat) : List Val := (List.range n).map fun i => .int (lo + (i : Nat))
theorem rangeV_get {lo : Int} {n i : Nat} (h : i < n) : (rangeV lo n)[i]? = some (.int (lo + (i : Nat))) := by
  unfold rangeV
  rw [List.getElem?_map, List.getElem?_range h]
  rfl
theorem rangeV_len (lo : Int) (n : Nat) : (rangeV lo n).length = n := by unfold rangeV; simp
theorem it_range (lo : Int) (n : Nat) : ItOk T (Itr lo n) B B (rangeV lo n) where
  go := fun i H s hi => by rw [rangeV_len] at hi; exact hi
  stop := fun i H s hi => by rw [rangeV_len] at hi; exact hi
  yld := fun i H x H' B' s s0 s1 hi hy => by
    obtain ⟨rfl, rfl⟩ := hy
    rw [rangeV_len] at hi
    exact ⟨_, B', rangeV_get hi, .refl s1, .int _⟩
theorem it_str (z : Str) : ItOk T (Its z) B B (z.cps.toList.map fun c => .str [c]) where
  go := fun i H s hi => by
    have h : i < z.cps.size := by simpa using hi
    exact h
  stop := fun i H s hi => by
    have h : z.cps.size ≤ i := by simpa using hi
    exact h
  yld := fun i H x H' B' s s0 s1 hi hy => by
    obtain ⟨rfl, c, hc, rfl⟩ := hy
    refine ⟨.str [c], B', ?_, .refl s1, .str_mk [c]⟩
    rw [List.getElem?_map, show z.cps.toList[i]? = some c by simpa using hc]
    rfl
end
def ibind (f : EF) (k : Val → Option (List Val)) : Env → Option (IRes × Env) := fun env => match f env with
  | some (.val (.shr v), env1) => (match k v with | some vs => some (.items vs, env1) | none => none)
  | some (.exc c, env1) => some (.exc c, env1)
  | _ => none
/-- the items of a list, a tuple, a text -/
def itemsL : Val → Option (List Val)
  | .lst vs => some vs
  | _ => none
def itemsT : Val → Option (List Val)
  | .tup vs => some vs
  | _ => none
def itemsS : Val → Option (List Val)
  | .str cs => some (cs.map fun c => .str [c])
  | _ => none
section
variable {X : Cx} {W : WX} {tg a : Expr} {f : EF} {es : List Expr} {fs : List EF}
theorem icut {T : Tx} {σ : L2.St} {H : Hp} {R : It → Hp → Prop} {k : Val → Option (List Val)} (h : iG T W (ibind f k) σ H R) {Q' : VK}
    (hq : ∀ v vs env1 H1 F1 B1 x, k v = some vs → RS T env1 σ B1 H1 F1 → Rep T B1 x v → (∀ J, ItOk T J B1 B1 vs → R J H1) → Q' x H1) : eG T W f σ H Q' := by
  obtain ⟨env, F, B, r, env2, S, e, p⟩ := h
  unfold ibind at e
  cases h : f env with
  | none => rw [h] at e; cases e
  | some z =>
    obtain ⟨r1, env1⟩ := z
    rw [h] at e
    refine ⟨env, F, B, r1, env1, S, h, fun H1 F1 B1 S1 G1 => ?_⟩
    cases r1 with
    | exc c => cases e; exact p H1 F1 B1 S1 G1
    | val o =>
      cases o with
      | shr v =>
        try dsimp only at e
        cases h2 : k v with
        | none => rw [h2] at e; cases e
        | some vs =>
          rw [h2] at e
          cases e
          exact fun x hx => hq v vs _ H1 F1 B1 x h2 S1 hx fun J j => p H1 F1 B1 S1 G1 J B1 j S1.sub fun a o e i hi => by rw [S1.free i a hi] at e; cases e
      | new v => cases e
      | var i => cases e
theorem si_list (h : SE X W a f) : SI X W tg a (ibind (esh f) itemsL) := by
  refine PI.mono (pi_list (se_esh h)) fun σ H R q => ?_
  refine icut q fun v vs env1 H1 F1 B1 x hk S1 hx hR => ?_
  cases hx with
  | lst q r => cases hk; exact ⟨_, rfl, ⟨_, .of (S1.sub _ _ q)⟩, hR _ (it_list (.of q) r)⟩
  | _ => cases hk
theorem si_tup (h : SE X W a f) : SI X W tg a (ibind (esh f) itemsT) := by
  refine PI.mono (pi_tup (se_esh h)) fun σ H R q => ?_
  refine icut q fun v vs env1 H1 F1 B1 x hk S1 hx hR => ?_
  cases hx with
  | tup q r => cases hk; exact ⟨_, rfl, ⟨_, .of (S1.sub _ _ q)⟩, hR _ (it_tup (.of q) r)⟩
  | _ => cases hk
theorem si_str (h : SE X W a f) : SI X W tg a (ibind (esh f) itemsS) := by
  refine PI.mono (pi_str (se_esh h)) fun σ H R q => ?_
  refine icut q fun v vs env1 H1 F1 B1 x hk S1 hx hR => ?_
  cases hx with
  | str z => cases hk; exact ⟨z, rfl, hR _ (it_str z)⟩
  | _ => cases hk
end

/-! ### ranges -/
def PostI (T : Tx) (W : WX) (R : It → Hp → Prop) (env : Env) (σ : L2.St) (H : Hp) (F : Nat → List Addr) (B : Hp) (env2 : Env) (r : IRes) : Prop :=
  ∀ H1 F1 B1, RS T env2 σ B1 H1 F1 → Go env σ H F B env2 σ H1 F1 B1 → match r with
  | .items vs => ∀ J Bi, ItOk T J Bi B1 vs → Same Bi H1 → (∀ a o, Bi a = some o → ∀ i, a ∉ F1 i) → R J H1
  | .exc c => W (.ref (He.ga T.K c)) none σ H1
abbrev IF := Env → Option (IRes × Env)
def ibindO (f : EF) (k : Opd → IF) : IF := fun env => match f env with
  | some (.val o, env1) => k o env1
  | some (.exc c, env1) => some (.exc c, env1)
  | none => none
def iargs : List EF → (List Opd → IF) → IF
  | [], k => k []
  | f :: fs, k => ibindO f fun o => iargs fs fun os => k (o :: os)
section
variable {T : Tx} {W : WX} {R : It → Hp → Prop} {σ : L2.St} {r : IRes} {env2 : Env}
theorem PostI.shift {env env1 : Env} {H H1 B B1 : Hp} {F F1 : Nat → List Addr} (S : RS T env σ B H F) (S1 : RS T env1 σ B1 H1 F1) (g : Go env σ H F B env1 σ H1 F1 B1) (p : PostI T W R env σ H F B env2 r) : PostI T W R env1 σ H1 F1 B1 env2 r :=
  fun H2 F2 B2 S2 G2 => p H2 F2 B2 S2 (g.trans S S1 G2)
theorem icutO {env : Env} {H B : Hp} {F : Nat → List Addr} {f : EF} {k : Opd → IF} (S : RS T env σ B H F) (e : ibindO f k env = some (r, env2)) (p : PostI T W R env σ H F B env2 r) {Q' : VK}
    (hq : ∀ o env1 H1 F1 B1 x, k o env1 = some (r, env2) → RS T env1 σ B1 H1 F1 → Go env σ H F B env1 σ H1 F1 B1 → OpdR T env1 σ B1 H1 F1 H x o → PostI T W R env1 σ H1 F1 B1 env2 r → Q' x H1) : eG T W f σ H Q' := by
  unfold ibindO at e
  cases h : f env with
  | none => rw [h] at e; cases e
  | some z =>
    obtain ⟨r1, env1⟩ := z
    rw [h] at e
    refine ⟨env, F, B, r1, env1, S, h, fun H1 F1 B1 S1 G1 => ?_⟩
    cases r1 with
    | val o => exact fun x hx => hq o env1 H1 F1 B1 x e S1 G1 hx (p.shift S S1 G1)
    | exc c =>
      cases e
      exact p H1 F1 B1 S1 G1
theorem iargs_cut : ∀ {fs : List EF} {k : List Opd → IF} {env : Env} {H B : Hp} {F : Nat → List Addr}, RS T env σ B H F → iargs fs k env = some (r, env2) → PostI T W R env σ H F B env2 r →
    ∀ {Q' : List V → Hp → Prop}, (∀ os env1 H1 F1 B1 xs, k os env1 = some (r, env2) → RS T env1 σ B1 H1 F1 → Go env σ H F B env1 σ H1 F1 B1 → OpdsR T env1 σ B1 H1 F1 H xs os → PostI T W R env1 σ H1 F1 B1 env2 r → Q' xs H1) → aR T W fs σ H Q'
  | [], k, env, H, B, F, S, e, p, Q', hq => hq [] env H F B [] e S .refl .nil p
  | f :: fs, k, env, H, B, F, S, e, p, Q', hq => by
    refine icutO S e p fun o env1 H1 F1 B1 x e1 S1 G1 x1 p1 => ?_
    refine iargs_cut S1 e1 p1 fun os env3 H2 F2 B2 xs e2 S2 G2 xs2 p2 => ?_
    refine hq (o :: os) env3 H2 F2 B2 (x :: xs) e2 S2 (G1.trans S S1 G2) (.cons (x1.go S1 S2 G2) ?_) p2
    exact Paired.mapP xs2 fun y o h => h.from G1.al
end
def smallI (j : Int) : Bool := decide (-16000000 ≤ j ∧ j ≤ 16000000)
def sRange1 (f : EF) : IF := ibindO f fun o env => match o.get env with
  | some (.int j) => if smallI j = true then some (.items (rangeV 0 j.toNat), env) else none
  | _ => none
def sRange2 (f g : EF) : IF := ibindO f fun o1 => ibindO g fun o2 => fun env => match o1.get env, o2.get env with
  | some (.int i), some (.int j) => if (smallI i && smallI j) = true then some (.items (rangeV i (j - i).toNat), env) else none
  | _, _ => none
theorem nof {T : Tx} {env : Env} {σ : L2.St} {B H : Hp} {F : Nat → List Addr} (S : RS T env σ B H F) : ∀ a o, B a = some o → ∀ i, a ∉ F i := fun a o e i hi => by rw [S.free i a hi] at e; cases e
section
variable {X : Cx} {W : WX} {tg a b : Expr} {f g : EF} {p pos : Pos}
theorem range_in {i : Int} (h : smallI i = true) : -(2 ^ 62) ≤ i ∧ i < 2 ^ 62 := by
  have := of_decide_eq_true h
  omega
theorem si_range1 (hg : Gl X "range") (hm : X.mg "range" = none) (ha : SA X W [a] [f]) (hs : starEach [a] X.env = [(false, eval a X.env)] := by rfl) : SI X W tg (.Call (.Name "range" p) [a] [] pos) (sRange1 f) := by
  refine PI.mono (pi_range1 hg hm ha hs) fun σ H R q => ?_
  obtain ⟨env, F, B, r, env2, S, e, p⟩ := q
  show eG _ _ f σ H _
  refine icutO S e p fun o env1 H1 F1 B1 x e1 S1 G1 x1 p1 => ?_
  try dsimp only at e1
  split at e1
  · rename_i j hj
    split at e1
    · rename_i hz
      cases e1
      rw [(x1.opr S1 hj).int]
      exact ⟨j, rfl, (range_in hz).1, (range_in hz).2, p1 H1 F1 B1 S1 .refl _ B1 (it_range 0 _) S1.sub (nof S1)⟩
    · cases e1
  · cases e1
theorem si_range2 (hg : Gl X "range") (hm : X.mg "range" = none) (ha : SA X W [a, b] [f, g]) (hs : starEach [a, b] X.env = [(false, eval a X.env), (false, eval b X.env)] := by rfl) (hs2 : starEach [b] X.env = [(false, eval b X.env)] := by rfl) :
    SI X W tg (.Call (.Name "range" p) [a, b] [] pos) (sRange2 f g) := by
  refine PI.mono (pi_range2 hg hm ha hs hs2) fun σ H R q => ?_
  obtain ⟨env, F, B, r, env2, S, e, p⟩ := q
  show eG _ _ f σ H _
  refine icutO S e p fun o1 env1 H1 F1 B1 x e1 S1 G1 x1 p1 => ?_
  show eG _ _ g σ H1 _
  refine icutO S1 e1 p1 fun o2 env3 H2 F2 B2 y e2 S2 G2 y2 p2 => ?_
  try dsimp only at e2
  split at e2
  · rename_i i j hi hj
    split at e2
    · rename_i hz
      cases e2
      obtain ⟨z1, z2⟩ := Bool.and_eq_true_iff.mp hz
      have ex := ((x1.go S1 S2 G2).opr S2 hi).int
      have ey := (y2.opr S2 hj).int
      subst ex ey
      exact ⟨i, j, rfl, ⟨(range_in z1).1, (range_in z1).2, (range_in z2).1, (range_in z2).2⟩, p2 H2 F2 B2 S2 .refl _ B2 (it_range i _) S2.sub (nof S2)⟩
    · cases e2
  · cases e2
end

/-! ### for -/
def forL (t : Tgt) (body : SF) : List Val → SF
  | [], env => some (.nx, env)
  | v :: vs, env => match tgSet t v env with
    | none => none
    | some env1 => match body env1 with
      | some (.nx, env2) => forL t body vs env2
      | some (.ct, env2) => forL t body vs env2
      | some (.brk, env2) => some (.nx, env2)
      | z => z
def sFor (t : Tgt) (it : IF) (body : SF) : SF := fun env => match it env with
  | some (.items vs, env1) => forL t body vs env1
  | some (.exc c, env1) => some (.exc c, env1)
  | none => none
theorem for_mono {T : Tx} {W : WX} {t : Tgt} {it : IF} {body : SF} {D : Ends} {σ : L2.St} {H : Hp} (h : sG T W (sFor t it body) D σ H) : tFor (iG T W it) (gT T.K t) (sG T W body) D σ H := by
  obtain ⟨env, F, B, r, env2, S, e, p⟩ := h
  unfold sFor at e
  cases h : it env with
  | none => rw [h] at e; cases e
  | some z =>
    obtain ⟨r1, env1⟩ := z
    rw [h] at e
    refine ⟨env, F, B, r1, env1, S, h, fun H1 F1 B1 S1 G1 => ?_⟩
    cases r1 with
    | exc c => cases e; exact p σ H1 F1 B1 S1 G1
    | items vs =>
      intro J Bi ok sb nf
      have p1 := p.shift S S1 G1
      have e' : forL t body vs env1 = some (r, env2) := e
      clear e p
      refine ⟨fun i m σ' H' => m + i = vs.length ∧ ∃ env' F' B', RS T env' σ' B' H' F' ∧ Go env1 σ H1 F1 B1 env' σ' H' F' B' ∧ Same Bi H' ∧ (∀ a o, Bi a = some o → ∀ i, a ∉ F' i) ∧ forL t body (vs.drop i) env' = some (r, env2),
        ⟨vs.length, rfl, env1, F1, B1, S1, .refl, sb, nf, e'⟩, ?_⟩
      rintro i m σ' H' ⟨hm, env', F', B', S', G', sb', nf', e2⟩
      by_cases hi : i < vs.length
      · refine .inr ⟨ok.go i H' sb' hi, fun σ3 H3 => (m - 1) + (i + 1) = vs.length ∧ ∃ env' F' B', RS T env' σ3 B' H3 F' ∧ Go env1 σ H1 F1 B1 env' σ3 H3 F' B' ∧ Same Bi H3 ∧ (∀ a o, Bi a = some o → ∀ i, a ∉ F' i) ∧ forL t body (vs.drop (i + 1)) env' = some (r, env2), fun σ3 H3 h3 => ⟨m - 1, by omega, h3⟩, fun x H3 hy => ?_⟩
        obtain ⟨v, B3, hv, g3, hr⟩ := ok.yld i H' x H3 B' sb' G'.kn S'.sub hi hy
        have S3 := g3.rs S'
        have G3 : Go env1 σ H1 F1 B1 env' σ' H3 F' B3 := G'.trans S1 S' g3.go
        have ed : vs.drop i = v :: vs.drop (i + 1) := by
          have q := List.getElem?_eq_some_iff.mp hv
          obtain ⟨q1, q2⟩ := q
          rw [List.drop_eq_getElem_cons q1, q2]
        rw [ed] at e2
        unfold forL at e2
        cases ht : tgSet t v env' with
        | none => rw [ht] at e2; cases e2
        | some env4 =>
          rw [ht] at e2
          refine tg_ok S3 hr ht fun xs F4 S4 G4 => ?_
          have G04 := G3.trans S1 S3 G4
          try dsimp only at e2
          cases hb : body env4 with
          | none => rw [hb] at e2; cases e2
          | some z =>
            obtain ⟨r5, env5⟩ := z
            rw [hb] at e2
            refine ⟨env4, F4, B3, r5, env5, S4, hb, fun σ5 H5 F5 B5 S5 G5 => ?_⟩
            have G05 := G04.trans S1 S4 G5
            have keep : Same Bi H5 := fun a o q => G5.fr a o ((sb'.trans g3.hh) a o q) fun j z => by
              rcases G4.ow j a z with ⟨k, z⟩ | z
              · exact nf' a o q k z
              · rw [(sb'.trans g3.hh) a o q] at z; cases z
            have keepF : ∀ a o, Bi a = some o → ∀ j, a ∉ F5 j := fun a o q j z => by
              rcases G5.ow j a z with ⟨k, z⟩ | z
              · rcases G4.ow k a z with ⟨l, z⟩ | z
                · exact nf' a o q l z
                · rw [(sb'.trans g3.hh) a o q] at z; cases z
              · rw [(sb'.trans g3.hh) a o q] at z; cases z
            cases r5 with
            | nx => exact ⟨by omega, env5, F5, B5, S5, G05, keep, keepF, e2⟩
            | ct => exact ⟨by omega, env5, F5, B5, S5, G05, keep, keepF, e2⟩
            | brk => cases e2; exact p1 σ5 H5 F5 B5 S5 G05
            | ret rv => cases e2; exact fun y hy => p1 σ5 H5 F5 B5 S5 G05 y (hy.shift S1 S4 G04)
            | exc c => cases e2; exact p1 σ5 H5 F5 B5 S5 G05
      · have hl : vs.length ≤ i := Nat.le_of_not_lt hi
        refine .inl ⟨ok.stop i H' sb' hl, ?_⟩
        rw [List.drop_eq_nil_of_le hl] at e2
        cases e2
        exact p1 σ' H' F' B' S' G'
theorem ss_for {X : Cx} {W : WX} {t : Tgt} {it : IF} {g : SF} {tg iter : Expr} {body : List Stmt} {pos : Pos} (hp : PassesOwn (model X.prog X.w) X.A X.env X.xe) (hc : X.calm = true) (hi : SI X W tg iter it) (hg : L2.PG X tg (gT X.K t)) (hb : SSs X W body g)
    (hs : ∀ x, foldedSetIterable iter X.env x = pure x := by intro _; rfl) : SS X W (.For tg iter body [] pos) (sFor t it g) := PS.mono (ps_for hp hc hi hg hb hs) fun _ _ _ h => for_mono h
/-! ### while -/
def whileN (c : EF) (body : SF) : Nat → SF
  | 0 => fun _ => none
  | n + 1 => obind c fun o => match o with
    | .shr (.bl true) => fun env => match body env with
      | some (.nx, env2) => whileN c body n env2
      | some (.ct, env2) => whileN c body n env2
      | some (.brk, env2) => some (.nx, env2)
      | z => z
    | .shr (.bl false) => fun env => some (.nx, env)
    | _ => fun _ => none
theorem while_mono {T : Tx} {W : WX} {c : EF} {body : SF} {n : Nat} {D : Ends} {σ : L2.St} {H : Hp} (h : sG T W (whileN c body n) D σ H) : tWhile (tG T W c) (sG T W body) D σ H := by
  obtain ⟨env, F, B, r, env2, S, e, p⟩ := h
  refine ⟨fun m σ' H' => ∃ env' F' B', RS T env' σ' B' H' F' ∧ Go env σ H F B env' σ' H' F' B' ∧ whileN c body m env' = some (r, env2), ⟨n, env, F, B, S, .refl, e⟩, ?_⟩
  rintro m σ' H' ⟨env', F', B', S', G', e1⟩
  cases m with
  | zero => cases e1
  | succ m =>
    have p1 := p.shift S S' G'
    unfold whileN at e1
    refine ocutT S' e1 p1 (fun o env1 e2 => ?_) fun b env1 H1 F1 B1 e2 S1 G1 => ?_
    · try dsimp only at e2
      split at e2
      · exact ⟨_, rfl⟩
      · exact ⟨_, rfl⟩
      · cases e2
    · have G01 := G'.trans S S' G1
      cases b with
      | false => cases e2; exact iteF (p1 σ' H1 F1 B1 S1 G1)
      | true =>
        refine iteT ⟨fun σ3 H3 => ∃ env' F' B', RS T env' σ3 B' H3 F' ∧ Go env σ H F B env' σ3 H3 F' B' ∧ whileN c body m env' = some (r, env2), fun σ3 H3 h3 => ⟨m, Nat.lt_succ_self m, h3⟩, ?_⟩
        try dsimp only at e2
        cases hb : body env1 with
        | none => rw [hb] at e2; cases e2
        | some z =>
          obtain ⟨r5, env5⟩ := z
          rw [hb] at e2
          refine ⟨env1, F1, B1, r5, env5, S1, hb, fun σ5 H5 F5 B5 S5 G5 => ?_⟩
          have G05 := G01.trans S S1 G5
          cases r5 with
          | nx => exact ⟨env5, F5, B5, S5, G05, e2⟩
          | ct => exact ⟨env5, F5, B5, S5, G05, e2⟩
          | brk => cases e2; exact p σ5 H5 F5 B5 S5 G05
          | ret rv => cases e2; exact fun y hy => p σ5 H5 F5 B5 S5 G05 y (hy.shift S S1 G01)
          | exc c => cases e2; exact p σ5 H5 F5 B5 S5 G05
theorem ss_while {X : Cx} {W : WX} {n : Nat} {c : Expr} {f : EF} {g : SF} {body : List Stmt} {pos : Pos} (hp : PassesOwn (model X.prog X.w) X.A X.env X.xe) (hc : ST X W c f) (hb : SSs X W body g) : SS X W (.While c body [] pos) (whileN f g n) := PS.mono (ps_while hp hc hb) fun _ _ _ h => while_mono h
end Lw

end
section
set_option Elab.async false
set_option linter.all false
set_option maxRecDepth 100000
set_option maxHeartbeats 1000000
set_option autoImplicit false
/-! Lw: list comprehensions. -/
namespace Lw
open PySem L2

def plainS : Slot → Bool
  | .un => true
  | .shr _ => true
  | _ => false
def plainAt (env : Env) (j : Nat) : Bool := match env[j]? with
  | some s => plainS s
  | none => true
def wipeE (env : Env) : List Nat → Env
  | [] => env
  | j :: js => (wipeE env js).set j .un
def restE (env0 env : Env) : List Nat → Env
  | [] => env
  | j :: js => (restE env0 env js).set j ((env0[j]?).getD .un)
def wipe? (env : Env) (cl : List Nat) : Option Env := if (cl.all fun j => plainAt env j) = true then some (wipeE env cl) else none
section
variable {env env0 env1 : Env} {cl : List Nat} {k : Nat}
theorem wipeE_len : ∀ cl : List Nat, (wipeE env cl).length = env.length
  | [] => rfl
  | j :: js => by unfold wipeE; rw [List.length_set, wipeE_len js]
theorem restE_len : ∀ cl : List Nat, (restE env0 env cl).length = env.length
  | [] => rfl
  | j :: js => by unfold restE; rw [List.length_set, restE_len js]
theorem wipeE_in : ∀ {cl : List Nat}, k ∈ cl → ∀ s, (wipeE env cl)[k]? = some s → s = .un
  | j :: js, h, s, e => by
    unfold wipeE at e
    by_cases q : j = k
    · subst q
      by_cases hl : j < (wipeE env js).length
      · rw [List.getElem?_set_self hl] at e; exact (Option.some.inj e).symm
      · rw [List.getElem?_eq_none (by simpa using hl)] at e; cases e
    · rw [List.getElem?_set_ne q] at e
      rcases List.mem_cons.mp h with z | z
      · exact absurd z.symm q
      · exact wipeE_in z s e
theorem wipeE_out : ∀ {cl : List Nat}, k ∉ cl → (wipeE env cl)[k]? = env[k]?
  | [], _ => rfl
  | j :: js, h => by
    unfold wipeE
    rw [List.getElem?_set_ne (fun z => h (by simp [z])), wipeE_out fun z => h (List.mem_cons_of_mem _ z)]
theorem restE_in (hl : env0.length = env.length) : ∀ {cl : List Nat}, k ∈ cl → (restE env0 env cl)[k]? = env0[k]?
  | j :: js, h => by
    unfold restE
    by_cases q : j = k
    · subst q
      by_cases hj : j < env.length
      · rw [List.getElem?_set_self (by rw [restE_len]; exact hj), List.getElem?_eq_getElem (by omega)]; rfl
      · rw [List.getElem?_eq_none (by rw [List.length_set, restE_len]; omega), List.getElem?_eq_none (by omega)]
    · rw [List.getElem?_set_ne q]
      rcases List.mem_cons.mp h with z | z
      · exact absurd z.symm q
      · exact restE_in hl z
theorem restE_out : ∀ {cl : List Nat}, k ∉ cl → (restE env0 env cl)[k]? = env[k]?
  | [], _ => rfl
  | j :: js, h => by
    unfold restE
    rw [List.getElem?_set_ne (fun z => h (by simp [z])), restE_out fun z => h (List.mem_cons_of_mem _ z)]
theorem wipe_in {σ : L2.St} : ∀ {cl : List Nat}, k ∈ cl → (wipe σ cl)[k]? = (σ[k]?).map fun _ => none
  | j :: js, h => by
    unfold wipe
    by_cases q : j = k
    · subst q
      by_cases hl : j < σ.length
      · rw [List.getElem?_set_self (by rw [wipe_length]; exact hl), List.getElem?_eq_getElem hl]; rfl
      · rw [List.getElem?_eq_none (by rw [List.length_set, wipe_length]; omega), List.getElem?_eq_none (by omega)]; rfl
    · rw [List.getElem?_set_ne q]
      rcases List.mem_cons.mp h with z | z
      · exact absurd z.symm q
      · exact wipe_in z
theorem wipe_out' {σ : L2.St} : ∀ {cl : List Nat}, k ∉ cl → (wipe σ cl)[k]? = σ[k]?
  | [], _ => rfl
  | j :: js, h => by
    unfold wipe
    rw [List.getElem?_set_ne (fun z => h (by simp [z])), wipe_out' fun z => h (List.mem_cons_of_mem _ z)]
theorem setSt_len : ∀ (is : List Nat) (xs : List V) (σ : L2.St), (setSt σ is xs).length = σ.length
  | [], _, _ => by unfold setSt; rfl
  | _ :: _, [], _ => rfl
  | i :: is, x :: xs, σ => by
    show (setSt (σ.set i (some x)) is xs).length = _
    rw [setSt_len is xs, List.length_set]
theorem setSt_out : ∀ {is : List Nat} {xs : List V} {σ : L2.St}, k ∉ is → (setSt σ is xs)[k]? = σ[k]?
  | [], _, _, _ => by unfold setSt; rfl
  | _ :: _, [], _, _ => rfl
  | i :: is, x :: xs, σ, h => by
    show (setSt (σ.set i (some x)) is xs)[k]? = _
    rw [setSt_out fun z => h (List.mem_cons_of_mem _ z), List.getElem?_set_ne fun z => h (by simp [z])]
theorem map_const_len {α β : Type} {l l' : List α} (h : l.length = l'.length) (c : β) : (l[k]?).map (fun _ => c) = (l'[k]?).map fun _ => c := by
  by_cases hk : k < l.length
  · rw [List.getElem?_eq_getElem hk, List.getElem?_eq_getElem (by omega)]; rfl
  · rw [List.getElem?_eq_none (by omega), List.getElem?_eq_none (by omega)]
theorem wipe_set {σ : L2.St} {is : List Nat} {xs : List V} (h : ∀ i ∈ is, i ∈ cl) : wipe (setSt (wipe σ cl) is xs) cl = wipe σ cl := by
  refine List.ext_getElem? fun k => ?_
  by_cases hk : k ∈ cl
  · rw [wipe_in hk, wipe_in hk]
    exact map_const_len (by rw [setSt_len, wipe_length]) _
  · rw [wipe_out' hk, setSt_out fun z => hk (h k z)]
variable {T : Tx} {σ : L2.St} {B H : Hp} {F : Nat → List Addr}
theorem plain_of (h : (cl.all fun j => plainAt env j) = true) (hk : k ∈ cl) : own? env k = none := by
  have q := List.all_eq_true.mp h k hk
  unfold own?
  unfold plainAt at q
  cases e : env[k]? with
  | none => rfl
  | some s =>
    rw [e] at q
    cases s with
    | un => rfl
    | shr v => rfl
    | own v => cases q
    | io v => cases q
theorem own_wipe_in (hk : k ∈ cl) : own? (wipeE env cl) k = none := by
  unfold own?
  cases e : (wipeE env cl)[k]? with
  | none => rfl
  | some s => rw [wipeE_in hk s e]; rfl
theorem own_wipe_out (hk : k ∉ cl) : own? (wipeE env cl) k = own? env k := by unfold own?; rw [wipeE_out hk]
theorem RS.wipe (S : RS T env σ B H F) (h : (cl.all fun j => plainAt env j) = true) : RS T (wipeE env cl) (wipe σ cl) B H F where
  sub := S.sub
  len := by rw [wipe_length, wipeE_len]; exact S.len
  shr := fun i v e => by
    by_cases hk : i ∈ cl
    · cases wipeE_in hk _ e
    · rw [wipeE_out hk] at e
      rw [wipe_out' hk]
      exact S.shr i v e
  own := fun i v e => by
    by_cases hk : i ∈ cl
    · rw [own_wipe_in hk] at e; cases e
    · rw [own_wipe_out hk] at e
      rw [wipe_out' hk]
      exact S.own i v e
  non := fun i e => by
    by_cases hk : i ∈ cl
    · exact S.non i (plain_of h hk)
    · rw [own_wipe_out hk] at e; exact S.non i e
  free := S.free
  disj := S.disj
theorem io_out (h : (cl.all fun j => plainAt env j) = true) {v : Val} (e : env[k]? = some (Slot.io v)) : k ∉ cl := fun hk => by
  have := plain_of h hk
  rw [own_io e] at this; cases this
theorem own_out (h : (cl.all fun j => plainAt env j) = true) {v : Val} (e : env[k]? = some (Slot.own v)) : k ∉ cl := fun hk => by
  have := plain_of h hk
  rw [own_own e] at this; cases this
theorem Go.wipe (h : (cl.all fun j => plainAt env j) = true) : Go env σ H F B (wipeE env cl) (L2.wipe σ cl) H F B where
  fr := fun _ _ e _ => e
  al := fun _ e => e
  kn := Same.refl _
  nb := fun _ _ e => .inl e
  ow := fun i a q => .inl ⟨i, q⟩
  io := fun i v e => ⟨v, by rw [wipeE_out (io_out h e)]; exact e, wipe_out' (io_out h e), fun _ q => q⟩
  iw := fun i v e => by
    by_cases hk : i ∈ cl
    · cases wipeE_in hk _ e
    · rw [wipeE_out hk] at e; exact ⟨v, e⟩
  ln := wipeE_len cl
/-- behind the comprehension its own names are what they were -/
theorem RS.rest {B1 H1 : Hp} {F1 : Nat → List Addr} (S : RS T env σ B H F) (h : (cl.all fun j => plainAt env j) = true) (S1 : RS T env1 (L2.wipe σ cl) B1 H1 F1) (hw : (cl.all fun j => plainAt env1 j) = true) (kn : Same B B1) : RS T (restE env env1 cl) σ B1 H1 F1 := by
  have hl : env.length = env1.length := by rw [← S.len, ← S1.len, wipe_length]
  have oin : ∀ {k}, k ∈ cl → own? (restE env env1 cl) k = none := fun {k} hk => by unfold own?; rw [restE_in hl hk]; exact plain_of h hk
  have oout : ∀ {k}, k ∉ cl → own? (restE env env1 cl) k = own? env1 k := fun {k} hk => by unfold own?; rw [restE_out hk]
  refine ⟨S1.sub, by rw [restE_len, ← hl]; exact S.len, fun i v e => ?_, fun i v e => ?_, fun i e => ?_, S1.free, S1.disj⟩
  · by_cases hk : i ∈ cl
    · rw [restE_in hl hk] at e
      obtain ⟨x, h1, h2⟩ := S.shr i v e
      exact ⟨x, h1, h2.mono kn⟩
    · rw [restE_out hk] at e
      obtain ⟨x, h1, h2⟩ := S1.shr i v e
      rw [wipe_out' hk] at h1
      exact ⟨x, h1, h2⟩
  · by_cases hk : i ∈ cl
    · rw [oin hk] at e; cases e
    · rw [oout hk] at e
      obtain ⟨a, h1, h2⟩ := S1.own i v e
      rw [wipe_out' hk] at h1
      exact ⟨a, h1, h2⟩
  · by_cases hk : i ∈ cl
    · exact S1.non i (plain_of hw hk)
    · rw [oout hk] at e; exact S1.non i e
theorem Go.rest {B1 H1 : Hp} {F1 : Nat → List Addr} (hl : env.length = env1.length) (h : (cl.all fun j => plainAt env j) = true) (G : Go (wipeE env cl) (L2.wipe σ cl) H F B env1 (L2.wipe σ cl) H1 F1 B1) : Go env σ H F B (restE env env1 cl) σ H1 F1 B1 where
  fr := G.fr
  al := G.al
  kn := G.kn
  nb := fun a o e => by
    rcases G.nb a o e with z | z | ⟨i, v, z, m⟩
    · exact .inl z
    · exact .inr (.inl z)
    · by_cases hk : i ∈ cl
      · cases wipeE_in hk _ z
      · rw [wipeE_out hk] at z; exact .inr (.inr ⟨i, v, z, m⟩)
  ow := G.ow
  io := fun i v e => by
    have hk := io_out h e
    obtain ⟨v1, e1, _, m⟩ := G.io i v (by rw [wipeE_out hk]; exact e)
    exact ⟨v1, by rw [restE_out hk]; exact e1, rfl, m⟩
  iw := fun i v e => by
    by_cases hk : i ∈ cl
    · rw [restE_in hl hk] at e; exact ⟨v, e⟩
    · rw [restE_out hk] at e
      obtain ⟨v0, e0⟩ := G.iw i v e
      rw [wipeE_out hk] at e0
      exact ⟨v0, e0⟩
  ln := by rw [restE_len, ← hl]
/-- an object that nobody knows and no slot owns is changed -/
theorem RS.updO {a : Addr} {o : HO} (S : RS T env σ B H F) (hb : B a = none) (hf : ∀ i, a ∉ F i) : RS T env σ B (upd H a o) F where
  sub := fun b u e => by rw [upd_ne (ne_of_none e hb)]; exact S.sub b u e
  len := S.len
  shr := S.shr
  own := fun i v e => let ⟨c, h1, h2⟩ := S.own i v e; ⟨c, h1, h2.mono (Same.refl _) fun b hb' u q => by rw [upd_ne (show b ≠ a from fun z => hf i (by rw [← z]; exact hb'))]; exact q⟩
  non := S.non
  free := S.free
  disj := S.disj
theorem Go.updO {env0 : Env} {σ0 : L2.St} {H0 B0 : Hp} {F0 : Nat → List Addr} {a : Addr} {o : HO} (G : Go env0 σ0 H0 F0 B0 env σ H F B) (h0 : H0 a = none) : Go env0 σ0 H0 F0 B0 env σ (upd H a o) F B where
  fr := fun b u e n => by rw [upd_ne (ne_of_none e h0)]; exact G.fr b u e n
  al := fun b e => by
    by_cases q : b = a
    · subst q; exact h0
    · rw [upd_ne q] at e; exact G.al b e
  kn := G.kn
  nb := G.nb
  ow := G.ow
  io := G.io
  iw := G.iw
  ln := G.ln
end

/-! ### the comprehension -/
def lcL (t : Tgt) (cl : List Nat) (tt te : EF) : List Val → List Val → Env → Option (List Val × Env)
  | [], acc, env => some (acc, env)
  | v :: vs, acc, env => match tgSet t v env with
    | none => none
    | some env1 => match tt env1 with
      | some (.val (.shr (.bl true)), env2) => (match esh te env2 with
        | some (.val (.shr w), env3) => if acc.length < 16000000 then (match wipe? env3 cl with
          | some env4 => lcL t cl tt te vs (acc ++ [w]) env4
          | none => none) else none
        | _ => none)
      | some (.val (.shr (.bl false)), env2) => (match wipe? env2 cl with
          | some env4 => lcL t cl tt te vs acc env4
          | none => none)
      | _ => none
def sLC (t : Tgt) (cl : List Nat) (it : IF) (tt te : EF) : EF := fun env => match it env with
  | some (.items vs, env1) => (match wipe? env1 cl with
    | some envw => (match lcL t cl tt te vs [] envw with
      | some (ws, env2) => if (cl.all fun j => plainAt env2 j) = true then some (.val (.new (.lst ws)), restE env1 env2 cl) else none
      | none => none)
    | none => none)
  | some (.exc c, env1) => some (.exc c, env1)
  | none => none
abbrev W0 : WX := fun _ _ _ _ => False
theorem wipe?_inv {env env1 : Env} {cl : List Nat} (h : wipe? env cl = some env1) : (cl.all fun j => plainAt env j) = true ∧ env1 = wipeE env cl := by
  unfold wipe? at h
  split at h
  · rename_i q; exact ⟨q, (Option.some.inj h).symm⟩
  · cases h
theorem lc_mono {T : Tx} {W : WX} {t : Tgt} {cl : List Nat} {it : IF} {tt te : EF} {σ : L2.St} {H : Hp} {Q : VK} (hsub : ∀ i ∈ t.is, i ∈ cl) (h : eG T W (sLC t cl it tt te) σ H Q) : tLc (iG T W it) (gT T.K t) (tG T W0 tt) (eG T W0 (esh te)) cl σ H Q := by
  obtain ⟨env, F, B, r, env2, S, e, p⟩ := h
  unfold sLC at e
  cases h : it env with
  | none => rw [h] at e; cases e
  | some z =>
    obtain ⟨r1, env1⟩ := z
    rw [h] at e
    refine ⟨env, F, B, r1, env1, S, h, fun H1 F1 B1 S1 G1 => ?_⟩
    cases r1 with
    | exc c => cases e; exact p H1 F1 B1 S1 G1
    | items vs =>
      intro J Bi ok sb nf D nD
      try dsimp only at e
      cases hw : wipe? env1 cl with
      | none => rw [hw] at e; cases e
      | some envw =>
        rw [hw] at e
        obtain ⟨pl, ew⟩ := wipe?_inv hw
        try dsimp only at e
        cases hl : lcL t cl tt te vs [] envw with
        | none => rw [hl] at e; cases e
        | some z =>
          obtain ⟨ws, env3⟩ := z
          rw [hl] at e
          try dsimp only at e
          split at e
          · rename_i pl3
            cases e
            subst ew
            have Sw := S1.wipe pl
            have nDw : ∀ i, D ∉ F1 i := S1.fresh nD
            refine ⟨fun i m H' => m + i = vs.length ∧ ∃ env' F' B' acc ys, RS T env' (wipe σ cl) B' H' F' ∧ Go (wipeE env1 cl) (wipe σ cl) H1 F1 B1 env' (wipe σ cl) H' F' B' ∧ Same Bi H' ∧ (∀ a o, Bi a = some o → ∀ i, a ∉ F' i) ∧
                H' D = some (.lst ys) ∧ RepAll T B' ys acc ∧ B' D = none ∧ (∀ i, D ∉ F' i) ∧ lcL t cl tt te (vs.drop i) acc env' = some (ws, env3),
              ⟨vs.length, rfl, _, F1, B1, [], [], Sw.updO (S1.bnone nD) nDw, Go.refl.updO nD, fun a o q => by rw [upd_ne (ne_of_none (sb a o q) nD)]; exact sb a o q, nf, upd_same, .nil, S1.bnone nD, nDw, hl⟩, ?_⟩
            rintro i m H' ⟨hm, env', F', B', acc, ys, S', G', sb', nf', hD, R, bD, fD, e2⟩
            by_cases hi : i < vs.length
            · refine .inr ⟨ok.go i H' sb' hi, fun H3 => (m - 1) + (i + 1) = vs.length ∧ ∃ env' F' B' acc ys, RS T env' (wipe σ cl) B' H3 F' ∧ Go (wipeE env1 cl) (wipe σ cl) H1 F1 B1 env' (wipe σ cl) H3 F' B' ∧ Same Bi H3 ∧ (∀ a o, Bi a = some o → ∀ i, a ∉ F' i) ∧
                H3 D = some (.lst ys) ∧ RepAll T B' ys acc ∧ B' D = none ∧ (∀ i, D ∉ F' i) ∧ lcL t cl tt te (vs.drop (i + 1)) acc env' = some (ws, env3), fun H3 h3 => ⟨m - 1, by omega, h3⟩, fun x H3 hy => ?_⟩
              obtain ⟨v, B3, hv, g3, hr⟩ := ok.yld i H' x H3 B' sb' G'.kn S'.sub hi hy
              have S3 := g3.rs S'
              have G3 := G'.trans Sw S' g3.go
              have ed : vs.drop i = v :: vs.drop (i + 1) := by
                obtain ⟨q1, q2⟩ := List.getElem?_eq_some_iff.mp hv
                rw [List.drop_eq_getElem_cons q1, q2]
              rw [ed] at e2
              unfold lcL at e2
              cases ht : tgSet t v env' with
              | none => rw [ht] at e2; cases e2
              | some env4 =>
                rw [ht] at e2
                refine tg_ok S3 hr ht fun xs F4 S4 G4 => ?_
                have G04 := G3.trans Sw S3 G4
                refine ⟨wipe_set hsub, ?_⟩
                try dsimp only at e2
                -- what stays of the list
                have stay : ∀ {σ5 : L2.St} {env5 : Env} {H5 B5 : Hp} {F5 : Nat → List Addr}, RS T env5 σ5 B5 H5 F5 → Go env' (wipe σ cl) H' F' B' env5 σ5 H5 F5 B5 → H5 D = some (.lst ys) ∧ RepAll T B5 ys acc ∧ B5 D = none ∧ (∀ i, D ∉ F5 i) ∧ Same Bi H5 ∧ ∀ a o, Bi a = some o → ∀ i, a ∉ F5 i := fun {σ5 env5 H5 B5 F5} S5 G5 => by
                  have fD5 : ∀ i, D ∉ F5 i := fun j z => by
                    rcases G5.ow j D z with ⟨k, z⟩ | z
                    · exact fD k z
                    · rw [hD] at z; cases z
                  refine ⟨G5.fr D _ hD fD, R.mono G5.kn, ?_, fD5, fun a o q => G5.fr a o (sb' a o q) (nf' a o q), fun a o q j z => ?_⟩
                  · cases q : B5 D with
                    | none => rfl
                    | some u =>
                      rcases G5.nb D u q with z | z | ⟨k, _, _, z⟩
                      · rw [bD] at z; cases z
                      · rw [hD] at z; cases z
                      · exact absurd z (fD k)
                  · rcases G5.ow j a z with ⟨k, z⟩ | z
                    · exact nf' a o q k z
                    · rw [sb' a o q] at z; cases z
                have Gs4 : Go env' (wipe σ cl) H' F' B' env4 (setSt (wipe σ cl) t.is xs) H3 F4 B3 := g3.go.trans S' S3 G4
                split at e2
                · -- the test says yes
                  rename_i env5 h5
                  refine ⟨env4, F4, B3, _, env5, S4, h5, fun o ho => ⟨true, (ERes.val.inj ho).symm⟩, fun H5 F5 B5 S5 G5 => fun z hz => ⟨true, Rep.bl_inv hz, iteT ?_⟩⟩
                  split at e2
                  · rename_i w env6 h6
                    refine ⟨env5, F5, B5, _, env6, S5, h6, fun H6 F6 B6 S6 G6 => fun y hy => ?_⟩
                    split at e2
                    · rename_i hsz
                      split at e2
                      · rename_i env7 h7
                        obtain ⟨pl7, e7⟩ := wipe?_inv h7
                        subst e7
                        have Gs6 := (Gs4.trans S' S4 G5).trans S' S5 G6
                        obtain ⟨k1, k2, k3, k4, k5, k6⟩ := stay S6 Gs6
                        refine ⟨ys, k1, by rw [k2.length]; exact line_lt hsz, by omega, _, F6, B6, acc ++ [w], ys ++ [y], ?_, ?_, ?_, k6, upd_same, k2.append (.cons hy .nil), k3, k4, e2⟩
                        · have q := (S6.wipe pl7).updO (o := .lst (ys ++ [y])) k3 k4
                          rw [wipe_set hsub] at q
                          exact q
                        · have q := (((G04.trans Sw S4 G5).trans Sw S5 G6).trans Sw S6 (Go.wipe pl7)).updO (o := .lst (ys ++ [y])) nD
                          rw [wipe_set hsub] at q
                          exact q
                        · intro a o q
                          rw [upd_ne fun z => by subst z; rw [sb a o q] at nD; cases nD]
                          exact k5 a o q
                      · cases e2
                    · cases e2
                  · cases e2
                · -- no
                  rename_i env5 h5
                  refine ⟨env4, F4, B3, _, env5, S4, h5, fun o ho => ⟨false, (ERes.val.inj ho).symm⟩, fun H5 F5 B5 S5 G5 => fun z hz => ⟨false, Rep.bl_inv hz, iteF ?_⟩⟩
                  split at e2
                  · rename_i env7 h7
                    obtain ⟨pl7, e7⟩ := wipe?_inv h7
                    subst e7
                    have Gs5 := Gs4.trans S' S4 G5
                    obtain ⟨k1, k2, k3, k4, k5, k6⟩ := stay S5 Gs5
                    refine ⟨by omega, _, F5, B5, acc, ys, ?_, ?_, k5, k6, k1, k2, k3, k4, e2⟩
                    · have q := S5.wipe pl7
                      rw [wipe_set hsub] at q
                      exact q
                    · have q := (G04.trans Sw S4 G5).trans Sw S5 (Go.wipe pl7)
                      rw [wipe_set hsub] at q
                      exact q
                  · cases e2
                · cases e2
            · have hle : vs.length ≤ i := Nat.le_of_not_lt hi
              refine .inl ⟨ok.stop i H' sb' hle, ?_⟩
              rw [List.drop_eq_nil_of_le hle] at e2
              cases e2
              have hlen : env1.length = env3.length := by rw [← S1.len, ← S'.len, wipe_length]
              have Sr := S1.rest pl S' pl3 G'.kn
              have Gr := Go.rest hlen pl G'
              exact p H' F' B' Sr (G1.trans S S1 Gr) (.ref D) ⟨D, [D], rfl, .lst hD R, fun b hb => by
                rw [List.mem_singleton] at hb; subst hb; exact ⟨G1.al _ nD, bD, fD⟩⟩
          · cases e
section
variable {X : Cx} {W : WX} {elt tg iter : Expr} {ifs : List Expr} {scope : Scope} {own : List (Str × Nat)} {pos spos : Pos} {t : Tgt} {cl : List Nat} {it : IF} {tt te : EF}
def sYes : EF := fun env => some (.val (.shr (.bl true)), env)
abbrev STs (X : Cx) (W : WX) (ifs : List Expr) (f : EF) : Prop := PTs X ifs (tG (tx X) W f)
theorem sts_nil : STs X W [] sYes := ⟨fun pins s σ H Q I h => pts_nil.run pins s σ H Q I (by
  obtain ⟨env, F, B, r, env1, S, e, _, p⟩ := h
  cases e
  obtain ⟨b, hb, q⟩ := p H F B S .refl (.bl true) (.bl true)
  cases hb
  exact q)⟩
theorem sts_one {c : Expr} {f : EF} (h : ST X W c f) : STs X W [c] f := pts_one h
theorem se_lc (hc : X.calm = true) (hN : X.N.Nodup) (hi : SI X W tg iter it) (ok : BlkOk X.N X.env.scope scope own)
    (hg : ∀ (s : Shared) (H : Hp) (C : Addr) (cs : List (Str × Addr)) (fp : List Addr), L2.PG (X.blk s H scope (compEnvC scope cs C X.env) fp) tg (gT X.K t)) (ht : ∀ (s : Shared) (H : Hp) (C : Addr) (cs : List (Str × Addr)) (fp : List Addr), STs (X.blk s H scope (compEnvC scope cs C X.env) fp) W0 ifs tt)
    (he : ∀ (s : Shared) (H : Hp) (C : Addr) (cs : List (Str × Addr)) (fp : List Addr), SE (X.blk s H scope (compEnvC scope cs C X.env) fp) W0 elt te) (hcl : own.map (·.2) = cl) (hsub : ∀ i ∈ t.is, i ∈ cl) (hs : ∀ x, foldedSetIterable iter X.env x = pure x := by intro _; rfl) :
    SE X W (.ListComp elt [⟨tg, iter, ifs, 0⟩] scope pos) (sLC t cl it tt te) := by
  refine PE.mono (pe_lc (tt := tG (tx X) W0 tt) (te := eG (tx X) W0 (esh te)) hc hN hi ok hg ht (fun s H C cs fp => se_esh (he s H C cs fp)) hs) fun σ H Q q => ?_
  rw [hcl]
  exact lc_mono hsub q
/-- y = [..] -/
theorem ss_setLc {i : Nat} {y : Str} {py : Pos} (hc : X.calm = true) (hN : X.N.Nodup) (hy : X.N[i]? = some y) (hyl : X.env.scope.names.lookup y = some .local)
    (hsw : swapsWith (.ListComp elt [⟨tg, iter, ifs, 0⟩] scope pos) (some (.Name y py)) spos.line X.env = pure true) (hi : SI X W tg iter it) (ok : BlkOk X.N X.env.scope scope own)
    (hg : ∀ (s : Shared) (H : Hp) (C : Addr) (cs : List (Str × Addr)) (fp : List Addr), L2.PG (X.blk s H scope (compEnvC scope cs C X.env) fp) tg (gT X.K t)) (ht : ∀ (s : Shared) (H : Hp) (C : Addr) (cs : List (Str × Addr)) (fp : List Addr), STs (X.blk s H scope (compEnvC scope cs C X.env) fp) W0 ifs tt)
    (he : ∀ (s : Shared) (H : Hp) (C : Addr) (cs : List (Str × Addr)) (fp : List Addr), SE (X.blk s H scope (compEnvC scope cs C X.env) fp) W0 elt te) (hcl : own.map (·.2) = cl) (hsub : ∀ i ∈ t.is, i ∈ cl) (hs : ∀ x, foldedSetIterable iter X.env x = pure x := by intro _; rfl) :
    SS X W (.Assign [.Name y py] (.ListComp elt [⟨tg, iter, ifs, 0⟩] scope pos) spos) (sAsg i (sLC t cl it tt te)) := by
  refine PS.mono (ps_setLc (tt := tG (tx X) W0 tt) (te := eG (tx X) W0 (esh te)) hc hN hy hyl hsw hi ok hg ht (fun s H C cs fp => se_esh (he s H C cs fp)) hs) fun D σ H q => ?_
  rw [hcl]
  exact lc_mono hsub (eun_mono (asg_mono q))
end
end Lw

end
section
set_option Elab.async false
set_option linter.all false
set_option maxRecDepth 100000
set_option maxHeartbeats 1000000
set_option autoImplicit false
/-! Lw: defs, calls, raise. -/
namespace Lw
open PySem L2

inductive ORes where
  | ret (r : RV) | exc (c : Str)
/-- a def: from its parameters' slots -/
abbrev Fn := List Slot → Option (ORes × List Slot)
/-- what was handed in to be changed, as it is now -/
def ioOut : List Slot → Env → List Slot
  | .io _ :: ss, e :: es => e :: ioOut ss es
  | _ :: ss, _ :: es => .un :: ioOut ss es
  | _, _ => []
def nown : Slot → Bool
  | .own _ => false
  | _ => true
def runF (k n : Nat) (g : SF) : Fn := fun slots => if (slots.length == k && slots.all nown) = true then (match g (slots ++ List.replicate (n - k) .un) with
  | some (.nx, env1) => some (.ret (.shr .non), ioOut slots env1)
  | some (.ret r, env1) => some (.ret r, ioOut slots env1)
  | some (.exc c, env1) => some (.exc c, ioOut slots env1)
  | _ => none) else none
/-- a def's promise -/
def spF (T : Tx) (k : Nat) (φ : Fn) : Sp := fun vs H Q E => vs.length = k ∧ ∃ slots B F o slots1, RS T slots (vs.map some) B H F ∧ slots.all nown = true ∧ φ slots = some (o, slots1) ∧
  ∀ H1 B1 F1, RS T slots1 (vs.map some) B1 H1 F1 → Go slots (vs.map some) H F B slots1 (vs.map some) H1 F1 B1 → match o with
  | .ret r => ∀ x, RetR T slots H F slots1 B1 H1 F1 x r → Q x H1
  | .exc c => E (.ref (He.ga T.K c)) none H1
section
variable {T : Tx}
theorem ioOut_get : ∀ {ss : List Slot} {es : Env} {i : Nat} {s : Slot}, (ioOut ss es)[i]? = some s → (∃ v, ss[i]? = some (.io v) ∧ es[i]? = some s) ∨ ((∀ v, ss[i]? ≠ some (.io v)) ∧ s = .un)
  | [], es, i, s, h => by unfold ioOut at h; simp at h
  | s0 :: ss, [], i, s, h => by unfold ioOut at h; simp at h
  | s0 :: ss, e :: es, i, s, h => by
    cases i with
    | zero =>
      cases s0 with
      | io v => have h' : some e = some s := h; exact .inl ⟨v, rfl, h'⟩
      | un => have h' : some Slot.un = some s := h; exact .inr ⟨(fun v z => nomatch z), (Option.some.inj h').symm⟩
      | shr w => have h' : some Slot.un = some s := h; exact .inr ⟨(fun v z => nomatch z), (Option.some.inj h').symm⟩
      | own w => have h' : some Slot.un = some s := h; exact .inr ⟨(fun v z => nomatch z), (Option.some.inj h').symm⟩
    | succ i =>
      have h' : (ioOut ss es)[i]? = some s := by cases s0 <;> exact h
      have q := ioOut_get h'
      simpa using q
theorem ioOut_io : ∀ {ss : List Slot} {es : Env} {i : Nat} {v : Val} {s : Slot}, ss[i]? = some (.io v) → es[i]? = some s → (ioOut ss es)[i]? = some s
  | [], es, i, v, s, h, _ => by simp at h
  | s0 :: ss, [], i, v, s, _, h => by simp at h
  | s0 :: ss, e :: es, i, v, s, h, h2 => by
    cases i with
    | zero =>
      have e1 : s0 = .io v := by simpa using h
      subst e1
      exact h2
    | succ i =>
      have q := ioOut_io (ss := ss) (es := es) (i := i) (v := v) (s := s) (by simpa using h) (by simpa using h2)
      cases s0 <;> exact q
theorem ioOut_len : ∀ {ss : List Slot} {es : Env}, ss.length ≤ es.length → (ioOut ss es).length = ss.length
  | [], es, _ => by unfold ioOut; rfl
  | s0 :: ss, [], h => by simp at h
  | s0 :: ss, e :: es, h => by
    have q := ioOut_len (ss := ss) (es := es) (by simpa using h)
    cases s0 <;> exact congrArg Nat.succ q
theorem nown_ne {slots : List Slot} (h : slots.all nown = true) {i : Nat} {v : Val} : slots[i]? ≠ some (Slot.own v) := fun e => by
  have := List.all_eq_true.mp h _ (List.mem_of_getElem? e)
  cases this
theorem start_get {N : List Str} {vs : List V} {i : Nat} (h : i < vs.length) : (L2.start N vs)[i]? = (vs.map some)[i]? := by
  unfold L2.start
  rw [List.getElem?_append_left (by simpa using h)]
theorem own_app {slots : List Slot} {m i : Nat} : own? (slots ++ List.replicate m .un) i = own? slots i := by
  unfold own?
  by_cases h : i < slots.length
  · rw [List.getElem?_append_left h]
  · rw [List.getElem?_append_right (Nat.le_of_not_lt h), List.getElem?_eq_none (Nat.le_of_not_lt h)]
    cases e : (List.replicate m Slot.un)[i - slots.length]? with
    | none => rfl
    | some s =>
      have := List.mem_of_getElem? e
      rw [List.mem_replicate] at this
      rw [this.2]; rfl
theorem RS.start {slots : List Slot} {vs : List V} {B H : Hp} {F : Nat → List Addr} {N : List Str} (S : RS T slots (vs.map some) B H F) (hN : slots.length ≤ N.length) : RS T (slots ++ List.replicate (N.length - slots.length) .un) (L2.start N vs) B H F := by
  have hl : vs.length = slots.length := by simpa using S.len
  refine ⟨S.sub, ?_, fun i v e => ?_, fun i v e => ?_, fun i e => ?_, S.free, S.disj⟩
  · unfold L2.start
    simp [hl]
  · have hi : i < slots.length := by
      by_cases h : i < slots.length
      · exact h
      · rw [List.getElem?_append_right (Nat.le_of_not_lt h)] at e
        have := List.mem_of_getElem? e
        rw [List.mem_replicate] at this
        cases this.2
    rw [List.getElem?_append_left hi] at e
    rw [start_get (by omega)]
    exact S.shr i v e
  · rw [own_app] at e
    have hi : i < slots.length := by
      unfold own? at e
      cases h : slots[i]? with
      | none => rw [h] at e; cases e
      | some s => exact lt_of_get h
    rw [start_get (by omega)]
    exact S.own i v e
  · rw [own_app] at e
    exact S.non i e
end
section
variable {P : Program} {w : World} {K : PySem.W.Frag} {mg : Str → Option Value} {base : Heap} {x qual : Str} {params : Arguments} {body : List Stmt} {scope : Scope} {f : Addr} {fd : FuncData} {N ps : List Str} {k : Nat} {g : SF}
abbrev WD (E : XK) : WX := fun cls d _ H => E cls d H
theorem fn_ok (F : FunD K x qual params body scope [] [] f fd) (S : FnScope N ps scope)
    (hb : ∀ (cdv : Value) (A : Around) (outer : List PySem.Env) (s : Shared) (H : Hp) (E : XK), Room k (A.deeper (PyProof.Rows.envOfC qual scope s.heap.objs.size f cdv)) → SSs (cxOf (L2.CX P w) P w K mg base N qual scope f cdv A outer s H E) (WD E) body g) :
    FnOk P w K mg base (L2.CX P w) (k + 1) f fd ps (spF ⟨P, w, K⟩ ps.length (runF ps.length N.length g)) := by
  refine F.ok S (fun vs H Q E h => h.1) (fun cdv A outer s H vs Q E hr h => ⟨_, hb cdv A outer s H E hr, ?_⟩)
  obtain ⟨hvl, slots, B, F0, o, slots1, Rs, hno, hφ, hq⟩ := h
  unfold runF at hφ
  split at hφ
  · rename_i hc
    obtain ⟨hc1, _⟩ := Bool.and_eq_true_iff.mp hc
    have hsl : slots.length = ps.length := beq_iff_eq.mp hc1
    have hpN : ps.length ≤ N.length := by
      have := S.pre
      have q := congrArg List.length this
      simp at q
      omega
    have Rst := Rs.start (N := N) (by omega)
    rw [hsl] at Rst
    cases hg : g (slots ++ List.replicate (N.length - ps.length) .un) with
    | none => rw [hg] at hφ; cases hφ
    | some z =>
      obtain ⟨r, env1⟩ := z
      rw [hg] at hφ
      refine ⟨_, F0, B, r, env1, Rst, hg, fun σ2 H2 F2 B2 S2 G2 => ?_⟩
      have hl1 : slots.length ≤ env1.length := by
        rw [G2.ln, List.length_append]
        omega
      have hvs : vs.length = slots.length := by rw [hvl, hsl]
      -- the parameters' slots as they are at the end
      have io0 : ∀ (i : Nat) (v : Val), slots[i]? = some (Slot.io v) → (slots ++ List.replicate (N.length - ps.length) Slot.un)[i]? = some (Slot.io v) := fun i v e => by
        rw [List.getElem?_append_left (lt_of_get e)]; exact e
      have key : ∀ (i : Nat) (v : Val), slots[i]? = some (Slot.io v) → ∃ v1, env1[i]? = some (Slot.io v1) ∧ σ2[i]? = (vs.map some)[i]? ∧ ∀ a ∈ F0 i, a ∈ F2 i := fun i v e => by
        obtain ⟨v1, e1, s1, m1⟩ := G2.io i v (io0 i v e)
        exact ⟨v1, e1, s1.trans (start_get (by rw [hvs]; exact lt_of_get e)), m1⟩
      have S3 : RS ⟨P, w, K⟩ (ioOut slots env1) (vs.map some) B2 H2 (fun i => match slots[i]? with | some (.io _) => F2 i | _ => []) := by
        refine ⟨S2.sub, by rw [ioOut_len hl1, List.length_map, hvs], fun i v e => ?_, fun i v e => ?_, fun i e => ?_, fun i a ha => ?_, fun i j a h1 h2 => ?_⟩
        · rcases ioOut_get e with ⟨v0, e0, e1⟩ | ⟨_, z⟩
          · obtain ⟨v1, e2, _⟩ := key i v0 e0
            rw [e1] at e2; cases e2
          · cases z
        · unfold own? at e
          cases h : (ioOut slots env1)[i]? with
          | none => rw [h] at e; cases e
          | some s =>
            rw [h] at e
            rcases ioOut_get h with ⟨v0, e0, e1⟩ | ⟨_, z⟩
            · obtain ⟨v1, e2, s1, _⟩ := key i v0 e0
              rw [e1] at e2
              cases e2
              cases e
              obtain ⟨a, h1, h2⟩ := S2.own i v (own_io e1)
              refine ⟨a, by rw [← s1]; exact h1, ?_⟩
              rw [e0]
              exact h2
            · subst z; cases e
        · cases h : slots[i]? with
          | none => rfl
          | some s =>
            cases s with
            | io v =>
              obtain ⟨v1, e1, _⟩ := key i v h
              unfold own? at e
              rw [ioOut_io h e1] at e
              cases e
            | _ => rfl
        · cases h : slots[i]? with
          | none => rw [h] at ha; cases ha
          | some s =>
            rw [h] at ha
            cases s with
            | io v => exact S2.free i a ha
            | _ => cases ha
        · have m : ∀ {i}, a ∈ (match slots[i]? with | some (Slot.io _) => F2 i | _ => []) → a ∈ F2 i := fun {i} ha => by
            cases h : slots[i]? with
            | none => rw [h] at ha; cases ha
            | some s =>
              rw [h] at ha
              cases s with
              | io v => exact ha
              | _ => cases ha
          exact S2.disj i j a (m h1) (m h2)
      have nb3 : ∀ a o, B2 a = some o → B a = some o ∨ H a = none := fun a o e => by
        rcases G2.nb a o e with z | z | ⟨i, v, z, _⟩
        · exact .inl z
        · exact .inr z
        · exfalso
          by_cases hi : i < slots.length
          · rw [List.getElem?_append_left hi] at z
            exact nown_ne hno z
          · rw [List.getElem?_append_right (Nat.le_of_not_lt hi)] at z
            have := List.mem_of_getElem? z
            rw [List.mem_replicate] at this
            cases this.2
      have G3 : Go slots (vs.map some) H F0 B (ioOut slots env1) (vs.map some) H2 (fun i => match slots[i]? with | some (.io _) => F2 i | _ => []) B2 := by
        refine ⟨G2.fr, G2.al, G2.kn, fun a o e => (nb3 a o e).elim .inl fun z => .inr (.inl z), fun i a ha => ?_, fun i v e => ?_, fun i v e => ?_, by rw [ioOut_len hl1]⟩
        · cases h : slots[i]? with
          | none => rw [h] at ha; cases ha
          | some s =>
            rw [h] at ha
            cases s with
            | io v => exact G2.ow i a ha
            | _ => cases ha
        · obtain ⟨v1, e1, s1, m1⟩ := key i v e
          refine ⟨v1, ioOut_io e e1, rfl, ?_⟩
          rw [e]
          exact m1
        · rcases ioOut_get e with ⟨v0, e0, _⟩ | ⟨_, z⟩
          · exact ⟨v0, e0⟩
          · cases z
      cases r with
      | nx =>
        cases hφ
        exact hq H2 B2 _ S3 G3 .non .non
      | ret rv =>
        cases hφ
        refine fun y hy => hq H2 B2 _ S3 G3 y ?_
        cases rv with
        | shr v => exact hy
        | new v =>
          obtain ⟨a, fp, h1, h2, h3⟩ := hy
          refine ⟨a, fp, h1, h2, fun b hb' => ⟨(h3 b hb').1, .inr ?_, fun i v' e q => ?_⟩⟩
          · rcases (h3 b hb').2.1 with ⟨j, w', z, _⟩ | z
            · exfalso
              by_cases hi : j < slots.length
              · rw [List.getElem?_append_left hi] at z
                exact nown_ne hno z
              · rw [List.getElem?_append_right (Nat.le_of_not_lt hi)] at z
                have := List.mem_of_getElem? z
                rw [List.mem_replicate] at this
                cases this.2
            · exact z
          · rcases ioOut_get e with ⟨v0, e0, e1⟩ | ⟨_, z⟩
            · dsimp only at q
              rw [e0] at q
              exact (h3 b hb').2.2 i v' e1 q
            · cases z
      | exc c =>
        cases hφ
        exact hq H2 B2 _ S3 G3
      | brk => cases hφ
      | ct => cases hφ
  · cases hφ
end

/-! ### calls of defs -/
/-- the arguments: all shared, or one that is handed in to be changed -/
def splitIo : List Opd → Option (List Val × Option (Nat × List Val))
  | [] => some ([], none)
  | .shr v :: os => (splitIo os).map fun z => (v :: z.1, z.2)
  | .var i :: os => (shrs os).map fun ws => ([], some (i, ws))
  | .new _ :: _ => none
def updOwn (env : Env) (i : Nat) (v : Val) : Env := match env[i]? with
  | some (.own _) => env.set i (.own v)
  | some (.io _) => env.set i (.io v)
  | _ => env
def sCallK (φ : Fn) (os : List Opd) : EF := fun env => match splitIo os with
  | some (vs, none) => (match φ (vs.map Slot.shr) with
    | some (.ret r, _) => some (.val r.opd, env)
    | some (.exc c, _) => some (.exc c, env)
    | none => none)
  | some (vs, some (i, ws)) => (match own? env i with
    | some v => (match φ (vs.map Slot.shr ++ .io v :: ws.map Slot.shr) with
      | some (o, slots1) => (match slots1[vs.length]? with
        | some (.io v1) => (match o with
          | .ret r => some (.val r.opd, updOwn env i v1)
          | .exc c => some (.exc c, updOwn env i v1))
        | _ => none)
      | none => none)
    | none => none)
  | none => none
def sCall (φ : Fn) (fs : List EF) : EF := sArgs fs (sCallK φ)
section
variable {T : Tx} {env : Env} {σ : L2.St} {B H Hs : Hp} {F : Nat → List Addr}
theorem split_none : ∀ {os : List Opd} {xs : List V} {vs : List Val}, OpdsR T env σ B H F Hs xs os → splitIo os = some (vs, none) → RepAll T B xs vs
  | [], [], vs, .nil, e => by cases e; exact .nil
  | o :: os, x :: xs, vs, .cons h t, e => by
    cases o with
    | shr v =>
      have e' : (splitIo os).map (fun z => (v :: z.1, z.2)) = some (vs, none) := e
      cases h2 : splitIo os with
      | none => rw [h2] at e'; cases e'
      | some z =>
        obtain ⟨z1, z2⟩ := z
        rw [h2] at e'
        cases e'
        exact .cons h (split_none t h2)
    | new v => cases e
    | var i =>
      have e' : (shrs os).map (fun ws => (([] : List Val), some (i, ws))) = some (vs, none) := e
      cases h2 : shrs os with
      | none => rw [h2] at e'; cases e'
      | some z => rw [h2] at e'; cases e'
theorem split_some : ∀ {os : List Opd} {xs : List V} {vs ws : List Val} {i : Nat}, OpdsR T env σ B H F Hs xs os → splitIo os = some (vs, some (i, ws)) → ∃ xs1 x xs2, xs = xs1 ++ x :: xs2 ∧ RepAll T B xs1 vs ∧ σ[i]? = some (some x) ∧ RepAll T B xs2 ws
  | [], [], vs, ws, i, .nil, e => by cases e
  | o :: os, x :: xs, vs, ws, i, .cons h t, e => by
    cases o with
    | shr v =>
      have e' : (splitIo os).map (fun z => (v :: z.1, z.2)) = some (vs, some (i, ws)) := e
      cases h2 : splitIo os with
      | none => rw [h2] at e'; cases e'
      | some z =>
        obtain ⟨z1, z2⟩ := z
        rw [h2] at e'
        cases e'
        obtain ⟨xs1, y, xs2, rfl, h3, h4, h5⟩ := split_some t h2
        exact ⟨x :: xs1, y, xs2, rfl, .cons h h3, h4, h5⟩
    | new v => cases e
    | var j =>
      have e' : (shrs os).map (fun ws => (([] : List Val), some (j, ws))) = some (vs, some (i, ws)) := e
      cases h2 : shrs os with
      | none => rw [h2] at e'; cases e'
      | some z =>
        rw [h2] at e'
        cases e'
        exact ⟨[], x, xs, rfl, .nil, h, OpdsR.shrs t h2⟩
theorem shr_slots {xs : List V} {vs : List Val} (R : RepAll T B xs vs) (s : Same B H) : RS T (vs.map Slot.shr) (xs.map some) B H (fun _ => []) where
  sub := s
  len := by simp [R.length]
  shr := fun i v e => by
    rw [List.getElem?_map] at e
    cases h : vs[i]? with
    | none => rw [h] at e; cases e
    | some u =>
      rw [h] at e
      cases e
      obtain ⟨x, h1, h2⟩ := R.get h
      exact ⟨x, by rw [List.getElem?_map, h1]; rfl, h2⟩
  own := fun i v e => by
    unfold own? at e
    rw [List.getElem?_map] at e
    cases h : vs[i]? with
    | none => rw [h] at e; cases e
    | some u => rw [h] at e; cases e
  non := fun _ _ => rfl
  free := fun i a h => by cases h
  disj := fun i j a h => by cases h
theorem nown_shr (vs : List Val) : (vs.map Slot.shr).all nown = true := by
  rw [List.all_eq_true]
  intro s hs
  obtain ⟨v, _, rfl⟩ := List.mem_map.mp hs
  rfl
theorem upd_get {i j : Nat} {v : Val} : (updOwn env i v)[j]? = if j = i then (match env[i]? with | some (.own _) => some (.own v) | some (.io _) => some (.io v) | z => z) else env[j]? := by
  unfold updOwn
  by_cases q : j = i
  · subst q
    rw [if_pos rfl]
    cases e : env[j]? with
    | none => simp [e]
    | some s =>
      have hl := lt_of_get e
      have e3 := (List.getElem?_eq_some_iff.mp e).2
      cases s <;> simp [e, e3, hl]
  · rw [if_neg q]
    cases e : env[i]? with
    | none => rfl
    | some s => cases s <;> simp [List.getElem?_set_ne (Ne.symm q)]
theorem upd_len {i : Nat} {v : Val} : (updOwn env i v).length = env.length := by
  unfold updOwn
  split <;> simp
end
section
variable {X : Cx} {W : WX} {a : Expr} {es : List Expr} {fs : List EF} {pos : Pos}
theorem call_mono {k : Nat} {φ : Fn} {σ : L2.St} {H : Hp} {Q : VK} (hk : ∀ slots z, φ slots = some z → slots.length = k) (h : eG (tx X) W (sCall φ fs) σ H Q) : tCallS (spF (tx X) k φ) (WE W) (aR (tx X) W fs) σ H Q := by
  obtain ⟨env, F, B, r, env2, S, e, p⟩ := h
  refine args_cut S e p fun os env1 H1 F1 B1 xs e1 S1 G1 xs1 p1 => ?_
  unfold sCallK at e1
  cases hs : splitIo os with
  | none => rw [hs] at e1; cases e1
  | some z =>
    obtain ⟨vs, z2⟩ := z
    rw [hs] at e1
    cases z2 with
    | none =>
      try dsimp only at e1
      have R := split_none xs1 hs
      cases hφ : φ (vs.map Slot.shr) with
      | none => rw [hφ] at e1; cases e1
      | some z =>
        obtain ⟨o, slots1⟩ := z
        rw [hφ] at e1
        have hlen := hk _ _ hφ
        have hx : xs.length = k := by rw [R.length]; simpa using hlen
        refine ⟨hx, _, B1, _, o, slots1, shr_slots R S1.sub, nown_shr vs, hφ, fun H2 B2 F2 S2 G2 => ?_⟩
        have g : PG B1 H1 B2 H2 := ⟨fun a o q => G2.fr a o q (fun i z => nomatch z), G2.kn, S2.sub, fun a o q => by
          rcases G2.nb a o q with z | z | ⟨i, v, z, _⟩
          · exact .inl z
          · exact .inr z
          · exact absurd z (nown_ne (nown_shr vs))⟩
        cases o with
        | ret rv =>
          cases e1
          refine fun x hx => p1.done S1 G1.al g ?_
          cases rv with
          | shr v => exact hx
          | new v =>
            obtain ⟨b, fp, h1, h2, h3⟩ := hx
            refine ⟨b, fp, h1, h2, fun c hc => ⟨?_, (h3 c hc).1⟩⟩
            rcases (h3 c hc).2.1 with ⟨j, w, z, _⟩ | z
            · exact absurd z (nown_ne (nown_shr vs))
            · exact z
        | exc c =>
          cases e1
          exact p1 H2 F1 B2 (g.rs S1) g.go
    | some iw =>
      obtain ⟨i, ws⟩ := iw
      try dsimp only at e1
      obtain ⟨xs1', x, xs2, rfl, R1, hx, R2⟩ := split_some xs1 hs
      cases ho : own? env1 i with
      | none => rw [ho] at e1; cases e1
      | some v =>
        rw [ho] at e1
        try dsimp only at e1
        cases hφ : φ (vs.map Slot.shr ++ .io v :: ws.map Slot.shr) with
        | none => rw [hφ] at e1; cases e1
        | some z =>
          obtain ⟨o, slots1⟩ := z
          rw [hφ] at e1
          try dsimp only at e1
          cases h1 : slots1[vs.length]? with
          | none => rw [h1] at e1; cases e1
          | some s1 =>
            rw [h1] at e1
            cases s1 with
            | io v1 =>
              obtain ⟨ad, hσ, hown⟩ := S1.own i v ho
              have hx' : σ[i]? = some (some x) := hx
              rw [hσ] at hx'
              cases hx'
              have hlen := hk _ _ hφ
              have l1 : xs1'.length = vs.length := R1.length
              have hxl : (xs1' ++ V.ref ad :: xs2).length = k := by
                rw [List.length_append, List.length_cons, R1.length, R2.length]
                simpa using hlen
              -- the callee's slots
              have gio : (vs.map Slot.shr ++ Slot.io v :: ws.map Slot.shr)[vs.length]? = some (Slot.io v) := by
                rw [List.getElem?_append_right (by simp)]; simp
              have gne : ∀ {j : Nat} {s : Slot}, (vs.map Slot.shr ++ Slot.io v :: ws.map Slot.shr)[j]? = some s → j ≠ vs.length → ∃ u, s = .shr u ∧ ∃ y, (xs1' ++ V.ref ad :: xs2)[j]? = some y ∧ Rep (tx X) B1 y u := fun {j s} e hj => by
                by_cases hl : j < vs.length
                · rw [List.getElem?_append_left (by simpa using hl), List.getElem?_map] at e
                  cases h : vs[j]? with
                  | none => rw [h] at e; cases e
                  | some u =>
                    rw [h] at e
                    cases e
                    obtain ⟨y, h2, h3⟩ := R1.get h
                    exact ⟨u, rfl, y, by rw [List.getElem?_append_left (by omega)]; exact h2, h3⟩
                · have hl2 : vs.length + 1 ≤ j := by omega
                  obtain ⟨m, rfl⟩ : ∃ m, j = vs.length + 1 + m := ⟨j - (vs.length + 1), by omega⟩
                  rw [List.getElem?_append_right (by simp; omega)] at e
                  have e3 : vs.length + 1 + m - (vs.map Slot.shr).length = m + 1 := by simp; omega
                  rw [e3, List.getElem?_cons_succ, List.getElem?_map] at e
                  cases h : ws[m]? with
                  | none => rw [h] at e; cases e
                  | some u =>
                    rw [h] at e
                    cases e
                    obtain ⟨y, h2, h3⟩ := R2.get h
                    refine ⟨u, rfl, y, ?_, h3⟩
                    rw [List.getElem?_append_right (by omega)]
                    have e4 : vs.length + 1 + m - xs1'.length = m + 1 := by omega
                    rw [e4, List.getElem?_cons_succ]
                    exact h2
              have hno : (vs.map Slot.shr ++ Slot.io v :: ws.map Slot.shr).all nown = true := by
                rw [List.all_append, List.all_cons, nown_shr, nown_shr]; rfl
              have oc : ∀ {j : Nat} {u : Val}, own? (vs.map Slot.shr ++ Slot.io v :: ws.map Slot.shr) j = some u → j = vs.length := fun {j u} e => by
                by_cases hj : j = vs.length
                · exact hj
                · unfold own? at e
                  cases h : (vs.map Slot.shr ++ Slot.io v :: ws.map Slot.shr)[j]? with
                  | none => rw [h] at e; cases e
                  | some s =>
                    rw [h] at e
                    obtain ⟨u', rfl, _⟩ := gne h hj
                    cases e
              have Sc : RS (tx X) (vs.map Slot.shr ++ Slot.io v :: ws.map Slot.shr) ((xs1' ++ V.ref ad :: xs2).map some) B1 H1 (fun j => if j = vs.length then F1 i else []) := by
                refine ⟨S1.sub, by simp [R1.length, R2.length], fun j u e => ?_, fun j u e => ?_, fun j e => ?_, fun j c hc => ?_, fun j l c h1 h2 => ?_⟩
                · by_cases hj : j = vs.length
                  · subst hj; rw [gio] at e; cases e
                  · obtain ⟨u', hu, y, h2, h3⟩ := gne e hj
                    cases hu
                    exact ⟨y, by rw [List.getElem?_map, h2]; rfl, h3⟩
                · have hj := oc e
                  subst hj
                  have e' := own_io gio
                  rw [e] at e'
                  cases e'
                  refine ⟨ad, ?_, ?_⟩
                  · rw [List.getElem?_map, List.getElem?_append_right (by omega), l1]; simp
                  · rw [if_pos rfl]; exact hown
                · by_cases hj : j = vs.length
                  · subst hj; rw [own_io gio] at e; cases e
                  · exact if_neg hj
                · try dsimp only at hc
                  split at hc
                  · exact S1.free i c hc
                  · cases hc
                · try dsimp only at h1 h2
                  split at h1
                  · split at h2
                    · omega
                    · cases h2
                  · cases h1
              refine ⟨hxl, _, B1, _, o, slots1, Sc, hno, hφ, fun H2 B2 F2 S2 G2 => ?_⟩
              -- back at the caller
              obtain ⟨v1', e5, s5, m5⟩ := G2.io vs.length v gio
              rw [h1] at e5
              cases e5
              rw [if_pos rfl] at m5
              obtain ⟨ad', h6, hown2⟩ := S2.own vs.length v1 (own_io h1)
              have ead : ad' = ad := by
                have e6 : ((xs1' ++ V.ref ad :: xs2).map some)[vs.length]? = some (some (V.ref ad)) := by
                  rw [List.getElem?_map, List.getElem?_append_right (by omega), l1]; simp
                rw [e6] at h6
                cases h6
                rfl
              subst ead
              have fc : ∀ {c : Addr}, (∀ j, c ∉ (fun j => if j = vs.length then F1 i else []) j) ↔ c ∉ F1 i := fun {c} => by
                constructor
                · intro h; have := h vs.length; try dsimp only at this
                  rw [if_pos rfl] at this; exact this
                · intro h j; try dsimp only
                  split
                  · exact h
                  · intro z; cases z
              have ow2 : ∀ c, c ∈ F2 vs.length → c ∈ F1 i ∨ H1 c = none := fun c hc => by
                rcases G2.ow _ c hc with ⟨j, z⟩ | z
                · try dsimp only at z
                  split at z
                  · exact .inl z
                  · cases z
                · exact .inr z
              have nb2 : ∀ c u, B2 c = some u → B1 c = some u ∨ H1 c = none := fun c u q => by
                rcases G2.nb c u q with z | z | ⟨j, w', z, _⟩
                · exact .inl z
                · exact .inr z
                · exact absurd z (nown_ne hno)
              have own3 : ∀ {j : Nat}, own? (updOwn env1 i v1) j = if j = i then some v1 else own? env1 j := fun {j} => by
                unfold own?
                rw [upd_get]
                by_cases hj : j = i
                · rw [if_pos hj, if_pos hj]
                  rcases own_cases ho with q | q <;> rw [q] <;> rfl
                · rw [if_neg hj, if_neg hj]
              have S3 : RS (tx X) (updOwn env1 i v1) σ B2 H2 (setF F1 i (F2 vs.length)) := by
                refine ⟨S2.sub, by rw [upd_len]; exact S1.len, fun j u e => ?_, fun j u e => ?_, fun j e => ?_, fun j c hc => ?_, fun j l c h1 h2 => ?_⟩
                · rw [upd_get] at e
                  by_cases hj : j = i
                  · rw [if_pos hj] at e
                    rcases own_cases ho with q | q <;> rw [q] at e <;> cases e
                  · rw [if_neg hj] at e
                    obtain ⟨y, h2, h3⟩ := S1.shr j u e
                    exact ⟨y, h2, h3.mono G2.kn⟩
                · rw [own3] at e
                  by_cases hj : j = i
                  · rw [if_pos hj] at e
                    cases e
                    subst hj
                    exact ⟨ad', hσ, by rw [setF_at]; exact hown2⟩
                  · rw [if_neg hj] at e
                    obtain ⟨c, h2, h3⟩ := S1.own j u e
                    refine ⟨c, h2, ?_⟩
                    rw [setF_ne hj]
                    exact h3.mono G2.kn fun b hb u' q => G2.fr b u' q (fc.mpr fun z => hj (S1.disj j i b hb z))
                · rw [own3] at e
                  by_cases hj : j = i
                  · rw [if_pos hj] at e; cases e
                  · rw [if_neg hj] at e
                    rw [setF_ne hj]
                    exact S1.non j e
                · rcases mem_setF hc with ⟨_, hc⟩ | ⟨hj, hc⟩
                  · exact S2.free _ c hc
                  · cases q : B2 c with
                    | none => rfl
                    | some u =>
                      rcases nb2 c u q with z | z
                      · rw [S1.free j c hc] at z; cases z
                      · exact absurd hc (S1.fresh z j)
                · rcases mem_setF h1 with ⟨e1', m1⟩ | ⟨e1', m1⟩
                  · rcases mem_setF h2 with ⟨e2', m2⟩ | ⟨e2', m2⟩
                    · rw [e1', e2']
                    · rcases ow2 c m1 with z | z
                      · rw [e1']; exact S1.disj i l c z m2
                      · exact absurd m2 (S1.fresh z l)
                  · rcases mem_setF h2 with ⟨e2', m2⟩ | ⟨e2', m2⟩
                    · rcases ow2 c m2 with z | z
                      · rw [e2']; exact S1.disj j i c m1 z
                      · exact absurd m1 (S1.fresh z j)
                    · exact S1.disj j l c m1 m2
              have G3 : Go env1 σ H1 F1 B1 (updOwn env1 i v1) σ H2 (setF F1 i (F2 vs.length)) B2 := by
                refine ⟨fun c u q n => G2.fr c u q (fc.mpr (n i)), G2.al, G2.kn, fun c u q => (nb2 c u q).elim .inl fun z => .inr (.inl z), fun j c hc => ?_, fun j u e => ?_, fun j u e => ?_, upd_len⟩
                · rcases mem_setF hc with ⟨_, hc⟩ | ⟨_, hc⟩
                  · exact (ow2 c hc).elim (fun z => .inl ⟨i, z⟩) .inr
                  · exact .inl ⟨j, hc⟩
                · by_cases hj : j = i
                  · subst hj
                    refine ⟨v1, ?_, rfl, ?_⟩
                    · rw [upd_get, if_pos rfl, e]
                    · rw [setF_at]; exact m5
                  · refine ⟨u, ?_, rfl, ?_⟩
                    · rw [upd_get, if_neg hj]; exact e
                    · rw [setF_ne hj]; exact fun _ q => q
                · rw [upd_get] at e
                  by_cases hj : j = i
                  · rw [if_pos hj] at e
                    subst hj
                    rcases own_cases ho with q | q
                    · rw [q] at e; cases e
                    · exact ⟨v, q⟩
                  · rw [if_neg hj] at e; exact ⟨u, e⟩
              cases o with
              | ret rv =>
                cases e1
                refine fun y hy => p1 H2 _ B2 S3 G3 y ?_
                cases rv with
                | shr u => exact hy
                | new u =>
                  obtain ⟨b, fp, h1', h2', h3'⟩ := hy
                  have fr2 : ∀ c ∈ fp, H1 c = none := fun c hc => by
                    rcases (h3' c hc).2.1 with ⟨j, w', z, _⟩ | z
                    · exact absurd z (nown_ne hno)
                    · exact z
                  refine ⟨b, fp, h1', h2', fun c hc => ⟨G1.al c (fr2 c hc), (h3' c hc).1, fun j q => ?_⟩⟩
                  rcases mem_setF q with ⟨_, q⟩ | ⟨_, q⟩
                  · exact (h3' c hc).2.2 vs.length v1 h1 q
                  · exact S1.fresh (fr2 c hc) j q
              | exc c =>
                cases e1
                exact p1 H2 _ B2 S3 G3
            | _ => cases e1
theorem se_call {k kk : Nat} {φ : Fn} {f : Addr} {fd : FuncData} {ps : List Str} {x : Str} {p : Pos} (F : FnOk X.prog X.w X.K X.mg X.base (L2.CX X.prog X.w) kk f fd ps (spF (tx X) k φ)) (hk : ∀ slots z, φ slots = some z → slots.length = k) (hr : Room kk X.A) (hg : Gl X x) (hm : X.mg x = some (.ref f)) (hkp : PySem.W.keepIn X.K (.ref f) = true) (hb : Binds X.K fd ps []) (tk : Takes X W)
    (ha : SA X W (a :: es) fs) (hdb : (x == ("__debug__" : Str)) = false := by decide) (he : starEach (a :: es) X.env = (false, eval a X.env) :: starEach es X.env := by rfl) (hpl : (backTo pos (starEach es X.env)).any (·.1) = false := by rfl) :
    SE X W (.Call (.Name x p) (a :: es) [] pos) (sCall φ fs) := PE.mono (pe_callS F hr hg hm hkp hb (fun σ => passAt tk σ) ha hdb he hpl) fun _ _ _ h => call_mono hk h
theorem runF_len {k n : Nat} {g : SF} : ∀ slots z, runF k n g slots = some z → slots.length = k := fun slots z h => by
  unfold runF at h
  split at h
  · rename_i hc
    exact beq_iff_eq.mp (Bool.and_eq_true_iff.mp hc).1
  · cases h

/-! ### raise -/
theorem pmk_own0 {x : Str} {C : Addr} {bmB : List Value} {B newId initId : String} {p pos : Pos} (F : ExcBaseFacts B newId initId bmB) (q : PySem.W.excIn X.K C bmB newId = true) (gC : X.mg x = some (.ref C)) (kC : PySem.W.keepIn X.K (.ref C) = true) (r : Raises X (.ref C)) (hg : Gl X x)
    (hdb : (x == ("__debug__" : Str)) = false := by decide) : PMk X (.Call (.Name x p) [] [] pos) (fun _ H Q => Q (.ref C) none H) := by
  intro pins s σ H Q I h
  refine wpAny_Call_Name_kw (ld_glob I hg gC ?_ hdb)
  refine PySem.W.callWith_K0 I.kIn kC ?_
  show wpAny _ _ (call (.ref C) []) _ _ _
  obtain ⟨bm, N, nm, qn, bs, hdct, sn, sub, ab, col, dd, k0, k1, k2, k3, k5, mN, hC, hN, hni, T⟩ := exc_obj I.kIn q
  refine wpAny_call_exc_subT F T hC hN hni (fun h' e hm => ?_) (by show 0 ≤ sizeLine; omega)
  exact mk_of I hm r h (I.hok.gone hm.new)
def sRaise (x : Str) : SF := fun env => some (.exc x, env)
theorem ss_raise {x : Str} {p pos pos2 : Pos} (hc : X.calm = true) (tk : Takes X W) (q : (He.Fa.exc x).ok X.K = true) (gC : X.mg x = some (.ref (He.ga X.K x))) (hg : Gl X x)
    (hdb : (x == ("__debug__" : Str)) = false := by decide) : SS X W (.Raise (some (.Call (.Name x p) [] [] pos)) none pos2) (sRaise x) := by
  obtain ⟨q1, q2, q3, q4⟩ := He.exc_ok q
  refine PS.mono (ps_raise hc tk (pmk_own0 PySem.F.excBase_ValueError q1 gC q2 (raises_own q3 q4) hg hdb)) fun D σ H h => ?_
  obtain ⟨env, F, B, r, env1, S, e, p⟩ := h
  cases e
  exact p σ H F B S .refl
end
end Lw

end
section
set_option Elab.async false
set_option linter.all false
set_option maxRecDepth 100000
set_option maxHeartbeats 1000000
set_option autoImplicit false
/-! Lw: lists of one's own that are changed. -/
namespace Lw
open PySem L2

section
variable {T : Tx} {env : Env} {σ : L2.St} {B H H1 : Hp} {F : Nat → List Addr} {i : Nat} {v v1 : Val} {a : Addr}
theorem own_upd (ho : own? env i = some v) {j : Nat} : own? (updOwn env i v1) j = if j = i then some v1 else own? env j := by
  unfold own?
  rw [upd_get]
  by_cases hj : j = i
  · rw [if_pos hj, if_pos hj]
    rcases own_cases ho with q | q <;> rw [q] <;> rfl
  · rw [if_neg hj, if_neg hj]
/-- the slot's own object is changed in its place -/
theorem RS.mut (S : RS T env σ B H F) (ho : own? env i = some v) (hσ : σ[i]? = some (some (.ref a))) (hm : ∀ b, b ∉ F i → H1 b = H b) (hn : OwnR T B H1 (F i) a v1) : RS T (updOwn env i v1) σ B H1 F where
  sub := fun b o e => by rw [hm b fun z => by rw [S.free i b z] at e; cases e]; exact S.sub b o e
  len := by rw [upd_len]; exact S.len
  shr := fun j u e => by
    rw [upd_get] at e
    by_cases hj : j = i
    · rw [if_pos hj] at e
      rcases own_cases ho with q | q <;> rw [q] at e <;> cases e
    · rw [if_neg hj] at e
      exact S.shr j u e
  own := fun j u e => by
    rw [own_upd ho] at e
    by_cases hj : j = i
    · rw [if_pos hj] at e
      cases e
      subst hj
      exact ⟨a, hσ, hn⟩
    · rw [if_neg hj] at e
      obtain ⟨c, h2, h3⟩ := S.own j u e
      exact ⟨c, h2, h3.mono (Same.refl _) fun b hb o q => by rw [hm b fun z => hj (S.disj j i b hb z)]; exact q⟩
  non := fun j e => by
    rw [own_upd ho] at e
    by_cases hj : j = i
    · rw [if_pos hj] at e; cases e
    · rw [if_neg hj] at e; exact S.non j e
  free := S.free
  disj := S.disj
theorem Go.mut (S : RS T env σ B H F) (ho : own? env i = some v) (hm : ∀ b, b ∉ F i → H1 b = H b) (hn : OwnR T B H1 (F i) a v1) : Go env σ H F B (updOwn env i v1) σ H1 F B where
  fr := fun b o e n => by rw [hm b (n i)]; exact e
  al := fun b e => by
    by_cases q : b ∈ F i
    · obtain ⟨u, z⟩ := hn.there b q
      rw [e] at z; cases z
    · rw [hm b q] at e; exact e
  kn := Same.refl _
  nb := fun _ _ e => .inl e
  ow := fun j b h => .inl ⟨j, h⟩
  io := fun j u e => by
    by_cases hj : j = i
    · subst hj
      exact ⟨v1, by rw [upd_get, if_pos rfl, e], rfl, fun _ q => q⟩
    · exact ⟨u, by rw [upd_get, if_neg hj]; exact e, rfl, fun _ q => q⟩
  iw := fun j u e => by
    rw [upd_get] at e
    by_cases hj : j = i
    · rw [if_pos hj] at e
      subst hj
      rcases own_cases ho with q | q
      · rw [q] at e; cases e
      · exact ⟨v, q⟩
    · rw [if_neg hj] at e; exact ⟨u, e⟩
  ln := upd_len
/-- a list of one's own -/
theorem RS.list (S : RS T env σ B H F) {xs : List Val} (ho : own? env i = some (.lst xs)) : ∃ a ys, σ[i]? = some (some (.ref a)) ∧ F i = [a] ∧ H a = some (.lst ys) ∧ RepAll T B ys xs := by
  obtain ⟨a, h1, h2⟩ := S.own i _ ho
  generalize hF : F i = fp at h2
  cases h2 with
  | lst h r => exact ⟨a, _, h1, rfl, h, r⟩
end

/-! ### methods that change a list -/
/-- the operation, on shared arguments: its value, the list behind it -/
def sMutS (i : Nat) (op : List Val → List Val → Option (Val × List Val)) (fs : List EF) : EF := fun env => match own? env i with
  | some (.lst _) => sArgs (fs.map esh) (fun os env => match own? env i, shrs os with
    | some (.lst xs), some vs => (match op xs vs with
      | some (r, xs1) => some (.val (.shr r), updOwn env i (.lst xs1))
      | none => none)
    | _, _ => none) env
  | _ => none
def MutS (T : Tx) (r : V → List V → Hp → VK → Prop) (op : List Val → List Val → Option (Val × List Val)) : Prop := ∀ B H a ys xs zs vs rv xs1, H a = some (.lst ys) → RepAll T B ys xs → RepAll T B zs vs → op xs vs = some (rv, xs1) →
  ∀ Q : VK, (∀ z ys1, RepAll T B ys1 xs1 → Rep T B z rv → Q z (upd H a (.lst ys1))) → r (.ref a) zs H Q
section
variable {X : Cx} {W : WX} {a : Expr} {es : List Expr} {fs : List EF} {pos : Pos}
theorem mutS_mono {i : Nat} {r : V → List V → Hp → VK → Prop} {op : List Val → List Val → Option (Val × List Val)} (hs : MutS (tx X) r op) {σ : L2.St} {H : Hp} {Q : VK} (h : eG (tx X) W (sMutS i op fs) σ H Q) : tBM X.K "list" r (tVar i) (aR (tx X) W (fs.map esh)) σ H Q := by
  obtain ⟨env, F, B, r0, env2, S, e, p⟩ := h
  unfold sMutS at e
  try dsimp only at e
  split at e
  · rename_i xs0 ho
    obtain ⟨l, ys, h1, hF, h2, h3⟩ := S.list ho
    refine ⟨.ref l, h1, .inl ⟨rfl, _, .of h2⟩, ?_⟩
    refine args_cut S e p fun os env1 H1 F1 B1 zs e1 S1 G1 xs1 p1 => ?_
    try dsimp only at e1
    split at e1
    · rename_i xs vs ho1 hvs
      split at e1
      · rename_i rv xs2 hop
        cases e1
        obtain ⟨l', ys', k1, kF, k2, k3⟩ := S1.list ho1
        rw [h1] at k1
        cases k1
        refine hs B1 H1 l ys' xs zs vs rv xs2 k2 k3 (xs1.shrs hvs) hop Q fun z ys1 R1 R2 => ?_
        have hm : ∀ b, b ∉ F1 i → upd H1 l (.lst ys1) b = H1 b := fun b hb => upd_ne fun q => hb (by rw [kF, q]; exact List.mem_singleton.mpr rfl)
        have hn : OwnR (tx X) B1 (upd H1 l (.lst ys1)) (F1 i) l (.lst xs2) := by rw [kF]; exact .lst upd_same R1
        exact p1 _ F1 B1 (S1.mut ho1 h1 hm hn) (Go.mut S1 ho1 hm hn) z R2
      · cases e1
    · cases e1
  · cases e
theorem se_mutS {i : Nat} {id : String} {r : V → List V → Hp → VK → Prop} {op : List Val → List Val → Option (Val × List Val)} {name : Str} {o : Expr} {apos cpos : Pos} (slot : PySem.Slot "list" name id) (hty : typeOf (.builtin id) = pure (.type "method_descriptor")) (hm : MtR X id r) (hs : MutS (tx X) r op) (ho : PE X o (tVar i)) (ha : SA X W (a :: es) (fs.map esh))
    (hbase : attributeBase o name X.env (eval o X.env) = eval o X.env := by rfl)
    (hfew : ((backTo cpos (starEach (a :: es) X.env)).all (fun x => !x.1) && (backToKw cpos (keywordEach [] X.env)).all (fun x => x.1.isSome)
      && decide ((a :: es).length + ([] : List Keyword).length + (if ([] : List Keyword).isEmpty then 0 else 1) < 30)) = true := by rfl)
    (hline : (apos.endLine == cpos.line) = true := by rfl) (hss : starEach (a :: es) X.env = (false, eval a X.env) :: starEach es X.env := by rfl) (hplain : (backTo cpos (starEach es X.env)).any (·.1) = false := by rfl) :
    SE X W (.Call (.Attribute o name apos) (a :: es) [] cpos) (sMutS i op fs) := PE.mono (pe_bm PySem.F.plainAttrs_list slot hty hm ho ha hbase hfew hline hss hplain) fun _ _ _ h => mutS_mono hs h
theorem se_mutS0 {i : Nat} {id : String} {r : V → List V → Hp → VK → Prop} {op : List Val → List Val → Option (Val × List Val)} {name : Str} {o : Expr} {apos cpos : Pos} (slot : PySem.Slot "list" name id) (hty : typeOf (.builtin id) = pure (.type "method_descriptor")) (hm : MtR X id r) (hs : MutS (tx X) r op) (ho : PE X o (tVar i))
    (hbase : attributeBase o name X.env (eval o X.env) = eval o X.env := by rfl) (hline : (apos.endLine == cpos.line) = true := by rfl) : SE X W (.Call (.Attribute o name apos) [] [] cpos) (sMutS i op []) :=
  PE.mono (pe_bm0 PySem.F.plainAttrs_list slot hty hm ho hbase hline) fun _ _ _ h => mutS_mono (fs := []) hs h
def oAppend : List Val → List Val → Option (Val × List Val) := fun xs vs => match vs with
  | [v] => if xs.length < 16000000 then some (.non, xs ++ [v]) else none
  | _ => none
def oPop : List Val → List Val → Option (Val × List Val) := fun xs vs => match vs with
  | [] => (xs[xs.length - 1]?).map fun v => (v, xs.dropLast)
  | _ => none
/-- xs.pop(j), 0 <= j -/
def oPopAt : List Val → List Val → Option (Val × List Val) := fun xs vs => match vs with
  | [.int j] => if 0 ≤ j ∧ j ≤ 16000000 then (xs[j.toNat]?).map fun v => (v, xs.eraseIdx j.toNat) else none
  | _ => none
def oInsert : List Val → List Val → Option (Val × List Val) := fun xs vs => match vs with
  | [.int j, v] => if (0 ≤ j ∧ j ≤ 16000000) ∧ xs.length < 16000000 then some (.non, xs.take j.toNat ++ [v] ++ xs.drop j.toNat) else none
  | _ => none
theorem m_append {T : Tx} : MutS T rAppend oAppend := by
  intro B H a ys xs zs vs rv xs1 h R Z e Q q
  unfold oAppend at e
  split at e
  · split at e
    · rename_i v hl
      cases e
      cases Z with
      | cons z t =>
        cases t
        exact ⟨a, ys, _, rfl, rfl, h, by rw [R.length]; exact line_lt hl, q _ _ (R.append (.cons z .nil)) .non⟩
    · cases e
  · cases e
theorem RepAll.dropLast {T : Tx} {B : Hp} {ys : List V} {vs : List Val} (h : RepAll T B ys vs) : RepAll T B ys.dropLast vs.dropLast := by
  rw [List.dropLast_eq_take, List.dropLast_eq_take, h.length]
  exact h.take _
theorem m_pop {T : Tx} : MutS T rPop oPop := by
  intro B H a ys xs zs vs rv xs1 h R Z e Q q
  unfold oPop at e
  split at e
  · cases h1 : xs[xs.length - 1]? with
    | none => rw [h1] at e; cases e
    | some v =>
      rw [h1] at e
      cases e
      cases Z
      obtain ⟨y, h2, h3⟩ := R.get h1
      exact ⟨a, ys, y, rfl, rfl, h, by rw [R.length]; exact h2, q _ _ R.dropLast h3⟩
  · cases e
theorem m_popAt {T : Tx} : MutS T rPopAt oPopAt := by
  intro B H a ys xs zs vs rv xs1 h R Z e Q q
  unfold oPopAt at e
  split at e
  · rename_i j
    split at e
    · rename_i hj
      cases h1 : xs[j.toNat]? with
      | none => rw [h1] at e; cases e
      | some v =>
        rw [h1] at e
        cases e
        cases Z with
        | cons z t =>
          cases t
          cases z
          obtain ⟨y, h2, h3⟩ := R.get h1
          have hlt : j.toNat < ys.length := lt_of_get h2
          refine ⟨a, ys, j, j.toNat, y, rfl, rfl, h, by omega, by omega, ?_, h2, q _ _ (R.eraseIdx _) h3⟩
          exact PySem.StrLaws.seqIndex_nonneg hj.1 (by omega)
    · cases e
  · cases e
theorem m_insert {T : Tx} : MutS T (fun x vs H Q => ∃ (l : Addr) (xs : List V) (i : Int) (y : V), x = .ref l ∧ vs = [.int i, y] ∧ H l = some (.lst xs) ∧ xs.length < sizeLine ∧ 0 ≤ i ∧ i < 2 ^ 63 ∧
    Q .non (upd H l (.lst (xs.take i.toNat ++ [y] ++ xs.drop i.toNat)))) oInsert := by
  intro B H a ys xs zs vs rv xs1 h R Z e Q q
  unfold oInsert at e
  split at e
  · rename_i j v
    split at e
    · rename_i hj
      cases e
      cases Z with
      | cons z t =>
        cases t with
        | cons z2 t2 =>
          cases t2
          cases z
          exact ⟨a, ys, j, _, rfl, rfl, h, by rw [R.length]; exact line_lt hj.2, hj.1.1, by omega, q _ _ (((R.take _).append (.cons z2 .nil)).append (R.drop _)) .non⟩
    · cases e
  · cases e

/-! ### xs.extend(ys) -/
def sExtend (i : Nat) (f : EF) : EF := fun env => match own? env i with
  | some (.lst _) => ebind f (fun o env => match own? env i, o.get env with
    | some (.lst xs), some (.lst vs) => if xs.length + vs.length ≤ 16000000 then some (.val (.shr .non), updOwn env i (.lst (xs ++ vs))) else none
    | _, _ => none) env
  | _ => none
theorem extend_mono {i : Nat} {f : EF} {σ : L2.St} {H : Hp} {Q : VK} (h : eG (tx X) W (sExtend i f) σ H Q) : tBM X.K "list" rExtend (tVar i) (aR (tx X) W [f]) σ H Q := by
  obtain ⟨env, F, B, r0, env2, S, e, p⟩ := h
  unfold sExtend at e
  try dsimp only at e
  split at e
  · rename_i xs0 ho
    obtain ⟨l, ys, h1, hF, h2, h3⟩ := S.list ho
    refine ⟨.ref l, h1, .inl ⟨rfl, _, .of h2⟩, ?_⟩
    show eG _ _ f σ H _
    refine run_cut S e p fun o env1 H1 F1 B1 x e1 S1 G1 x1 p1 => ?_
    try dsimp only at e1
    split at e1
    · rename_i xs vs ho1 hvs
      split at e1
      · rename_i hc
        cases e1
        obtain ⟨l', ys', k1, kF, k2, k3⟩ := S1.list ho1
        rw [h1] at k1
        cases k1
        obtain ⟨b, zs, rfl, hb, R⟩ := (x1.opr S1 hvs).lst S1.sub
        refine ⟨l, b, ys', zs, rfl, rfl, k2, hb, by rw [k3.length, R.length]; exact line_ok hc, ?_⟩
        have hm : ∀ b, b ∉ F1 i → upd H1 l (.lst (ys' ++ zs)) b = H1 b := fun b hb => upd_ne fun q => hb (by rw [kF, q]; exact List.mem_singleton.mpr rfl)
        have hn : OwnR (tx X) B1 (upd H1 l (.lst (ys' ++ zs))) (F1 i) l (.lst (xs ++ vs)) := by rw [kF]; exact .lst upd_same (k3.append R)
        exact p1 _ F1 B1 (S1.mut ho1 h1 hm hn) (Go.mut S1 ho1 hm hn) .non .non
      · cases e1
    · cases e1
  · cases e
theorem se_extend {i : Nat} {f : EF} {o : Expr} {apos cpos : Pos} (ho : PE X o (tVar i)) (ha : SA X W [a] [f])
    (hbase : attributeBase o "extend" X.env (eval o X.env) = eval o X.env := by rfl)
    (hfew : ((backTo cpos (starEach [a] X.env)).all (fun x => !x.1) && (backToKw cpos (keywordEach [] X.env)).all (fun x => x.1.isSome)
      && decide ([a].length + ([] : List Keyword).length + (if ([] : List Keyword).isEmpty then 0 else 1) < 30)) = true := by rfl)
    (hline : (apos.endLine == cpos.line) = true := by rfl) (hss : starEach [a] X.env = (false, eval a X.env) :: starEach [] X.env := by rfl) (hplain : (backTo cpos (starEach [] X.env)).any (·.1) = false := by rfl) :
    SE X W (.Call (.Attribute o "extend" apos) [a] [] cpos) (sExtend i f) := PE.mono (pe_bm PySem.F.plainAttrs_list PySem.F.slot_list_extend PySem.F.type_list_extend mt_extend ho ha hbase hfew hline hss hplain) fun _ _ _ h => extend_mono h

/-! ### xs[j] = e -/
def sSetL (i : Nat) (fi fv : EF) : SF := obind (esh fv) fun ov env1 => match own? env1 i with
  | some (.lst _) => obind fi (fun oi env => match own? env i, ov, oi.get env with
    | some (.lst xs), .shr v, some (.int j) => (match ixN xs.length j with
      | some k => some (.nx, updOwn env i (.lst (xs.set k v)))
      | none => none)
    | _, _, _ => none) env1
  | _ => none
theorem setL_mono {T : Tx} {i : Nat} {fi fv : EF} {D : Ends} {σ : L2.St} {H : Hp} (h : sG T W (sSetL i fi fv) D σ H) : tAsg (eG T W (esh fv)) (gSub (tVar i) (eG T W fi) rSetL) D σ H := by
  obtain ⟨env, F, B, r, env2, S, e, p⟩ := h
  refine ocut S e p fun ov env1 H1 F1 B1 x e1 S1 G1 x1 => ?_
  try dsimp only at e1
  split at e1
  · rename_i xs0 ho
    obtain ⟨l, ys, h1, hF, h2, h3⟩ := S1.list ho
    refine ⟨.ref l, h1, ?_⟩
    refine ocut S1 e1 (p.shift S S1 G1) fun oi env3 H2 F2 B2 y e2 S2 G2 y2 => ?_
    try dsimp only at e2
    split at e2
    · rename_i xs v j ho2 hj
      split at e2
      · rename_i k hk
        cases e2
        obtain ⟨l', ys', k1, kF, k2, k3⟩ := S2.list ho2
        rw [h1] at k1
        cases k1
        have hy := (y2.opr S2 hj).int
        subst hy
        have xr : Rep T B2 x v := Rep.mono G2.kn x1
        refine ⟨l, ys', j, k, rfl, rfl, k2, by rw [k3.length]; exact hk, ?_⟩
        have hm : ∀ b, b ∉ F2 i → upd H2 l (.lst (ys'.set k x)) b = H2 b := fun b hb => upd_ne fun q => hb (by rw [kF, q]; exact List.mem_singleton.mpr rfl)
        have hn : OwnR T B2 (upd H2 l (.lst (ys'.set k x))) (F2 i) l (.lst (xs.set k v)) := by rw [kF]; exact .lst upd_same (k3.set k xr)
        exact p σ _ F2 B2 (S2.mut ho2 h1 hm hn) ((G1.trans S S1 G2).trans S S2 (Go.mut S2 ho2 hm hn))
      · cases e2
    · cases e2
  · cases e1
theorem ss_setL {i : Nat} {fi fv : EF} {o ix e : Expr} {tpos : Pos} (ho : PE X o (tVar i)) (hi : SE X W ix fi) (he : SE X W e fv)
    (hg : ∀ v, assign (.Subscript o ix tpos) X.env v = (do
      let ov ← holding [v] (eval o X.env)
      let iv ← holding [v, ov] (eval ix X.env)
      standAt tpos
      holding [v, ov, iv] (setItem ov iv v)
      release [v, ov, iv] []) := by intro _; rfl)
    (hs : swapsWithSole [.Subscript o ix tpos] e pos.line X.env = pure false := by rfl) (hw : swappedStores [.Subscript o ix tpos] e X.env = pure none := by rfl)
    (h1 : (assignEach [.Subscript o ix tpos] X.env).map (·.2) = [assign (.Subscript o ix tpos) X.env] := by rfl) :
    SS X W (.Assign [.Subscript o ix tpos] e pos) (sSetL i fi fv) := PS.mono (ps_asg (se_esh he) (pg_sub ho hi set_list hg) hs hw h1) fun _ _ _ h => setL_mono h

/-! ### xs[j] += e -/
theorem get_list : PGet X (rIxL X.K) := by
  intro pins s σ H x y v u Q I rx ry h
  obtain ⟨p, xs, i, z, rfl, rfl, hq, he, q⟩ := h
  cases rx
  obtain ⟨t, rfl⟩ := ry
  obtain ⟨its, r, pl, hz⟩ := I.list hq
  obtain ⟨j, h1, h2, h3, h4, h5⟩ := atI_get he
  obtain ⟨w, ew, rw'⟩ := r.get h2
  have hl := r.length
  have hn := line63
  have fin : EP X pins σ Q w s := ⟨z, H, I, rw', q⟩
  by_cases h0 : 0 ≤ i
  · have hj : i.toNat = j := by
      rw [seqIndex_of h0 h5] at h1
      exact Option.some.inj h1
    exact wpAny_getItem_list pl.isList h0 (by omega) (by rw [hj]; simpa using ew) fin
  · have hj : (i + (its.toArray.size : Int)).toNat = j := by
      rw [seqIndex_neg (by omega) h4] at h1
      rw [List.size_toArray, ← hl]
      exact Option.some.inj h1
    exact wpAny_getItem_list_neg pl.isList (by omega) (by rw [List.size_toArray] <;> omega) (by omega) (by rw [hj]; simpa using ew) fin
def sAugL (i : Nat) (g : Int → Int → Int) (fi fe : EF) : SF := fun env => match own? env i with
  | some (.lst _) => obind fi (fun oi env1 => match own? env1 i, oi.get env1 with
    | some (.lst xs), some (.int j) => (match atI xs j with
      | some (.int a) => obind fe (fun oe env3 => match own? env3 i, oe.get env3 with
        | some (.lst ys), some (.int b) => (match ixN ys.length j with
          | some k => some (.nx, updOwn env3 i (.lst (ys.set k (.int (g a b)))))
          | none => none)
        | _, _ => none) env1
      | _ => none)
    | _, _ => none) env
  | _ => none
theorem RepAll.atI {T : Tx} {B : Hp} {ys : List V} {vs : List Val} {j : Int} {v : Val} (R : RepAll T B ys vs) (h : atI vs j = some v) : ∃ y, L2.atI ys j = some y ∧ Rep T B y v := by
  unfold L2.atI at h ⊢
  rw [R.length]
  cases e : ixN vs.length j with
  | none => rw [e] at h; cases h
  | some k =>
    rw [e] at h
    exact R.get h
theorem augL_mono {T : Tx} {i : Nat} {g : Int → Int → Int} {fi fe : EF} {D : Ends} {σ : L2.St} {H : Hp} (h : sG T W (sAugL i g fi fe) D σ H) : tAugS (tVar i) (eG T W fi) (eG T W fe) (rIxL T.K) (ipI g) rSetL D σ H := by
  obtain ⟨env, F, B, r, env2, S, e, p⟩ := h
  unfold sAugL at e
  try dsimp only at e
  split at e
  · rename_i xs0 ho
    obtain ⟨l, ys, h1, hF, h2, h3⟩ := S.list ho
    refine ⟨.ref l, h1, ?_⟩
    refine ocut S e p fun oi env1 H1 F1 B1 x e1 S1 G1 x1 => ?_
    try dsimp only at e1
    split at e1
    · rename_i xs j ho1 hj
      split at e1
      · rename_i a ha
        obtain ⟨l1, ys1, j1, jF, j2, j3⟩ := S1.list ho1
        rw [h1] at j1
        cases j1
        have hx := (x1.opr S1 hj).int
        subst hx
        obtain ⟨y, hy, ry⟩ := j3.atI ha
        cases ry
        refine ⟨l, ys1, j, .int a, rfl, rfl, .of j2, hy, ?_⟩
        refine ocut S1 e1 (p.shift S S1 G1) fun oe env3 H2 F2 B2 z e2 S2 G2 z2 => ?_
        try dsimp only at e2
        split at e2
        · rename_i ys b ho2 hb
          split at e2
          · rename_i k hk
            cases e2
            obtain ⟨l', ys', k1, kF, k2, k3⟩ := S2.list ho2
            rw [h1] at k1
            cases k1
            have hz := (z2.opr S2 hb).int
            subst hz
            refine ⟨a, b, rfl, rfl, l, ys', j, k, rfl, rfl, k2, by rw [k3.length]; exact hk, ?_⟩
            have hm : ∀ c, c ∉ F2 i → upd H2 l (.lst (ys'.set k (.int (g a b)))) c = H2 c := fun c hb => upd_ne fun q => hb (by rw [kF, q]; exact List.mem_singleton.mpr rfl)
            have hn : OwnR T B2 (upd H2 l (.lst (ys'.set k (.int (g a b))))) (F2 i) l (.lst (ys.set k (.int (g a b)))) := by rw [kF]; exact .lst upd_same (k3.set k (.int _))
            exact p σ _ F2 B2 (S2.mut ho2 h1 hm hn) ((G1.trans S S1 G2).trans S S2 (Go.mut S2 ho2 hm hn))
          · cases e2
        · cases e2
      · cases e1
    · cases e1
  · cases e
theorem ss_augL {i : Nat} {g : Int → Int → Int} {op : Operator} {fi fe : EF} {o ix e : Expr} {tpos : Pos} (ho : PE X o (tVar i)) (hi : SE X W ix fi) (he : SE X W e fe) (hp : PIp X op (ipI g))
    (ha : ∀ ov iv new, augStore ix ov iv new = (do holding [new, ov, iv] (setItem ov iv new); release [new, ov, iv] []; pure .next) := by intros; rfl) : SS X W (.AugAssign (.Subscript o ix tpos) op e pos) (sAugL i g fi fe) :=
  PS.mono (ps_augS ho hi get_list he hp set_list ha) fun _ _ _ h => augL_mono h
/-- x += e, ints -/
def sAug (i : Nat) (g : Int → Int → Int) (f : EF) : SF := fun env => match env[i]? with
  | some (.shr (.int a)) => obind f (fun o env1 => match o.get env1 with
    | some (.int b) => (setSlot env1 i (.shr (.int (g a b)))).map (FRes.nx, ·)
    | _ => none) env
  | _ => none
theorem aug_mono {T : Tx} {i : Nat} {g : Int → Int → Int} {f : EF} {D : Ends} {σ : L2.St} {H : Hp} (h : sG T W (sAug i g f) D σ H) : tAug i (eG T W f) (ipI g) D σ H := by
  obtain ⟨env, F, B, r, env2, S, e, p⟩ := h
  unfold sAug at e
  try dsimp only at e
  split at e
  · rename_i a ha
    obtain ⟨x, hx, rx⟩ := S.shr i _ ha
    cases rx
    refine ⟨.int a, hx, ?_⟩
    refine ocut S e p fun o env1 H1 F1 B1 y e1 S1 G1 y1 => ?_
    try dsimp only at e1
    split at e1
    · rename_i b hb
      have hy := (y1.opr S1 hb).int
      subst hy
      exact ⟨a, b, rfl, rfl, asg_end (x := .int (g a b)) p S1 G1 (show OpdR T env1 σ B1 H1 F1 H (.int (g a b)) (.shr (.int (g a b))) from .int _) e1⟩
    · cases e1
  · cases e
theorem ss_aug {i : Nat} {x : Str} {g : Int → Int → Int} {op : Operator} {f : EF} {e : Expr} {pos' : Pos} (hN : X.N.Nodup) (hi : X.N[i]? = some x) (hx : Loc X.env.scope x) (he : SE X W e f) (hp : PIp X op (ipI g)) (hf : X.fn x = true ∨ X.env.scope.names.lookup x = some .local := by first | exact .inl rfl | exact .inr rfl | assumption) :
    SS X W (.AugAssign (.Name x pos') op e pos) (sAug i g f) := PS.mono (ps_aug hN hi hx he hp hf) fun _ _ _ h => aug_mono h
end
end Lw

end
section
set_option Elab.async false
set_option linter.all false
set_option maxRecDepth 100000
set_option maxHeartbeats 1000000
set_option autoImplicit false
/-! Lw: operations. -/
namespace Lw
open PySem L2

section
variable {T : Tx} {B H : Hp}
/-- a new list of one's own -/
theorem newL {Q : VK} {xs : List V} {vs : List Val} (s : Same B H) (r : RepAll T B xs vs) (hq : ∀ z H1 B1, PG B H B1 H1 → RvR T B1 H1 H z (.new (.lst vs)) → Q z H1) : ∀ p, H p = none → Q (.ref p) (upd H p (.lst xs)) := fun p n =>
  hq _ _ _ (PG.fresh s (HO.lst xs) n) ⟨p, [p], rfl, .lst upd_same r, fun b hb => by rw [List.mem_singleton] at hb; subst hb; exact ⟨n, s.free n⟩⟩
theorem newT {Q : VK} {xs : List V} {vs : List Val} (s : Same B H) (r : RepAll T B xs vs) (hq : ∀ z H1 B1, PG B H B1 H1 → RvR T B1 H1 H z (.shr (.tup vs)) → Q z H1) : ∀ p, H p = none → Q (.ref p) (upd H p (.tup xs)) := fun p n => by
  have g := PG.new s (HO.tup xs) n
  exact hq _ _ _ g (.tup upd_same (r.mono g.kn))
theorem same0 {Q : VK} {z : V} {v : Val} (s : Same B H) (r : Rep T B z v) (hq : ∀ z H1 B1, PG B H B1 H1 → RvR T B1 H1 H z (.shr v) → Q z H1) : Q z H := hq _ _ _ (.refl s) r
theorem OprR.tupS {x : V} {vs : List Val} (h : OprR T B H x (.tup vs)) : ∃ a ys, x = .ref a ∧ B a = some (.tup ys) ∧ RepAll T B ys vs := by
  rcases h with h | ⟨a, fp, rfl, h, _⟩
  · cases h with
    | tup q r => exact ⟨_, _, rfl, q, r⟩
  · cases h
end

/-! ### + - * // % ** -/
def sz : Nat := 16000000
def oAdd : Val → Val → Option RV
  | .int i, .int j => some (.shr (.int (i + j)))
  | .str a, .str b => if a.length + b.length ≤ 16000000 then some (.shr (.str (a ++ b))) else none
  | .lst a, .lst b => if a.length + b.length ≤ 16000000 then some (.new (.lst (a ++ b))) else none
  | .tup a, .tup b => if a.length + b.length ≤ 16000000 then some (.shr (.tup (a ++ b))) else none
  | _, _ => none
section
variable {X : Cx}
abbrev rAdd (K : PySem.W.Frag) : R2 := fun x y H Q => (rI0 fun i j => .int (i + j)) x y H Q ∨ (∃ i j, x = .str i ∧ y = .str j ∧ i.length + j.length ≤ sizeLine ∧ Q (.str (i ++ j)) H) ∨ rCat x y H Q ∨ rCatA K x y H Q
theorem ho_add : OpR X (binaryOp .Add) (rAdd X.K) := op_add.or (op_add_str.or (op_cat.or op_catA))
theorem str_app (a b : List Nat) : (⟨a.toArray⟩ ++ ⟨b.toArray⟩ : Str) = ⟨(a ++ b).toArray⟩ := by
  show Str.append _ _ = _
  unfold Str.append
  simp
theorem os_add {T : Tx} : OpS T (rAdd T.K) oAdd := by
  intro B H x y vx vy rv hs hx hy e Q hq
  unfold oAdd at e
  split at e
  · cases e
    exact .inl ⟨_, _, hx.int, hy.int, same0 hs (.int _) hq⟩
  · rename_i a b
    split at e
    · rename_i hl
      cases e
      refine .inr (.inl ⟨_, _, hx.str, hy.str, line_ok (by show a.toArray.size + b.toArray.size ≤ _; simpa using hl), same0 hs ?_ hq⟩)
      rw [str_app]; exact Rep.str_mk _
    · cases e
  · rename_i a b
    split at e
    · rename_i hl
      cases e
      obtain ⟨p, xs, rfl, h1, r1⟩ := hx.lst hs
      obtain ⟨p2, ys, rfl, h2, r2⟩ := hy.lst hs
      exact .inr (.inr (.inl ⟨_, _, xs, ys, rfl, rfl, h1, h2, by rw [r1.length, r2.length]; exact line_ok hl, newL hs (r1.append r2) hq⟩))
    · cases e
  · rename_i a b
    split at e
    · rename_i hl
      cases e
      obtain ⟨p, xs, rfl, h1, r1⟩ := hx.tupS
      obtain ⟨p2, ys, rfl, h2, r2⟩ := hy.tupS
      refine .inr (.inr (.inr ⟨_, _, xs, ys, rfl, rfl, .of (hs _ _ h1), .of (hs _ _ h2), by rw [r1.length, r2.length]; exact line_ok hl, fun e => ?_, fun e1 e2 => ?_, fun _ _ => newT hs (r1.append r2) hq⟩))
      · subst e
        cases r1
        exact same0 hs (.tup h2 r2) hq
      · subst e2
        cases r2
        rw [List.append_nil] at hq
        exact same0 hs (.tup h1 r1) hq
    · cases e
  · cases e
def oSub : Val → Val → Option RV
  | .int i, .int j => some (.shr (.int (i - j)))
  | _, _ => none
abbrev rSub : R2 := rI0 fun i j => .int (i - j)
theorem ho_sub : OpR X (binaryOp .Sub) rSub := op_sub
/-- two ints to a flat value -/
theorem os_ii {T : Tx} {g : Int → Int → V} {op : Val → Val → Option RV} (h : ∀ x y rv, op x y = some rv → ∃ i j v, x = .int i ∧ y = .int j ∧ rv = .shr v ∧ ∀ B, Rep T B (g i j) v) : OpS T (rI0 g) op := by
  intro B H x y vx vy rv hs hx hy e Q hq
  obtain ⟨i, j, v, rfl, rfl, rfl, r⟩ := h _ _ _ e
  exact ⟨i, j, hx.int, hy.int, same0 hs (r B) hq⟩
theorem os_iiC {T : Tx} {C : Int → Int → Prop} {g : Int → Int → V} {op : Val → Val → Option RV} (h : ∀ x y rv, op x y = some rv → ∃ i j v, x = .int i ∧ y = .int j ∧ C i j ∧ rv = .shr v ∧ ∀ B, Rep T B (g i j) v) : OpS T (rI C g) op := by
  intro B H x y vx vy rv hs hx hy e Q hq
  obtain ⟨i, j, v, rfl, rfl, c, rfl, r⟩ := h _ _ _ e
  exact ⟨i, j, hx.int, hy.int, c, same0 hs (r B) hq⟩
theorem os_sub {T : Tx} : OpS T rSub oSub := os_ii fun x y rv e => by
  unfold oSub at e
  split at e
  · cases e; exact ⟨_, _, _, rfl, rfl, rfl, fun _ => .int _⟩
  · cases e
def oFdiv : Val → Val → Option RV
  | .int i, .int j => if 0 < j ∧ j < 1073741824 then some (.shr (.int (i / j))) else none
  | _, _ => none
theorem ho_fdiv : OpR X (binaryOp .FloorDiv) (rI CDiv fun i j => .int (i / j)) := op_fdiv
theorem os_fdiv {T : Tx} : OpS T (rI CDiv fun i j => .int (i / j)) oFdiv := os_iiC fun x y rv e => by
  unfold oFdiv at e
  split at e
  · split at e
    · rename_i h; cases e; exact ⟨_, _, _, rfl, rfl, h, rfl, fun _ => .int _⟩
    · cases e
  · cases e
def oMod : Val → Val → Option RV
  | .int i, .int j => if 0 < j then some (.shr (.int (i % j))) else none
  | _, _ => none
theorem ho_mod : OpR X (binaryOp .Mod) (rI (fun _ j => 0 < j) fun i j => .int (i % j)) := op_mod
theorem os_mod {T : Tx} : OpS T (rI (fun _ j => 0 < j) fun i j => .int (i % j)) oMod := os_iiC fun x y rv e => by
  unfold oMod at e
  split at e
  · split at e
    · rename_i h; cases e; exact ⟨_, _, _, rfl, rfl, h, rfl, fun _ => .int _⟩
    · cases e
  · cases e
def oPow : Val → Val → Option RV
  | .int i, .int j => if 0 ≤ j ∧ j ≤ 1000000 ∧ i.natAbs < 2 ^ 64 then some (.shr (.int (i ^ j.toNat))) else none
  | _, _ => none
theorem ho_pow : OpR X (binaryOp .Pow) (rI CPow fun i j => .int (i ^ j.toNat)) := op_pow
theorem os_pow {T : Tx} : OpS T (rI CPow fun i j => .int (i ^ j.toNat)) oPow := os_iiC fun x y rv e => by
  unfold oPow at e
  split at e
  · split at e
    · rename_i h; cases e; exact ⟨_, _, _, rfl, rfl, h, rfl, fun _ => .int _⟩
    · cases e
  · cases e
def tenTo60 : Int := 1000000000000000000000000000000000000000000000000000000000000
/-- one is small, or both are 10 ** 60 -/
def mulOk (i j : Int) : Bool := decide (i.natAbs < 18446744073709551616) || decide (j.natAbs < 18446744073709551616) || (decide (i = tenTo60) && decide (j = tenTo60))
def oMul : Val → Val → Option RV
  | .int i, .int j => if mulOk i j = true then some (.shr (.int (i * j))) else none
  | .lst a, .int k => if -1000000 ≤ k ∧ k ≤ 1000000 ∧ a.length ≤ 10 then some (.new (.lst (List.replicate k.toNat a).flatten)) else none
  | _, _ => none
abbrev rMul : R2 := fun x y H Q => (rI CMul fun i j => .int (i * j)) x y H Q ∨ (rI CMulW fun i j => .int (i * j)) x y H Q ∨ rRep x y H Q
theorem ho_mul : OpR X (binaryOp .Mult) rMul := op_mul.or (op_mulW.or op_rep)
theorem RepAll.rep {T : Tx} {B : Hp} {xs : List V} {vs : List Val} (r : RepAll T B xs vs) : ∀ k : Nat, RepAll T B (List.replicate k xs).flatten (List.replicate k vs).flatten
  | 0 => .nil
  | k + 1 => by
    rw [List.replicate_succ, List.replicate_succ, List.flatten_cons, List.flatten_cons]
    exact r.append (RepAll.rep r k)
theorem os_mul {T : Tx} : OpS T rMul oMul := by
  intro B H x y vx vy rv hs hx hy e Q hq
  unfold oMul at e
  split at e
  · split at e
    · rename_i hm
      cases e
      unfold mulOk at hm
      rw [Bool.or_eq_true, Bool.or_eq_true, Bool.and_eq_true] at hm
      rcases hm with (hm | hm) | ⟨h1, h2⟩
      · have h := of_decide_eq_true hm
        exact .inl ⟨_, _, hx.int, hy.int, .inl ⟨by omega, by omega⟩, same0 hs (.int _) hq⟩
      · have h := of_decide_eq_true hm
        exact .inl ⟨_, _, hx.int, hy.int, .inr ⟨by omega, by omega⟩, same0 hs (.int _) hq⟩
      · have e1 := of_decide_eq_true h1
        have e2 := of_decide_eq_true h2
        subst e1 e2
        have hw : CMulW tenTo60 tenTo60 := by
          show tenTo60.natAbs.log2 + tenTo60.natAbs.log2 < 1000000
          decide +kernel
        exact .inr (.inl ⟨_, _, hx.int, hy.int, hw, same0 hs (.int _) hq⟩)
    · cases e
  · rename_i a k
    split at e
    · rename_i hm
      cases e
      obtain ⟨p, xs, rfl, h1, r1⟩ := hx.lst hs
      refine .inr (.inr ⟨_, k, xs, rfl, hy.int, h1, by omega, by omega, ?_, newL hs (r1.rep _) hq⟩)
      refine line_ok ?_
      rw [r1.length]
      have h3 : k.toNat ≤ 1000000 := by omega
      have := Nat.mul_le_mul hm.2.2 h3
      omega
    · cases e
  · cases e
def oNeg : Val → Option RV
  | .int i => some (.shr (.int (-i)))
  | _ => none
theorem ho_neg : UnR X (unaryOp .USub) (rU fun i => .int (-i)) := un_neg
theorem os_neg {T : Tx} : OpS1 T (rU fun i => .int (-i)) oNeg := by
  intro B H x vx rv hs hx e Q hq
  unfold oNeg at e
  split at e
  · cases e; exact ⟨_, hx.int, same0 hs (.int _) hq⟩
  · cases e

/-! ### < <= > >= -/
def oLt : Val → Val → Option RV
  | .int i, .int j => some (.shr (.bl (decide (i < j))))
  | _, _ => none
def oLe : Val → Val → Option RV
  | .int i, .int j => some (.shr (.bl (decide (i ≤ j))))
  | _, _ => none
def oGt : Val → Val → Option RV
  | .int i, .int j => some (.shr (.bl (decide (j < i))))
  | _, _ => none
def oGe : Val → Val → Option RV
  | .int i, .int j => some (.shr (.bl (decide (j ≤ i))))
  | _, _ => none
theorem ho_lt : OpR X (compareOp .Lt) (rI0 fun i j => .bl (decide (i < j))) := op_lt
theorem ho_le : OpR X (compareOp .LtE) (rI0 fun i j => .bl (decide (i ≤ j))) := op_le
theorem ho_gt : OpR X (compareOp .Gt) (rI0 fun i j => .bl (decide (j < i))) := op_gt
theorem ho_ge : OpR X (compareOp .GtE) (rI0 fun i j => .bl (decide (j ≤ i))) := op_ge
theorem os_lt {T : Tx} : OpS T (rI0 fun i j => .bl (decide (i < j))) oLt := os_ii fun x y rv e => by
  unfold oLt at e
  split at e
  · cases e; exact ⟨_, _, _, rfl, rfl, rfl, fun _ => .bl _⟩
  · cases e
theorem os_le {T : Tx} : OpS T (rI0 fun i j => .bl (decide (i ≤ j))) oLe := os_ii fun x y rv e => by
  unfold oLe at e
  split at e
  · cases e; exact ⟨_, _, _, rfl, rfl, rfl, fun _ => .bl _⟩
  · cases e
theorem os_gt {T : Tx} : OpS T (rI0 fun i j => .bl (decide (j < i))) oGt := os_ii fun x y rv e => by
  unfold oGt at e
  split at e
  · cases e; exact ⟨_, _, _, rfl, rfl, rfl, fun _ => .bl _⟩
  · cases e
theorem os_ge {T : Tx} : OpS T (rI0 fun i j => .bl (decide (j ≤ i))) oGe := os_ii fun x y rv e => by
  unfold oGe at e
  split at e
  · cases e; exact ⟨_, _, _, rfl, rfl, rfl, fun _ => .bl _⟩
  · cases e
end

/-! ### == -/
mutual
def toD : Val → Option PyData
  | .non => some .none
  | .bl b => some (.bool b)
  | .int i => some (.int i)
  | .str x => some (.str ⟨x.toArray⟩)
  | .lst xs => (toDs xs).map .list
  | .tup xs => (toDs xs).map .tuple
  | .scr ns => some (.list (ns.map .int))
  | _ => none
def toDs : List Val → Option (List PyData)
  | [] => some []
  | x :: xs => match toD x, toDs xs with
    | some d, some ds => some (d :: ds)
    | _, _ => none
end
section
variable {T : Tx} {B H : Hp}
theorem dpInts : ∀ ns : List Int, DpAll T.K H (ns.map V.int) (ns.map PyData.int)
  | [] => .nil
  | n :: ns => .cons (.int n) (dpInts ns)
mutual
theorem Rep.dp (s : Same B H) {x : V} {v : Val} {d : PyData} (h : Rep T B x v) (e : toD v = some d) : Dp T.K H x d := by
  cases h with
  | non => cases e; exact .non
  | bl b => cases e; exact .bl b
  | int i => cases e; exact .int i
  | str z => cases e; exact .str z
  | lst h r =>
    unfold toD at e
    obtain ⟨ds, e1, rfl⟩ := Option.map_eq_some_iff.mp e
    exact .lst (.of (s _ _ h)) (RepAll.dp s r e1)
  | tup h r =>
    unfold toD at e
    obtain ⟨ds, e1, rfl⟩ := Option.map_eq_some_iff.mp e
    exact .tup (.of (s _ _ h)) (RepAll.dp s r e1)
  | scr h =>
    cases e
    exact .lst (same_l s h) (dpInts _)
  | dct h d r q => cases e
  | ins h c n r => cases e
  | ty n => cases e
  | glo x => cases e
theorem RepAll.dp (s : Same B H) {xs : List V} {vs : List Val} {ds : List PyData} (h : RepAll T B xs vs) (e : toDs vs = some ds) : DpAll T.K H xs ds := by
  cases h with
  | nil => cases e; exact .nil
  | cons a b =>
    unfold toDs at e
    split at e
    · rename_i d ds e1 e2
      cases e
      exact .cons (Rep.dp s a e1) (RepAll.dp s b e2)
    · cases e
end

theorem OprR.dp (s : Same B H) {x : V} {v : Val} {d : PyData} (h : OprR T B H x v) (e : toD v = some d) : Dp T.K H x d := by
  rcases h with h | ⟨a, fp, rfl, h, _⟩
  · exact h.dp s e
  · cases h with
    | lst q r =>
      unfold toD at e
      obtain ⟨ds, e1, rfl⟩ := Option.map_eq_some_iff.mp e
      exact .lst (.of q) (r.dp s e1)
    | dct => cases e
    | ins => cases e
end
def vEq (x y : Val) : Option Bool := match toD x, toD y with
  | some d, some e => if SeqAt.shaped d = true ∧ SeqAt.shaped e = true then some (PyData.eqv d e) else none
  | _, _ => none
def oEq (x y : Val) : Option RV := (vEq x y).map fun b => .shr (.bl b)
def oNe (x y : Val) : Option RV := (vEq x y).map fun b => .shr (.bl (!b))
section
variable {X : Cx} {T : Tx}
theorem vEq_inv {x y : Val} {b : Bool} (h : vEq x y = some b) : ∃ d e, toD x = some d ∧ toD y = some e ∧ SeqAt.shaped d = true ∧ SeqAt.shaped e = true ∧ b = PyData.eqv d e := by
  unfold vEq at h
  split at h
  · rename_i d e h1 h2
    split at h
    · rename_i h3
      cases h
      exact ⟨d, e, h1, h2, h3.1, h3.2, rfl⟩
    · cases h
  · cases h
theorem os_eq : OpS T (rEqD T.K) oEq := by
  intro B H x y vx vy rv hs hx hy e Q hq
  obtain ⟨b, h, rfl⟩ := Option.map_eq_some_iff.mp e
  obtain ⟨d, d', h1, h2, h3, h4, rfl⟩ := vEq_inv h
  exact ⟨d, d', hx.dp hs h1, hy.dp hs h2, h3, h4, same0 hs (.bl _) hq⟩
theorem os_ne : OpS T (rNeD T.K) oNe := by
  intro B H x y vx vy rv hs hx hy e Q hq
  obtain ⟨b, h, rfl⟩ := Option.map_eq_some_iff.mp e
  obtain ⟨d, d', h1, h2, h3, h4, rfl⟩ := vEq_inv h
  exact ⟨d, d', hx.dp hs h1, hy.dp hs h2, h3, h4, same0 hs (.bl _) hq⟩
theorem ho_eq (hu : X.A.units + 64 < cLine) : OpR X (compareOp .Eq) (rEqD X.K) := op_eqD hu
theorem ho_ne (hu : X.A.units + 64 < cLine) : OpR X (compareOp .NotEq) (rNeD X.K) := op_neD hu

/-! ### in, not in -/
def ints? : List Val → Option (List Int)
  | [] => some []
  | .int i :: vs => (ints? vs).map (i :: ·)
  | _ => none
theorem RepAll.ints? {B : Hp} : ∀ {xs : List V} {vs : List Val} {ns : List Int}, RepAll T B xs vs → ints? vs = some ns → xs = ns.map V.int
  | _, _, _, .nil, e => by cases e; rfl
  | _, _, ns, .cons (v := v) a b, e => by
    cases v with
    | int i =>
      unfold Lw.ints? at e
      obtain ⟨ms, e1, rfl⟩ := Option.map_eq_some_iff.mp e
      rw [a.int_inv, RepAll.ints? b e1]; rfl
    | _ => cases e
def strs? : List Val → Option (List (List Nat))
  | [] => some []
  | .str i :: vs => (strs? vs).map (i :: ·)
  | _ => none
theorem RepAll.strs? {B : Hp} : ∀ {xs : List V} {vs : List Val} {ns : List (List Nat)}, RepAll T B xs vs → strs? vs = some ns → xs = (ns.map fun l => (⟨l.toArray⟩ : Str)).map V.str
  | _, _, _, .nil, e => by cases e; rfl
  | _, _, ns, .cons (v := v) a b, e => by
    cases v with
    | str i =>
      unfold Lw.strs? at e
      obtain ⟨ms, e1, rfl⟩ := Option.map_eq_some_iff.mp e
      rw [a.str_inv, RepAll.strs? b e1]; rfl
    | _ => cases e
def bls? : List Val → Option (List Bool)
  | [] => some []
  | .bl i :: vs => (bls? vs).map (i :: ·)
  | _ => none
theorem RepAll.bls? {B : Hp} : ∀ {xs : List V} {vs : List Val} {ns : List Bool}, RepAll T B xs vs → bls? vs = some ns → xs = ns.map V.bl
  | _, _, _, .nil, e => by cases e; rfl
  | _, _, ns, .cons (v := v) a b, e => by
    cases v with
    | bl i =>
      unfold Lw.bls? at e
      obtain ⟨ms, e1, rfl⟩ := Option.map_eq_some_iff.mp e
      rw [a.bl_inv, RepAll.bls? b e1]; rfl
    | _ => cases e
def vIn : Val → Val → Option Bool
  | .str [c], .str z => some (decide (c ∈ z))
  | x, .lst ys => match toD x, toDs ys with
    | some d, some ds => if SeqAt.shaped d = true ∧ SeqAt.shaped (.list ds) = true then some (ds.any fun z => PyData.eqv z d) else none
    | _, _ => none
  | .int i, .tup ys => (ints? ys).map fun ns => ns.contains i
  | .str i, .tup ys => (strs? ys).map fun ns => ns.contains i
  | _, _ => none
def oIn (x y : Val) : Option RV := (vIn x y).map fun b => .shr (.bl b)
def oNotIn (x y : Val) : Option RV := (vIn x y).map fun b => .shr (.bl (!b))
abbrev rInA (K : PySem.W.Frag) (n : Bool) : R2 := fun x y H Q => (∃ (c : Nat) (z : Str), x = .str ⟨#[c]⟩ ∧ y = .str z ∧ Q (.bl (n ^^ decide (c ∈ z.cps.toList))) H) ∨
  (∃ d ds, Dp K H x d ∧ Dp K H y (.list ds) ∧ SeqAt.shaped d = true ∧ SeqAt.shaped (.list ds) = true ∧ Q (.bl (n ^^ ds.any fun z => PyData.eqv z d)) H) ∨ rIn K n x y H Q
theorem ho_in (hu : X.A.units + 65 < cLine) : OpR X (compareOp .In) (rInA X.K false) := by
  have h := (op_in_sign (X := X)).or ((op_inD hu).or op_in_seq)
  intro pins s σ H x y v u Q I rx ry q
  refine h pins s σ H x y v u Q I rx ry ?_
  rcases q with ⟨c, z, e1, e2, q⟩ | ⟨d, ds, h1, h2, h3, h4, q⟩ | q
  · rw [Bool.false_xor] at q; exact .inl ⟨c, z, e1, e2, q⟩
  · rw [Bool.false_xor] at q; exact .inr (.inl ⟨d, ds, h1, h2, h3, h4, q⟩)
  · exact .inr (.inr q)
theorem ho_notin (hu : X.A.units + 65 < cLine) : OpR X (compareOp .NotIn) (rInA X.K true) := by
  have h := (op_notIn_sign (X := X)).or ((op_notInD hu).or op_notIn_seq)
  intro pins s σ H x y v u Q I rx ry q
  refine h pins s σ H x y v u Q I rx ry ?_
  rcases q with ⟨c, z, e1, e2, q⟩ | ⟨d, ds, h1, h2, h3, h4, q⟩ | q
  · rw [Bool.true_xor] at q; exact .inl ⟨c, z, e1, e2, q⟩
  · rw [Bool.true_xor] at q; exact .inr (.inl ⟨d, ds, h1, h2, h3, h4, q⟩)
  · exact .inr (.inr q)
theorem inV_ints (i : Int) : ∀ ns : List Int, inV (.int i) (ns.map V.int) = ns.contains i
  | [] => rfl
  | n :: ns => by
    have ih := inV_ints i ns
    unfold inV at ih ⊢
    rw [List.map_cons, List.any_cons, ih, List.contains_cons]
    congr 1
    show (n == i) = (i == n)
    exact Bool.beq_comm
theorem str_beq (a b : List Nat) : ((⟨a.toArray⟩ : Str) == ⟨b.toArray⟩) = (a == b) := by
  rw [Bool.eq_iff_iff, beq_iff_eq, beq_iff_eq]
  constructor
  · intro h; injection h with h; simpa using congrArg Array.toList h
  · intro h; rw [h]
theorem inV_strs (i : List Nat) : ∀ ns : List (List Nat), inV (.str ⟨i.toArray⟩) ((ns.map fun l => (⟨l.toArray⟩ : Str)).map V.str) = ns.contains i
  | [] => rfl
  | n :: ns => by
    have ih := inV_strs i ns
    unfold inV at ih ⊢
    rw [List.map_cons, List.map_cons, List.any_cons, ih, List.contains_cons]
    congr 1
    show ((⟨n.toArray⟩ : Str) == ⟨i.toArray⟩) = (i == n)
    rw [str_beq]
    exact Bool.beq_comm
theorem flat_ints : ∀ ns : List Int, (ns.map V.int).all flatV = true
  | [] => rfl
  | n :: ns => by rw [List.map_cons, List.all_cons, flat_ints ns]; rfl
theorem flat_strs' : ∀ ns : List Str, (ns.map V.str).all flatV = true
  | [] => rfl
  | n :: ns => by rw [List.map_cons, List.all_cons, flat_strs' ns]; rfl
theorem os_inA (n : Bool) {op : Val → Val → Option RV} (ho : ∀ x y, op x y = (vIn x y).map fun b => .shr (.bl (n ^^ b))) : OpS T (rInA T.K n) op := by
  intro B H x y vx vy rv hs hx hy e Q hq
  rw [ho] at e
  obtain ⟨b, h, rfl⟩ := Option.map_eq_some_iff.mp e
  have fin := same0 hs (.bl (n ^^ b)) hq
  unfold vIn at h
  split at h
  · cases h
    exact .inl ⟨_, _, hx.str, hy.str, fin⟩
  · rename_i ys _
    split at h
    · rename_i d ds h1 h2
      split at h
      · rename_i h3
        cases h
        exact .inr (.inl ⟨d, ds, hx.dp hs h1, hy.dp hs (by unfold toD; rw [h2]; rfl), h3.1, h3.2, fin⟩)
      · cases h
    · cases h
  · obtain ⟨ns, h1, rfl⟩ := Option.map_eq_some_iff.mp h
    obtain ⟨a, zs, rfl, h2, r⟩ := hy.tup hs
    have e3 := r.ints? h1
    subst e3
    have ex := hx.int
    subst ex
    refine .inr (.inr ⟨a, _, rfl, .inr (.of h2), rfl, flat_ints _, ?_⟩)
    rw [inV_ints]
    cases n
    · rw [if_neg Bool.false_ne_true]; rw [Bool.false_xor] at fin; exact fin
    · rw [if_pos rfl]; rw [Bool.true_xor] at fin; exact fin
  · obtain ⟨ns, h1, rfl⟩ := Option.map_eq_some_iff.mp h
    obtain ⟨a, zs, rfl, h2, r⟩ := hy.tup hs
    have e3 := r.strs? h1
    subst e3
    have ex := hx.str
    subst ex
    refine .inr (.inr ⟨a, _, rfl, .inr (.of h2), rfl, flat_strs' _, ?_⟩)
    rw [inV_strs]
    cases n
    · rw [if_neg Bool.false_ne_true]; rw [Bool.false_xor] at fin; exact fin
    · rw [if_pos rfl]; rw [Bool.true_xor] at fin; exact fin
  · cases h
theorem os_in : OpS T (rInA T.K false) oIn := os_inA false fun x y => by unfold oIn; congr 1; funext b; rw [Bool.false_xor]
theorem os_notin : OpS T (rInA T.K true) oNotIn := os_inA true fun x y => by unfold oNotIn; congr 1; funext b; rw [Bool.true_xor]

/-! ### is -/
def isNon : Val → Bool
  | .non => true
  | _ => false
def oIs (x y : Val) : Option RV := match x, y with
  | .bl a, .bl b => some (.shr (.bl (decide (a = b))))
  | x, .non => some (.shr (.bl (isNon x)))
  | _, _ => none
def oIsNot (x y : Val) : Option RV := match x, y with
  | .bl a, .bl b => some (.shr (.bl (!decide (a = b))))
  | x, .non => some (.shr (.bl (!isNon x)))
  | _, _ => none
abbrev rIs : R2 := fun x y H Q => rIsB x y H Q ∨ (y = .non ∧ Q (.bl (decide (x = .non))) H)
abbrev rIsNot : R2 := fun x y H Q => rNotB x y H Q ∨ (y = .non ∧ Q (.bl (!decide (x = .non))) H)
theorem ho_is : OpR X (compareOp .Is) rIs := op_isBl.or op_isN
theorem ho_isnot : OpR X (compareOp .IsNot) rIsNot := op_notBl.or op_notN
theorem non_dec {B H : Hp} {x : V} {v : Val} (h : OprR T B H x v) : decide (x = .non) = isNon v := by
  rcases h with h | ⟨a, fp, rfl, h, _⟩
  · cases h <;> simp [isNon]
  · cases h <;> simp [isNon]
theorem os_is : OpS T rIs oIs := by
  intro B H x y vx vy rv hs hx hy e Q hq
  unfold oIs at e
  split at e
  · cases e; exact .inl ⟨_, _, hx.bl, hy.bl, same0 hs (.bl _) hq⟩
  · cases e
    refine .inr ⟨hy.non, ?_⟩
    rw [non_dec hx]; exact same0 hs (.bl _) hq
  · cases e
theorem os_isnot : OpS T rIsNot oIsNot := by
  intro B H x y vx vy rv hs hx hy e Q hq
  unfold oIsNot at e
  split at e
  · cases e; exact .inl ⟨_, _, hx.bl, hy.bl, same0 hs (.bl _) hq⟩
  · cases e
    refine .inr ⟨hy.non, ?_⟩
    rw [non_dec hx]; exact same0 hs (.bl _) hq
  · cases e
end
end Lw

end
section
set_option Elab.async false
set_option linter.all false
set_option maxRecDepth 100000
set_option maxHeartbeats 1000000
set_option autoImplicit false
/-! Lw: subscripts, slices, chains, built-in functions, methods of texts. -/
namespace Lw
open PySem L2

/-! ### a[i] -/
def oIx : Val → Val → Option RV
  | .lst xs, .int i => (atI xs i).map .shr
  | .tup xs, .int i => (atI xs i).map .shr
  | .scr ns, .int i => (atI ns i).map fun n => .shr (.int n)
  | .str z, .int i => if z.length ≤ 16000000 then (atI z i).map fun c => .shr (.str [c]) else none
  | _, _ => none
section
variable {X : Cx} {T : Tx}
theorem atI_rep {B : Hp} {ys : List V} {vs : List Val} {i : Int} {v : Val} (r : RepAll T B ys vs) (h : atI vs i = some v) : ∃ y, atI ys i = some y ∧ Rep T B y v := by
  unfold atI at h ⊢
  rw [r.length]
  obtain ⟨j, h1, h2⟩ := Option.bind_eq_some_iff.mp h
  obtain ⟨y, h3, h4⟩ := r.get h2
  exact ⟨y, by rw [h1]; exact h3, h4⟩
theorem ho_ix : IxR X (rIx X.K) := ix_seq
theorem os_ix : OpS T (rIx T.K) oIx := by
  intro B H x y vx vy rv hs hx hy e Q hq
  unfold oIx at e
  split at e
  · obtain ⟨v, h, rfl⟩ := Option.map_eq_some_iff.mp e
    obtain ⟨a, ys, rfl, h1, r⟩ := hx.lst hs
    obtain ⟨z, h2, h3⟩ := atI_rep r h
    exact .inl ⟨a, ys, _, z, rfl, hy.int, .of h1, h2, same0 hs h3 hq⟩
  · obtain ⟨v, h, rfl⟩ := Option.map_eq_some_iff.mp e
    obtain ⟨a, ys, rfl, h1, r⟩ := hx.tup hs
    obtain ⟨z, h2, h3⟩ := atI_rep r h
    exact .inr (.inl ⟨a, ys, _, z, rfl, hy.int, .of h1, h2, same0 hs h3 hq⟩)
  · obtain ⟨v, h, rfl⟩ := Option.map_eq_some_iff.mp e
    obtain ⟨a, rfl, h1⟩ := hx.scr hs
    refine .inl ⟨a, _, _, .int v, rfl, hy.int, h1, ?_, same0 hs (.int _) hq⟩
    unfold atI at h ⊢
    obtain ⟨j, h1, h2⟩ := Option.bind_eq_some_iff.mp h
    rw [List.length_map, h1]
    show (List.map V.int _)[j]? = _
    rw [List.getElem?_map, h2]; rfl
  · split at e
    · rename_i hl
      obtain ⟨c, h, rfl⟩ := Option.map_eq_some_iff.mp e
      exact .inr (.inr ⟨_, _, c, hx.str, hy.int, line_ok (by show _root_.Array.size _ ≤ _; simpa using hl), h, same0 hs (Rep.of_str rfl) hq⟩)
    · cases e
  · cases e

/-! ### slices -/
def cutG {α : Type} (xs : List α) (lo hi : Option Int) : List α := (xs.drop (HT.sIx xs.length 0 lo)).take (HT.sIx xs.length xs.length hi - HT.sIx xs.length 0 lo)
def oSl (v : Val) (lo hi : Option Int) : Option RV := match v with
  | .lst xs => some (.new (.lst (cutG xs lo hi)))
  | .tup xs => some (.shr (.tup (cutG xs lo hi)))
  | .str z => if z.length ≤ 16000000 then some (.shr (.str (cutG z lo hi))) else none
  | _ => none
abbrev rSl (K : PySem.W.Frag) : V → Option Int → Option Int → Hp → VK → Prop := fun x lo hi H Q => rSlL K x lo hi H Q ∨ rSlS x lo hi H Q ∨ rSlA K x lo hi H Q
theorem ho_sl : SlR X (rSl X.K) := sl_list.or (sl_str.or sl_tupA)
theorem cut_rep {B : Hp} {ys : List V} {vs : List Val} (r : RepAll T B ys vs) (lo hi : Option Int) : RepAll T B (cutV ys lo hi) (cutG vs lo hi) := by
  unfold cutV cutG
  rw [r.length]
  exact (r.drop _).take _
def OpSl (T : Tx) (r : V → Option Int → Option Int → Hp → VK → Prop) (op : Val → Option Int → Option Int → Option RV) : Prop := ∀ B H x vx lo hi rv, Same B H → OprR T B H x vx → op vx lo hi = some rv →
  ∀ Q : VK, (∀ z H1 B1, PG B H B1 H1 → RvR T B1 H1 H z rv → Q z H1) → r x lo hi H Q
theorem os_sl : OpSl T (rSl T.K) oSl := by
  intro B H x vx lo hi rv hs hx e Q hq
  unfold oSl at e
  split at e
  · cases e
    obtain ⟨a, ys, rfl, h1, r⟩ := hx.lst hs
    exact .inl ⟨a, ys, rfl, .of h1, newL hs (cut_rep r lo hi) hq⟩
  · cases e
    obtain ⟨a, ys, rfl, h1, r⟩ := hx.tupS
    refine .inr (.inr ⟨a, ys, rfl, .of (hs _ _ h1), fun ⟨e1, e2⟩ => ?_, fun _ => newT hs (cut_rep r lo hi) hq⟩)
    refine same0 hs (.tup h1 ?_) hq
    have := cut_rep r lo hi
    unfold cutV at this
    rw [e1, e2] at this
    simpa using this
  · split at e
    · rename_i z hl
      cases e
      refine .inr (.inl ⟨_, hx.str, line_ok (by show _root_.Array.size _ ≤ _; simpa using hl), same0 hs ?_ hq⟩)
      refine Rep.of_str ?_
      unfold cutS cutG
      simp [Str.length]
    · cases e
  · cases e
def ebindP (g : Option EF) (k : Option Int → EF) : EF := match g with
  | none => k none
  | some g => ebind g fun o => match o with
    | .shr (.int i) => k (some i)
    | _ => fun _ => none
def tO (T : Tx) (W : WX) : Option EF → TO
  | none => tNoPart
  | some g => tPart (eG T W g)
abbrev SO (X : Cx) (W : WX) (e : Option Expr) (g : Option EF) : Prop := PO X e (tO (tx X) W g)
variable {W : WX} {a b c : Expr} {f g k : EF} {pos p2 : Pos}
theorem so_none : SO X W none none := po_none
theorem so_some (h : SE X W a f) : SO X W (some a) (some f) := po_some h
def sSl (op : Val → Option Int → Option Int → Option RV) (f : EF) (lo hi : Option EF) : EF := ebind f fun o => ebindP lo fun l => ebindP hi fun h env => match o.get env with
  | some v => (match op v l h with | some r => some (.val r.opd, env) | none => none)
  | none => none
theorem part_cut {Q : VK} {Hs : Hp} {σ : L2.St} {r : ERes} {env env2 : Env} {H B : Hp} {F : Nat → List Addr} {g : Option EF} {k : Option Int → EF} (S : RS T env σ B H F) (e : ebindP g k env = some (r, env2)) (p : Post T W Q Hs env σ H F B env2 r)
    {Q' : Option Int → Hp → Prop} (hq : ∀ o env1 H1 F1 B1, k o env1 = some (r, env2) → RS T env1 σ B1 H1 F1 → Go env σ H F B env1 σ H1 F1 B1 → Post T W Q Hs env1 σ H1 F1 B1 env2 r → Q' o H1) : tO T W g σ H Q' := by
  cases g with
  | none => exact hq none env H F B e S .refl p
  | some g =>
    refine run_cut S e p fun o env1 H1 F1 B1 x e1 S1 G1 x1 p1 => ?_
    try dsimp only at e1
    split at e1
    · exact ⟨_, Rep.int_inv x1, hq _ _ _ _ _ e1 S1 G1 p1⟩
    · cases e1
theorem se_sl {r : V → Option Int → Option Int → Hp → VK → Prop} {op : Val → Option Int → Option Int → Option RV} {lo hi : Option Expr} {gl gh : Option EF} (hr : SlR X r) (hs : OpSl (tx X) r op) (he : SE X W a f) (hl : SO X W lo gl) (hh : SO X W hi gh) :
    SE X W (.Subscript a (.Slice lo hi none p2) pos) (sSl op f gl gh) := by
  refine PE.mono (pe_slice hr he hl hh) fun σ H Q q => ?_
  obtain ⟨env, F, B, r0, env2, S, e, p⟩ := q
  refine run_cut S e p fun o env1 H1 F1 B1 x e1 S1 G1 x1 p1 => ?_
  refine part_cut S1 e1 p1 fun l env3 H2 F2 B2 e2 S2 G2 p2 => ?_
  refine part_cut S2 e2 p2 fun h env4 H3 F3 B3 e3 S3 G3 p3 => ?_
  try dsimp only at e3
  split at e3
  · rename_i v hv
    split at e3
    · rename_i rv hrv
      cases e3
      have x3 := ((x1.go S1 S2 G2).go S2 S3 G3).opr S3 hv
      exact hs B3 H3 x v l h rv S3.sub x3 hrv Q fun z H4 B4 g h => p3.done S3 (fun a q => G1.al a (G2.al a (G3.al a q))) g h
    · cases e3
  · cases e3
/-- xs[::-1] of a list -/
def oRev : Val → Option RV
  | .lst xs => some (.new (.lst xs.reverse))
  | _ => none
def sRev (f : EF) : EF := sUn oRev f
theorem se_rev {k : Nat} {p1 p2 p3 : Pos} (he : SE X W a f) : SE X W (.Subscript a (.Slice none none (some (.UnaryOp .USub (.Constant (.int 1) k p1) p2)) p3) pos) (sRev f) := by
  refine PE.mono (pe_revL he) fun σ H Q q => ?_
  exact un_mono (X := X) (r := fun x H1 Q => ∃ a xs, x = .ref a ∧ SqL X.K H1 a xs ∧ ∀ p, H1 p = none → Q (.ref p) (upd H1 p (.lst xs.reverse))) (fun B H1 x v rv hs hx e Q hq => by
    unfold oRev at e
    split at e
    · cases e
      obtain ⟨a, ys, rfl, h1, r⟩ := hx.lst hs
      exact ⟨a, ys, rfl, .of h1, newL hs r.reverse hq⟩
    · cases e) σ H Q q

/-! ### a <= b <= c -/
def eChain (op op' : Val → Val → Option RV) (x y : Opd) (h : EF) : EF := fun env => match x.get env, y.get env with
  | some vx, some vy => (match op vx vy with
    | some (.shr (.bl true)) => ebind h (fun z => eop2 op' y z) env
    | some (.shr (.bl false)) => some (.val (.shr (.bl false)), env)
    | _ => none)
  | _, _ => none
def sChain (op op' : Val → Val → Option RV) (f g h : EF) : EF := ebind f fun x => ebind g fun y => eChain op op' x y h
theorem chain_mono {r r' : R2} {op op' : Val → Val → Option RV} (hs : OpS T r op) (hs' : OpS T r' op') {σ : L2.St} {H : Hp} {Q : VK} (q : eG T W (sChain op op' f g k) σ H Q) : tChain r r' (eG T W f) (eG T W g) (eG T W k) σ H Q := by
  obtain ⟨env, F, B, r0, env2, S, e, p⟩ := q
  refine run_cut S e p fun x env1 H1 F1 B1 v1 e1 S1 G1 x1 p1 => ?_
  refine run_cut S1 e1 p1 fun y env3 H2 F2 B2 v2 e2 S2 G2 x2 p2 => ?_
  unfold eChain at e2
  split at e2
  · rename_i vx vy hx hy
    have o1 := (x1.go S1 S2 G2).opr S2 hx
    have o2 := x2.opr S2 hy
    split at e2
    · rename_i hop
      refine hs B2 H2 v1 v2 vx vy _ S2.sub o1 o2 hop _ fun z H3 B3 g3 h3 => ⟨true, Rep.bl_inv h3, iteT ?_⟩
      have S3 := g3.rs S2
      have G3 : Go env3 σ H2 F2 B2 env3 σ H3 F2 B3 := g3.go
      refine run_cut S3 e2 (p2.shift S2 S3 G3) fun z env4 H4 F4 B4 v4 e4 S4 G4 x4 p4 => ?_
      unfold eop2 at e4
      split at e4
      · rename_i wx wy hwx hwy
        split at e4
        · rename_i rv hrv
          cases e4
          exact hs' B4 H4 v2 v4 wx wy rv S4.sub (((x2.go S2 S3 G3).go S3 S4 G4).opr S4 hwx) (x4.opr S4 hwy) hrv Q fun z H5 B5 g h => p4.done S4 (fun a q => G1.al a (G2.al a (G3.al a (G4.al a q)))) g h
        · cases e4
      · cases e4
    · rename_i hop
      cases e2
      refine hs B2 H2 v1 v2 vx vy _ S2.sub o1 o2 hop _ fun z H3 B3 g3 h3 => ⟨false, Rep.bl_inv h3, iteF ?_⟩
      exact p2.done (rv := .shr (.bl false)) S2 (fun a q => G1.al a (G2.al a q)) g3 (.bl false)
    · cases e2
  · cases e2
theorem se_chain {op op' : CmpOp} {r r' : R2} {opv opv' : Val → Val → Option RV} (ho : OpR X (compareOp op) r) (hs : OpS (tx X) r opv) (ho' : OpR X (compareOp op') r') (hs' : OpS (tx X) r' opv') (ha : SE X W a f) (hb : SE X W b g) (hc : SE X W c k)
    (hm : lastMarks [op, op'] [b, c] = false := by with_unfolding_all rfl) : SE X W (.Compare a [op, op'] [b, c] pos) (sChain opv opv' f g k) :=
  PE.mono (pe_chain ho ho' ha hb hc hm) fun _ _ _ q => chain_mono hs hs' q
theorem st_chain {op op' : CmpOp} {r r' : R2} {opv opv' : Val → Val → Option RV} (ho : OpR X (compareOp op) r) (hs : OpS (tx X) r opv) (ho' : OpR X (compareOp op') r') (hs' : OpS (tx X) r' opv') (ha : SE X W a f) (hb : SE X W b g) (hc : SE X W c k)
    (hm : lastMarks [op, op'] [b, c] = false := by with_unfolding_all rfl) : ST X W (.Compare a [op, op'] [b, c] pos) (sChain opv opv' f g k) :=
  PT.mono (pt_chain ho ho' ha hb hc hm) fun _ _ _ q => chain_mono hs hs' (eG_of_tG q)

/-! ### built-in functions -/
theorem OprsR.one {B H : Hp} {xs : List V} {v : Val} (h : OprsR T B H xs [v]) : ∃ x, xs = [x] ∧ OprR T B H x v := by
  cases h with
  | cons a t => cases t; exact ⟨_, rfl, a⟩
theorem OprsR.two {B H : Hp} {xs : List V} {v w : Val} (h : OprsR T B H xs [v, w]) : ∃ x y, xs = [x, y] ∧ OprR T B H x v ∧ OprR T B H y w := by
  cases h with
  | cons a t => cases t with | cons b t => cases t; exact ⟨_, _, rfl, a, b⟩
theorem OprR.seq {B H : Hp} (hs : Same B H) {x : V} {vs : List Val} (h : OprR T B H x (.lst vs)) : ∃ a ys, x = .ref a ∧ SqL T.K H a ys ∧ RepAll T B ys vs := by
  obtain ⟨a, ys, e, h1, r⟩ := h.lst hs
  exact ⟨a, ys, e, .of h1, r⟩
def oLen : List Val → Option RV
  | [.str z] => if z.length ≤ 16000000 then some (.shr (.int z.length)) else none
  | [.lst xs] => some (.shr (.int xs.length))
  | [.tup xs] => some (.shr (.int xs.length))
  | [.scr xs] => some (.shr (.int xs.length))
  | _ => none
abbrev rLen (K : PySem.W.Frag) : List V → Hp → VK → Prop := fun xs H Q => ∃ x n, xs = [x] ∧ LenV K x H n ∧ Q (.int n) H
theorem os_len : OpSn T (rLen T.K) oLen := by
  intro B H xs vs rv hs hx e Q hq
  unfold oLen at e
  split at e
  · split at e
    · rename_i z hl
      cases e
      obtain ⟨x, rfl, h⟩ := hx.one
      have ex := h.str
      subst ex
      exact ⟨_, z.length, rfl, ⟨line_ok (by show _root_.Array.size _ ≤ _; simpa using hl), by show _ = _root_.Array.size _; simp⟩, same0 hs (.int _) hq⟩
    · cases e
  · cases e
    obtain ⟨x, rfl, h⟩ := hx.one
    obtain ⟨a, ys, rfl, h1, r⟩ := h.lst hs
    exact ⟨_, _, rfl, .inl ⟨ys, .of h1, r.length.symm⟩, same0 hs (.int _) hq⟩
  · cases e
    obtain ⟨x, rfl, h⟩ := hx.one
    obtain ⟨a, ys, rfl, h1, r⟩ := h.tup hs
    exact ⟨_, _, rfl, .inr ⟨ys, .of h1, r.length.symm⟩, same0 hs (.int _) hq⟩
  · cases e
    obtain ⟨x, rfl, h⟩ := hx.one
    obtain ⟨a, rfl, h1⟩ := h.scr hs
    exact ⟨_, _, rfl, .inl ⟨_, h1, by rw [List.length_map]⟩, same0 hs (.int _) hq⟩
  · cases e
def tyN : Val → Option String
  | .non => some "NoneType" | .bl _ => some "bool" | .int _ => some "int" | .str _ => some "str" | .lst _ => some "list" | .tup _ => some "tuple" | _ => none
def oIsi : List Val → Option RV
  | [v, .ty n] => (match tyN v with
    | some t => (kitB t n).map fun b => .shr (.bl b)
    | none => none)
  | _ => none
theorem tyN_ok {B H : Hp} (hs : Same B H) {x : V} {v : Val} {t : String} (h : OprR T B H x v) (e : tyN v = some t) : TyX T.K H x (.type t) := by
  unfold tyN at e
  split at e
  · cases e; rw [h.non]; exact .base .non
  · cases e; rw [h.bl]; exact .base (.bl _)
  · cases e; rw [h.int]; exact .base (.int _)
  · cases e; rw [h.str]; exact .base (.str _)
  · cases e; obtain ⟨a, ys, rfl, h1, r⟩ := h.lst hs; exact .base (.lst h1)
  · cases e; obtain ⟨a, ys, rfl, h1, r⟩ := h.tup hs; exact .base (.tup h1)
  · cases e
theorem os_isi : OpSn T (rIsi T.K) oIsi := by
  intro B H xs vs rv hs hx e Q hq
  unfold oIsi at e
  split at e
  · rename_i v n
    split at e
    · rename_i t ht
      obtain ⟨b, hb, rfl⟩ := Option.map_eq_some_iff.mp e
      obtain ⟨x, y, rfl, h1, h2⟩ := hx.two
      have ey : y = .ty n := by
        have := h2.flat rfl
        cases this; rfl
      subst ey
      exact ⟨x, _, _, _, b, rfl, .ty n, tyN_ok hs h1 ht, kit_ty hb, same0 hs (.bl _) hq⟩
    · cases e
  · cases e
def oAll : List Val → Option RV
  | [.lst xs] => (bls? xs).map fun bs => .shr (.bl (bs.all id))
  | _ => none
def oAny : List Val → Option RV
  | [.lst xs] => (bls? xs).map fun bs => .shr (.bl (bs.any id))
  | _ => none
theorem os_all : OpSn T (rAll T.K) oAll := by
  intro B H xs vs rv hs hx e Q hq
  unfold oAll at e
  split at e
  · obtain ⟨b, hb, rfl⟩ := Option.map_eq_some_iff.mp e
    obtain ⟨x, rfl, h⟩ := hx.one
    obtain ⟨a, ys, rfl, h1, r⟩ := h.seq hs
    have := r.bls? hb
    subst this
    exact ⟨a, b, rfl, h1, same0 hs (.bl _) hq⟩
  · cases e
theorem os_any : OpSn T (rAny T.K) oAny := by
  intro B H xs vs rv hs hx e Q hq
  unfold oAny at e
  split at e
  · obtain ⟨b, hb, rfl⟩ := Option.map_eq_some_iff.mp e
    obtain ⟨x, rfl, h⟩ := hx.one
    obtain ⟨a, ys, rfl, h1, r⟩ := h.seq hs
    have := r.bls? hb
    subst this
    exact ⟨a, b, rfl, h1, same0 hs (.bl _) hq⟩
  · cases e
def maxL : List Int → Option Int
  | [] => none
  | [x] => some x
  | x :: xs => (maxL xs).map fun y => max x y
theorem maxL_ok : ∀ {xs : List Int} {m : Int}, maxL xs = some m → m ∈ xs ∧ ∀ y ∈ xs, y ≤ m
  | [], _, e => by cases e
  | [x], _, e => by cases e; simp
  | x :: y :: zs, m, e => by
    unfold maxL at e
    obtain ⟨n, h, rfl⟩ := Option.map_eq_some_iff.mp e
    obtain ⟨h1, h2⟩ := maxL_ok h
    refine ⟨?_, fun z hz => ?_⟩
    · by_cases c : x ≤ n
      · rw [Int.max_eq_right c]; exact List.mem_cons_of_mem _ h1
      · rw [Int.max_eq_left (by omega)]; exact List.mem_cons_self
    · rcases List.mem_cons.mp hz with rfl | hz
      · exact Int.le_max_left _ _
      · exact Int.le_trans (h2 z hz) (Int.le_max_right _ _)
def oMax : List Val → Option RV
  | [.lst xs] => (match ints? xs with
    | some ns => (maxL ns).map fun m => .shr (.int m)
    | none => none)
  | [.int i, .int j] => some (.shr (.int (max i j)))
  | _ => none
abbrev rMaxA (K : PySem.W.Frag) : List V → Hp → VK → Prop := fun xs H Q => rMax K xs H Q ∨ ∃ i j, xs = [.int i, .int j] ∧ Q (.int (if j > i then j else i)) H
theorem CallR.or' {f : Value} {r r' : List V → Hp → VK → Prop} (h : CallR X f r) (h' : CallR X f r') : CallR X f (fun x H Q => r x H Q ∨ r' x H Q) := by
  intro pins s σ H xs us Q I r q
  rcases q with q | q
  · exact h pins s σ H xs us Q I r q
  · exact h' pins s σ H xs us Q I r q
theorem hc_max (hc : X.calm = true) : CallR X (.builtin "max") (rMaxA X.K) := CallR.or' (cr_max hc) (call_max2 hc)
theorem os_max : OpSn T (rMaxA T.K) oMax := by
  intro B H xs vs rv hs hx e Q hq
  unfold oMax at e
  split at e
  · split at e
    · rename_i ns hns
      obtain ⟨m, hm, rfl⟩ := Option.map_eq_some_iff.mp e
      obtain ⟨x, rfl, h⟩ := hx.one
      obtain ⟨a, ys, rfl, h1, r⟩ := h.seq hs
      have := r.ints? hns
      subst this
      obtain ⟨k1, k2⟩ := maxL_ok hm
      refine .inl ⟨a, ns, rfl, h1, List.length_pos_of_mem k1, fun m' h2 h3 => ?_⟩
      have : m' = m := Int.le_antisymm (k2 _ h2) (h3 _ k1)
      subst this
      exact same0 hs (.int _) hq
    · cases e
  · cases e
    obtain ⟨x, y, rfl, h1, h2⟩ := hx.two
    have e1 := h1.int
    have e2 := h2.int
    subst e1 e2
    rename_i i j
    refine .inr ⟨i, j, rfl, ?_⟩
    have : (if j > i then j else i) = max i j := by
      by_cases c : j > i
      · rw [if_pos c, Int.max_eq_right (by omega)]
      · rw [if_neg c, Int.max_eq_left (by omega)]
    rw [this]
    exact same0 hs (.int _) hq
  · cases e
def oMin : List Val → Option RV
  | [.int i, .int j] => some (.shr (.int (min i j)))
  | _ => none
abbrev rMin2 : List V → Hp → VK → Prop := fun xs H Q => ∃ i j, xs = [.int i, .int j] ∧ Q (.int (if j < i then j else i)) H
theorem os_min : OpSn T rMin2 oMin := by
  intro B H xs vs rv hs hx e Q hq
  unfold oMin at e
  split at e
  · cases e
    obtain ⟨x, y, rfl, h1, h2⟩ := hx.two
    have e1 := h1.int
    have e2 := h2.int
    subst e1 e2
    rename_i i j
    refine ⟨i, j, rfl, ?_⟩
    have : (if j < i then j else i) = min i j := by
      by_cases c : j < i
      · rw [if_pos c, Int.min_eq_right (by omega)]
      · rw [if_neg c, Int.min_eq_left (by omega)]
    rw [this]
    exact same0 hs (.int _) hq
  · cases e
def oInt : List Val → Option RV
  | [.str z] => if z.length ≤ 640 then (PySem.intText? ⟨z.toArray⟩).map fun n => .shr (.int n) else none
  | _ => none
abbrev rIntS : List V → Hp → VK → Prop := fun xs H Q => ∃ a n, xs = [.str a] ∧ PySem.intText? a = some n ∧ a.length ≤ 640 ∧ Q (.int n) H
theorem os_int : OpSn T rIntS oInt := by
  intro B H xs vs rv hs hx e Q hq
  unfold oInt at e
  split at e
  · split at e
    · rename_i z hl
      obtain ⟨n, hn, rfl⟩ := Option.map_eq_some_iff.mp e
      obtain ⟨x, rfl, h⟩ := hx.one
      have ex := h.str
      subst ex
      exact ⟨_, n, rfl, hn, by show _root_.Array.size _ ≤ _; simpa using hl, same0 hs (.int _) hq⟩
    · cases e
  · cases e
def oStr : List Val → Option RV
  | [.int i] => if -1000000000000 ≤ i ∧ i ≤ 1000000000000 then some (.shr (.str (Str.ofString (toString i)).cps.toList)) else none
  | _ => none
def oTupleOf : List Val → Option RV
  | [.lst xs] => some (.shr (.tup xs))
  | [.tup xs] => some (.shr (.tup xs))
  | _ => none
abbrev rTupleOf (K : PySem.W.Frag) : List V → Hp → VK → Prop := fun xs H Q => ∃ p ys, xs = [.ref p] ∧ ((SqL K H p ys ∧ ∀ l, H l = none → Q (.ref l) (upd H l (.tup ys))) ∨ (SqT K H p ys ∧ Q (.ref p) H))
theorem os_tupleOf : OpSn T (rTupleOf T.K) oTupleOf := by
  intro B H xs vs rv hs hx e Q hq
  unfold oTupleOf at e
  split at e
  · cases e
    obtain ⟨x, rfl, h⟩ := hx.one
    obtain ⟨a, ys, rfl, h1, r⟩ := h.seq hs
    exact ⟨a, ys, rfl, .inl ⟨h1, newT hs r hq⟩⟩
  · cases e
    obtain ⟨x, rfl, h⟩ := hx.one
    obtain ⟨a, ys, rfl, h1, r⟩ := h.tupS
    exact ⟨a, ys, rfl, .inr ⟨.of (hs _ _ h1), same0 hs (.tup h1 r) hq⟩⟩
  · cases e
def oListOf : List Val → Option RV
  | [.lst xs] => some (.new (.lst xs))
  | [.tup xs] => some (.new (.lst xs))
  | _ => none
abbrev rListOf (K : PySem.W.Frag) : List V → Hp → VK → Prop := fun xs H Q => ∃ p ys, xs = [.ref p] ∧ (SqL K H p ys ∨ SqT K H p ys) ∧ ∀ l, H l = none → Q (.ref l) (upd H l (.lst ys))
theorem os_listOf : OpSn T (rListOf T.K) oListOf := by
  intro B H xs vs rv hs hx e Q hq
  unfold oListOf at e
  split at e
  · cases e
    obtain ⟨x, rfl, h⟩ := hx.one
    obtain ⟨a, ys, rfl, h1, r⟩ := h.seq hs
    exact ⟨a, ys, rfl, .inl h1, newL hs r hq⟩
  · cases e
    obtain ⟨x, rfl, h⟩ := hx.one
    obtain ⟨a, ys, rfl, h1, r⟩ := h.tup hs
    exact ⟨a, ys, rfl, .inr (.of h1), newL hs r hq⟩
  · cases e

/-! ### methods of texts -/
def S (l : List Nat) : Str := ⟨l.toArray⟩
theorem S_len (l : List Nat) : (S l).length = l.length := by show _root_.Array.size _ = _; simp [S]
theorem S_back (x : Str) : S x.cps.toList = x := by cases x; rfl
def oJoin : Val → List Val → Option RV
  | .str a, [.lst vs] => (match strs? vs with
    | some ls => if (ls.map List.length).sum + ls.length * a.length ≤ 16000000 then some (.shr (.str (TL.joinL a ls))) else none
    | none => none)
  | _, _ => none
abbrev rJoin (K : PySem.W.Frag) : V → List V → Hp → VK → Prop := fun x xs H Q => ∃ a p, ∃ ys : List Str, x = .str a ∧ xs = [.ref p] ∧ (SqL K H p (ys.map V.str) ∨ SqT K H p (ys.map V.str)) ∧
    (ys.map (·.length)).sum + ys.length * a.length ≤ 16777216 ∧ Q (.str (Txt.join a ys)) H
theorem os_join : OpSm T (rJoin T.K) oJoin := by
  intro B H x xs v vs rv hs h hx e Q hq
  unfold oJoin at e
  split at e
  · rename_i a ws
    split at e
    · rename_i ls hls
      split at e
      · rename_i hz
        cases e
        obtain ⟨y, rfl, h1⟩ := hx.one
        obtain ⟨p, ys, rfl, h2, r⟩ := h1.seq hs
        have e3 := r.strs? hls
        subst e3
        refine ⟨_, p, _, h.str, rfl, .inl h2, ?_, same0 hs ?_ hq⟩
        · have e1 : (List.map (fun x : Str => x.length) (List.map (fun l => (⟨l.toArray⟩ : Str)) ls)) = ls.map List.length := by
            rw [List.map_map]; apply List.map_congr_left; intro l _; exact S_len l
          rw [e1, List.length_map]
          have e2 : (⟨a.toArray⟩ : Str).length = a.length := S_len a
          rw [e2]; omega
        · refine Rep.of_str ?_
          rw [TL.join_eq]
          have := TL.tl_join (⟨a.toArray⟩ : Str) (ls.map fun l => (⟨l.toArray⟩ : Str))
          unfold TL.tl at this
          rw [this, List.map_map]
          congr 1
          exact (List.map_congr_left fun l _ => rfl).trans (List.map_id ls)
      · cases e
    · cases e
  · cases e
def oEnds : Val → List Val → Option RV
  | .str a, [.str b] => some (.shr (.bl (Txt.endswith (S a) (S b))))
  | _, _ => none
def oStarts : Val → List Val → Option RV
  | .str a, [.str b] => some (.shr (.bl (Txt.startswith (S a) (S b))))
  | .str a, [.str b, .int i] => some (.shr (.bl (Txt.startswith3 (S a) (S b) i)))
  | _, _ => none
def oCount : Val → List Val → Option RV
  | .str a, [.str b] => some (.shr (.int (Txt.count (S a) (S b))))
  | _, _ => none
abbrev rEnds : V → List V → Hp → VK → Prop := fun x xs H Q => ∃ a b, x = .str a ∧ xs = [.str b] ∧ Q (.bl (Txt.endswith a b)) H
abbrev rStarts : V → List V → Hp → VK → Prop := fun x xs H Q => (∃ a b, x = .str a ∧ xs = [.str b] ∧ Q (.bl (Txt.startswith a b)) H) ∨ ∃ (a b : Str) (i : Int), x = .str a ∧ xs = [.str b, .int i] ∧ Q (.bl (Txt.startswith3 a b i)) H
abbrev rCount' : V → List V → Hp → VK → Prop := fun x xs H Q => ∃ a b, x = .str a ∧ xs = [.str b] ∧ Q (.int (Txt.count a b)) H
theorem hm_starts : MtR X "str.startswith" rStarts := mt_startswith.or mt_startswith3
theorem os_ends : OpSm T rEnds oEnds := by
  intro B H x xs v vs rv hs h hx e Q hq
  unfold oEnds at e
  split at e
  · rename_i a b
    cases e
    obtain ⟨y, rfl, h1⟩ := hx.one
    exact ⟨S a, S b, h.str, by rw [h1.str]; rfl, same0 hs (.bl _) hq⟩
  · cases e
theorem os_count : OpSm T rCount' oCount := by
  intro B H x xs v vs rv hs h hx e Q hq
  unfold oCount at e
  split at e
  · rename_i a b
    cases e
    obtain ⟨y, rfl, h1⟩ := hx.one
    exact ⟨S a, S b, h.str, by rw [h1.str]; rfl, same0 hs (.int _) hq⟩
  · cases e
theorem os_starts : OpSm T rStarts oStarts := by
  intro B H x xs v vs rv hs h hx e Q hq
  unfold oStarts at e
  split at e
  · rename_i a b
    cases e
    obtain ⟨y, rfl, h1⟩ := hx.one
    exact .inl ⟨S a, S b, h.str, by rw [h1.str]; rfl, same0 hs (.bl _) hq⟩
  · rename_i a b i
    cases e
    obtain ⟨y, z, rfl, h1, h2⟩ := hx.two
    exact .inr ⟨S a, S b, i, h.str, by rw [h1.str, h2.int]; rfl, same0 hs (.bl _) hq⟩
  · cases e
def oSplit : Val → List Val → Option RV
  | .str a, [.str b] => if b.length ≠ 0 ∧ a.length ≤ 1000000 then some (.new (.lst ((Txt.split (S a) (S b)).map fun x => .str x.cps.toList))) else none
  | _, _ => none
abbrev rSplit : V → List V → Hp → VK → Prop := fun x xs H Q => ∃ a b, x = .str a ∧ xs = [.str b] ∧ (b.length == 0) = false ∧ a.length + 2 ≤ sizeLine ∧ rNewStrs (Txt.split a b) H Q
theorem rep_strs {B : Hp} : ∀ ys : List Str, RepAll T B (ys.map V.str) (ys.map fun x => Val.str x.cps.toList)
  | [] => .nil
  | y :: ys => .cons (.str y) (rep_strs ys)
theorem os_split : OpSm T rSplit oSplit := by
  intro B H x xs v vs rv hs h hx e Q hq
  unfold oSplit at e
  split at e
  · rename_i a b
    split at e
    · rename_i hc
      cases e
      obtain ⟨y, rfl, h1⟩ := hx.one
      refine ⟨S a, S b, h.str, by rw [h1.str]; rfl, ?_, ?_, newL hs (rep_strs _) hq⟩
      · rw [S_len]; exact beq_eq_false_iff_ne.mpr hc.1
      · rw [S_len]; exact line_ok (by omega)
    · cases e
  · cases e
end
end Lw

end
section
set_option Elab.async false
set_option linter.all false
set_option maxRecDepth 100000
set_option maxHeartbeats 3200000
set_option autoImplicit false
/-! Lw: len(set(texts)). -/
namespace Lw.ST
open PySem PySem.Spec PyProof.Rows
def put (ms : List Str) (x : Str) : List Str := if x ∈ ms then ms else x :: ms
def puts (ms xs : List Str) : List Str := xs.foldl put ms
theorem put_len (ms : List Str) (x : Str) : (put ms x).length ≤ ms.length + 1 := by
  unfold put; split
  · exact Nat.le_succ _
  · exact Nat.le_refl _
theorem puts_len : ∀ (xs ms : List Str), (puts ms xs).length ≤ ms.length + xs.length
  | [], _ => Nat.le_refl _
  | x :: xs, ms => by
    have h1 := puts_len xs (put ms x)
    have h2 := put_len ms x
    show (puts (put ms x) xs).length ≤ _
    rw [List.length_cons]; omega
section
variable {prog : Program} {w : World} {A : Around} {R : Result → Shared → Prop} {I : Addr} {fp wr : List Addr} {G : Array GenState → Array GenState → Prop} {n : Nat} {P : Nat → Value → Prop} {St : Nat → Shared → Prop}
abbrev Has (prog : Program) (w : World) (h : Heap) (S : Addr) (ms : List Str) : Prop := h.SetOf (PySem.strKind prog w) S (fun k => decide (k ∈ ms)) ms.length
theorem Has.keep {h h' : Heap} {S : Addr} {ms : List Str} (a : Has prog w h S ms) (k : ∀ o, h.get? S = some o → h'.get? S = some o) : Has prog w h' S ms := by
  obtain ⟨o, es, ep, t, ho, r⟩ := a
  exact ⟨o, es, ep, t, k o ho, r⟩
/-- the loop of set's start, by what is still to come -/
theorem fill (W : WalksS prog w A.in1 I fp wr G n P St) (S : Addr) (hS : S ∉ fp) (xs : List Str) (hval : ∀ i v, P i v → ∃ x t, xs[i]? = some x ∧ v = .str x t) (hn : n = xs.length) :
    ∀ (todo : List Str) (i : Nat) (ms : List Str) (s : Shared), xs.drop i = todo → i ≤ n → ms.length + todo.length + 1 < scanBound → St i s → Has prog w s.heap S ms →
      (∀ s', Moved (S :: wr) G s s' → Has prog w s'.heap S (puts ms todo) → R (.ok (.ret .none)) s') →
      codeAny (model prog w) A (.builtin "set.update.loop" ⟨[.ref S, .ref I], []⟩) R s := by
  have nw : S ∉ wr := fun h => hS (W.sub _ h)
  have up : ∀ b ∈ wr, b ∈ S :: wr := fun b hb => List.mem_cons_of_mem _ hb
  intro todo
  induction todo with
  | nil =>
    intro i ms s hd hi hb st hs hR
    have e : i = n := by
      have := congrArg List.length hd
      rw [List.length_drop, List.length_nil] at this
      omega
    subst e
    refine codeAny_builtin F.entry_set_update_loop ?_
    rw [Around.under_plainId F.plain_set_update_loop _]
    show wpAny _ A.in1 (pyNext (.ref I) >>= _) _ _ s
    refine wpAny_bind (W.done s _ _ st fun s1 m => ?_)
    show wpAny _ A.in1 (ret Value.none) _ _ s1
    exact wpAny_pure (hR s1 (m.mono up) (hs.keep fun o e => m.heap S o nw e))
  | cons x todo ih =>
    intro i ms s hd hi hb st hs hR
    have hx : xs[i]? = some x := by
      have := congrArg (fun l => l[0]?) hd
      simpa using this
    have hlt : i < n := by rw [hn]; exact (List.getElem?_eq_some_iff.mp hx).1
    refine codeAny_builtin F.entry_set_update_loop ?_
    rw [Around.under_plainId F.plain_set_update_loop _]
    show wpAny _ A.in1 (pyNext (.ref I) >>= _) _ _ s
    refine wpAny_bind (W.item i s _ _ hlt st fun v s1 hv st1 m => ?_)
    obtain ⟨y, t, hy, rfl⟩ := hval i v hv
    rw [hx] at hy
    cases hy
    have hs1 := hs.keep (h' := s1.heap) fun o e => m.heap S o nw e
    show wpAny _ A.in1 (holding [Value.str x t] (setAdd S (.str x t)) >>= _) _ _ s1
    refine wpAny_bind (wpAny_holding ?_)
    unfold setAdd
    refine wpAny_holding (wpAny_bind ((PySem.strKind prog w).pyHash (k := x) (strKind_is _ _ _ _) ?_))
    rw [List.length_cons] at hb
    refine wpAny_setAddHashed_of (knd := PySem.strKind prog w) (s := { s1 with toks := s1.toks + 1 }) (strKind_is _ _ _ _) rfl hs1 (by omega) fun h2 sb new => ?_
    have hs2 : Has prog w h2 S (put ms x) := by
      refine SetOf_congr new (fun k => ?_) ?_
      · show (decide (k ∈ ms) || decide (k = x)) = decide (k ∈ put ms x)
        unfold put
        by_cases c : x ∈ ms
        · rw [if_pos c]
          by_cases d : k = x
          · subst d; simp [c]
          · simp [d]
        · rw [if_neg c]
          by_cases d : k = x
          · subst d; simp
          · simp [d]
      · show (if decide (x ∈ ms) = true then ms.length else ms.length + 1) = (put ms x).length
        unfold put
        by_cases c : x ∈ ms
        · simp [c]
        · simp [c]
    have oth : ∀ b, b ≠ S → h2.get? b = s1.heap.get? b := fun b hb => sb.2 b hb
    refine wpAny_pure ⟨plainId_quiet F.plain_set_update_loop _, ih (i + 1) (put ms x) _ ?_ hlt ?_ (W.frame _ s1 _ _ st1 (Nat.le_succ _) fun b hb o e => ?_) hs2 fun s3 m3 hs3 => ?_⟩
    · have := congrArg List.tail hd
      simpa using this
    · have := put_len ms x
      omega
    · exact (oth b fun h => hS (h ▸ hb)).trans e
    · refine hR s3 (Moved.trans W.gtrans ((m.mono up).then_heap (Nat.le_succ _) fun b o hb e => ?_) m3) hs3
      exact (oth b fun h => hb (h ▸ List.mem_cons_self)).trans e
end
section
variable {prog : Program} {w : World} {A : Around} {E : Value → Shared → Prop} {s : Shared}
/-- what of the state is left behind set(l) -/
def After (prog : Program) (w : World) (s : Shared) (xs : List Str) (s1 : Shared) : Prop :=
  ∃ h tk, s1 = { s with heap := h, toks := tk } ∧ Has prog w h s.heap.objs.size (puts [] xs) ∧ ∀ b o, s.heap.get? b = some o → h.get? b = some o
theorem init_texts {l : Addr} {items : Array Value} {xs : List Str} {led : Bool} (hh : A.handled = none) (hl : s.heap.IsList l items) (hi : StrsAre items.toList xs) (hb : xs.length + 1 < scanBound)
    {s1 : Shared} (e1 : s1 = { s with heap := s.heap.push { cls := .type "set", dict := none, data := .set #[] 0 (.fresh 0 0 led) } }) :
    codeAny (model prog w) A (.call (.builtin "set.__init__") ⟨[.ref s.heap.objs.size, .ref l], []⟩) (wants (fun r s2 => r = .none ∧ After prog w s xs s2) E) s1 := by
  subst e1
  have hS : (s.heap.push { cls := .type "set", dict := none, data := .set #[] 0 (.fresh 0 0 led) }).get? s.heap.objs.size = some { cls := .type "set", dict := none, data := .set #[] 0 (.fresh 0 0 led) } := Heap.get?_push_size _ rfl
  refine codeAny_call_builtin F.called_set.init.plain F.entry_set_init (check_set_init_1 ⟨_, hS, rfl⟩ ?_)
  obtain ⟨⟨oc, od, odata, osl⟩, hol, hcl, nl, hdl⟩ := hl
  simp only at hcl hdl
  subst hcl hdl
  have hol1 : (s.heap.push { cls := .type "set", dict := none, data := .set #[] 0 (.fresh 0 0 led) }).get? l = some { cls := .type "list", dict := od, data := .seq items nl, slots := osl } := Heap.get?_push_of_some _ hol
  have hsub1 := F.sub_list_set
  have hsub2 := F.sub_list_frozenset
  have hne : (Value.type "list" == Value.type "dict") = false := by decide
  have hl1 : (s.heap.push { cls := .type "set", dict := none, data := .set #[] 0 (.fresh 0 0 led) }).IsList l items := ⟨_, hol1, rfl, nl, rfl⟩
  unfold Builtin.«set.__init__» noKeywords Builtin.Frozenset.updateFrom
  generalize hPI : pyIter = PI
  wp_walk
  subst hPI
  refine wpAny_pyIter_list hl1 (wpAny_bind (wpAny_runValue ?_))
  have lS : l < s.heap.objs.size := Heap.lt_size hol
  have z1 : (s.heap.push { cls := .type "set", dict := none, data := .set #[] 0 (.fresh 0 0 led) }).objs.size = s.heap.objs.size + 1 := Heap.size_push ..
  have nI : l ≠ (s.heap.push { cls := .type "set", dict := none, data := .set #[] 0 (.fresh 0 0 led) }).objs.size := by rw [z1]; exact Nat.ne_of_lt (Nat.lt_succ_of_lt lS)
  have hlen : items.size = xs.length := by rw [← Array.length_toList]; exact StrsAre.len_eq hi
  refine fill ((Walks.list (by simp [hh]) _ l nI items).toS) s.heap.objs.size ?_ xs (fun i v hv => ?_) hlen xs 0 [] _ List.drop_zero (Nat.zero_le _) (by simpa using hb) ⟨⟨_, Heap.get?_push_size _ rfl, rfl, rfl⟩, hl1.push _⟩ ?_ fun s2 m hs => ?_
  · rw [z1]
    intro hm
    rcases List.mem_cons.mp hm with h | h
    · exact Nat.ne_of_lt (Nat.lt_succ_self _) h
    · rw [List.mem_singleton] at h
      exact Nat.ne_of_gt lS h
  · have hv' : items.toList[i]? = some v := by rw [Array.getElem?_toList]; exact hv
    obtain ⟨t, e⟩ := SS.strs_at hi i v hv'
    have hlt : i < xs.length := by rw [← hlen]; exact (Array.getElem?_eq_some_iff.mp hv).1
    refine ⟨xs.getD i Str.empty, t, ?_, e⟩
    rw [List.getD_eq_getElem?_getD, List.getElem?_eq_getElem hlt]; rfl
  · have hg : ((s.heap.push { cls := .type "set", dict := none, data := .set #[] 0 (.fresh 0 0 led) }).push { cls := .type "list_iterator", data := .fields #[.ref l, .int 0 0] }).get? s.heap.objs.size = some { cls := .type "set", dict := none, data := .set #[] 0 (.fresh 0 0 led) } := Heap.get?_push_of_some _ hS
    exact SetOf_congr ((setObjOf_fresh (knd := PySem.strKind prog w) led).setOf hg (by unfold scanBound; omega)) (fun _ => rfl) rfl
  · obtain ⟨h2, g2, d2, tk2, os2⟩ := s2
    have eg : g2 = s.gens := m.gens
    have ed : d2 = s.drawn := m.drawn
    have eo : os2 = s.os := m.os
    subst eg ed eo
    show wpAny _ _ _ _ _ _
    refine wpAny_pure ?_
    show wpAny _ _ (ret Value.none) _ _ _
    refine wpAny_pure ⟨rfl, h2, tk2, rfl, hs, fun b o e => ?_⟩
    have hb1 : b < s.heap.objs.size := Heap.lt_size e
    refine m.heap b o (fun hm => ?_) (Heap.get?_push_of_some _ (Heap.get?_push_of_some _ e))
    rcases List.mem_cons.mp hm with h | hm
    · exact Nat.ne_of_lt hb1 h
    · rw [List.mem_singleton, z1] at hm
      exact Nat.ne_of_lt (Nat.lt_succ_of_lt hb1) hm
/-- set(x), x a text -/
theorem init_str {x : Str} {t : Tok} {led : Bool} (hh : A.handled = none) (ha : x.cps.all (· < 128) = true) (hb : x.length + 1 < scanBound)
    {s1 : Shared} (e1 : s1 = { s with heap := s.heap.push { cls := .type "set", dict := none, data := .set #[] 0 (.fresh 0 0 led) } }) :
    codeAny (model prog w) A (.call (.builtin "set.__init__") ⟨[.ref s.heap.objs.size, .str x t], []⟩) (wants (fun r s2 => r = .none ∧ After prog w s (x.cps.toList.map fun c => (⟨#[c]⟩ : Str)) s2) E) s1 := by
  subst e1
  have hS : (s.heap.push { cls := .type "set", dict := none, data := .set #[] 0 (.fresh 0 0 led) }).get? s.heap.objs.size = some { cls := .type "set", dict := none, data := .set #[] 0 (.fresh 0 0 led) } := Heap.get?_push_size _ rfl
  refine codeAny_call_builtin F.called_set.init.plain F.entry_set_init (check_set_init_1 ⟨_, hS, rfl⟩ ?_)
  have hsub1 := F.sub_str_set
  have hsub2 := F.sub_str_frozenset
  have hne : (Value.type "str" == Value.type "dict") = false := by decide
  unfold Builtin.«set.__init__» noKeywords Builtin.Frozenset.updateFrom
  generalize hPI : pyIter = PI
  wp_walk
  subst hPI
  refine wpAny_pyIter_ascii ha (wpAny_bind (wpAny_runValue ?_))
  have z1 : (s.heap.push { cls := .type "set", dict := none, data := .set #[] 0 (.fresh 0 0 led) }).objs.size = s.heap.objs.size + 1 := Heap.size_push ..
  have hlen : x.length = (x.cps.toList.map fun c => (⟨#[c]⟩ : Str)).length := by rw [List.length_map]; exact Array.length_toList.symm
  refine fill ((Walks.strAscii (by simp [hh]) _ x t).toS) s.heap.objs.size ?_ (x.cps.toList.map fun c => (⟨#[c]⟩ : Str)) (fun i v hv => ?_) hlen _ 0 [] _ List.drop_zero (Nat.zero_le _) (by rw [← hlen]; simpa using hb) ⟨_, Heap.get?_push_size _ rfl, rfl, rfl⟩ ?_ fun s2 m hs => ?_
  · rw [z1]
    intro hm
    rw [List.mem_singleton] at hm
    exact Nat.ne_of_lt (Nat.lt_succ_self _) hm
  · obtain ⟨c, u, hc, rfl⟩ := hv
    exact ⟨⟨#[c]⟩, u, by rw [List.getElem?_map, Array.getElem?_toList, hc]; rfl, rfl⟩
  · have hg : ((s.heap.push { cls := .type "set", dict := none, data := .set #[] 0 (.fresh 0 0 led) }).push { cls := .type "str_ascii_iterator", data := .fields #[.str x t, .int 0 0] }).get? s.heap.objs.size = some { cls := .type "set", dict := none, data := .set #[] 0 (.fresh 0 0 led) } := Heap.get?_push_of_some _ hS
    exact SetOf_congr ((setObjOf_fresh (knd := PySem.strKind prog w) led).setOf hg (by unfold scanBound; omega)) (fun _ => rfl) rfl
  · obtain ⟨h2, g2, d2, tk2, os2⟩ := s2
    have eg : g2 = s.gens := m.gens
    have ed : d2 = s.drawn := m.drawn
    have eo : os2 = s.os := m.os
    subst eg ed eo
    show wpAny _ _ _ _ _ _
    refine wpAny_pure ?_
    show wpAny _ _ (ret Value.none) _ _ _
    refine wpAny_pure ⟨rfl, h2, tk2, rfl, hs, fun b o e => ?_⟩
    have hb1 : b < s.heap.objs.size := Heap.lt_size e
    refine m.heap b o (fun hm => ?_) (Heap.get?_push_of_some _ (Heap.get?_push_of_some _ e))
    rcases List.mem_cons.mp hm with h | hm
    · exact Nat.ne_of_lt hb1 h
    · rw [List.mem_singleton, z1] at hm
      exact Nat.ne_of_lt (Nat.lt_succ_of_lt hb1) hm
theorem call_texts {l : Addr} {items : Array Value} {xs : List Str} {Q : Value → Shared → Prop} (hh : A.handled = none) (hl : s.heap.IsList l items) (hi : StrsAre items.toList xs) (hb : xs.length + 1 < scanBound)
    (h : ∀ s1, After prog w s xs s1 → Q (.ref s.heap.objs.size) s1) : wpAny (model prog w) A (call (.type "set") [.ref l]) Q E s := by
  obtain ⟨c, tl, hmro⟩ := F.called_set.mro
  have hmade := F.called_set.made
  have hsub := F.called_set.sub
  refine wpAny_call (codeAny_of_tree ?_)
  show wpAny _ _ (callAny (.type "set") _) _ _ _
  refine wpAny_pure ⟨Code.quiet_builtin _ (by decide +kernel), codeAny_builtin F.entry_type_call ?_⟩
  rw [Around.under_plain (weight_type_call_type "set" [.ref l] []) rfl]
  have h1 := F.called_set.notType
  have h2 := F.called_set.canCreate
  have h3 := F.typeCall_set_1 (.ref l)
  repeat (any_goals (first | assumption | wp_step))
  refine codeAny_mono (code_set_new_1 (.ref l) (E := E) (Q₁ := fun obj s₁ => ∃ led : Bool, obj = .ref s.heap.objs.size ∧ s₁ = { s with heap := s.heap.push { cls := .type "set", dict := none, data := .set #[] 0 (.fresh 0 0 led) } }) fun led => ⟨led, rfl, rfl⟩) fun r s1 hr => ?_
  cases r with
  | error e => exact hr
  | ok fl =>
    cases fl with
    | ret obj =>
      obtain ⟨led, rfl, e1⟩ := hr
      have hT : s1.TypeIs (.ref s.heap.objs.size) "set" := by
        subst e1
        exact ⟨_, Heap.get?_push_size _ rfl, rfl⟩
      have hli := F.called_set.init.lookup
      have hbi := F.called_set.init.bind (.ref s.heap.objs.size)
      repeat (any_goals (first | assumption | wp_step))
      refine codeAny_mono (init_texts (E := E) (by simp [hh]) hl hi hb e1) fun r2 s2 hr2 => ?_
      cases r2 with
      | error e => exact hr2
      | ok fl2 =>
        cases fl2 with
        | ret r =>
          obtain ⟨rfl, a⟩ := hr2
          repeat (any_goals (first | assumption | wp_step))
          exact h s2 a
        | _ => exact hr2.elim
    | _ => exact hr.elim
theorem call_str {x : Str} {t : Tok} {Q : Value → Shared → Prop} (hh : A.handled = none) (ha : x.cps.all (· < 128) = true) (hb : x.length + 1 < scanBound)
    (h : ∀ s1, After prog w s (x.cps.toList.map fun c => (⟨#[c]⟩ : Str)) s1 → Q (.ref s.heap.objs.size) s1) : wpAny (model prog w) A (call (.type "set") [.str x t]) Q E s := by
  obtain ⟨c, tl, hmro⟩ := F.called_set.mro
  have hmade := F.called_set.made
  have hsub := F.called_set.sub
  refine wpAny_call (codeAny_of_tree ?_)
  show wpAny _ _ (callAny (.type "set") _) _ _ _
  refine wpAny_pure ⟨Code.quiet_builtin _ (by decide +kernel), codeAny_builtin F.entry_type_call ?_⟩
  rw [Around.under_plain (weight_type_call_type "set" [.str x t] []) rfl]
  have h1 := F.called_set.notType
  have h2 := F.called_set.canCreate
  have h3 := F.typeCall_set_1 (.str x t)
  repeat (any_goals (first | assumption | wp_step))
  refine codeAny_mono (code_set_new_1 (.str x t) (E := E) (Q₁ := fun obj s₁ => ∃ led : Bool, obj = .ref s.heap.objs.size ∧ s₁ = { s with heap := s.heap.push { cls := .type "set", dict := none, data := .set #[] 0 (.fresh 0 0 led) } }) fun led => ⟨led, rfl, rfl⟩) fun r s1 hr => ?_
  cases r with
  | error e => exact hr
  | ok fl =>
    cases fl with
    | ret obj =>
      obtain ⟨led, rfl, e1⟩ := hr
      have hT : s1.TypeIs (.ref s.heap.objs.size) "set" := by
        subst e1
        exact ⟨_, Heap.get?_push_size _ rfl, rfl⟩
      have hli := F.called_set.init.lookup
      have hbi := F.called_set.init.bind (.ref s.heap.objs.size)
      repeat (any_goals (first | assumption | wp_step))
      refine codeAny_mono (init_str (E := E) (by simp [hh]) ha hb e1) fun r2 s2 hr2 => ?_
      cases r2 with
      | error e => exact hr2
      | ok fl2 =>
        cases fl2 with
        | ret r =>
          obtain ⟨rfl, a⟩ := hr2
          repeat (any_goals (first | assumption | wp_step))
          exact h s2 a
        | _ => exact hr2.elim
    | _ => exact hr.elim
end
end Lw.ST
namespace Lw
open PySem L2
/-- how many different -/
def uniqN (ls : List (List Nat)) : Nat := (ST.puts [] (ls.map S)).length
def oLenSet : Val → Option RV
  | .lst vs => (match strs? vs with
    | some ls => if ls.length ≤ 4000 then some (.shr (.int (uniqN ls))) else none
    | none => none)
  | .str z => if z.all (fun c => decide (c < 128)) = true ∧ z.length ≤ 4000 then some (.shr (.int (uniqN (z.map fun c => [c])))) else none
  | _ => none
def tLenS (K : PySem.W.Frag) : V → Hp → VK → Prop := fun x H Q => (∃ l, ∃ ls : List (List Nat), x = .ref l ∧ SqL K H l ((ls.map S).map V.str) ∧ ls.length ≤ 4000 ∧ Q (.int (uniqN ls)) H) ∨
  ∃ z : List Nat, x = .str (S z) ∧ z.all (fun c => decide (c < 128)) = true ∧ z.length ≤ 4000 ∧ Q (.int (uniqN (z.map fun c => [c]))) H
section
variable {X : Cx} {W : WX} {a : Expr} {f : EF} {p p2 q pos : Pos}
theorem pe_lenSetS {ta : TE} (hc : X.calm = true) (hg : Gl X "len") (hm : X.mg "len" = none) (hg2 : Gl X "set") (hm2 : X.mg "set" = none) (ha : PE X a ta)
    (na : starEach [a] X.env = (false, eval a X.env) :: starEach [] X.env := by rfl) : PE X (.Call (.Name "len" p) [.Call (.Name "set" p2) [a] [] q] [] pos) (fun σ H Q => ta σ H fun x H1 => tLenS X.K x H1 Q) := by
  refine ⟨fun pins s σ H Q I h => ?_⟩
  refine PyProof.Rows.Call_ (ld_blt I hg hm boot_len ?_)
  refine PyProof.Rows.callWith_builtin1 (PyProof.Rows.args_cons ?_ rfl) rfl rfl
  refine PyProof.Rows.Call_ (ld_blt I hg2 hm2 PyProof.Rows.boot_set ?_)
  refine PyProof.Rows.callWith_type1 (PyProof.Rows.args_cons (thn (ha.run pins s σ H _ I h) fun v s1 ⟨x, H1, I1, r1, q1⟩ => PyProof.Rows.args_nil ?_) na) na rfl
  rcases q1 with ⟨l, ls, rfl, hq, h4, q1⟩ | ⟨z, rfl, h5, h4, q1⟩
  case inr =>
    obtain ⟨tz, rfl⟩ := r1
    have hall : (S z).cps.all (· < 128) = true := by
      show z.toArray.all (· < 128) = true
      rw [List.all_toArray]
      exact h5
    refine ST.call_str (I1.ok.hd hc) hall (by rw [S_len]; unfold scanBound; omega) fun s2 af => ?_
    obtain ⟨h', tk, rfl, ⟨o, es, ep, t, ho, hex, hd, _, _, _, hf, hn⟩, hk⟩ := af
    refine PyProof.Rows.args_nil ?_
    have I2 : Inv X pins σ H1 { s1 with heap := h', toks := tk } := I1.kept fun b o e => hk b o e
    have em : ((S z).cps.toList.map fun c => (⟨#[c]⟩ : Str)) = (z.map fun c => [c]).map S := by rw [List.map_map]; rfl
    rw [em] at hn
    have hl := ST.puts_len ((z.map fun c => [c]).map S) []
    rw [List.length_map, List.length_map, List.length_nil] at hl
    exact call_len_set ho hex hd hf (by rw [hn] <;> omega) ⟨.int (uniqN (z.map fun c => [c])), H1, I2.tok _, ⟨_, by rw [hn]; rfl⟩, q1⟩
  cases r1
  obtain ⟨its, r, pl, hz⟩ := I1.list hq
  refine ST.call_texts (I1.ok.hd hc) pl.isList (xs := ls.map S) (by simpa using strsAre_of r) (by rw [List.length_map]; unfold scanBound; omega) fun s2 af => ?_
  obtain ⟨h', tk, rfl, ⟨o, es, ep, t, ho, hex, hd, _, _, _, hf, hn⟩, hk⟩ := af
  refine PyProof.Rows.args_nil ?_
  have I2 : Inv X pins σ H1 { s1 with heap := h', toks := tk } := I1.kept fun b o e => hk b o e
  have hl := ST.puts_len (ls.map S) []
  rw [List.length_map, List.length_nil] at hl
  refine call_len_set ho hex hd hf (by rw [hn] <;> omega) ⟨.int (uniqN ls), H1, I2.tok _, ⟨_, by rw [hn]; rfl⟩, q1⟩
def sLenSet (f : EF) : EF := sUn oLenSet f
theorem se_lenSet (hc : X.calm = true) (hg : Gl X "len") (hm : X.mg "len" = none) (hg2 : Gl X "set") (hm2 : X.mg "set" = none) (ha : SE X W a f)
    (na : starEach [a] X.env = (false, eval a X.env) :: starEach [] X.env := by rfl) : SE X W (.Call (.Name "len" p) [.Call (.Name "set" p2) [a] [] q] [] pos) (sLenSet f) := by
  refine PE.mono (pe_lenSetS hc hg hm hg2 hm2 ha na) fun σ H Q q => ?_
  refine un_mono (X := X) (r := tLenS X.K) (fun B H1 x v rv hs hx e Q hq => ?_) σ H Q q
  unfold oLenSet at e
  split at e
  · split at e
    · rename_i ls hls
      split at e
      · rename_i hz
        cases e
        obtain ⟨p, ys, rfl, h2, r⟩ := hx.seq hs
        have e3 := r.strs? hls
        subst e3
        exact .inl ⟨p, ls, rfl, h2, hz, same0 hs (.int _) hq⟩
      · cases e
    · cases e
  · rename_i z
    split at e
    · rename_i hz
      cases e
      exact .inr ⟨z, hx.str, hz.1, hz.2, same0 hs (.int _) hq⟩
    · cases e
  · cases e
end
end Lw

end
section
set_option Elab.async false
set_option linter.all false
set_option maxRecDepth 100000
set_option maxHeartbeats 3200000
set_option autoImplicit false
/-! Lw: zip and enumerate over lists, tuples, texts. -/
namespace Lw.ZE
open PySem PySem.Spec PyProof.Rows L2

/-- what is walked: a list, a tuple, a text -/
inductive Sr where
  | l (a : Addr) (xs : List V) | t (a : Addr) (xs : List V) | s (z : Str)
def Sr.items : Sr → List V
  | .l _ xs => xs
  | .t _ xs => xs
  | .s z => z.cps.toList.map fun c => .str ⟨#[c]⟩
def Sr.has (K : PySem.W.Frag) (H : Hp) : Sr → Prop
  | .l a xs => SqL K H a xs
  | .t a xs => SqT K H a xs
  | .s _ => True
def Sr.ads : Sr → List Addr
  | .l a _ => [a]
  | .t a _ => [a]
  | .s _ => []
def Sr.isV : Sr → V → Prop
  | .l a _, x => x = .ref a
  | .t a _, x => x = .ref a
  | .s z, x => x = .str z
/-- the iterator behind i items -/
def Sr.st (r : Sr) (it : Addr) (i : Nat) (h : Heap) : Prop := match r with
  | .l a _ => h.IsListIter it a i
  | .t a _ => h.IsTupleIter it a i
  | .s z => ∃ t, h.IsStrIter it (strIterType z) z t i
theorem Sr.st_at {r : Sr} {it : Addr} {i : Nat} {h h' : Heap} (s : r.st it i h) (k : ∀ o, h.get? it = some o → h'.get? it = some o) : r.st it i h' := by
  cases r with
  | l a xs => exact Heap.IsListIter.at s k
  | t a xs => exact Heap.IsTupleIter.at s k
  | s z =>
    obtain ⟨t, o, ho, r⟩ := s
    exact ⟨t, o, k o ho, r⟩
theorem Sr.st_obj {r : Sr} {it : Addr} {i : Nat} {h : Heap} (s : r.st it i h) : ∃ o, h.get? it = some o ∧ ∀ v, o.data ≠ .cell v := by
  cases r with
  | l a xs => obtain ⟨o, ho, hc, hd⟩ := s; exact ⟨o, ho, fun v e => by rw [hd] at e; cases e⟩
  | t a xs => obtain ⟨o, ho, hc, hd⟩ := s; exact ⟨o, ho, fun v e => by rw [hd] at e; cases e⟩
  | s z => obtain ⟨t, o, ho, hc, hd⟩ := s; exact ⟨o, ho, fun v e => by rw [hd] at e; cases e⟩
section
variable {X : Cx} {pins : List (Addr × Obj)} {σ : L2.St} {H : Hp} {s : Shared}
/-- the iterator draws the items -/
theorem draws (I : Inv X pins σ H s) (hc : X.calm = true) {r : Sr} {it : Addr} {i : Nat} (h : r.has X.K H) (st : r.st it i s.heap) (hn : ∀ a ∈ r.ads, a ≠ it) :
    ∃ (Pv : Nat → Value → Prop) (St : Nat → Heap → Prop), Draws X.prog X.w X.A.in1 it (it :: r.ads) r.items.length Pv St ∧ St i s.heap ∧ (∀ j h', St j h' → r.st it j h') ∧ (∀ j v, Pv j v → ∃ y, r.items[j]? = some y ∧ RelV y v) := by
  have hh : X.A.in1.handled = none := by
    have := I.ok.hd hc
    simpa using this
  cases r with
  | l a xs =>
    obtain ⟨its, rv, p, _⟩ := I.list h
    refine ⟨fun i v => its.toArray[i]? = some v, fun i h => h.IsListIter it a i ∧ h.IsList a its.toArray, ?_, ⟨st, p.isList⟩, fun j h' z => z.1, fun j v hv => ?_⟩
    · show Draws _ _ _ _ [it, a] xs.length _ _
      have e : xs.length = its.toArray.size := by rw [rv.length]; simp
      rw [e]
      exact Draws.list hh it a (hn a (by simp [Sr.ads])) its.toArray
    · have hv' : its[j]? = some v := by simpa using hv
      have hj : j < xs.length := by rw [rv.length]; exact (List.getElem?_eq_some_iff.mp hv').1
      have hx : xs[j]? = some xs[j] := List.getElem?_eq_getElem hj
      obtain ⟨u, hu, ru⟩ := rv.get hx
      rw [hv'] at hu
      cases hu
      exact ⟨xs[j], hx, ru⟩
  | t a xs =>
    obtain ⟨its, rv, p, _⟩ := I.tuple h
    refine ⟨fun i v => its.toArray[i]? = some v, fun i h => h.IsTupleIter it a i ∧ h.IsTuple a its.toArray, ?_, ⟨st, p⟩, fun j h' z => z.1, fun j v hv => ?_⟩
    · show Draws _ _ _ _ [it, a] xs.length _ _
      have e : xs.length = its.toArray.size := by rw [rv.length]; simp
      rw [e]
      exact Draws.tuple hh it a (hn a (by simp [Sr.ads])) its.toArray
    · have hv' : its[j]? = some v := by simpa using hv
      have hj : j < xs.length := by rw [rv.length]; exact (List.getElem?_eq_some_iff.mp hv').1
      have hx : xs[j]? = some xs[j] := List.getElem?_eq_getElem hj
      obtain ⟨u, hu, ru⟩ := rv.get hx
      rw [hv'] at hu
      cases hu
      exact ⟨xs[j], hx, ru⟩
  | s z =>
    obtain ⟨t, st⟩ := st
    refine ⟨fun i v => ∃ c u, z.cps[i]? = some c ∧ v = .str ⟨#[c]⟩ u, fun i h => h.IsStrIter it (strIterType z) z t i, ?_, st, fun j h' z => ⟨t, z⟩, fun j v hv => ?_⟩
    · show Draws _ _ _ _ [it] _ _ _
      have e : (Sr.s z).items.length = z.cps.size := by simp [Sr.items]
      rw [e]
      exact Draws.text hh it z t
    · obtain ⟨c, u, h1, rfl⟩ := hv
      refine ⟨.str ⟨#[c]⟩, ?_, u, rfl⟩
      show (List.map _ _)[j]? = _
      rw [List.getElem?_map, show z.cps.toList[j]? = some c by simpa using h1]
      rfl
/-- iter(v) for such a v -/
theorem begins (I : Inv X pins σ H s) {r : Sr} {x : V} {v : Value} (h : r.has X.K H) (hx : r.isV x) (rx : RelV x v) :
    ∃ (o : Obj) (Hc : Heap → Prop), Begins v o Hc ∧ Hc s.heap ∧ (∀ h' it, h'.get? it = some o → r.st it 0 h') ∧ (∀ a ∈ r.ads, a < s.heap.objs.size) := by
  cases r with
  | l a xs =>
    cases hx
    cases (show v = Value.ref a from rx)
    obtain ⟨its, rv, p, _⟩ := I.list h
    refine ⟨_, _, begins_list a its.toArray, p.isList, fun h' it e => ⟨_, e, rfl, rfl⟩, fun b hb => ?_⟩
    have : b = a := by simpa [Sr.ads] using hb
    subst this
    exact p.lt
  | t a xs =>
    cases hx
    cases (show v = Value.ref a from rx)
    obtain ⟨its, rv, p, _⟩ := I.tuple h
    refine ⟨_, _, begins_tuple a its.toArray, p, fun h' it e => ⟨_, e, rfl, rfl⟩, fun b hb => ?_⟩
    have : b = a := by simpa [Sr.ads] using hb
    subst this
    obtain ⟨o, ho, _⟩ := p
    exact Heap.lt_size ho
  | s z =>
    cases hx
    obtain ⟨t, rfl⟩ := rx
    exact ⟨_, _, begins_text z t, trivial, fun h' it e => ⟨t, _, e, rfl, rfl⟩, fun b hb => by cases hb⟩
end

theorem z24 (z : Nat) : z + 2 ≠ z + 4 := by omega
theorem z34 (z : Nat) : z + 3 ≠ z + 4 := by omega
theorem z04 (z : Nat) : z ≠ z + 4 := by omega
theorem z14 (z : Nat) : z + 1 ≠ z + 4 := by omega
theorem z23 (z : Nat) : z + 2 ≠ z + 3 := by omega
theorem z20 (z : Nat) : z + 2 ≠ z := by omega
theorem z21 (z : Nat) : z + 2 ≠ z + 1 := by omega
theorem z10 (z : Nat) : z + 1 ≠ z := by omega
theorem below5 {z n c : Nat} (h : z + 4 < n) (e : c = z + 4 ∨ c = z + 2 ∨ c = z + 3 ∨ c = z ∨ c = z + 1) : c < n := by omega
theorem below2 {z n c : Nat} (h : z + 1 < n) (e : c = z + 1 ∨ c = z) : c < n := by omega
theorem above5 {z c : Nat} (e : c = z + 4 ∨ c = z + 2 ∨ c = z + 3 ∨ c = z ∨ c = z + 1) : z ≤ c := by omega
theorem above2 {z c : Nat} (e : c = z + 1 ∨ c = z) : z ≤ c := by omega
theorem z10' {z : Nat} (h : z + 1 < z) : False := by omega
/-! ### zip -/
def ItZ (K : PySem.W.Frag) (p q : Sr) : It :=
  ⟨fun i H => p.has K H ∧ q.has K H ∧ i < p.items.length ∧ i < q.items.length,
    fun i H v H' => ∃ T x y, v = .ref T ∧ H T = none ∧ H' = upd H T (.tup [x, y]) ∧ p.items[i]? = some x ∧ q.items[i]? = some y,
    fun i H => p.has K H ∧ q.has K H ∧ (p.items.length ≤ i ∨ q.items.length ≤ i)⟩
/-- the five cells of a zip -/
structure Zp (z : Addr) (p q : Sr) : Prop where
  p : ∀ a ∈ p.ads, a < z
  q : ∀ a ∈ q.ads, a < z
theorem Zp.sep {z : Addr} {p q : Sr} (h : Zp z p q) : ZipSep2 (z + 4) (z + 2) (z + 3) z (z + 1) (z :: p.ads) ((z + 1) :: q.ads) := zip_sep2 h.p h.q
theorem turn_zip {P : Program} {w : World} {K : PySem.W.Frag} {elts : List Expr} {kk : Nat} {tpos : Pos} {z : Addr} {p q : Sr} (D : Zp z p q) :
    Turn P w K (.Tuple elts kk tpos) (ItZ K p q) [z + 4, z + 2, z + 3, z, z + 1] (z + 4)
      (fun i h => IsZip h (z + 4) (z + 2) (z + 3) .none ∧ IsTupOf2 h (z + 2) (.ref z) (.ref (z + 1)) ∧ (∃ x y, IsTupOf2 h (z + 3) x y) ∧ p.st z i h ∧ q.st (z + 1) i h ∧ i ≤ p.items.length ∧ i ≤ q.items.length) where
  mem := by simp
  obj := fun i h st c hc => by
    obtain ⟨hz, hTI, ⟨x, y, hTO⟩, h1, h2, _⟩ := st
    have e' : c = z + 4 ∨ c = z + 2 ∨ c = z + 3 ∨ c = z ∨ c = z + 1 := by simpa using hc
    rcases e' with q | q | q | q | q
    · rw [q]; exact ⟨_, hz, fun v q => nomatch q⟩
    · rw [q]; exact ⟨_, hTI, fun v q => nomatch q⟩
    · rw [q]; exact ⟨_, hTO, fun v q => nomatch q⟩
    · rw [q]; exact Sr.st_obj h1
    · rw [q]; exact Sr.st_obj h2
  keep := fun i h h' st k => by
    obtain ⟨hz, hTI, ⟨x, y, hTO⟩, h1, h2, l1, l2⟩ := st
    exact ⟨k (z + 4) (by simp) _ hz, k (z + 2) (by simp) _ hTI, ⟨x, y, k (z + 3) (by simp) _ hTO⟩, Sr.st_at h1 fun o q => k z (by simp) o q, Sr.st_at h2 fun o q => k (z + 1) (by simp) o q, l1, l2⟩
  item := by
    intro X hP hw hK hc i pins s σ H E I hf st hg
    subst hP hw hK
    obtain ⟨hz, hTI, ⟨x0, y0, hTO⟩, h1, h2, _, _⟩ := st
    obtain ⟨hp, hq, li, lj⟩ := hg
    obtain ⟨P1, St1, D1, s1, b1, v1⟩ := draws I hc hp h1 fun a ha => Nat.ne_of_lt (D.p a ha)
    obtain ⟨P2, St2, D2, s2, b2, v2⟩ := draws I hc hq h2 fun a ha => Nat.ne_of_lt (Nat.lt_succ_of_lt (D.q a ha))
    have hzl : z + 4 < s.heap.objs.size := Heap.lt_size hz
    refine wpAny_pyNext_zipD2_item D.sep D1 D2 hz hTI hTO s1 s2 li lj fun u1 u2 h' tk e1 e2 z' TO' d1 d2 hT hsz hk => ?_
    obtain ⟨x, hx, rx⟩ := v1 _ _ e1
    obtain ⟨y, hy, ry⟩ := v2 _ _ e2
    refine ⟨_, rfl, wpAny_letOwnedTupleGo_zip (s := { s with heap := h', toks := tk }) z' fun h'' z'' sb => ?_⟩
    have hT2 : h''.get? s.heap.objs.size = some { cls := .type "tuple", data := .seq #[u1, u2] } := (sb.2 _ (Nat.ne_of_gt hzl)).trans hT
    have new : ObjOk X.prog X.w (upd H s.heap.objs.size (.tup [x, y])) h'' s.heap.objs.size (.tup [x, y]) :=
      ⟨by show 2 ≤ sizeLine; decide, [u1, u2], .cons rx (.cons ry .nil), ⟨_, hT2, rfl, _, rfl⟩⟩
    have I1 : Inv X pins σ (upd H s.heap.objs.size (.tup [x, y])) { s with heap := h'', toks := tk } :=
      I.turnedNew (ch := [z + 4, z + 2, z + 3, z, z + 1]) (fun c o hb q => (sb.2 c (fun q' => hb (by simp [q']))).trans (hk c o (fun q' => hb (by simp [q'])) (fun q' => hb (by simp [q'])) (fun q' => hb (by simp [q'])) (fun q' => hb (by simp [q'])) q)) hf (Nat.le_refl _) new
    refine ⟨.ref s.heap.objs.size, _, I1, rfl, ⟨_, x, y, rfl, I.hok.fresh (Nat.le_refl _), rfl, hx, hy⟩, ⟨z'', ?_, ⟨u1, u2, ?_⟩, ?_, ?_, li, lj⟩, fun c hcm => ?_⟩
    · exact (sb.2 (z + 2) (z24 z)).trans (hk (z + 2) _ (z24 z) (z23 z) (z20 z) (z21 z) hTI)
    · exact (sb.2 (z + 3) (z34 z)).trans TO'
    · exact Sr.st_at (b1 _ _ d1) fun o q => (sb.2 z (z04 z)).trans q
    · exact Sr.st_at (b2 _ _ d2) fun o q => (sb.2 (z + 1) (z14 z)).trans q
    · have hlt : c < s.heap.objs.size := by
        exact below5 hzl (by simpa using hcm)
      rw [upd_ne (Nat.ne_of_lt hlt)]
      exact (hf c hcm).1
  done := by
    intro X hP hw hK hc i pins s σ H E I hf st hg
    subst hP hw hK
    obtain ⟨hz, hTI, ⟨x0, y0, hTO⟩, h1, h2, l1, l2⟩ := st
    obtain ⟨hp, hq, hend⟩ := hg
    obtain ⟨P1, St1, D1, s1, b1, v1⟩ := draws I hc hp h1 fun a ha => Nat.ne_of_lt (D.p a ha)
    obtain ⟨P2, St2, D2, s2, b2, v2⟩ := draws I hc hq h2 fun a ha => Nat.ne_of_lt (Nat.lt_succ_of_lt (D.q a ha))
    exact wpAny_pyNext_zipD2_end D.sep D1 D2 hz hTI hTO s1 s2 l1 l2 (by omega) fun h' tk hk => ⟨rfl, I.turnedL (t' := tk) (ch := [z + 4, z + 2, z + 3, z, z + 1]) (fun c o hb q =>
      hk c o (fun q' => hb (by simp [q'])) (fun q' => hb (by simp [q'])) (fun q' => hb (by simp [q'])) (fun q' => hb (by simp [q'])) q) hf⟩
  self := fun A i s Q E st h => wpAny_pyIter_zip st.1 h
def iZG (K : PySem.W.Frag) (ta : TA) : TI := fun σ H R => ta σ H fun vs H1 => ∃ x y p q, vs = [x, y] ∧ Sr.isV p x ∧ Sr.isV q y ∧ p.has K H1 ∧ q.has K H1 ∧ R (ItZ K p q) H1
theorem pi_zipG {X : Cx} {e e2 : Expr} {ta : TA} {p pos tpos : Pos} {elts : List Expr} {kk : Nat} (hg : Gl X "zip") (hm : X.mg "zip" = none) (ha : PA X [e, e2] ta)
    (hs : starEach [e, e2] X.env = (false, eval e X.env) :: starEach [e2] X.env := by rfl) (hpl : (backTo pos (starEach [e2] X.env)).any (·.1) = false := by rfl) :
    PI X (.Tuple elts kk tpos) (.Call (.Name "zip" p) [e, e2] [] pos) (iZG X.K ta) := by
  refine ⟨fun pins s σ H R I h => ?_⟩
  refine Call_ (ld_blt I hg hm PyProof.Rows.boot_zip (PyProof.Rows.callWith_type1 (thn (ha.run pos pins s σ H _ I h) fun us s1 ⟨vs, H1, I1, r1, q1⟩ => ?_) hs hpl))
  obtain ⟨x, y, p, q, rfl, px, qy, hp, hq, qq⟩ := q1
  cases r1 with
  | cons rx rr =>
    cases rr with
    | cons ry rr =>
      cases rr
      obtain ⟨o1, H1', B1, hB1, st1, lt1⟩ := begins I1 hp px rx
      obtain ⟨o2, H2', B2, hB2, st2, lt2⟩ := begins I1 hq qy ry
      refine zip_begins2 B1 B2 hB1 hB2 fun h' hz hTI hTO g1 g2 hsz hk => wpAny_pyIter_zip hz ?_
      have I2 : Inv X pins σ H1 { s1 with heap := h' } := I1.kept (t' := s1.toks) hk
      refine ⟨_, _, _, _, H1, rfl, I2, turn_zip (z := s1.heap.objs.size) ⟨lt1, lt2⟩, ⟨hz, hTI, ⟨_, _, hTO⟩, st1 _ _ g1, st2 _ _ g2, Nat.zero_le _, Nat.zero_le _⟩, fun c hcm => ?_, qq⟩
      have e' : c = s1.heap.objs.size + 4 ∨ c = s1.heap.objs.size + 2 ∨ c = s1.heap.objs.size + 3 ∨ c = s1.heap.objs.size ∨ c = s1.heap.objs.size + 1 := by simpa using hcm
      exact I1.fpOk (above5 e') (I1.hok.fresh (above5 e'))

/-! ### enumerate -/
theorem meets_enum {v : Value} {o : Obj} {H : Heap → Prop} (B : Begins v o H) :
    Meets (Builtin.«enumerate.__new__» ⟨[.type "enumerate", v], []⟩) (fun _ R s => H s.heap ∧
      R (.ok (.ret (.ref (s.heap.push o).objs.size))) { s with heap := (s.heap.push o).push { cls := .type "enumerate", data := .fields #[.none, .bool false, .ref s.heap.objs.size, rawInt 0, .none, .none] } }) :=
  .of_wp fun prog w A R s h => by
    obtain ⟨hp, g, d, tk, os⟩ := s
    obtain ⟨h1, h⟩ := h
    have hsub := sub_enumerate
    have it : ∀ {A' : Around} {E : Value → Shared → Prop} {Q : Value → Shared → Prop}, Q (.ref hp.objs.size) ⟨hp.push o, g, d, tk, os⟩ → wpAny (model prog w) A' (pyIter v) Q E ⟨hp, g, d, tk, os⟩ :=
      fun q => B.iter prog w _ _ ⟨hp, g, d, tk, os⟩ _ h1 q
    wp_walk using it
    refine wpAny_stack_any fun st => wpAny_pure ?_
    split
    · rename_i c _ _ _ _ _
      cases (c == Value.type "enumerate") <;>
      · wp_walk using it
        exact ⟨_, rfl, h⟩
    · wp_walk using it
      exact ⟨_, rfl, h⟩
theorem call_enum {prog : Program} {w : World} {A : Around} {E : Value → Shared → Prop} {s : Shared} {v : Value} {o : Obj} {H : Heap → Prop} {Q : Value → Shared → Prop} (B : Begins v o H) (h1 : H s.heap)
    (h : ∀ h', IsEnum h' (s.heap.objs.size + 1) s.heap.objs.size 0 .none → h'.get? s.heap.objs.size = some o → (∀ b o, s.heap.get? b = some o → h'.get? b = some o) → Q (.ref (s.heap.objs.size + 1)) { s with heap := h' }) :
    wpAny (model prog w) A (call (.type "enumerate") [v]) Q E s := by
  refine callType_new F.called_enumerate (by decide) (F.typeCall_enumerate_1 _) (F.newCall_enumerate_1 _) (fun obj => F.args_object_init_2 obj _) F.entry_enumerate_new (meets_enum B) ⟨h1, ?_⟩
  have hz : (s.heap.push o).objs.size = s.heap.objs.size + 1 := Heap.size_push ..
  show _ ∧ _
  rw [hz]
  have he : IsEnum ((s.heap.push o).push { cls := .type "enumerate", data := .fields #[.none, .bool false, .ref s.heap.objs.size, rawInt 0, .none, .none] }) (s.heap.objs.size + 1) s.heap.objs.size 0 .none := by
    have := Heap.get?_push_size (s.heap.push o) (o := { cls := .type "enumerate", data := .fields #[.none, .bool false, .ref s.heap.objs.size, rawInt 0, .none, .none] }) rfl
    rw [hz] at this
    exact this
  exact ⟨⟨_, he, rfl⟩, h _ he (Heap.get?_push_of_some _ (Heap.get?_push_size _ B.free)) fun b o x => Heap.get?_push_of_some _ (Heap.get?_push_of_some _ x)⟩
def ItE (K : PySem.W.Frag) (p : Sr) : It :=
  ⟨fun i H => p.has K H ∧ i < p.items.length, fun i H v H' => ∃ T x, v = .ref T ∧ H T = none ∧ H' = upd H T (.tup [.int (i : Nat), x]) ∧ p.items[i]? = some x, fun i H => p.has K H ∧ p.items.length ≤ i⟩
theorem turn_enum {P : Program} {w : World} {K : PySem.W.Frag} {elts : List Expr} {kk : Nat} {tpos : Pos} {z : Addr} {p : Sr} (D : ∀ a ∈ p.ads, a < z) :
    Turn P w K (.Tuple elts kk tpos) (ItE K p) [z + 1, z] (z + 1) (fun i h => (∃ old, IsEnum h (z + 1) z ((i : Nat) : Int) old) ∧ p.st z i h ∧ i ≤ p.items.length) where
  mem := by simp
  obj := fun i h st b hb => by
    obtain ⟨⟨old, he⟩, hi, _⟩ := st
    have e' : b = z + 1 ∨ b = z := by simpa using hb
    rcases e' with q | q
    · rw [q]; exact ⟨_, he, fun v q => nomatch q⟩
    · rw [q]; exact Sr.st_obj hi
  keep := fun i h h' st k => let ⟨⟨old, he⟩, hi, hl⟩ := st; ⟨⟨old, k (z + 1) (by simp) _ he⟩, Sr.st_at hi fun o q => k z (by simp) o q, hl⟩
  item := by
    intro X hP hw hK hc i pins s σ H E I hf st hg
    subst hP hw hK
    obtain ⟨⟨old, he⟩, hi, _⟩ := st
    obtain ⟨hp, li⟩ := hg
    obtain ⟨P1, St1, D1, s1, b1, v1⟩ := draws I hc hp hi fun a ha => Nat.ne_of_lt (D a ha)
    have hel : z + 1 < s.heap.objs.size := Heap.lt_size he
    have hef : z + 1 ∉ z :: p.ads := fun hm => by
      rcases List.mem_cons.mp hm with q | q
      · exact z10 z q
      · exact z10' (D _ q)
    refine wpAny_pyNext_enum_itemC D1 he s1 li (z10 z) hef fun u h' tk e1 ho s2 hT hsz hk => ?_
    obtain ⟨x, hx, rx⟩ := v1 _ _ e1
    refine ⟨_, rfl, wpAny_letOwnedTupleGo_enum (s := { s with heap := h', toks := tk + 1 }) ho fun h'' he' sb => ?_⟩
    have hT2 : h''.get? s.heap.objs.size = some { cls := .type "tuple", data := .seq #[.int i tk, u] } := (sb.2 _ (Nat.ne_of_gt hel)).trans hT
    have new : ObjOk X.prog X.w (upd H s.heap.objs.size (.tup [.int (i : Nat), x])) h'' s.heap.objs.size (.tup [.int (i : Nat), x]) :=
      ⟨by show 2 ≤ sizeLine; decide, [.int i tk, u], .cons ⟨_, rfl⟩ (.cons rx .nil), ⟨_, hT2, rfl, _, rfl⟩⟩
    have I1 : Inv X pins σ (upd H s.heap.objs.size (.tup [.int (i : Nat), x])) { s with heap := h'', toks := tk + 1 } :=
      I.turnedNew (ch := [z + 1, z]) (fun b ob hb q => (sb.2 b (fun z => hb (by simp [z]))).trans (hk b ob (fun z => hb (by simp [z])) (fun z => hb (by simp [z])) q)) hf (Nat.le_refl _) new
    refine ⟨.ref s.heap.objs.size, _, I1, rfl, ⟨_, x, rfl, I.hok.fresh (Nat.le_refl _), rfl, hx⟩, ⟨⟨u, ?_⟩, Sr.st_at (b1 _ _ s2) fun o q => (sb.2 z (z10 z).symm).trans q, li⟩, fun b hb => ?_⟩
    · have e1 : ((i + 1 : Nat) : Int) = (i : Int) + 1 := by omega
      rw [e1]; exact he'
    · have hb' : b < s.heap.objs.size := by
        exact below2 hel (by simpa using hb)
      rw [upd_ne (Nat.ne_of_lt hb')]
      exact (hf b hb).1
  done := by
    intro X hP hw hK hc i pins s σ H E I hf st hg
    subst hP hw hK
    obtain ⟨⟨old, he⟩, hi, hl⟩ := st
    obtain ⟨hp, li⟩ := hg
    have ei : i = p.items.length := by omega
    obtain ⟨P1, St1, D1, s1, b1, v1⟩ := draws I hc hp hi fun a ha => Nat.ne_of_lt (D a ha)
    rw [ei] at s1
    exact wpAny_pyNext_enum_endD D1 he s1 fun h' eb => ⟨rfl, I.turnedL (t' := s.toks) (ch := [z + 1, z]) (fun b o hb q => eb b o (fun z => hb (by simp [z])) q) hf⟩
  self := fun A i s Q E st h => let ⟨⟨_, he⟩, _⟩ := st; wpAny_pyIter_enum he h
def iEG (K : PySem.W.Frag) (ta : TA) : TI := fun σ H R => ta σ H fun vs H1 => ∃ x p, vs = [x] ∧ Sr.isV p x ∧ p.has K H1 ∧ R (ItE K p) H1
theorem pi_enumG {X : Cx} {e : Expr} {ta : TA} {p pos tpos : Pos} {elts : List Expr} {kk : Nat} (hg : Gl X "enumerate") (hm : X.mg "enumerate" = none) (ha : PA X [e] ta) (hs : starEach [e] X.env = [(false, eval e X.env)] := by rfl) :
    PI X (.Tuple elts kk tpos) (.Call (.Name "enumerate" p) [e] [] pos) (iEG X.K ta) := by
  refine ⟨fun pins s σ H R I h => ?_⟩
  refine Call_ (ld_blt I hg hm boot_enumerate (PyProof.Rows.callWith_type1 (thn (ha.run pos pins s σ H _ I h) fun us s1 ⟨vs, H1, I1, r1, q1⟩ => ?_) hs rfl))
  obtain ⟨x, p, rfl, px, hp, qq⟩ := q1
  cases r1 with
  | cons rx rr =>
    cases rr
    obtain ⟨o1, H1', B1, hB1, st1, lt1⟩ := begins I1 hp px rx
    refine call_enum B1 hB1 fun h' he g1 hk => wpAny_pyIter_enum he ?_
    have I2 : Inv X pins σ H1 { s1 with heap := h' } := I1.kept (t' := s1.toks) hk
    refine ⟨_, _, _, _, H1, rfl, I2, turn_enum (z := s1.heap.objs.size) lt1, ⟨⟨_, he⟩, st1 _ _ g1, Nat.zero_le _⟩, fun c hcm => ?_, qq⟩
    have e' : c = s1.heap.objs.size + 1 ∨ c = s1.heap.objs.size := by simpa using hcm
    exact I1.fpOk (above2 e') (I1.hok.fresh (above2 e'))
end Lw.ZE

end
section
set_option Elab.async false
set_option linter.all false
set_option maxRecDepth 100000
set_option maxHeartbeats 1600000
set_option autoImplicit false
/-! Lw: zip, enumerate as values. -/
namespace Lw
open PySem L2
def itemsA : Val → Option (List Val)
  | .lst vs => some vs
  | .tup vs => some vs
  | .str cs => some (cs.map fun c => .str [c])
  | _ => none
section
variable {T : Tx} {B : Hp}
theorem rep_signs : ∀ cs : List Nat, RepAll T B (cs.map fun c => V.str ⟨#[c]⟩) (cs.map fun c => Val.str [c])
  | [] => .nil
  | c :: cs => .cons (Rep.str_mk [c]) (rep_signs cs)
theorem src {x : V} {v : Val} {vs : List Val} (h : Rep T B x v) (e : itemsA v = some vs) : ∃ p : ZE.Sr, p.isV x ∧ (∀ H, Same B H → p.has T.K H) ∧ RepAll T B p.items vs := by
  cases h with
  | lst q r => cases e; exact ⟨.l _ _, rfl, fun H s => .of (s _ _ q), r⟩
  | tup q r => cases e; exact ⟨.t _ _, rfl, fun H s => .of (s _ _ q), r⟩
  | str z => cases e; exact ⟨.s z, rfl, fun H s => trivial, rep_signs _⟩
  | _ => cases e
def enumV (vs : List Val) : List Val := vs.mapIdx fun i v => .tup [.int (i : Nat), v]
def zipV (xs ys : List Val) : List Val := List.zipWith (fun x y => .tup [x, y]) xs ys
theorem it_zip {p q : ZE.Sr} {xs ys : List Val} (hp : ∀ H, Same B H → p.has T.K H) (hq : ∀ H, Same B H → q.has T.K H) (r : RepAll T B p.items xs) (r' : RepAll T B q.items ys) : ItOk T (ZE.ItZ T.K p q) B B (zipV xs ys) where
  go := fun i H s hi => by
    unfold zipV at hi
    rw [List.length_zipWith] at hi
    exact ⟨hp H s, hq H s, by rw [r.length]; omega, by rw [r'.length]; omega⟩
  stop := fun i H s hi => by
    unfold zipV at hi
    rw [List.length_zipWith] at hi
    exact ⟨hp H s, hq H s, by rw [r.length, r'.length]; omega⟩
  yld := fun i H x H' B' s s0 s1 hi hy => by
    obtain ⟨t, a, b, rfl, n, rfl, ha, hb⟩ := hy
    obtain ⟨v, hv, hr⟩ := r.get' ha
    obtain ⟨w, hw, hr'⟩ := r'.get' hb
    have g := PG.new s1 (HO.tup [a, b]) n
    refine ⟨.tup [v, w], _, ?_, g, .tup upd_same (.cons ((hr.mono s0).mono g.kn) (.cons ((hr'.mono s0).mono g.kn) .nil))⟩
    unfold zipV
    rw [List.getElem?_zipWith, hv, hw]
theorem it_enum {p : ZE.Sr} {xs : List Val} (hp : ∀ H, Same B H → p.has T.K H) (r : RepAll T B p.items xs) : ItOk T (ZE.ItE T.K p) B B (enumV xs) where
  go := fun i H s hi => by
    unfold enumV at hi
    rw [List.length_mapIdx] at hi
    exact ⟨hp H s, by rw [r.length]; exact hi⟩
  stop := fun i H s hi => by
    unfold enumV at hi
    rw [List.length_mapIdx] at hi
    exact ⟨hp H s, by rw [r.length]; exact hi⟩
  yld := fun i H x H' B' s s0 s1 hi hy => by
    obtain ⟨t, a, rfl, n, rfl, ha⟩ := hy
    obtain ⟨v, hv, hr⟩ := r.get' ha
    have g := PG.new s1 (HO.tup [.int (i : Nat), a]) n
    refine ⟨.tup [.int (i : Nat), v], _, ?_, g, .tup upd_same (.cons (.int _) (.cons ((hr.mono s0).mono g.kn) .nil))⟩
    unfold enumV
    rw [List.getElem?_mapIdx, hv]; rfl
end
def sZip (fs : List EF) : IF := iargs (fs.map esh) fun os env => match shrs os with
  | some [v, w] => (match itemsA v, itemsA w with
    | some xs, some ys => some (.items (zipV xs ys), env)
    | _, _ => none)
  | _ => none
def sEnum (fs : List EF) : IF := iargs (fs.map esh) fun os env => match shrs os with
  | some [v] => (match itemsA v with
    | some xs => some (.items (enumV xs), env)
    | _ => none)
  | _ => none
section
variable {X : Cx} {W : WX} {a b : Expr} {fs : List EF} {p pos tpos : Pos} {elts : List Expr} {kk : Nat}
theorem si_zip (hg : Gl X "zip") (hm : X.mg "zip" = none) (ha : SA X W [a, b] (fs.map esh))
    (hs : starEach [a, b] X.env = (false, eval a X.env) :: starEach [b] X.env := by rfl) (hpl : (backTo pos (starEach [b] X.env)).any (·.1) = false := by rfl) :
    SI X W (.Tuple elts kk tpos) (.Call (.Name "zip" p) [a, b] [] pos) (sZip fs) := by
  refine PI.mono (ZE.pi_zipG hg hm ha hs hpl) fun σ H R q => ?_
  obtain ⟨env, F, B, r, env2, S, e, p⟩ := q
  refine iargs_cut S e p fun os env1 H1 F1 B1 xs e1 S1 G1 xs1 p1 => ?_
  try dsimp only at e1
  split at e1
  · rename_i v w hvs
    have R1 := xs1.shrs hvs
    split at e1
    · rename_i is js h1 h2
      cases e1
      cases R1 with
      | cons r1 R1 =>
        cases R1 with
        | cons r2 R1 =>
          cases R1
          obtain ⟨p, i1, i2, i3⟩ := src r1 h1
          obtain ⟨q, j1, j2, j3⟩ := src r2 h2
          exact ⟨_, _, p, q, rfl, i1, j1, i2 H1 S1.sub, j2 H1 S1.sub, p1 H1 F1 B1 S1 .refl _ B1 (it_zip i2 j2 i3 j3) S1.sub (nof S1)⟩
    · cases e1
  · cases e1
theorem si_enum (hg : Gl X "enumerate") (hm : X.mg "enumerate" = none) (ha : SA X W [a] (fs.map esh)) (hs : starEach [a] X.env = [(false, eval a X.env)] := by rfl) :
    SI X W (.Tuple elts kk tpos) (.Call (.Name "enumerate" p) [a] [] pos) (sEnum fs) := by
  refine PI.mono (ZE.pi_enumG hg hm ha hs) fun σ H R q => ?_
  obtain ⟨env, F, B, r, env2, S, e, p⟩ := q
  refine iargs_cut S e p fun os env1 H1 F1 B1 xs e1 S1 G1 xs1 p1 => ?_
  try dsimp only at e1
  split at e1
  · rename_i v hvs
    have R1 := xs1.shrs hvs
    split at e1
    · rename_i is h1
      cases e1
      cases R1 with
      | cons r1 R1 =>
        cases R1
        obtain ⟨p, i1, i2, i3⟩ := src r1 h1
        exact ⟨_, p, rfl, i1, i2 H1 S1.sub, p1 H1 F1 B1 S1 .refl _ B1 (it_enum i2 i3) S1.sub (nof S1)⟩
    · cases e1
  · cases e1
end
end Lw

end
section
set_option Elab.async false
set_option linter.all false
set_option maxRecDepth 100000
set_option maxHeartbeats 1600000
set_option autoImplicit false
/-! Lw: a walk over any of list, tuple, text; a tuple taken apart; names for what is built in. -/
namespace Lw
open PySem L2
section
variable {X : Cx} {W : WX} {tg a : Expr} {f : EF}
theorem PI.or {t t' : TI} (h : PI X tg a t) (h' : PI X tg a t') : PI X tg a (fun σ H R => t σ H R ∨ t' σ H R) := ⟨fun pins s σ H R I q => q.elim (h.run pins s σ H R I) (h'.run pins s σ H R I)⟩
theorem iG_case {T : Tx} {σ : L2.St} {H : Hp} {R : It → Hp → Prop} (h : iG T W (ibind f itemsA) σ H R) : iG T W (ibind f itemsL) σ H R ∨ iG T W (ibind f itemsT) σ H R ∨ iG T W (ibind f itemsS) σ H R := by
  obtain ⟨env, F, B, r, env2, S, e, p⟩ := h
  unfold ibind at e
  split at e
  · rename_i v env1 hf
    split at e
    · rename_i vs hv
      cases v with
      | lst ws => exact .inl ⟨env, F, B, r, env2, S, by unfold ibind; rw [hf]; cases hv; exact e, p⟩
      | tup ws => exact .inr (.inl ⟨env, F, B, r, env2, S, by unfold ibind; rw [hf]; cases hv; exact e, p⟩)
      | str ws => exact .inr (.inr ⟨env, F, B, r, env2, S, by unfold ibind; rw [hf]; cases hv; exact e, p⟩)
      | _ => cases hv
    · cases e
  · rename_i c env1 hf
    exact .inl ⟨env, F, B, r, env2, S, by unfold ibind; rw [hf]; exact e, p⟩
  · cases e
/-- a list, a tuple or a text -/
def sAny (f : EF) : IF := ibind (esh f) itemsA
theorem si_any (h : SE X W a f) : SI X W tg a (sAny f) := PI.mono (PI.or (si_list h) (PI.or (si_tup h) (si_str h))) fun _ _ _ q => iG_case q
/-- a, b, .. = e, e a tuple -/
def sUnp (is : List Nat) (f : EF) : SF := obind (esh f) fun o env => match o with
  | .shr v => (tgSet (.many is) v env).map (FRes.nx, ·)
  | _ => none
theorem ss_unp {ts : List Expr} {is : List Nat} {e : Expr} {k : Nat} {tpos pos : Pos} (hc : X.calm = true) (hg : PGs X ts (gNames is)) (he : SE X W e f)
    (hn : (assignEach ts X.env).length = is.length := by rfl) (hst : (assignEach ts X.env).findIdx? (·.1) = none := by rfl)
    (hs : swapsWithSole [.Tuple ts k tpos] e pos.line X.env = pure false := by rfl) (hw : swappedStores [.Tuple ts k tpos] e X.env = pure none := by rfl)
    (h1 : (assignEach [.Tuple ts k tpos] X.env).map (·.2) = [assign (.Tuple ts k tpos) X.env] := by rfl) : SS X W (.Assign [.Tuple ts k tpos] e pos) (sUnp is f) := by
  refine PS.mono (ps_asg (se_esh he) (pg_tup hc hg hn hst) hs hw h1) fun D σ H h => ?_
  obtain ⟨env, F, B, r, env2, S, e, p⟩ := h
  refine ocut S e p fun o env1 H1 F1 B1 x e1 S1 G1 x1 => ?_
  try dsimp only at e1
  cases o with
  | shr v =>
    obtain ⟨env3, h3, h4⟩ := Option.map_eq_some_iff.mp e1
    cases h4
    refine tg_ok (t := .many is) S1 x1 h3 fun xs F2 S2 G2 => ?_
    exact p _ H1 F2 B1 S2 (G1.trans S S1 G2)
  | new v => cases e1
  | var i => cases e1
end
theorem b_len : bootBuiltins "len" = some (.builtin "len") := by decide +kernel
theorem b_all : bootBuiltins "all" = some (.builtin "all") := by decide +kernel
theorem b_any : bootBuiltins "any" = some (.builtin "any") := by decide +kernel
theorem b_max : bootBuiltins "max" = some (.builtin "max") := by decide +kernel
theorem b_min : bootBuiltins "min" = some (.builtin "min") := by decide +kernel
theorem b_isi : bootBuiltins "isinstance" = some (.builtin "isinstance") := by decide +kernel
theorem b_int : bootBuiltins "int" = some (.type "int") := by decide +kernel
theorem b_str : bootBuiltins "str" = some (.type "str") := by decide +kernel
theorem b_bool : bootBuiltins "bool" = some (.type "bool") := by decide +kernel
theorem b_list : bootBuiltins "list" = some (.type "list") := by decide +kernel
theorem b_tuple : bootBuiltins "tuple" = some (.type "tuple") := by decide +kernel
theorem b_set : bootBuiltins "set" = some (.type "set") := by decide +kernel
theorem b_dict : bootBuiltins "dict" = some (.type "dict") := by decide +kernel
theorem u64 {k : Nat} {A : Around} (h : Room k A) : A.units + 64 < cLine := by have := h.un; omega
theorem u65 {k : Nat} {A : Around} (h : Room k A) : A.units + 65 < cLine := by have := h.un; omega
end Lw

end
section
set_option Elab.async false
set_option linter.all false
set_option maxRecDepth 100000
set_option maxHeartbeats 1600000
set_option autoImplicit false
/-! Lw: a law's end. -/
namespace Lw
open PySem L2
/-- a law's promise, from its semantic function's answer -/
theorem law_sp {T : Tx} {φ : Fn} {H : Hp} {a : Addr} {ns : List Int} (h : SqL T.K H a (ns.map V.int)) {ss : List Slot} (e : φ [.shr (.scr ns)] = some (.ret (.shr (.bl true)), ss)) :
    spF T 1 φ [.ref a] H (fun v _ => v = .bl true) fun _ _ _ => False := by
  refine ⟨rfl, [.shr (.scr ns)], H, (fun _ => []), _, ss, ⟨Same.refl _, rfl, fun i v e1 => ?_, fun i v e1 => ?_, fun _ _ => rfl, (fun i b hb => by cases hb), (fun i j b hb => by cases hb)⟩, rfl, e, fun H1 B1 F1 S1 G1 x hx => Rep.bl_inv hx⟩
  · cases i with
    | zero => cases e1; exact ⟨_, rfl, .scr h⟩
    | succ i => simp at e1
  · cases i with
    | zero => cases e1
    | succ i => unfold own? at e1; simp at e1
theorem walk_ofW {l : PySem.W.OpenLaw} {n k : Nat} {q : Program} {loose : List Str} {XP : (Str → Option Value) → Heap → Prop} {YP : World → Heap → Prop} {d : DefRec} {x : Str} (hn : l.most = some n) (hn2 : n ≤ sizeLine) (hdf : d.params.defaults = []) (hr : Room k callerA)
    (F : ∀ (w : World) (mg : Str → Option Value) (fa : Addr) (h : Heap), YP w h → h.Ns mainGlobals mg → mg d.name = some (.ref fa) → ∃ (K : PySem.W.Frag) (fd : FuncData) (sp : Sp), K.In h ∧ (∀ (s : Shared) (u : Value), BindsTo s fd ⟨[u], []⟩ [(x, u)]) ∧
        (∀ (H : Hp) (a : Addr) (ns : List Int), ns.length ≤ n → SqL K H a (ns.map V.int) → sp [.ref a] H (fun v _ => v = .bl true) fun _ _ _ => False) ∧ ∀ base : Heap, K.In base → base.Ns mainGlobals mg → FnOk l.prog w K mg base (L2.CX l.prog w) k fa fd [x] sp) :
    PySem.W.WalkO q loose XP YP l.row.toRowW d [] (fun f vs => PySem.call f vs) := by
  refine Att.attach_call hn hdf fun w s₀ s₁ mg mb fa o pm cd doc a vs ns G Y ho hd hcd hmg hobj hints hlen hg => ?_
  obtain ⟨K, fd, sp, KX, hb, hsp, hF⟩ := F w mg fa _ Y G.T.g hmg
  refine law_call KX G.T.g G.T.b G.T.builtins G.T.nolimit hg hobj hints (Nat.le_trans hlen hn2) hr hF hb (fun H _ hS => hsp H a ns hlen hS) fun H e s' z => ?_
  obtain ⟨_, _, _, _, _, _, _, _, _, _, _, _, z⟩ := z
  exact z
end Lw

end
section
set_option Elab.async false
set_option linter.all false
set_option maxRecDepth 100000
set_option maxHeartbeats 1600000
set_option autoImplicit false
/-! Lw: where a token is out: replace. -/
namespace Lw
open PySem PySem.Spec PyProof.Rows L2 CwR
/-- the first thing that a run does (positions aside) gives a token out -/
def heads {α : Type} : Nat → Sem α → Bool
  | 0, _ => false
  | n + 1, .rule _ k => heads n (k ())
  | n + 1, .at _ k => heads n (k ())
  | n + 1, .point _ k => heads n (k ())
  | _ + 1, .fresh _ => true
  | _ + 1, _ => false
theorem heads_wp {α : Type} {M : Model} {Γ : PySem.Ctx} : ∀ (n : Nat) (t : Sem α) (Q : α → Pos → Shared → Prop) (E : Value → Pos → Shared → Prop) (p : Pos) (s : Shared), heads n t = true → Sem.wp M Γ t Q E p s → Sem.wp M Γ t (fun a p' s' => 1 ≤ s'.toks ∧ Q a p' s') (fun e p' s' => 1 ≤ s'.toks ∧ E e p' s') p s
  | 0, _, _, _, _, _, h, _ => by cases h
  | n + 1, t, Q, E, p, s, h, q => by
    cases t with
    | rule tg k => exact heads_wp n (k ()) Q E p s h q
    | «at» p' k => exact heads_wp n (k ()) Q E p' s h q
    | point l k => exact heads_wp n (k ()) Q E p s h q
    | fresh k => exact Sem.wp_toks M Γ 1 (k s.toks) Q E p { s with toks := s.toks + 1 } (by show 1 ≤ s.toks + 1; omega) q
    | _ => cases h
theorem heads_any {α : Type} {M : Model} {A : Around} {s : Shared} {t : Sem α} {Q : α → Shared → Prop} {E : Value → Shared → Prop} (n : Nat) (hu : heads n t = true) (h : wpAny M A t Q E s) : wpAny M A t (fun a s' => 1 ≤ s'.toks ∧ Q a s') (fun e s' => 1 ≤ s'.toks ∧ E e s') s :=
  fun Γ p hΓ => heads_wp n t _ _ p s hu (h Γ p hΓ)
section
variable {X : Cx} {W : WX} {st : Stmt} {rest : List Stmt} {t u : TS} {g g1 g2 : SF} {a b e : Expr} {f f2 : EF} {pos : Pos}
theorem PSsT.mono {t' : TS} (h : PSsT X rest t) (k : ∀ D σ H, t' D σ H → t D σ H) : PSsT X rest t' := fun pins s σ H D h0 I q => h pins s σ H D h0 I (k D σ H q)
theorem PST.mono {t' : TS} (h : PST X st t) (k : ∀ D σ H, t' D σ H → t D σ H) : PST X st t' := fun pins s σ H D h0 I q => h pins s σ H D h0 I (k D σ H q)
theorem PET.mono {te te' : TE} (h : PET X e te) (k : ∀ σ H Q, te' σ H Q → te σ H Q) : PET X e te' := fun pins s σ H Q h0 I q => h pins s σ H Q h0 I (k σ H Q q)
/-- a block whose first statement gives a token out -/
theorem pss_up (h1 : PS X st t) (hu : heads 60 (exec st X.env) = true) (h2 : PSsT X rest u) : PSs X (st :: rest) (tSeq t u) := by
  refine ⟨fun pins s σ H D I h => ?_⟩
  refine wpAny_execs_cons (wpAny_mono (heads_any 60 hu (h1.run pins s σ H { D with nx := u D } I h)) (fun f s1 q => ?_) fun _ _ x => x.2)
  obtain ⟨hk, q⟩ := q
  cases f with
  | next =>
    obtain ⟨σ', H', I', q⟩ := q
    exact h2 pins s1 σ' H' D hk I' q
  | ret v => exact q
  | brk => exact q
  | cont => exact q
abbrev SET (X : Cx) (W : WX) (e : Expr) (f : EF) : Prop := PET X e (eG (tx X) W f)
abbrev SST (X : Cx) (W : WX) (st : Stmt) (g : SF) : Prop := PST X st (sG (tx X) W g)
abbrev SSsT (X : Cx) (W : WX) (st : List Stmt) (g : SF) : Prop := PSsT X st (sG (tx X) W g)
def PTT (X : Cx) (e : Expr) (t : TT) : Prop := ∀ (pins : List (Addr × Obj)) (s : Shared) (σ : L2.St) (H : Hp) (Q : Bool → Hp → Prop), 1 ≤ s.toks → Inv X pins σ H s → t σ H Q → wpAny (model X.prog X.w) X.A (isTrue e X.env (eval e X.env)) (TP X pins σ Q) X.xe s
abbrev STT (X : Cx) (W : WX) (e : Expr) (f : EF) : Prop := PTT X e (tG (tx X) W f)
theorem set_of (h : SE X W e f) : SET X W e f := PET.of h
theorem sssT_of (h : SSs X W rest g) : SSsT X W rest g := PSsT.of h
theorem sstT_of (h : SS X W st g) : SST X W st g := PST.of h
theorem sss_up (h1 : SS X W st g1) (h2 : SSsT X W rest g2) (hu : heads 60 (exec st X.env) = true := by rfl) : SSs X W (st :: rest) (sSeq g1 g2) := PSs.mono (pss_up h1 hu h2) fun _ _ _ h => seq_mono h
theorem sssT_cons (h1 : SST X W st g1) (h2 : SSsT X W rest g2) : SSsT X W (st :: rest) (sSeq g1 g2) := PSsT.mono (psst_cons h1 h2) fun _ _ _ h => seq_mono h
theorem sssT_one (h1 : SST X W st g1) : SSsT X W [st] g1 := psst_one h1
theorem pst_ifT {c : Expr} {x y : List Stmt} {tc : TT} (hc : PTT X c tc) (ha : PSsT X x t) (hb : PSsT X y u) : PST X (.If c x y pos) (tIfS tc t u) := by
  intro pins s σ H D h0 I h
  refine wpAny_If (wpAny_mono (PySem.wpAny_toks (hc pins s σ H _ h0 I h)) (fun d s1 q => ?_) fun _ _ z => z.2)
  obtain ⟨hk, H1, I1, q1⟩ := q
  cases d with
  | true => exact ha pins s1 σ H1 D (Nat.le_trans h0 hk) I1 q1
  | false => exact hb pins s1 σ H1 D (Nat.le_trans h0 hk) I1 q1
theorem sstT_if {c : Expr} {x y : List Stmt} (hc : STT X W c f) (ha : SSsT X W x g1) (hb : SSsT X W y g2) : SST X W (.If c x y pos) (sIfS f g1 g2) := by
  refine PST.mono (pst_ifT hc ha hb) fun D σ H h => ?_
  obtain ⟨env, F, B, r, env2, S, e, p⟩ := h
  refine ocutT S e p (fun o env1 e1 => ?_) fun b env1 H1 F1 B1 e1 S1 G1 => ?_
  · try dsimp only at e1
    split at e1
    · exact ⟨_, rfl⟩
    · exact ⟨_, rfl⟩
    · cases e1
  · cases b with
    | true => exact iteT ⟨env1, F1, B1, r, env2, S1, e1, p.shift S S1 G1⟩
    | false => exact iteF ⟨env1, F1, B1, r, env2, S1, e1, p.shift S S1 G1⟩
theorem ptt_cmp {op : CmpOp} {r : R2} {ta tb : TE} (ho : OpR X (compareOp op) r) (ha : PET X a ta) (hb : PET X b tb) (hm : behindInMarks op b = false) : PTT X (.Compare a [op] [b] pos) (tTest (tOp r ta tb)) := by
  intro pins s σ H Q h0 I h
  refine wpAny_isTrue_Compare1 (wpAny_mono (PySem.wpAny_toks (ha pins s σ H _ h0 I h)) (fun v s1 ⟨hk, x, H1, I1, r1, q1⟩ => thn (hb pins s1 σ H1 _ (Nat.le_trans h0 hk) I1 q1) fun u s2 ⟨y, H2, I2, r2, q2⟩ =>
    thn (ho pins s2 σ H2 x y v u _ I2 r1 r2 q2) fun c s3 ⟨z, H3, I3, r3, k, e, q3⟩ => ?_) fun _ _ z => z.2) hm
  subst e
  cases r3
  exact wpAny_truthy_bool ⟨H3, I3, q3⟩
theorem stt_cmp {op : CmpOp} {r : R2} {opv : Val → Val → Option RV} (ho : OpR X (compareOp op) r) (hs : OpS (tx X) r opv) (ha : SET X W a f) (hb : SET X W b f2) (hm : behindInMarks op b = false) : STT X W (.Compare a [op] [b] pos) (sBin opv f f2) :=
  fun pins s σ H Q h0 I q => ptt_cmp ho ha hb hm pins s σ H Q h0 I (bin_mono hs _ _ _ (eG_of_tG q))
def replL (y z x : List Nat) : List Nat := (Txt.replace (S x) (S y) (S z)).cps.toList
def oRepl (y z : List Nat) : Val → Option RV
  | .str x => if x.length + (x.length + 1) * z.length ≤ 16000000 then some (.shr (.str (replL y z x))) else none
  | _ => none
def sRepl (y z : List Nat) (f : EF) : EF := sUn (oRepl y z) f
theorem set_repl {o : Expr} {y z : Str} {ly lz : List Nat} {j k : Nat} {c0 c1 apos : Pos} (ho : SE X W o f) (ey' : y.cps.toList = ly) (ez' : z.cps.toList = lz) (hyz : (y == z) = false := by decide)
    (hst : starEach [.Constant (.str y) j c0, .Constant (.str z) k c1] X.env = [(false, eval (.Constant (.str y) j c0) X.env), (false, eval (.Constant (.str z) k c1) X.env)] := by rfl)
    (hbase : attributeBase o "replace" X.env (eval o X.env) = eval o X.env := by rfl) (hline : (apos.endLine == pos.line) = true := by rfl) :
    SET X W (.Call (.Attribute o "replace" apos) [.Constant (.str y) j c0, .Constant (.str z) k c1] [] pos) (sRepl ly lz f) := by
  have ey : S ly = y := by rw [← ey']; exact S_back y
  have ez : S lz = z := by rw [← ez']; exact S_back z
  clear ey' ez'
  subst ey ez
  refine PET.mono (pet_replC ho hyz hst hbase hline) fun σ H Q q => ?_
  refine un_mono (X := X) (r := fun v H1 Q => ∃ x, v = .str x ∧ x.length + (x.length + 1) * (S lz).length ≤ 16777216 ∧ Q (.str (Txt.replace x (S ly) (S lz))) H1) (fun B H1 x v rv hs hx e Q hq => ?_) σ H Q q
  unfold oRepl at e
  split at e
  · rename_i w
    split at e
    · rename_i hl
      cases e
      refine ⟨S w, hx.str, ?_, same0 hs (Rep.of_str rfl) hq⟩
      rw [S_len, S_len]; omega
    · cases e
  · cases e
end
end Lw

end
section
set_option Elab.async false
set_option linter.all false
set_option maxRecDepth 100000
set_option maxHeartbeats 1600000
set_option autoImplicit false
/-! Lw: dicts: get, in. -/
namespace Lw
open PySem PySem.Spec PyProof.Rows L2
section
variable {T : Tx} {B H : Hp}
mutual
theorem rep_key {x : V} {v : Val} {k : NestedKey} (h : Rep T B x v) (e : nk v = some k) : KeyIs B k x := by
  cases h with
  | int i => cases e; exact .int i
  | str z => cases e; exact .str z
  | tup q r =>
    unfold nk at e
    obtain ⟨ks, e1, rfl⟩ := Option.map_eq_some_iff.mp e
    exact .tup q (reps_key r e1)
  | _ => cases e
theorem reps_key {ys : List V} {vs : List Val} {ks : List NestedKey} (h : RepAll T B ys vs) (e : nks vs = some ks) : KeysAre B ks ys := by
  cases h with
  | nil => cases e; exact .nil
  | cons a b =>
    unfold nks at e
    split at e
    · rename_i k ks' e1 e2
      cases e
      exact .cons (rep_key a e1) (reps_key b e2)
    · cases e
end
theorem OprR.dct (s : Same B H) {x : V} {ks vs : List Val} (h : OprR T B H x (.dct ks vs)) : ∃ a o kys vys, x = .ref a ∧ H a = some o ∧ IsDct T a o ks kys vys ∧ RepAll T B kys ks ∧ RepAll T B vys vs := by
  rcases h with h | ⟨a, fp, rfl, h, _⟩
  · cases h with
    | dct q d r1 r2 => exact ⟨_, _, _, _, rfl, s _ _ q, d, r1, r2⟩
  · cases h with
    | dct q d r1 r2 => exact ⟨_, _, _, _, rfl, q, d, r1, r2⟩
def ROpt (T : Tx) (B : Hp) : Option V → Option Val → Prop
  | some x, some v => Rep T B x v
  | none, none => True
  | _, _ => False
/-- what stands at a key -/
def dfind (ks vs : List Val) (k : NestedKey) : Option Val := ((ks.zip vs).find? fun p => decide (nk p.1 = some k)).map (·.2)
theorem find_n (k : NestedKey) : ∀ (xs : List Ent) (ks vs : List Val), RepAll T B (xs.map (·.2.2)) vs → ks.map nk = xs.map (fun e => some e.1) → ROpt T B (valN xs k) (dfind ks vs k)
  | [], ks, vs, r, e => by
    cases r
    cases ks with
    | nil => exact True.intro
    | cons a b => cases e
  | x :: xs, ks, vs, r, e => by
    cases r with
    | cons r1 r2 =>
      cases ks with
      | nil => cases e
      | cons q ks =>
        rw [List.map_cons, List.map_cons] at e
        injection e with e1 e2
        have ih := find_n k xs ks _ r2 e2
        by_cases h : x.1 = k
        · have a1 : valN (x :: xs) k = some x.2.2 := by simp [valN, h]
          rw [a1]
          unfold dfind
          rw [List.zip_cons_cons, List.find?_cons_of_pos (by simp [e1, h])]
          exact r1
        · have a1 : valN (x :: xs) k = valN xs k := by simp [valN, h]
          rw [a1]
          unfold dfind
          rw [List.zip_cons_cons, List.find?_cons_of_neg (by simp [e1, h])]
          exact ih
/-- an int or a text as a key -/
def kq : Val → Option Key
  | .int i => some (.inl i)
  | .str z => some (.inr ⟨z.toArray⟩)
  | _ => none
def nkK : Key → NestedKey
  | .inl i => .num i
  | .inr z => .text z
theorem nkK_inj {a b : Key} (h : nkK a = nkK b) : a = b := by
  cases a <;> cases b <;> first | (cases h; rfl) | cases h
theorem kV_nk {k : Key} {v : Val} (r : Rep T B (kV k) v) : nk v = some (nkK k) := by
  cases k with
  | inl i => cases r with | int i => rfl
  | inr z => cases r with | str z => rfl
theorem kq_rep {v : Val} {k : Key} {x : V} (e : kq v = some k) (h : Rep T B x v) : x = kV k ∧ nk v = some (nkK k) := by
  unfold kq at e
  split at e
  · cases e
    cases h
    exact ⟨rfl, rfl⟩
  · cases e
    cases h with
    | str z => exact ⟨rfl, rfl⟩
  · cases e
theorem find_k (k : Key) : ∀ (kvs : List (Key × V)) (ks vs : List Val), RepAll T B (kvs.map fun p => kV p.1) ks → RepAll T B (kvs.map (·.2)) vs → ROpt T B (valV kvs k) (dfind ks vs (nkK k))
  | [], ks, vs, r1, r2 => by cases r1; cases r2; exact True.intro
  | p :: kvs, ks, vs, r1, r2 => by
    cases r1 with
    | cons a1 b1 =>
      cases r2 with
      | cons a2 b2 =>
        have ih := find_k k kvs _ _ b1 b2
        have n1 := kV_nk a1
        by_cases h : p.1 = k
        · rw [valV_pos h]
          unfold dfind
          rw [List.zip_cons_cons, List.find?_cons_of_pos (by simp [n1, h])]
          exact a2
        · rw [valV_neg h]
          unfold dfind
          rw [List.zip_cons_cons, List.find?_cons_of_neg (by simp [n1]; exact fun z => h (nkK_inj z))]
          exact ih
theorem ks_non {xs : List Ent} {ks : List Val} (h : RepAll T B (V.non :: xs.map (fun e => V.ref e.2.1)) ks) : ∃ ks', ks = .non :: ks' ∧ RepAll T B (xs.map fun e => V.ref e.2.1) ks' := by
  cases h with
  | cons a b => cases a; exact ⟨_, rfl, b⟩
theorem ks_not {kvs : List (Key × V)} {ks : List Val} (h : RepAll T B (kvs.map fun p => kV p.1) (.non :: ks)) : False := by
  cases kvs with
  | nil => cases h
  | cons p kvs =>
    cases h with
    | cons a b =>
      obtain ⟨k, v⟩ := p
      cases k <;> cases a
theorem keys_ok (s : Same B H) : ∀ (xs : List Ent) (ks : List Val), RepAll T B (xs.map fun e => V.ref e.2.1) ks → ks.map nk = xs.map (fun e => some e.1) → (∀ e ∈ xs, e.1.depth ≤ 8) → KsOk H xs
  | [], _, _, _, _ => fun x hx => nomatch hx
  | x :: xs, ks, r, e, d => by
    cases r with
    | cons a b =>
      rw [List.map_cons, List.map_cons] at e
      injection e with e1 e2
      intro y hy
      rcases List.mem_cons.mp hy with rfl | hy
      · exact ⟨(rep_key a e1).mono s, d _ (List.mem_cons_self ..)⟩
      · exact keys_ok s xs _ b e2 (fun z hz => d z (List.mem_cons_of_mem _ hz)) y hy
/-- a dict of tuple keys, at a key -/
theorem OprR.nget (s : Same B H) {x y : V} {ks vs qs : List Val} {k : NestedKey} (h : OprR T B H x (.dct (.non :: ks) vs)) (hy : OprR T B H y (.tup qs)) (e : nk (.tup qs) = some k) :
    ∃ a b o, x = .ref a ∧ y = .ref b ∧ KeyIs H k y ∧ NGet T.P T.w H a k o ∧ ROpt T B o (dfind ks vs k) := by
  obtain ⟨a, o, kys, vys, rfl, ho, d, r1, r2⟩ := h.dct s
  obtain ⟨b, ys, rfl, hb, rb⟩ := hy.tupS
  have hk : KeyIs H k (.ref b) := (rep_key (.tup hb rb) e).mono s
  rcases d with ⟨kvs, rfl, rfl, rfl⟩ | ⟨ob, xs, rfl, rfl, rfl, e1, e2⟩
  · exact (ks_not r1).elim
  · obtain ⟨ks', e3, r3⟩ := ks_non r1
    cases e3
    exact ⟨a, b, _, rfl, rfl, hk, .inl ⟨ob, xs, ho, keys_ok s xs ks r3 e1 e2, rfl⟩, find_n k xs ks vs r2 e1⟩
def isNs : List Val → Bool
  | .non :: _ => true
  | _ => false
theorem OprR.kget (s : Same B H) {x y : V} {ks vs : List Val} {q : Val} {k : Key} (h : OprR T B H x (.dct ks vs)) (hn : isNs ks = false) (hy : OprR T B H y q) (e : kq q = some k) :
    ∃ a o, x = .ref a ∧ DGet H a y o ∧ ROpt T B o (dfind ks vs (nkK k)) := by
  obtain ⟨a, o, kys, vys, rfl, ho, d, r1, r2⟩ := h.dct s
  have hq : y = kV k := by
    rcases hy with hy | ⟨_, _, _, hy, _⟩
    · exact (kq_rep e hy).1
    · cases hy <;> cases e
  rcases d with ⟨kvs, rfl, rfl, rfl⟩ | ⟨ob, xs, rfl, rfl, rfl, e1, e2⟩
  · exact ⟨a, _, rfl, by rw [hq]; exact DGet.k ho, find_k k kvs ks vs r1 r2⟩
  · obtain ⟨ks', rfl, _⟩ := ks_non r1
    cases hn
end
/-! ### values -/
def atN (ks vs : List Val) (q : List Val) : Option (Option Val) := match nk (.tup q) with
  | some k => if k.depth ≤ 8 then some (dfind ks vs k) else none
  | none => none
def atK (ks vs : List Val) (q : Val) : Option (Option Val) := if isNs ks = false then (kq q).map fun k => dfind ks vs (nkK k) else none
def oIxN : Val → Val → Option RV
  | .dct (.non :: ks) vs, .tup q => ((atN ks vs q).bind id).map .shr
  | _, _ => none
def oIxK : Val → Val → Option RV
  | .dct ks vs, q => ((atK ks vs q).bind id).map .shr
  | _, _ => none
def oInN (n : Bool) : Val → Val → Option RV
  | .tup q, .dct (.non :: ks) vs => (atN ks vs q).map fun o => .shr (.bl (n ^^ o.isSome))
  | _, _ => none
def oInK (n : Bool) : Val → Val → Option RV
  | q, .dct ks vs => (atK ks vs q).map fun o => .shr (.bl (n ^^ o.isSome))
  | _, _ => none
section
variable {T : Tx}
theorem ROpt.isSome {T : Tx} {B : Hp} {o : Option V} {o' : Option Val} (h : ROpt T B o o') : o.isSome = o'.isSome := by
  cases o <;> cases o' <;> first | rfl | cases h
theorem atN_some {ks vs q : List Val} {o : Option Val} (h : atN ks vs q = some o) : ∃ k, nk (.tup q) = some k ∧ k.depth ≤ 8 ∧ o = dfind ks vs k := by
  unfold atN at h
  split at h
  · rename_i k e
    split at h
    · rename_i d
      cases h
      exact ⟨k, e, d, rfl⟩
    · cases h
  · cases h
theorem atK_some {ks vs : List Val} {q : Val} {o : Option Val} (h : atK ks vs q = some o) : isNs ks = false ∧ ∃ k, kq q = some k ∧ o = dfind ks vs (nkK k) := by
  unfold atK at h
  split at h
  · rename_i hn
    obtain ⟨k, e, rfl⟩ := Option.map_eq_some_iff.mp h
    exact ⟨hn, k, e, rfl⟩
  · cases h
theorem os_ixN : OpS T (rNIx T.P T.w) oIxN := by
  intro B H x y vx vy rv hs hx hy e Q hq
  unfold oIxN at e
  split at e
  · rename_i ks vs q
    obtain ⟨v, e1, rfl⟩ := Option.map_eq_some_iff.mp e
    obtain ⟨o, e2, e3⟩ := Option.bind_eq_some_iff.mp e1
    obtain ⟨k, e4, d, rfl⟩ := atN_some e2
    have e3 : dfind ks vs k = some v := e3
    obtain ⟨a, b, o, rfl, rfl, hk, g, ro⟩ := hx.nget hs hy e4
    rw [e3] at ro
    cases o with
    | none => cases ro
    | some z => exact ⟨a, b, k, z, rfl, rfl, hk, d, g, same0 hs ro hq⟩
  · cases e
theorem os_ixK : OpS T rKIx oIxK := by
  intro B H x y vx vy rv hs hx hy e Q hq
  unfold oIxK at e
  split at e
  · rename_i ks vs
    obtain ⟨v, e1, rfl⟩ := Option.map_eq_some_iff.mp e
    obtain ⟨o, e2, e3⟩ := Option.bind_eq_some_iff.mp e1
    obtain ⟨hn, k, e4, rfl⟩ := atK_some e2
    have e3 : dfind ks vs (nkK k) = some v := e3
    obtain ⟨a, o, rfl, g, ro⟩ := hx.kget hs hn hy e4
    rw [e3] at ro
    cases o with
    | none => cases ro
    | some z => exact ⟨a, z, rfl, g, same0 hs ro hq⟩
  · cases e
theorem os_inN (n : Bool) : OpS T (rNIn T.P T.w n) (oInN n) := by
  intro B H y x vy vx rv hs hy hx e Q hq
  unfold oInN at e
  split at e
  · rename_i q ks vs
    obtain ⟨o', e1, rfl⟩ := Option.map_eq_some_iff.mp e
    obtain ⟨k, e4, d, rfl⟩ := atN_some e1
    obtain ⟨a, b, o, rfl, rfl, hk, g, ro⟩ := hx.nget hs hy e4
    refine ⟨a, b, k, o, rfl, rfl, hk, d, g, ?_⟩
    rw [ro.isSome]
    exact same0 hs (.bl _) hq
  · cases e
theorem os_inK (n : Bool) : OpS T (rKIn n) (oInK n) := by
  intro B H y x vy vx rv hs hy hx e Q hq
  unfold oInK at e
  split at e
  · rename_i ks vs
    obtain ⟨o', e1, rfl⟩ := Option.map_eq_some_iff.mp e
    obtain ⟨hn, k, e4, rfl⟩ := atK_some e1
    obtain ⟨a, o, rfl, g, ro⟩ := hx.kget hs hn hy e4
    refine ⟨a, o, rfl, g, ?_⟩
    rw [ro.isSome]
    exact same0 hs (.bl _) hq
  · cases e
end
end Lw

end
section
set_option Elab.async false
set_option linter.all false
set_option maxRecDepth 100000
set_option maxHeartbeats 1600000
set_option autoImplicit false
/-! Lw: dicts: stored into, made. -/
namespace Lw
open PySem PySem.Spec PyProof.Rows L2
/-- the keys and values behind d[q] = v -/
def dput (ks vs : List Val) (k : NestedKey) (q v : Val) : List Val × List Val :=
  if (dfind ks vs k).isSome = true then (ks, List.zipWith (fun a b => if nk a = some k then v else b) ks vs) else (ks ++ [q], vs ++ [v])
section
variable {T : Tx} {B H : Hp}
theorem repl_n (k : NestedKey) {v : Val} {x : V} (rx : Rep T B x v) : ∀ (xs : List Ent) (ks vs : List Val), RepAll T B (xs.map (·.2.2)) vs → ks.map nk = xs.map (fun e => some e.1) →
    RepAll T B ((xs.map fun e => if e.1 = k then (e.1, e.2.1, x) else e).map (·.2.2)) (List.zipWith (fun a b => if nk a = some k then v else b) ks vs)
  | [], ks, vs, r, e => by
    cases r
    cases ks with
    | nil => exact .nil
    | cons a b => cases e
  | y :: xs, ks, vs, r, e => by
    cases r with
    | cons r1 r2 =>
      cases ks with
      | nil => cases e
      | cons q ks =>
        rw [List.map_cons, List.map_cons] at e
        injection e with e1 e2
        rw [List.map_cons, List.map_cons, List.zipWith_cons_cons]
        refine .cons ?_ (repl_n k rx xs ks _ r2 e2)
        by_cases h : y.1 = k
        · rw [if_pos h, if_pos (by rw [e1, h])]; exact rx
        · rw [if_neg h, if_neg (by rw [e1]; exact fun z => h (Option.some.inj z))]; exact r1
theorem put_n {xs : List Ent} {ks vs : List Val} {k : NestedKey} {b : Addr} {x : V} {q v : Val} (r1 : RepAll T B (xs.map fun e => V.ref e.2.1) ks) (r2 : RepAll T B (xs.map (·.2.2)) vs) (e : ks.map nk = xs.map fun e => some e.1) (d : ∀ e ∈ xs, e.1.depth ≤ 8)
    (rq : Rep T B (.ref b) q) (eq : nk q = some k) (dk : k.depth ≤ 8) (rx : Rep T B x v) :
    RepAll T B ((putN xs k b x).map fun e => V.ref e.2.1) (dput ks vs k q v).1 ∧ RepAll T B ((putN xs k b x).map (·.2.2)) (dput ks vs k q v).2 ∧ (dput ks vs k q v).1.map nk = (putN xs k b x).map (fun e => some e.1) ∧ ∀ e ∈ putN xs k b x, e.1.depth ≤ 8 := by
  have fs := (find_n k xs ks vs r2 e).isSome
  unfold putN dput
  rw [fs]
  by_cases h : (dfind ks vs k).isSome = true
  · rw [if_pos h, if_pos h]
    have m1 : (xs.map fun e => if e.1 = k then (e.1, e.2.1, x) else e).map (fun e => V.ref e.2.1) = xs.map fun e => V.ref e.2.1 := by
      rw [List.map_map]
      apply List.map_congr_left
      intro e _
      show V.ref (if e.1 = k then (e.1, e.2.1, x) else e).2.1 = _
      split <;> rfl
    have m2 : (xs.map fun e => if e.1 = k then (e.1, e.2.1, x) else e).map (fun e => some e.1) = xs.map fun e => some e.1 := by
      rw [List.map_map]
      apply List.map_congr_left
      intro e _
      show some (if e.1 = k then (e.1, e.2.1, x) else e).1 = _
      split <;> rfl
    refine ⟨by rw [m1]; exact r1, repl_n k rx xs ks vs r2 e, by rw [m2]; exact e, fun z hz => ?_⟩
    obtain ⟨y, hy, rfl⟩ := List.mem_map.mp hz
    have := d y hy
    split <;> exact this
  · rw [if_neg h, if_neg h]
    refine ⟨by rw [List.map_append]; exact r1.append (.cons rq .nil), by rw [List.map_append]; exact r2.append (.cons rx .nil), ?_, fun z hz => ?_⟩
    · rw [List.map_append, List.map_append, e]
      show _ ++ [nk q] = _
      rw [eq]; rfl
    · rcases List.mem_append.mp hz with hz | hz
      · exact d z hz
      · rw [List.mem_singleton] at hz; subst hz; exact dk
theorem repl_k (k : Key) {v : Val} {x : V} (rx : Rep T B x v) : ∀ (kvs : List (Key × V)) (ks vs : List Val), RepAll T B (kvs.map fun p => kV p.1) ks → RepAll T B (kvs.map (·.2)) vs →
    RepAll T B ((kvs.map fun p => if p.1 = k then (p.1, x) else p).map (·.2)) (List.zipWith (fun a b => if nk a = some (nkK k) then v else b) ks vs)
  | [], ks, vs, r1, r2 => by cases r1; cases r2; exact .nil
  | p :: kvs, ks, vs, r1, r2 => by
    cases r1 with
    | cons a1 b1 =>
      cases r2 with
      | cons a2 b2 =>
        have n1 := kV_nk a1
        rw [List.map_cons, List.map_cons, List.zipWith_cons_cons]
        refine .cons ?_ (repl_k k rx kvs _ _ b1 b2)
        by_cases h : p.1 = k
        · rw [if_pos h, if_pos (by rw [n1, h])]; exact rx
        · rw [if_neg h, if_neg (by rw [n1]; exact fun z => h (nkK_inj (Option.some.inj z)))]; exact a2
theorem put_k {kvs : List (Key × V)} {ks vs : List Val} {k : Key} {x : V} {q v : Val} (r1 : RepAll T B (kvs.map fun p => kV p.1) ks) (r2 : RepAll T B (kvs.map (·.2)) vs) (rq : Rep T B (kV k) q) (rx : Rep T B x v) :
    RepAll T B ((putK kvs k x).map fun p => kV p.1) (dput ks vs (nkK k) q v).1 ∧ RepAll T B ((putK kvs k x).map (·.2)) (dput ks vs (nkK k) q v).2 := by
  have fs := (find_k k kvs ks vs r1 r2).isSome
  unfold putK dput
  rw [valV_any, fs]
  by_cases h : (dfind ks vs (nkK k)).isSome = true
  · rw [if_pos h, if_pos h]
    have m1 : (kvs.map fun p => if p.1 = k then (p.1, x) else p).map (fun p => kV p.1) = kvs.map fun p => kV p.1 := by
      rw [List.map_map]
      apply List.map_congr_left
      intro e _
      show kV (if e.1 = k then (e.1, x) else e).1 = _
      split <;> rfl
    exact ⟨by rw [m1]; exact r1, repl_k k rx kvs ks vs r1 r2⟩
  · rw [if_neg h, if_neg h]
    exact ⟨by rw [List.map_append]; exact r1.append (.cons rq .nil), by rw [List.map_append]; exact r2.append (.cons rx .nil)⟩
theorem RS.dct {env : Env} {σ : L2.St} {F : Nat → List Addr} {i : Nat} (S : RS T env σ B H F) {ks vs : List Val} (ho : own? env i = some (.dct ks vs)) :
    ∃ a o kys vys, σ[i]? = some (some (.ref a)) ∧ F i = [a] ∧ H a = some o ∧ IsDct T a o ks kys vys ∧ RepAll T B kys ks ∧ RepAll T B vys vs := by
  obtain ⟨a, h1, h2⟩ := S.own i _ ho
  generalize hF : F i = fp at h2
  cases h2 with
  | dct h d r1 r2 => exact ⟨a, _, _, _, h1, rfl, h, d, r1, r2⟩
end
/-! ### d[k] = v -/
abbrev rSetN (P : Program) (w : World) : TSet := fun x y v H Q => ∃ a b k xs ob, x = .ref a ∧ y = .ref b ∧ KeyIs H k y ∧ k.depth ≤ 8 ∧ H a = some (DN P w a ob xs) ∧ KsOk H xs ∧ xs.length < sizeLine ∧ ∀ ob', Q (upd H a (DN P w a ob' (putN xs k b v)))
abbrev rSetK : TSet := fun x y v H Q => ∃ a H', x = .ref a ∧ DPut H a y v H' ∧ Q H'
theorem set_n {X : Cx} (hu : X.A.units + 16 < cLine) : PSet X (rSetN X.prog X.w) := by
  intro pins s σ H o i v ov iv u Q I ro ri rv h
  obtain ⟨a, b, k, xs, ob, rfl, rfl, hk, hd, e, z, hl, q⟩ := h
  cases ro
  cases ri
  exact n_setItem hu I (.inl ⟨ob, e⟩) z hl hk hd rv fun ob' s1 I1 => ⟨_, I1, q ob'⟩
theorem set_k {X : Cx} (hu : X.A.units + 16 < cLine) : PSet X rSetK := by
  intro pins s σ H o i v ov iv u Q I ro ri rv h
  obtain ⟨a, H', rfl, g, q⟩ := h
  cases ro
  exact d_setItem (by omega) I g ri rv fun s1 I1 => ⟨_, I1, q⟩
def stN (d q v : Val) : Option Val := match d, q with
  | .dct (.non :: ks) vs, .tup qs => (match nk (.tup qs) with
    | some k => if k.depth ≤ 8 ∧ ks.length < 16777216 then some (.dct (.non :: (dput ks vs k (.tup qs) v).1) (dput ks vs k (.tup qs) v).2) else none
    | none => none)
  | _, _ => none
def stK (d q v : Val) : Option Val := match d with
  | .dct ks vs => if isNs ks = false ∧ ks.length < 16000000 then (kq q).map fun k => .dct (dput ks vs (nkK k) q v).1 (dput ks vs (nkK k) q v).2 else none
  | _ => none
/-- d[k] = v, by what the dict becomes -/
def sSetD (st : Val → Val → Val → Option Val) (i : Nat) (fk fv : EF) : SF := obind (esh fv) fun ov env1 => match own? env1 i with
  | some (.dct _ _) => obind (esh fk) (fun ok env => match own? env i, ov, ok with
    | some (.dct ks vs), .shr v, .shr q => (match st (.dct ks vs) q v with
      | some d1 => some (.nx, updOwn env i d1)
      | none => none)
    | _, _, _ => none) env1
  | _ => none
/-- a store into a dict on values is what the rule says -/
def StS (T : Tx) (r : TSet) (st : Val → Val → Val → Option Val) : Prop := ∀ B H a ks vs o kys vys x y q v d1, Same B H → H a = some o → IsDct T a o ks kys vys → RepAll T B kys ks → RepAll T B vys vs → Rep T B y q → Rep T B x v → st (.dct ks vs) q v = some d1 → B a = none →
  ∀ Q : Hp → Prop, (∀ o1, OwnR T B (upd H a o1) [a] a d1 → Q (upd H a o1)) → r (.ref a) y x H Q
theorem st_n {T : Tx} : StS T (rSetN T.P T.w) stN := by
  intro B H a ks vs o kys vys x y q v d1 hs ho d r1 r2 ry rx e hb Q hq
  unfold stN at e
  split at e
  · rename_i ks1 vs1 qs hd
    cases hd
    split at e
    · rename_i k hk
      split at e
      · rename_i hl
        cases e
        rcases d with ⟨kvs, rfl, rfl, rfl⟩ | ⟨ob, xs, rfl, rfl, rfl, e1, e2⟩
        · exact (ks_not r1).elim
        · obtain ⟨ks', e3, r3⟩ := ks_non r1
          cases e3
          have hy := rep_key ry hk
          cases ry with
          | @tup b ys _ q1 q2 =>
            have rq : Rep T B (.ref b) (.tup qs) := .tup q1 q2
            have lx : xs.length = ks1.length := by
              have := r3.length
              rw [List.length_map] at this
              exact this
            have p := put_n r3 r2 e1 e2 rq hk hl.1 rx
            refine ⟨a, b, k, xs, ob, rfl, rfl, hy.mono hs, hl.1, ho, keys_ok hs xs ks1 r3 e1 e2, by rw [lx]; exact Nat.lt_of_lt_of_le hl.2 (by decide), fun ob' => hq _ ?_⟩
            exact .dct upd_same (.inr ⟨ob', _, rfl, rfl, rfl, p.2.2.1, p.2.2.2⟩) (.cons .non p.1) p.2.1
      · cases e
    · cases e
  · cases e
theorem st_k {T : Tx} : StS T rSetK stK := by
  intro B H a ks vs o kys vys x y q v d1 hs ho d r1 r2 ry rx e hb Q hq
  unfold stK at e
  dsimp only at e
  split at e
  · rename_i hl
    obtain ⟨k, hk, rfl⟩ := Option.map_eq_some_iff.mp e
    rcases d with ⟨kvs, rfl, rfl, rfl⟩ | ⟨ob, xs, rfl, rfl, rfl, e1, e2⟩
    · obtain ⟨rfl, nq⟩ := kq_rep hk ry
      have lx : kvs.length = ks.length := by
        have := r1.length
        rw [List.length_map] at this
        exact this
      have p := put_k r1 r2 ry rx
      exact ⟨a, _, rfl, DPut.k ho (by rw [lx]; exact Nat.lt_of_lt_of_le hl.2 (by decide)), hq _ (.dct upd_same (.inl ⟨_, rfl, rfl, rfl⟩) p.1 p.2)⟩
    · obtain ⟨ks', rfl, _⟩ := ks_non r1
      cases hl.1
  · cases e
theorem setD_mono {T : Tx} {r : TSet} {st : Val → Val → Val → Option Val} (hst : StS T r st) {i : Nat} {fk fv : EF} {D : Ends} {σ : L2.St} {H : Hp} {W : WX} (h : sG T W (sSetD st i fk fv) D σ H) : tAsg (eG T W (esh fv)) (gSub (tVar i) (eG T W (esh fk)) r) D σ H := by
  obtain ⟨env, F, B, r0, env2, S, e, p⟩ := h
  refine ocut S e p fun ov env1 H1 F1 B1 x e1 S1 G1 x1 => ?_
  try dsimp only at e1
  split at e1
  · rename_i ks0 vs0 ho
    obtain ⟨l, o0, _, _, h1, _⟩ := S1.dct ho
    refine ⟨.ref l, h1, ?_⟩
    refine ocut S1 e1 (p.shift S S1 G1) fun ok env3 H2 F2 B2 y e2 S2 G2 y2 => ?_
    try dsimp only at e2
    split at e2
    · rename_i ks vs v q ho2
      split at e2
      · rename_i d1 hd1
        cases e2
        have xr : Rep T B2 x v := Rep.mono G2.kn x1
        obtain ⟨l', o, kys, vys, k1, kF, k2, k3, k4, k5⟩ := S2.dct ho2
        rw [h1] at k1
        cases k1
        have hb : B2 l = none := S2.free i l (by rw [kF]; exact List.mem_cons_self)
        refine hst B2 H2 l ks vs o kys vys x y q v d1 S2.sub k2 k3 k4 k5 y2 xr hd1 hb _ fun o1 hn => ?_
        have hm : ∀ b, b ∉ F2 i → upd H2 l o1 b = H2 b := fun b hb => upd_ne fun q => hb (by rw [kF, q]; exact List.mem_singleton.mpr rfl)
        have hn' : OwnR T B2 (upd H2 l o1) (F2 i) l d1 := by rw [kF]; exact hn
        exact p σ _ F2 B2 (S2.mut ho2 h1 hm hn') ((G1.trans S S1 G2).trans S S2 (Go.mut S2 ho2 hm hn'))
      · cases e2
    · cases e2
  · cases e1
end Lw

end
section
set_option Elab.async false
set_option linter.all false
set_option maxRecDepth 100000
set_option maxHeartbeats 1600000
set_option autoImplicit false
/-! Lw: dicts: statements, displays, walks, d.get. -/
namespace Lw
open PySem PySem.Spec PyProof.Rows L2
section
variable {X : Cx} {W : WX} {a b : Expr} {f fk fv fx : EF} {pos : Pos}
theorem ss_setD {r : TSet} {st : Val → Val → Val → Option Val} (hp : PSet X r) (hst : StS (tx X) r st) {i : Nat} {o ix e : Expr} {tpos : Pos} (ho : PE X o (tVar i)) (hi : SE X W ix fk) (he : SE X W e fv)
    (hg : ∀ v, assign (.Subscript o ix tpos) X.env v = (do
      let ov ← holding [v] (eval o X.env)
      let iv ← holding [v, ov] (eval ix X.env)
      standAt tpos
      holding [v, ov, iv] (setItem ov iv v)
      release [v, ov, iv] []) := by intro _; rfl)
    (hs : swapsWithSole [.Subscript o ix tpos] e pos.line X.env = pure false := by rfl) (hw : swappedStores [.Subscript o ix tpos] e X.env = pure none := by rfl)
    (h1 : (assignEach [.Subscript o ix tpos] X.env).map (·.2) = [assign (.Subscript o ix tpos) X.env] := by rfl) :
    SS X W (.Assign [.Subscript o ix tpos] e pos) (sSetD st i fk fv) := PS.mono (ps_asg (se_esh he) (pg_sub ho (se_esh hi) hp hg) hs hw h1) fun _ _ _ h => setD_mono hst h
/-! ### {} -/
def obD0 : PySem.Obj := { cls := .type "dict", data := .dict #[] }
theorem dns_nil {P : Program} {w : World} {p : Addr} (hp : sysModules < p) : DNs P w p obD0 [] :=
  ⟨beq_eq_false_iff_ne.mpr (Ne.symm (Nat.ne_of_lt hp)), ⟨rfl, rfl, rfl⟩, Nat.zero_le _, #[], 0, [], rfl, .nil, rfl, List.nodup_nil⟩
def tNew0 (P : Program) (w : World) : TE := fun _ H Q => ∀ p, H p = none → Q (.ref p) (upd H p (DN P w p obD0 []))
theorem laid_n {pins : List (Addr × PySem.Obj)} {σ : L2.St} {H : Hp} {s : Shared} (I : Inv X pins σ H s) : Inv X pins σ (upd H s.heap.objs.size (DN X.prog X.w s.heap.objs.size obD0 [])) { s with heap := s.heap.push obD0 } :=
  I.laid (a := s.heap.objs.size) (t' := s.toks) (fun _ _ q => Heap.get?_push_of_some _ q) (Nat.le_refl _) (dn_ok (Heap.get?_push_size _ rfl) (dns_nil I.big))
theorem pe_new0 : PE X (.Dict [] [] pos) (tNew0 X.prog X.w) := ⟨fun pins s σ H Q I h => wpAny_Dict_empty ⟨.ref s.heap.objs.size, _, laid_n I, rfl, h _ (I.hok.fresh (Nat.le_refl _))⟩⟩
def sDct0 (ks : List Val) : EF := fun env => some (.val (.new (.dct ks [])), env)
theorem se_dct0N : SE X W (.Dict [] [] pos) (sDct0 [.non]) := by
  refine PE.mono pe_new0 fun σ H Q q p hp => ?_
  obtain ⟨env, F, B, r, env1, S, e, k⟩ := q
  cases e
  have g := PG.fresh S.sub (DN X.prog X.w p obD0 []) hp
  exact k.done (rv := .new (.dct [.non] [])) S (fun _ z => z) g ⟨p, [p], rfl, .dct upd_same (.inr ⟨_, [], rfl, rfl, rfl, rfl, fun _ h => nomatch h⟩) (.cons .non .nil) .nil, fun b hb => by
    rw [List.mem_singleton] at hb; subst hb; exact ⟨hp, S.sub.free hp⟩⟩
theorem se_dct0K : SE X W (.Dict [] [] pos) (sDct0 []) := by
  refine PE.mono pe_dnewK fun σ H Q q p hp => ?_
  obtain ⟨env, F, B, r, env1, S, e, k⟩ := q
  cases e
  have g := PG.fresh S.sub (HO.dK []) hp
  exact k.done (rv := .new (.dct [] [])) S (fun _ z => z) g ⟨p, [p], rfl, .dct upd_same (.inl ⟨[], rfl, rfl, rfl⟩) .nil .nil, fun b hb => by
    rw [List.mem_singleton] at hb; subst hb; exact ⟨hp, S.sub.free hp⟩⟩
/-! ### {k: v} -/
def tNew1 (P : Program) (w : World) (tk tv : TE) : TE := fun σ H Q => ∀ p, H p = none → tk σ (upd H p (DN P w p obD0 [])) fun x H1 => tv σ H1 fun y H2 =>
  ∃ b k, x = .ref b ∧ KeyIs H2 k x ∧ k.depth ≤ 8 ∧ H2 p = some (DN P w p obD0 []) ∧ ∀ ob, Q (.ref p) (upd H2 p (DN P w p ob [(k, b, y)]))
theorem pe_new1 {tk tv : TE} (hu : X.A.units + 16 < cLine) (hk : PE X a tk) (hv : PE X b tv) : PE X (.Dict [some a] [b] pos) (tNew1 X.prog X.w tk tv) := by
  refine ⟨fun pins s σ H Q I h => ?_⟩
  have hn := I.hok.fresh (Nat.le_refl s.heap.objs.size)
  refine wpAny_Dict_any rfl rfl (by simp) (by show 1 ≤ 15; decide) ?_
  refine pairTrees_cons_walk (thn (hk.run pins _ σ _ _ (laid_n I) (h _ hn)) fun u s1 ⟨x, H1, I1, rx, q1⟩ => thn (hv.run pins s1 σ H1 _ I1 q1) fun u2 s2 ⟨y, H2, I2, ry, q2⟩ => pairTrees_nil_walk ?_)
  obtain ⟨c, k, rfl, kk, kd, e, q⟩ := q2
  obtain rfl : u = Value.ref c := rx
  obtain ⟨hs, hl, ws, r, d⟩ := dn_dict I2.hok e (fun z hz => nomatch hz)
  cases r
  unfold storeAll
  rw [List.forIn_cons]
  have hroom : (nestedKind X.prog X.w).room X.A := by show X.A.units + 8 < cLine; omega
  refine wpAny_bind (wpAny_bind (wpAny_dictSet_heap (hsz := by show 0 ≤ sizeLine; omega) hroom (n_is I2 kk kd) d fun h' d' sb => wpAny_pure ?_))
  show wpAny _ _ (forIn ([] : List (Value × Value)) PUnit.unit _) _ _ _
  rw [List.forIn_nil]
  obtain ⟨ob, es, ep, hg, hx, hdt, he, _, hnd⟩ := d'
  have mu : Mut (H2 s.heap.objs.size) := by rw [e]; exact True.intro
  have I3 := d_write (t' := s2.toks + (nestedKind X.prog X.w).draws k) I2 mu sb ⟨ob, hg⟩ (dn_ok (xs := [(k, c, y)]) hg ⟨hs, hx, by show 1 ≤ sizeLine; decide, es, ep, _, hdt, .cons ⟨rfl, rfl, ry⟩ .nil, he, hnd⟩)
  exact wpAny_pure ⟨.ref s.heap.objs.size, _, I3, rfl, q ob⟩
/-- {k: v}, k a tuple -/
def sDct1 (fk fv : EF) : EF := ebind (esh fk) fun ok => ebind (esh fv) fun ov env => match ok, ov with
  | .shr (.tup qs), .shr v => (match nk (.tup qs) with
    | some k => if k.depth ≤ 8 then some (.val (.new (.dct [.non, .tup qs] [v])), env) else none
    | none => none)
  | _, _ => none
theorem se_dct1 (hu : X.A.units + 16 < cLine) (hk : SE X W a fk) (hv : SE X W b fv) : SE X W (.Dict [some a] [b] pos) (sDct1 fk fv) := by
  refine PE.mono (pe_new1 hu (se_esh hk) (se_esh hv)) fun σ H Q q p hp => ?_
  obtain ⟨env, F, B, r, env9, S, e, k⟩ := q
  have g0 := PG.fresh S.sub (DN X.prog X.w p obD0 []) hp
  have S0 := g0.rs S
  have G0 : Go env σ H F B env σ (upd H p (DN X.prog X.w p obD0 [])) F B := g0.go
  refine run_cut S0 e (k.shift S S0 G0) fun ok env1 H1 F1 B1 x e1 S1 G1 x1 p1 => ?_
  refine run_cut S1 e1 p1 fun ov env2 H2 F2 B2 y e2 S2 G2 y2 p2 => ?_
  try dsimp only at e2
  split at e2
  · rename_i qs v
    split at e2
    · rename_i kk hkk
      split at e2
      · rename_i hd
        cases e2
        have G := G1.trans S0 S1 G2
        have hF : ∀ i, p ∉ F i := S.fresh hp
        have hup : upd H p (DN X.prog X.w p obD0 []) p = some (DN X.prog X.w p obD0 []) := upd_same
        have xr : Rep (tx X) B2 x (.tup qs) := Rep.mono G2.kn x1
        have yr : Rep (tx X) B2 y v := y2
        have hF2 : ∀ i, p ∉ F2 i := fun i q => by
          rcases G.ow i p q with ⟨j, z⟩ | z
          · exact hF j z
          · rw [hup] at z; cases z
        have hB2 : B2 p = none := by
          cases h : B2 p with
          | none => rfl
          | some o =>
            rcases G.nb p o h with z | z | ⟨i, _, _, z⟩
            · rw [S.sub.free hp] at z; cases z
            · rw [hup] at z; cases z
            · exact absurd z (hF i)
        have hk2 : KeyIs H2 kk x := (rep_key xr hkk).mono S2.sub
        cases xr with
        | @tup c ys _ q1 q2 =>
          refine ⟨c, kk, rfl, hk2, hd, G.fr p _ hup hF, fun ob => ?_⟩
          have ne : ∀ b o, b ≠ p → upd H2 p o b = H2 b := fun b o h => upd_ne h
          have S3 : RS (tx X) env9 σ B2 (upd H2 p (DN X.prog X.w p ob [(kk, c, y)])) F2 := ⟨fun b o h => by
              rw [ne b _ fun z => by rw [z, hB2] at h; cases h]
              exact S2.sub b o h, S2.len, S2.shr, fun i u h => by
              obtain ⟨l, s1, s2⟩ := S2.own i u h
              exact ⟨l, s1, s2.mono (Same.refl _) fun b hb o z => by rw [ne b _ fun w => hF2 i (w ▸ hb)]; exact z⟩, S2.non, S2.free, S2.disj⟩
          have G3 : Go env σ H F B env9 σ (upd H2 p (DN X.prog X.w p ob [(kk, c, y)])) F2 B2 :=
            { fr := fun l o h n => by
                have hl : l ≠ p := fun z => by rw [z, hp] at h; cases h
                rw [ne l _ hl]
                exact G.fr l o (by rw [upd_ne hl]; exact h) n
              al := fun l h => by
                by_cases hl : l = p
                · rw [hl]; exact hp
                · rw [ne l _ hl] at h
                  have := G.al l h
                  rwa [upd_ne hl] at this
              kn := G.kn
              nb := fun l o h => by
                rcases G.nb l o h with z | z | z
                · exact .inl z
                · refine .inr (.inl ?_)
                  by_cases hl : l = p
                  · rw [hl]; exact hp
                  · rwa [upd_ne hl] at z
                · exact .inr (.inr z)
              ow := fun i l h => by
                rcases G.ow i l h with z | z
                · exact .inl z
                · refine .inr ?_
                  by_cases hl : l = p
                  · rw [hl]; exact hp
                  · rwa [upd_ne hl] at z
              io := G.io
              iw := G.iw
              ln := G.ln }
          refine k _ F2 B2 S3 G3 (.ref p) ?_
          refine ⟨p, [p], rfl, .dct upd_same (.inr ⟨ob, [(kk, c, y)], rfl, rfl, rfl, ?_, fun z hz => ?_⟩) (.cons .non (.cons (.tup q1 q2) .nil)) (.cons yr .nil), fun b hb => ?_⟩
          · show [nk (.tup qs)] = [some kk]
            rw [hkk]
          · rw [List.mem_singleton] at hz; subst hz; exact hd
          · rw [List.mem_singleton] at hb; subst hb; exact ⟨hp, hB2, hF2⟩
      · cases e2
    · cases e2
  · cases e2
end
end Lw

end
section
set_option Elab.async false
set_option linter.all false
set_option maxRecDepth 100000
set_option maxHeartbeats 1600000
set_option autoImplicit false
/-! Lw: dicts: walked; d.get(k, x). -/
namespace Lw
open PySem PySem.Spec PyProof.Rows L2
/-- the keys of a dict, one by one -/
def Itn (P : Program) (w : World) (d : Addr) (ob : PySem.Obj) (xs : List Ent) : It :=
  ⟨fun i H => H d = some (DN P w d ob xs) ∧ i < xs.length, fun i H x H' => H' = H ∧ ∃ e, xs[i]? = some e ∧ x = .ref e.2.1, fun i H => H d = some (DN P w d ob xs) ∧ xs.length ≤ i⟩
theorem dn_ent {P : Program} {w : World} {H : Hp} {h : Heap} {d : Addr} {ob : PySem.Obj} {xs : List Ent} (ok : HOk P w H h) (e : H d = some (DN P w d ob xs)) :
    (d == sysModules) = false ∧ h.get? d = some ob ∧ ob.ExactDict ∧ ∃ es ep, ob.data = .dict es ep ∧ es.size = xs.length ∧ ∀ (i : Nat) (z : Ent), xs[i]? = some z → ∃ en : DictEntry, es[i]? = some en ∧ en.key = .ref z.2.1 := by
  obtain ⟨g, hs, hx, _, es, ep, ws, hd, r, he, _⟩ := dn_rd ok e
  refine ⟨hs, g, hx, es, ep, hd, ?_, fun i z hz => ?_⟩
  · rw [size_of_entries he, Paired.length r]
  · obtain ⟨y, hy, _, y2, _⟩ := paired_get r hz
    have q := entry_at he i
    rw [hy] at q
    exact ⟨_, q, by show Value.ref y.2.1 = _; rw [y2]⟩
theorem turn_n {P : Program} {w : World} {K : PySem.W.Frag} {tg : Expr} {d : Addr} {ob : PySem.Obj} {xs : List Ent} {es : Array DictEntry} {ep : Nat} (it : Addr) (hod : ob.data = .dict es ep) :
    Turn P w K tg (Itn P w d ob xs) [it] it (fun i h => h.IsKeyIter it d i xs.length ep) where
  mem := by simp
  obj := fun i h st b hb => by
    rw [List.mem_singleton] at hb
    subst hb
    obtain ⟨oi, e, c, dd⟩ := st
    refine ⟨oi, e, fun v z => ?_⟩
    rw [dd] at z
    cases z
  keep := fun i h h' st k => st.at fun oi e => k it (List.mem_singleton.mpr rfl) oi e
  item := by
    intro X hP hw hK hc i pins s σ H E I hf st hg
    subst hP hw hK
    obtain ⟨hd, hi⟩ := hg
    obtain ⟨f0, f1, f2, f3, f4, f5⟩ := hf it (List.mem_singleton.mpr rfl)
    obtain ⟨hs, g, hx, es', ep', hdt, hsz, ent⟩ := dn_ent I.hok hd
    obtain ⟨rfl, rfl⟩ := dict_ep hod hdt
    obtain ⟨en, hen, hkey⟩ := ent i _ (List.getElem?_eq_getElem hi)
    refine next_key_item st g hdt hsz hen fun h1 st1 sb => ?_
    have I1 : Inv X pins σ H { s with heap := h1 } := I.turned (t' := s.toks) (fun b o hb z => (sb.2 b hb).trans z) f0 f1 f3 f4 f5
    obtain ⟨oi, e, c, dd⟩ := id st1
    refine ⟨en.key, rfl, go_of (s := { s with heap := h1 }) e c dd (by decide) ⟨.ref xs[i].2.1, H, I1, hkey, ⟨rfl, xs[i], List.getElem?_eq_getElem hi, rfl⟩, st1, fun b hb => ?_⟩⟩
    exact (hf b hb).1
  done := by
    intro X hP hw hK hc i pins s σ H E I hf st hg
    subst hP hw hK
    obtain ⟨hd, hi⟩ := hg
    obtain ⟨f0, f1, f2, f3, f4, f5⟩ := hf it (List.mem_singleton.mpr rfl)
    obtain ⟨hs, g, hx, es', ep', hdt, hsz, ent⟩ := dn_ent I.hok hd
    obtain ⟨rfl, rfl⟩ := dict_ep hod hdt
    refine next_key_end (I.ok.hd hc) st g hdt hsz hi fun h1 eb => ⟨rfl, ?_⟩
    exact I.turned (t' := s.toks) (fun b o hb z => eb b o hb z) f0 f1 f3 f4 f5
  self := fun A i s Q E st h => by
    refine wpAny_pyIter_slot st.typeIs F.slot_dict_keyiterator_iter ?_
    refine wpAny_call_entry F.slot_dict_keyiterator_iter st.typeIs F.entry_dict_keyiterator_iter ?_ (F.args_dict_keyiterator_iter_1 _)
    show wpAny _ _ (ret (.ref it)) _ _ s
    exact wpAny_pure ⟨_, rfl, "dict_keyiterator", _, st.typeIs, F.slot_dict_keyiterator_next.lookup, h⟩
def iN (P : Program) (w : World) (td : TE) : TI := fun σ H R => td σ H fun x H1 => ∃ d ob xs, x = .ref d ∧ H1 d = some (DN P w d ob xs) ∧ R (Itn P w d ob xs) H1
section
variable {X : Cx} {W : WX} {tg a b c : Expr} {td ty tx : TE} {f fk fx : EF} {apos cpos : Pos}
theorem pi_n (he : PE X a td) : PI X tg a (iN X.prog X.w td) := by
  refine ⟨fun pins s σ H R I h => ?_⟩
  refine thn (he.run pins s σ H _ I h) fun u s1 ⟨x, H1, I1, rx, d, ob, xs, ex, hd, q⟩ => ?_
  subst ex
  obtain rfl : u = Value.ref d := rx
  obtain ⟨hs, g, hx, es, ep, hdt, hsz, _⟩ := dn_ent I1.hok hd
  refine iter_keys hs g hx hdt ?_
  refine pi_one (tk := s1.toks) I1 _ (turn_n _ hdt) ⟨_, Heap.get?_push_size _ rfl, rfl, ?_⟩ q
  rw [hsz] <;> rfl
def itemsN : Val → Option (List Val)
  | .dct (.non :: ks) _ => some ks
  | _ => none
/-- for k in d, d a dict of tuple keys -/
def sKeysN (f : EF) : IF := ibind (esh f) itemsN
theorem si_keysN (h : SE X W a f) : SI X W tg a (sKeysN f) := by
  refine PI.mono (pi_n (se_esh h)) fun σ H R q => ?_
  refine icut q fun v vs env1 H1 F1 B1 x hk S1 hx hR => ?_
  unfold itemsN at hk
  split at hk
  · rename_i ks ws
    cases hk
    cases hx with
    | dct q d r1 r2 =>
      rcases d with ⟨kvs, rfl, rfl, rfl⟩ | ⟨ob, xs, rfl, rfl, rfl, e1, e2⟩
      · exact (ks_not r1).elim
      · obtain ⟨ks', e3, r3⟩ := ks_non r1
        injection e3 with _ e4
        subst e4
        have hl : xs.length = vs.length := by
          have := r3.length
          rw [List.length_map] at this
          exact this
        refine ⟨_, ob, xs, rfl, S1.sub _ _ q, hR _ ⟨fun i H2 s2 hi => ⟨s2 _ _ q, by omega⟩, fun i H2 s2 hi => ⟨s2 _ _ q, by omega⟩, fun i H2 y H3 B3 s2 s3 s4 hi hy => ?_⟩⟩
        obtain ⟨rfl, e, he, rfl⟩ := hy
        have hm : (xs.map fun e => V.ref e.2.1)[i]? = some (V.ref e.2.1) := by rw [List.getElem?_map, he]; rfl
        obtain ⟨v, hv, hr⟩ := r3.get' hm
        exact ⟨v, B3, hv, .refl s4, hr.mono s3⟩
  · cases hk
/-! ### d.get(k, x) -/
def tNGet2 (P : Program) (w : World) (td ty tx : TE) : TE := fun σ H Q => td σ H fun x H1 => ∃ a ob xs, x = .ref a ∧ H1 a = some (DN P w a ob xs) ∧ ty σ H1 fun y H2 => tx σ H2 fun z H3 => ∃ b k o, y = .ref b ∧ KeyIs H3 k y ∧ k.depth ≤ 8 ∧ NGet P w H3 a k o ∧ Q (o.getD z) H3
theorem pe_nget2 (hu : X.A.units + 16 < cLine) (ho : PE X a td) (he : PE X b ty) (hf : PE X c tx) (m : M2 X a "get" apos b c cpos) : PE X (.Call (.Attribute a "get" apos) [b, c] [] cpos) (tNGet2 X.prog X.w td ty tx) := by
  refine ⟨fun pins s σ H Q I h => ?_⟩
  refine wpAny_Call_method m.base m.few m.line F.plainAttrs_dict F.slot_dict_get F.type_dict_get ?_
  refine thn (ho.run pins s σ H _ I h) fun u s1 ⟨x, H1, I1, rx, d, ob, xs, ex, e, q1⟩ => ?_
  subst ex
  obtain rfl : u = Value.ref d := rx
  obtain ⟨hs, g, hx, _⟩ := dn_ent I1.hok e
  refine ⟨⟨ob, g, hx.1⟩, fun b' q => ?_, ?_⟩
  · cases q
    exact ⟨ob, g, hx.2.1⟩
  rw [m.trees]
  refine Calls.callWith_builtin rfl (Calls.evalArgs_plain (Calls.spliced_cons ?_))
  refine thn (he.run pins s1 σ H1 _ I1 q1) fun iv s2 ⟨y, H2, I2, ry, q2⟩ => Calls.spliced_cons ?_
  refine thn (hf.run pins s2 σ H2 _ I2 q2) fun fv s3 ⟨z, H3, I3, rz, kb, k, o, ey, hk, hd, gg, q3⟩ => Calls.spliced_nil ?_
  subst ey
  obtain rfl : iv = Value.ref kb := ry
  exact n_get2 hu I3 gg hk hd rz fun w' s4 I4 rw' => ⟨_, H3, I4, rw', q3⟩
/-- d.get(k, x) of a dict of tuple keys -/
def sGetN (f fk fx : EF) : EF := ebind f fun od env1 => match od.get env1 with
  | some (.dct (.non :: _) _) => ebind (esh fk) (fun ok => ebind (esh fx) fun ox env => match od.get env, ok, ox with
    | some (.dct (.non :: ks) vs), .shr (.tup q), .shr v => (match atN ks vs q with
      | some o => some (.val (.shr (o.getD v)), env)
      | none => none)
    | _, _, _ => none) env1
  | _ => none
theorem se_getN (hu : X.A.units + 16 < cLine) (ho : SE X W a f) (he : SE X W b fk) (hf : SE X W c fx) (m : M2 X a "get" apos b c cpos) : SE X W (.Call (.Attribute a "get" apos) [b, c] [] cpos) (sGetN f fk fx) := by
  refine PE.mono (pe_nget2 hu ho (se_esh he) (se_esh hf) m) fun σ H Q q => ?_
  obtain ⟨env, F, B, r, env9, S, e, p⟩ := q
  refine run_cut S e p fun od env1 H1 F1 B1 x e1 S1 G1 x1 p1 => ?_
  try dsimp only at e1
  split at e1
  · rename_i ks0 vs0 h0
    obtain ⟨d, o, kys, vys, rfl, hd, id0, r1, r2⟩ := (x1.opr S1 h0).dct S1.sub
    rcases id0 with ⟨kvs, rfl, rfl, rfl⟩ | ⟨ob, xs, rfl, rfl, rfl, _, _⟩
    · exact (ks_not r1).elim
    · refine ⟨d, ob, xs, rfl, hd, ?_⟩
      refine run_cut S1 e1 p1 fun ok env2 H2 F2 B2 y e2 S2 G2 y2 p2 => ?_
      refine run_cut S2 e2 p2 fun ox env3 H3 F3 B3 z e3 S3 G3 z3 p3 => ?_
      try dsimp only at e3
      split at e3
      · rename_i ks vs q v h3
        split at e3
        · rename_i o' ho'
          cases e3
          obtain ⟨k, e4, dk, rfl⟩ := atN_some ho'
          have G := G2.trans S1 S2 G3
          have xo := ((x1.go S1 S2 G2).go S2 S3 G3).opr S3 h3
          have yo : Rep (tx X) B3 y (.tup q) := Rep.mono G3.kn y2
          obtain ⟨a', b', o, e5, e6, hk, g, ro⟩ := xo.nget S3.sub (.inl yo) e4
          cases e5
          refine ⟨b', k, o, e6, hk, dk, g, ?_⟩
          refine p3 H3 F3 B3 S3 .refl _ ?_
          show Rep (tx X) B3 (o.getD z) ((dfind ks vs k).getD v)
          cases o with
          | none =>
            cases h : dfind ks vs k with
            | none => exact z3
            | some w => rw [h] at ro; cases ro
          | some u =>
            cases h : dfind ks vs k with
            | none => rw [h] at ro; cases ro
            | some w => rw [h] at ro; exact ro
        · cases e3
      · cases e3
  · cases e1
end
end Lw

end
section
set_option Elab.async false
set_option linter.all false
set_option maxRecDepth 100000
set_option maxHeartbeats 1600000
set_option autoImplicit false
/-! Lw: {k: v} with an int or a text as key. -/
namespace Lw
open PySem PySem.Spec PyProof.Rows L2
theorem u16 {k : Nat} {A : Around} (hr : Room k A) : A.units + 16 < cLine := by have := u65 hr; omega
section
variable {T : Tx} {env env2 : Env} {σ : L2.St} {B B2 H H2 : Hp} {F F2 : Nat → List Addr} {p : Addr} {o0 : HO}
/-- what was new at the start is changed at the end -/
theorem new_at (S : RS T env σ B H F) (S2 : RS T env2 σ B2 H2 F2) (G : Go env σ (upd H p o0) F B env2 σ H2 F2 B2) (hp : H p = none) :
    H2 p = some o0 ∧ B2 p = none ∧ (∀ i, p ∉ F2 i) ∧ ∀ o1, RS T env2 σ B2 (upd H2 p o1) F2 ∧ Go env σ H F B env2 σ (upd H2 p o1) F2 B2 := by
  have hF : ∀ i, p ∉ F i := S.fresh hp
  have hup : upd H p o0 p = some o0 := upd_same
  have hF2 : ∀ i, p ∉ F2 i := fun i q => by
    rcases G.ow i p q with ⟨j, z⟩ | z
    · exact hF j z
    · rw [hup] at z; cases z
  have hB2 : B2 p = none := by
    cases h : B2 p with
    | none => rfl
    | some o =>
      rcases G.nb p o h with z | z | ⟨i, _, _, z⟩
      · rw [S.sub.free hp] at z; cases z
      · rw [hup] at z; cases z
      · exact absurd z (hF i)
  refine ⟨G.fr p _ hup hF, hB2, hF2, fun o1 => ?_⟩
  have ne : ∀ b o, b ≠ p → upd H2 p o b = H2 b := fun b o h => upd_ne h
  constructor
  · refine ⟨fun b o h => ?_, S2.len, S2.shr, fun i u h => ?_, S2.non, S2.free, S2.disj⟩
    · rw [ne b _ fun z => by rw [z, hB2] at h; cases h]
      exact S2.sub b o h
    · obtain ⟨l, s1, s2⟩ := S2.own i u h
      exact ⟨l, s1, s2.mono (Same.refl _) fun b hb o z => by rw [ne b _ fun w => hF2 i (w ▸ hb)]; exact z⟩
  · refine { fr := fun l o h n => ?_, al := fun l h => ?_, kn := G.kn, nb := fun l o h => ?_, ow := fun i l h => ?_, io := G.io, iw := G.iw, ln := G.ln }
    · have hl : l ≠ p := fun z => by rw [z, hp] at h; cases h
      rw [ne l _ hl]
      exact G.fr l o (by rw [upd_ne hl]; exact h) n
    · by_cases hl : l = p
      · rw [hl]; exact hp
      · rw [ne l _ hl] at h
        have := G.al l h
        rwa [upd_ne hl] at this
    · rcases G.nb l o h with z | z | z
      · exact .inl z
      · refine .inr (.inl ?_)
        by_cases hl : l = p
        · rw [hl]; exact hp
        · rwa [upd_ne hl] at z
      · exact .inr (.inr z)
    · rcases G.ow i l h with z | z
      · exact .inl z
      · refine .inr ?_
        by_cases hl : l = p
        · rw [hl]; exact hp
        · rwa [upd_ne hl] at z
end
def sDct1K (fk fv : EF) : EF := ebind (esh fk) fun ok => ebind (esh fv) fun ov env => match ok, ov with
  | .shr q, .shr v => (match kq q with
    | some k => some (.val (.new (.dct [q] [v])), env)
    | none => none)
  | _, _ => none
theorem se_dct1K {X : Cx} {W : WX} {a b : Expr} {fk fv : EF} {pos : Pos} (hk : SE X W a fk) (hv : SE X W b fv) : SE X W (.Dict [some a] [b] pos) (sDct1K fk fv) := by
  refine PE.mono (pe_disp (pps_cons (se_esh hk) (se_esh hv) pps_nil) rfl rfl (by simp) (by show 1 ≤ 15; decide)) fun σ H Q q p hp => ?_
  obtain ⟨env, F, B, r, env9, S, e, k⟩ := q
  have g0 := PG.fresh S.sub (HO.dK []) hp
  have S0 := g0.rs S
  have G0 : Go env σ H F B env σ (upd H p (.dK [])) F B := g0.go
  refine run_cut S0 e (k.shift S S0 G0) fun ok env1 H1 F1 B1 x e1 S1 G1 x1 p1 => ?_
  refine run_cut S1 e1 p1 fun ov env2 H2 F2 B2 y e2 S2 G2 y2 p2 => ?_
  try dsimp only at e2
  split at e2
  · rename_i qv v
    split at e2
    · rename_i kk hkk
      cases e2
      have xr : Rep (tx X) B2 x qv := Rep.mono G2.kn x1
      have yr : Rep (tx X) B2 y v := y2
      obtain ⟨n1, n2, n3, n4⟩ := new_at S S2 (G1.trans S0 S1 G2) hp
      obtain ⟨rfl, nq⟩ := kq_rep hkk xr
      refine ⟨n1, [(kk, y)], rfl, by show 1 ≤ 15; decide, ?_⟩
      obtain ⟨S3, G3⟩ := n4 (.dK (mergeK [] [(kk, y)]))
      refine k _ F2 B2 S3 G3 (.ref p) ?_
      have em : mergeK [] [(kk, y)] = [(kk, y)] := by
        show putK [] kk y = _
        unfold putK
        simp
      refine ⟨p, [p], rfl, .dct upd_same (.inl ⟨_, rfl, rfl, rfl⟩) ?_ ?_, fun b hb => ?_⟩
      · rw [em]; exact .cons xr .nil
      · rw [em]; exact .cons yr .nil
      · rw [List.mem_singleton] at hb; subst hb; exact ⟨hp, n2, n3⟩
    · cases e2
  · cases e2
end Lw

end
section
set_option Elab.async false
set_option linter.all false
set_option maxRecDepth 100000
set_option maxHeartbeats 1000000
set_option autoImplicit false
/-! M: what a semantic function gives, as a wish that is pushed through it. -/
namespace Lw
open PySem L2
def OX {α β : Type} (o : Option (α × β)) (Q : α → β → Prop) : Prop := match o with
  | some z => Q z.1 z.2
  | none => False
def OB {α : Type} (o : Option α) (Q : α → Prop) : Prop := match o with
  | some z => Q z
  | none => False
theorem OX_some {α β : Type} (a : α) (b : β) (Q : α → β → Prop) : OX (some (a, b)) Q = Q a b := rfl
theorem OB_some {α : Type} (a : α) (Q : α → Prop) : OB (some a) Q = Q a := rfl
theorem OB_none {α : Type} (Q : α → Prop) : OB none Q = False := rfl
theorem OB_ite {α : Type} {c : Prop} [Decidable c] (a : α) (Q : α → Prop) : OB (if c then some a else none) Q = (c ∧ Q a) := by
  by_cases h : c
  · rw [if_pos h]; exact propext ⟨fun q => ⟨h, q⟩, fun q => q.2⟩
  · rw [if_neg h]; exact propext ⟨fun q => q.elim, fun q => h q.1⟩
theorem OB_ite' {α : Type} {c : Prop} [Decidable c] (o : Option α) (Q : α → Prop) : OB (if c then o else none) Q = (c ∧ OB o Q) := by
  by_cases h : c
  · rw [if_pos h]; exact propext ⟨fun q => ⟨h, q⟩, fun q => q.2⟩
  · rw [if_neg h]; exact propext ⟨fun q => q.elim, fun q => h q.1⟩
theorem OB_map {α β : Type} (o : Option α) (f : α → β) (Q : β → Prop) : OB (o.map f) Q = OB o (fun a => Q (f a)) := by cases o <;> rfl
theorem OB_mono {α : Type} {o : Option α} {Q Q' : α → Prop} (h : OB o Q) (i : ∀ a, Q a → Q' a) : OB o Q' := by cases o with
  | none => exact h
  | some a => exact i a h
theorem OX_mono {α β : Type} {o : Option (α × β)} {Q Q' : α → β → Prop} (h : OX o Q) (i : ∀ a b, Q a b → Q' a b) : OX o Q' := by cases o with
  | none => exact h
  | some z => exact i z.1 z.2 h
theorem OX_eq {α β : Type} {o : Option (α × β)} {Q : α → β → Prop} (h : OX o Q) : ∃ a b, o = some (a, b) ∧ Q a b := by cases o with
  | none => exact h.elim
  | some z => exact ⟨z.1, z.2, rfl, h⟩
abbrev EX (f : EF) (env : Env) (Q : ERes → Env → Prop) : Prop := OX (f env) Q
abbrev SX (g : SF) (env : Env) (Q : FRes → Env → Prop) : Prop := OX (g env) Q
abbrev IX (f : IF) (env : Env) (Q : IRes → Env → Prop) : Prop := OX (f env) Q
abbrev FX (φ : Fn) (ss : List Slot) (Q : ORes → List Slot → Prop) : Prop := OX (φ ss) Q
/-- a value or an exception -/
def rE (Q : ERes → Env → Prop) (k : Opd → Env → Prop) : ERes → Env → Prop
  | .val o, e => k o e
  | .exc c, e => Q (.exc c) e
def rS (Q : FRes → Env → Prop) (k : Opd → Env → Prop) : ERes → Env → Prop
  | .val o, e => k o e
  | .exc c, e => Q (.exc c) e
theorem rE_val (Q : ERes → Env → Prop) (k : Opd → Env → Prop) (o : Opd) (e : Env) : rE Q k (.val o) e = k o e := rfl
theorem rE_exc (Q : ERes → Env → Prop) (k : Opd → Env → Prop) (c : Str) (e : Env) : rE Q k (.exc c) e = Q (.exc c) e := rfl
theorem rS_val (Q : FRes → Env → Prop) (k : Opd → Env → Prop) (o : Opd) (e : Env) : rS Q k (.val o) e = k o e := rfl
theorem rS_exc (Q : FRes → Env → Prop) (k : Opd → Env → Prop) (c : Str) (e : Env) : rS Q k (.exc c) e = Q (.exc c) e := rfl
/-- by a bool -/
def ifO (o : Opd) (A B : Prop) : Prop := match o with
  | .shr (.bl b) => (b = true → A) ∧ (b = false → B)
  | _ => False
theorem ifO_bl (b : Bool) (A B : Prop) : ifO (.shr (.bl b)) A B = ((b = true → A) ∧ (b = false → B)) := rfl
section
variable {f g h c : EF} {k : Opd → EF} {ks : Opd → SF} {env : Env} {Q : ERes → Env → Prop} {QS : FRes → Env → Prop} {QI : IRes → Env → Prop} {g1 g2 : SF}
theorem EX_bind : OX (ebind f k env) Q = OX (f env) (rE Q fun o e => OX (k o e) Q) := by
  unfold ebind
  cases f env with
  | none => rfl
  | some z => obtain ⟨r, e⟩ := z; cases r <;> rfl
theorem SX_bind : OX (obind f ks env) QS = OX (f env) (rS QS fun o e => OX (ks o e) QS) := by
  unfold obind
  cases f env with
  | none => rfl
  | some z => obtain ⟨r, e⟩ := z; cases r <;> rfl
/-- a slot's operand -/
def slotO (i : Nat) : Option Slot → Option Opd
  | some (.shr v) => some (.shr v)
  | some (.own _) => some (.var i)
  | some (.io _) => some (.var i)
  | _ => none
theorem EX_var {i : Nat} : OX (sVar i env) Q = OB (slotO i env[i]?) fun o => Q (.val o) env := by
  unfold sVar
  cases env[i]? with
  | none => rfl
  | some s => cases s <;> rfl
theorem EX_c {v : Val} : OX (sC v env) Q = Q (.val (.shr v)) env := rfl
theorem EX_op2 {op : Val → Val → Option RV} {o1 o2 : Opd} : OX (eop2 op o1 o2 env) Q = OB (o1.get env) fun x => OB (o2.get env) fun y => OB (op x y) fun r => Q (.val r.opd) env := by
  unfold eop2
  cases o1.get env with
  | none => rfl
  | some x =>
    cases o2.get env with
    | none => rfl
    | some y =>
      dsimp only
      rw [OB_some, OB_some]
      cases op x y <;> rfl
theorem EX_bin {op : Val → Val → Option RV} : OX (sBin op f g env) Q = OX (f env) (rE Q fun o1 e1 => OX (g e1) (rE Q fun o2 e2 => OB (o1.get e2) fun x => OB (o2.get e2) fun y => OB (op x y) fun r => Q (.val r.opd) e2)) := by
  unfold sBin
  rw [EX_bind]
  congr; funext o1 e1
  rw [EX_bind]
  congr; funext o2 e2
  exact EX_op2
theorem EX_un {op : Val → Option RV} : OX (sUn op f env) Q = OX (f env) (rE Q fun o e => OB (o.get e) fun x => OB (op x) fun r => Q (.val r.opd) e) := by
  unfold sUn
  rw [EX_bind]
  congr; funext o e
  unfold eop1
  cases o.get e with
  | none => rfl
  | some x =>
    dsimp only
    rw [OB_some]
    cases op x <;> rfl
theorem EX_tru : OX (sTru f env) Q = OX (f env) (rE Q fun o e => OB (o.get e) fun x => OB (truV x) fun b => Q (.val (.shr (.bl b))) e) := by
  unfold sTru
  rw [EX_un]
  congr; funext o e
  congr; funext x
  rw [OB_map]
  rfl
theorem EX_and : OX (sAnd f g env) Q = OX (f env) (rE Q fun o e => ifO o (OX (g e) Q) (Q (.val (.shr (.bl false))) e)) := by
  unfold sAnd
  rw [EX_bind]
  congr; funext o e
  split
  · exact propext ⟨fun q => ⟨fun _ => q, fun z => by cases z⟩, fun q => q.1 rfl⟩
  · exact propext ⟨fun q => ⟨(fun z => by cases z), fun _ => q⟩, fun q => q.2 rfl⟩
  · rename_i h1 h2
    unfold ifO
    split
    · rename_i b
      cases b
      · exact absurd rfl h2
      · exact absurd rfl h1
    · rfl
theorem EX_or : OX (sOr f g env) Q = OX (f env) (rE Q fun o e => ifO o (Q (.val (.shr (.bl true))) e) (OX (g e) Q)) := by
  unfold sOr
  rw [EX_bind]
  congr; funext o e
  split
  · exact propext ⟨fun q => ⟨fun _ => q, fun z => by cases z⟩, fun q => q.1 rfl⟩
  · exact propext ⟨fun q => ⟨(fun z => by cases z), fun _ => q⟩, fun q => q.2 rfl⟩
  · rename_i h1 h2
    unfold ifO
    split
    · rename_i b
      cases b
      · exact absurd rfl h2
      · exact absurd rfl h1
    · rfl
def notO (o : Opd) (k : Bool → Prop) : Prop := match o with
  | .shr (.bl b) => k (!b)
  | _ => False
theorem notO_bl (b : Bool) (k : Bool → Prop) : notO (.shr (.bl b)) k = k (!b) := rfl
theorem EX_not : OX (sNot f env) Q = OX (f env) (rE Q fun o e => notO o fun b => Q (.val (.shr (.bl b))) e) := by
  unfold sNot
  rw [EX_bind]
  congr; funext o e
  split
  · rfl
  · rename_i h1
    unfold notO
    split
    · exact absurd rfl (h1 _)
    · rfl
theorem EX_if : OX (sIf c f g env) Q = OX (c env) (rE Q fun o e => ifO o (OX (f e) Q) (OX (g e) Q)) := by
  unfold sIf
  rw [EX_bind]
  congr; funext o e
  split
  · exact propext ⟨fun q => ⟨fun _ => q, fun z => by cases z⟩, fun q => q.1 rfl⟩
  · exact propext ⟨fun q => ⟨(fun z => by cases z), fun _ => q⟩, fun q => q.2 rfl⟩
  · rename_i h1 h2
    unfold ifO
    split
    · rename_i b
      cases b
      · exact absurd rfl h2
      · exact absurd rfl h1
    · rfl
/-- .. as a shared value -/
def shO (o : Opd) (env : Env) (k : Val → Env → Prop) : Prop := match o with
  | .shr v => k v env
  | .new v => k v env
  | .var i => match env[i]? with
    | some (.own v) => k v (env.set i (.shr v))
    | _ => False
theorem shO_shr (v : Val) (env : Env) (k : Val → Env → Prop) : shO (.shr v) env k = k v env := rfl
theorem shO_new (v : Val) (env : Env) (k : Val → Env → Prop) : shO (.new v) env k = k v env := rfl
theorem shO_var {i : Nat} {v : Val} {env : Env} {k : Val → Env → Prop} (h : env[i]? = some (.own v)) : shO (.var i) env k = k v (env.set i (.shr v)) := by unfold shO; dsimp only; rw [h]
theorem EX_esh : OX (esh f env) Q = OX (f env) (rE Q fun o e => shO o e fun v e => Q (.val (.shr v)) e) := by
  unfold esh
  rw [EX_bind]
  congr; funext o e
  unfold efix shO
  cases o with
  | shr v => rfl
  | new v => rfl
  | var i =>
    dsimp only
    cases e[i]? with
    | none => rfl
    | some s => cases s <;> rfl
/-- .. not a slot's -/
def unO (o : Opd) (env : Env) (k : Opd → Env → Prop) : Prop := match o with
  | .shr v => k (.shr v) env
  | .new v => k (.new v) env
  | .var i => match env[i]? with
    | some (.own v) => k (.shr v) (env.set i (.shr v))
    | _ => False
theorem EX_eun : OX (eun f env) Q = OX (f env) (rE Q fun o e => unO o e fun o e => Q (.val o) e) := by
  unfold eun
  rw [EX_bind]
  congr; funext o e
  unfold unO
  cases o with
  | shr v => rfl
  | new v => rfl
  | var i =>
    unfold efix
    dsimp only
    cases e[i]? with
    | none => rfl
    | some s => cases s <;> rfl
theorem shO_congr {o : Opd} {e : Env} {k k' : Val → Env → Prop} (h : ∀ v e, k v e = k' v e) : shO o e k = shO o e k' := by
  have q : k = k' := funext fun v => funext fun e => h v e
  rw [q]
theorem unO_congr {o : Opd} {e : Env} {k k' : Opd → Env → Prop} (h : ∀ v e, k v e = k' v e) : unO o e k = unO o e k' := by
  have q : k = k' := funext fun v => funext fun e => h v e
  rw [q]
/-- arguments, one behind the other -/
def xArgs (Q : ERes → Env → Prop) : List EF → Env → (List Opd → Env → Prop) → Prop
  | [], env, k => k [] env
  | f :: fs, env, k => OX (f env) (rE Q fun o e => xArgs Q fs e fun os e => k (o :: os) e)
theorem xArgs_nil {Q : ERes → Env → Prop} {env : Env} {k : List Opd → Env → Prop} : xArgs Q [] env k = k [] env := rfl
theorem xArgs_cons {Q : ERes → Env → Prop} {f : EF} {fs : List EF} {env : Env} {k : List Opd → Env → Prop} : xArgs Q (f :: fs) env k = OX (f env) (rE Q fun o e => xArgs Q fs e fun os e => k (o :: os) e) := rfl
theorem EX_args : ∀ {fs : List EF} {k : List Opd → EF} {env : Env}, OX (sArgs fs k env) Q = xArgs Q fs env fun os e => OX (k os e) Q
  | [], _, _ => rfl
  | f :: fs, k, env => by
    show OX (ebind f (fun o => sArgs fs fun os => k (o :: os)) env) Q = _
    rw [EX_bind, xArgs_cons]
    congr; funext o e
    exact EX_args
theorem EX_tup {fs : List EF} : OX (sTup fs env) Q = xArgs Q (fs.map esh) env fun os e => OB (shrs os) fun vs => vs.length ≤ 16000000 ∧ Q (.val (.shr (.tup vs))) e := by
  unfold sTup
  rw [EX_args]
  congr; funext os e
  cases shrs os with
  | none => rfl
  | some vs =>
    dsimp only
    rw [OB_some]
    by_cases h : vs.length ≤ 16000000
    · rw [if_pos h]; exact propext ⟨fun q => ⟨h, q⟩, fun q => q.2⟩
    · rw [if_neg h]; exact propext ⟨fun q => q.elim, fun q => h q.1⟩
theorem EX_lst {fs : List EF} : OX (sLst fs env) Q = xArgs Q (fs.map esh) env fun os e => OB (shrs os) fun vs => vs.length ≤ 16000000 ∧ Q (.val (.new (.lst vs))) e := by
  unfold sLst
  rw [EX_args]
  congr; funext os e
  cases shrs os with
  | none => rfl
  | some vs =>
    dsimp only
    rw [OB_some]
    by_cases h : vs.length ≤ 16000000
    · rw [if_pos h]; exact propext ⟨fun q => ⟨h, q⟩, fun q => q.2⟩
    · rw [if_neg h]; exact propext ⟨fun q => q.elim, fun q => h q.1⟩
theorem EX_callB {op : List Val → Option RV} {fs : List EF} : OX (sCallB op fs env) Q = xArgs Q fs env fun os e => OB (gets os e) fun vs => OB (op vs) fun r => Q (.val r.opd) e := by
  unfold sCallB
  rw [EX_args]
  congr; funext os e
  unfold eopn
  cases gets os e with
  | none => rfl
  | some vs =>
    dsimp only
    rw [OB_some]
    cases op vs <;> rfl
theorem EX_meth {ty : String} {op : Val → List Val → Option RV} {fs : List EF} : OX (sMeth ty op f fs env) Q = OX (f env) (rE Q fun o e => OB (o.get e) fun v => tyOf ty v = true ∧ xArgs Q fs e fun os e => OB (o.get e) fun v => OB (gets os e) fun vs => OB (op v vs) fun r => Q (.val r.opd) e) := by
  unfold sMeth
  rw [EX_bind]
  congr; funext o e
  cases o.get e with
  | none => rfl
  | some v =>
    dsimp only
    rw [OB_some]
    by_cases h : tyOf ty v = true
    · rw [if_pos h, EX_args]
      refine propext ⟨fun q => ⟨h, ?_⟩, fun q => ?_⟩
      · revert q
        apply Eq.mp
        congr; funext os e
        cases o.get e with
        | none => rfl
        | some v =>
          rw [OB_some]
          cases gets os e with
          | none => rfl
          | some vs =>
            dsimp only
            rw [OB_some]
            cases op v vs <;> rfl
      · have q := q.2
        revert q
        apply Eq.mp
        congr; funext os e
        cases o.get e with
        | none => rfl
        | some v =>
          rw [OB_some]
          cases gets os e with
          | none => rfl
          | some vs =>
            dsimp only
            rw [OB_some]
            cases op v vs <;> rfl
    · rw [if_neg h]; exact propext ⟨fun q => q.elim, fun q => h q.1⟩
theorem SX_nil : OX (sNil env) QS = QS .nx env := rfl
theorem SX_brk : OX (sBrk env) QS = QS .brk env := rfl
theorem SX_ct : OX (sCt env) QS = QS .ct env := rfl
theorem SX_retN : OX (sRetN env) QS = QS (.ret (.shr .non)) env := rfl
theorem SX_raise {x : Str} : OX (sRaise x env) QS = QS (.exc x) env := rfl
/-- behind a statement -/
def nxS (QS : FRes → Env → Prop) (k : Env → Prop) : FRes → Env → Prop
  | .nx, e => k e
  | r, e => QS r e
theorem nxS_nx {k : Env → Prop} {e : Env} : nxS QS k .nx e = k e := rfl
theorem nxS_ret {k : Env → Prop} {e : Env} {r : RV} : nxS QS k (.ret r) e = QS (.ret r) e := rfl
theorem nxS_exc {k : Env → Prop} {e : Env} {r : Str} : nxS QS k (.exc r) e = QS (.exc r) e := rfl
theorem nxS_brk {k : Env → Prop} {e : Env} : nxS QS k .brk e = QS .brk e := rfl
theorem nxS_ct {k : Env → Prop} {e : Env} : nxS QS k .ct e = QS .ct e := rfl
theorem SX_seq : OX (sSeq g1 g2 env) QS = OX (g1 env) (nxS QS fun e => OX (g2 e) QS) := by
  unfold sSeq
  cases g1 env with
  | none => rfl
  | some z => obtain ⟨r, e⟩ := z; cases r <;> rfl
theorem SX_expr : OX (sExpr f env) QS = OX (f env) (rS QS fun _ e => QS .nx e) := SX_bind
theorem SX_ret : OX (sRet f env) QS = OX (f env) (rS QS fun o e => OB (opdRet o e) fun r => QS (.ret r) e) := by
  unfold sRet
  rw [SX_bind]
  congr; funext o e
  cases opdRet o e <;> rfl
theorem SX_if : OX (sIfS c g1 g2 env) QS = OX (c env) (rS QS fun o e => ifO o (OX (g1 e) QS) (OX (g2 e) QS)) := by
  unfold sIfS
  rw [SX_bind]
  congr; funext o e
  split
  · exact propext ⟨fun q => ⟨fun _ => q, fun z => by cases z⟩, fun q => q.1 rfl⟩
  · exact propext ⟨fun q => ⟨(fun z => by cases z), fun _ => q⟩, fun q => q.2 rfl⟩
  · rename_i h1 h2
    unfold ifO
    split
    · rename_i b
      cases b
      · exact absurd rfl h2
      · exact absurd rfl h1
    · rfl
theorem OX_mapnx {o : Option Env} : OX (o.map (FRes.nx, ·)) QS = OB o fun e => QS .nx e := by cases o <;> rfl
theorem SX_asg {i : Nat} : OX (sAsg i f env) QS = OX (f env) (rS QS fun o e => unO o e fun o e => OB (setSlot e i o) fun e => QS .nx e) := by
  unfold sAsg
  rw [SX_bind, EX_eun]
  congr; funext r e
  cases r with
  | exc c => rfl
  | val o =>
    simp only [rE_val, rS_val]
    exact unO_congr fun o e => OX_mapnx
theorem SX_args : ∀ {fs : List EF} {k : List Opd → SF} {env : Env}, OX (oargs fs k env) QS = xArgs (fun r e => match r with | .exc c => QS (.exc c) e | .val _ => True) fs env fun os e => OX (k os e) QS
  | [], _, _ => rfl
  | f :: fs, k, env => by
    show OX (obind f (fun o => oargs fs fun os => k (o :: os)) env) QS = _
    rw [SX_bind, xArgs_cons]
    refine congrArg (OX (f env)) ?_
    funext r e
    cases r with
    | exc c => rfl
    | val o => exact SX_args
/-- the exceptions' wish -/
def qX (QS : FRes → Env → Prop) : ERes → Env → Prop := fun r e => match r with | .exc c => QS (.exc c) e | .val _ => True
theorem SX_par {is : List Nat} {fs : List EF} : OX (sPar is fs env) QS = xArgs (qX QS) (fs.map eun) env fun os e => OB (setSlots e is os) fun e => QS .nx e := by
  unfold sPar
  rw [SX_args]
  show xArgs (qX QS) _ _ _ = _
  congr; funext os e
  exact OX_mapnx
theorem SX_unp {is : List Nat} : OX (sUnp is f env) QS = OX (f env) (rS QS fun o e => shO o e fun v e => OB (tgSet (.many is) v e) fun e => QS .nx e) := by
  unfold sUnp
  rw [SX_bind, EX_esh]
  congr; funext r e
  cases r with
  | exc c => rfl
  | val o =>
    simp only [rE_val, rS_val]
    exact shO_congr fun v e => OX_mapnx
def xLst (o : Option Val) (k : List Val → Prop) : Prop := match o with
  | some (.lst vs) => k vs
  | _ => False
theorem xLst_some {vs : List Val} {k : List Val → Prop} : xLst (some (.lst vs)) k = k vs := rfl
def xInt (o : Option Val) (k : Int → Prop) : Prop := match o with
  | some (.int i) => k i
  | _ => False
theorem xInt_some {i : Int} {k : Int → Prop} : xInt (some (.int i)) k = k i := rfl
theorem SX_setL {i : Nat} {fi fv : EF} : OX (sSetL i fi fv env) QS = OX (fv env) (rS QS fun o e => shO o e fun v e => xLst (own? e i) fun _ => OX (fi e) (rS QS fun oi e => xLst (own? e i) fun xs => xInt (oi.get e) fun j => OB (ixN xs.length j) fun k => QS .nx (updOwn e i (.lst (xs.set k v))))) := by
  unfold sSetL
  rw [SX_bind, EX_esh]
  congr; funext r e
  cases r with
  | exc c => rfl
  | val o =>
    simp only [rE_val, rS_val]
    refine shO_congr fun v e => ?_
    show OX (match own? e i with
      | some (.lst _) => obind fi (fun oi env => match own? env i, Opd.shr v, oi.get env with
        | some (.lst xs), .shr v, some (.int j) => (match ixN xs.length j with
          | some k => some (.nx, updOwn env i (.lst (xs.set k v)))
          | none => none)
        | _, _, _ => none) e
      | _ => none) QS = _
    cases own? e i with
    | none => rfl
    | some w =>
      cases w with
      | lst ws =>
        dsimp only
        rw [SX_bind, xLst_some]
        congr; funext oi e
        cases own? e i with
        | none => rfl
        | some w =>
          cases w with
          | lst xs =>
            rw [xLst_some]
            cases oi.get e with
            | none => rfl
            | some u =>
              cases u with
              | int j =>
                dsimp only
                rw [xInt_some]
                cases ixN xs.length j <;> rfl
              | _ => rfl
          | _ => rfl
      | _ => rfl
theorem SX_augL {i : Nat} {gg : Int → Int → Int} {fi fe : EF} : OX (sAugL i gg fi fe env) QS = xLst (own? env i) fun _ => OX (fi env) (rS QS fun oi e => xLst (own? e i) fun xs => xInt (oi.get e) fun j => xInt (atI xs j) fun a => OX (fe e) (rS QS fun oe e => xLst (own? e i) fun ys => xInt (oe.get e) fun b => OB (ixN ys.length j) fun k => QS .nx (updOwn e i (.lst (ys.set k (.int (gg a b))))))) := by
  unfold sAugL
  cases own? env i with
  | none => rfl
  | some w =>
    cases w with
    | lst ws =>
      dsimp only
      rw [SX_bind, xLst_some]
      congr; funext oi e
      cases own? e i with
      | none => rfl
      | some w =>
        cases w with
        | lst xs =>
          rw [xLst_some]
          cases oi.get e with
          | none => rfl
          | some u =>
            cases u with
            | int j =>
              dsimp only
              rw [xInt_some]
              cases atI xs j with
              | none => rfl
              | some a =>
                cases a with
                | int a =>
                  dsimp only
                  rw [SX_bind, xInt_some]
                  congr; funext oe e
                  cases own? e i with
                  | none => rfl
                  | some w =>
                    cases w with
                    | lst ys =>
                      rw [xLst_some]
                      cases oe.get e with
                      | none => rfl
                      | some u =>
                        cases u with
                        | int b =>
                          dsimp only
                          rw [xInt_some]
                          cases ixN ys.length j <;> rfl
                        | _ => rfl
                    | _ => rfl
                | _ => rfl
            | _ => rfl
        | _ => rfl
    | _ => rfl
end
end Lw

end
section
set_option Elab.async false
set_option linter.all false
set_option maxRecDepth 100000
set_option maxHeartbeats 1000000
set_option autoImplicit false
/-! M: calls, walks, comprehensions. -/
namespace Lw
open PySem L2
section
variable {f g h c : EF} {env : Env} {Q : ERes → Env → Prop} {QS : FRes → Env → Prop} {QI : IRes → Env → Prop} {body : SF}
def oE : ORes → ERes
  | .ret r => .val r.opd
  | .exc c => .exc c
theorem oE_ret (r : RV) : oE (.ret r) = .val r.opd := rfl
theorem oE_exc (c : Str) : oE (.exc c) = .exc c := rfl
def xIo (s : Option Slot) (k : Val → Prop) : Prop := match s with
  | some (.io v) => k v
  | _ => False
theorem xIo_some {v : Val} {k : Val → Prop} : xIo (some (.io v)) k = k v := rfl
/-- a call: what is handed in, one that is changed -/
def callS (φ : Fn) (e : Env) (Q : ERes → Env → Prop) : List Val × Option (Nat × List Val) → Prop
  | (vs, none) => OX (φ (vs.map Slot.shr)) fun o _ => Q (oE o) e
  | (vs, some (i, ws)) => OB (own? e i) fun v => OX (φ (vs.map Slot.shr ++ .io v :: ws.map Slot.shr)) fun o ss => xIo ss[vs.length]? fun v1 => Q (oE o) (updOwn e i v1)
theorem callS_none {φ : Fn} {vs : List Val} : callS φ env Q (vs, none) = OX (φ (vs.map Slot.shr)) fun o _ => Q (oE o) env := rfl
theorem callS_some {φ : Fn} {vs ws : List Val} {i : Nat} : callS φ env Q (vs, some (i, ws)) = OB (own? env i) fun v => OX (φ (vs.map Slot.shr ++ .io v :: ws.map Slot.shr)) fun o ss => xIo ss[vs.length]? fun v1 => Q (oE o) (updOwn env i v1) := rfl
theorem EX_call {φ : Fn} {fs : List EF} : OX (sCall φ fs env) Q = xArgs Q fs env fun os e => OB (splitIo os) fun z => callS φ e Q z := by
  unfold sCall
  rw [EX_args]
  congr; funext os e
  unfold sCallK
  cases splitIo os with
  | none => rfl
  | some z =>
    obtain ⟨vs, z⟩ := z
    cases z with
    | none =>
      dsimp only
      rw [OB_some, callS_none]
      cases φ (vs.map Slot.shr) with
      | none => rfl
      | some z => obtain ⟨o, ss⟩ := z; cases o <;> rfl
    | some z =>
      obtain ⟨i, ws⟩ := z
      dsimp only
      rw [OB_some, callS_some]
      cases own? e i with
      | none => rfl
      | some v =>
        dsimp only
        rw [OB_some]
        cases φ (vs.map Slot.shr ++ .io v :: ws.map Slot.shr) with
        | none => rfl
        | some z =>
          obtain ⟨o, ss⟩ := z
          dsimp only
          rw [OX_some]
          cases ss[vs.length]? with
          | none => rfl
          | some s => cases s <;> cases o <;> rfl
theorem EX_mut {i : Nat} {op : List Val → List Val → Option (Val × List Val)} {fs : List EF} : OX (sMutS i op fs env) Q = xLst (own? env i) fun _ => xArgs Q (fs.map esh) env fun os e => xLst (own? e i) fun xs => OB (shrs os) fun vs => OB (op xs vs) fun z => Q (.val (.shr z.1)) (updOwn e i (.lst z.2)) := by
  unfold sMutS
  cases own? env i with
  | none => rfl
  | some w =>
    cases w with
    | lst ws =>
      dsimp only
      rw [EX_args, xLst_some]
      congr; funext os e
      cases own? e i with
      | none => rfl
      | some w =>
        cases w with
        | lst xs =>
          rw [xLst_some]
          cases shrs os with
          | none => rfl
          | some vs =>
            dsimp only
            rw [OB_some]
            cases op xs vs <;> rfl
        | _ => rfl
    | _ => rfl
theorem EX_extend {i : Nat} : OX (sExtend i f env) Q = xLst (own? env i) fun _ => OX (f env) (rE Q fun o e => xLst (own? e i) fun xs => xLst (o.get e) fun vs => xs.length + vs.length ≤ 16000000 ∧ Q (.val (.shr .non)) (updOwn e i (.lst (xs ++ vs)))) := by
  unfold sExtend
  cases own? env i with
  | none => rfl
  | some w =>
    cases w with
    | lst ws =>
      dsimp only
      rw [EX_bind, xLst_some]
      congr; funext o e
      cases own? e i with
      | none => rfl
      | some w =>
        cases w with
        | lst xs =>
          rw [xLst_some]
          cases o.get e with
          | none => rfl
          | some u =>
            cases u with
            | lst vs =>
              dsimp only
              rw [xLst_some]
              by_cases h : xs.length + vs.length ≤ 16000000
              · rw [if_pos h]; exact propext ⟨fun q => ⟨h, q⟩, fun q => q.2⟩
              · rw [if_neg h]; exact propext ⟨fun q => q.elim, fun q => h q.1⟩
            | _ => rfl
        | _ => rfl
    | _ => rfl
/-- a slice's part -/
def iO (o : Opd) (k : Int → Prop) : Prop := match o with
  | .shr (.int i) => k i
  | _ => False
theorem iO_int {i : Int} {k : Int → Prop} : iO (.shr (.int i)) k = k i := rfl
def xP (Q : ERes → Env → Prop) : Option EF → Env → (Option Int → Env → Prop) → Prop
  | none, e, k => k none e
  | some g, e, k => OX (g e) (rE Q fun o e => iO o fun i => k (some i) e)
theorem xP_none {k : Option Int → Env → Prop} : xP Q none env k = k none env := rfl
theorem xP_some {k : Option Int → Env → Prop} : xP Q (some g) env k = OX (g env) (rE Q fun o e => iO o fun i => k (some i) e) := rfl
theorem EX_bindP {lo : Option EF} {k : Option Int → EF} : OX (ebindP lo k env) Q = xP Q lo env fun l e => OX (k l e) Q := by
  cases lo with
  | none => rfl
  | some g =>
    unfold ebindP
    rw [EX_bind, xP_some]
    congr; funext o e
    split
    · rfl
    · rename_i h1
      unfold iO
      split
      · exact absurd rfl (h1 _)
      · rfl
theorem EX_sl {op : Val → Option Int → Option Int → Option RV} {lo hi : Option EF} : OX (sSl op f lo hi env) Q = OX (f env) (rE Q fun o e => xP Q lo e fun l e => xP Q hi e fun h e => OB (o.get e) fun v => OB (op v l h) fun r => Q (.val r.opd) e) := by
  unfold sSl
  rw [EX_bind]
  congr; funext o e
  rw [EX_bindP]
  congr; funext l e
  rw [EX_bindP]
  congr; funext h e
  cases o.get e with
  | none => rfl
  | some v =>
    dsimp only
    rw [OB_some]
    cases op v l h <;> rfl
def ifR (r : RV) (A B : Prop) : Prop := match r with
  | .shr (.bl b) => (b = true → A) ∧ (b = false → B)
  | _ => False
theorem ifR_bl (b : Bool) (A B : Prop) : ifR (.shr (.bl b)) A B = ((b = true → A) ∧ (b = false → B)) := rfl
theorem EX_chain {op op' : Val → Val → Option RV} : OX (sChain op op' f g h env) Q = OX (f env) (rE Q fun x e => OX (g e) (rE Q fun y e => OB (x.get e) fun vx => OB (y.get e) fun vy => OB (op vx vy) fun r => ifR r (OX (h e) (rE Q fun z e => OB (y.get e) fun vy => OB (z.get e) fun vz => OB (op' vy vz) fun r => Q (.val r.opd) e)) (Q (.val (.shr (.bl false))) e))) := by
  unfold sChain
  rw [EX_bind]
  congr; funext x e
  rw [EX_bind]
  congr; funext y e
  unfold eChain
  cases x.get e with
  | none => rfl
  | some vx =>
    cases y.get e with
    | none => rfl
    | some vy =>
      dsimp only
      rw [OB_some, OB_some]
      cases op vx vy with
      | none => rfl
      | some r =>
        rw [OB_some]
        cases r with
        | new v => rfl
        | shr v =>
          cases v with
          | bl b =>
            cases b
            · dsimp only; rw [ifR_bl, OX_some]; exact propext ⟨fun q => ⟨(fun z => by cases z), fun _ => q⟩, fun q => q.2 rfl⟩
            · dsimp only
              rw [ifR_bl, EX_bind]
              refine propext ⟨fun q => ⟨fun _ => ?_, (fun z => by cases z)⟩, fun q => ?_⟩
              · revert q
                apply Eq.mp
                congr; funext z e
                exact EX_op2
              · have q := q.1 rfl
                revert q
                apply Eq.mp
                congr; funext z e
                exact EX_op2.symm
          | _ => rfl

/-! ### what is walked -/
def rI (QI : IRes → Env → Prop) (k : Opd → Env → Prop) : ERes → Env → Prop
  | .val o, e => k o e
  | .exc c, e => QI (.exc c) e
theorem rI_val (k : Opd → Env → Prop) (o : Opd) (e : Env) : rI QI k (.val o) e = k o e := rfl
theorem rI_exc (k : Opd → Env → Prop) (c : Str) (e : Env) : rI QI k (.exc c) e = QI (.exc c) e := rfl
theorem IX_bindO {k : Opd → IF} : OX (ibindO f k env) QI = OX (f env) (rI QI fun o e => OX (k o e) QI) := by
  unfold ibindO
  cases f env with
  | none => rfl
  | some z => obtain ⟨r, e⟩ := z; cases r <;> rfl
theorem IX_any : OX (sAny f env) QI = OX (f env) (rI QI fun o e => shO o e fun v e => OB (itemsA v) fun vs => QI (.items vs) e) := by
  unfold sAny ibind
  have h := EX_esh (f := f) (env := env) (Q := fun r e => rI QI (fun o e => match o with | .shr v => OB (itemsA v) fun vs => QI (.items vs) e | _ => False) r e)
  have l : OX (match esh f env with
      | some (.val (.shr v), env1) => (match itemsA v with | some vs => some (.items vs, env1) | none => none)
      | some (.exc c, env1) => some (.exc c, env1)
      | _ => none) QI = OX (esh f env) fun r e => rI QI (fun o e => match o with | .shr v => OB (itemsA v) fun vs => QI (.items vs) e | _ => False) r e := by
    cases esh f env with
    | none => rfl
    | some z =>
      obtain ⟨r, e⟩ := z
      cases r with
      | exc c => rfl
      | val o =>
        cases o with
        | shr v => dsimp only; rw [OX_some, rI_val]; dsimp only; cases itemsA v <;> rfl
        | new v => rfl
        | var i => rfl
  refine l.trans (h.trans ?_)
  refine congrArg (OX (f env)) ?_
  funext r e
  cases r with
  | exc c => rfl
  | val o => rfl
theorem IX_range1 : OX (sRange1 f env) QI = OX (f env) (rI QI fun o e => xInt (o.get e) fun j => smallI j = true ∧ QI (.items (rangeV 0 j.toNat)) e) := by
  unfold sRange1
  rw [IX_bindO]
  congr; funext o e
  cases o.get e with
  | none => rfl
  | some u =>
    cases u with
    | int j =>
      dsimp only
      rw [xInt_some]
      by_cases h : smallI j = true
      · rw [if_pos h]; exact propext ⟨fun q => ⟨h, q⟩, fun q => q.2⟩
      · rw [if_neg h]; exact propext ⟨fun q => q.elim, fun q => h q.1⟩
    | _ => rfl
theorem IX_range2 : OX (sRange2 f g env) QI = OX (f env) (rI QI fun o1 e => OX (g e) (rI QI fun o2 e => xInt (o1.get e) fun i => xInt (o2.get e) fun j => (smallI i && smallI j) = true ∧ QI (.items (rangeV i (j - i).toNat)) e)) := by
  unfold sRange2
  rw [IX_bindO]
  congr; funext o1 e
  rw [IX_bindO]
  congr; funext o2 e
  cases o1.get e with
  | none => rfl
  | some u =>
    cases u with
    | int i =>
      cases o2.get e with
      | none => rfl
      | some u =>
        cases u with
        | int j =>
          dsimp only
          rw [xInt_some, xInt_some]
          by_cases h : (smallI i && smallI j) = true
          · rw [if_pos h]; exact propext ⟨fun q => ⟨h, q⟩, fun q => q.2⟩
          · rw [if_neg h]; exact propext ⟨fun q => q.elim, fun q => h q.1⟩
        | _ => rfl
    | _ => rfl
def qI (QI : IRes → Env → Prop) : ERes → Env → Prop := fun r e => match r with | .exc c => QI (.exc c) e | .val _ => True
theorem IX_args : ∀ {fs : List EF} {k : List Opd → IF} {env : Env}, OX (iargs fs k env) QI = xArgs (qI QI) fs env fun os e => OX (k os e) QI
  | [], _, _ => rfl
  | f :: fs, k, env => by
    show OX (ibindO f (fun o => iargs fs fun os => k (o :: os)) env) QI = _
    rw [IX_bindO, xArgs_cons]
    refine congrArg (OX (f env)) ?_
    funext r e
    cases r with
    | exc c => rfl
    | val o => exact IX_args
def two? : List Val → Option (Val × Val)
  | [v, w] => some (v, w)
  | _ => none
def one? : List Val → Option Val
  | [v] => some v
  | _ => none
theorem IX_zip {fs : List EF} : OX (sZip fs env) QI = xArgs (qI QI) (fs.map esh) env fun os e => OB (shrs os) fun vs => OB (two? vs) fun z => OB (itemsA z.1) fun xs => OB (itemsA z.2) fun ys => QI (.items (zipV xs ys)) e := by
  unfold sZip
  rw [IX_args]
  congr; funext os e
  cases shrs os with
  | none => rfl
  | some vs =>
    rw [OB_some]
    match vs with
    | [] => rfl
    | [_] => rfl
    | [v, w] =>
      dsimp only [two?]
      rw [OB_some]
      cases itemsA v with
      | none => rfl
      | some xs =>
        rw [OB_some]
        dsimp only
        cases itemsA w <;> rfl
    | _ :: _ :: _ :: _ => rfl
theorem IX_enum {fs : List EF} : OX (sEnum fs env) QI = xArgs (qI QI) (fs.map esh) env fun os e => OB (shrs os) fun vs => OB (one? vs) fun z => OB (itemsA z) fun xs => QI (.items (enumV xs)) e := by
  unfold sEnum
  rw [IX_args]
  congr; funext os e
  cases shrs os with
  | none => rfl
  | some vs =>
    rw [OB_some]
    match vs with
    | [] => rfl
    | [v] =>
      dsimp only [one?]
      rw [OB_some]
      cases itemsA v <;> rfl
    | _ :: _ :: _ => rfl
def rF (QS : FRes → Env → Prop) (k : List Val → Env → Prop) : IRes → Env → Prop
  | .items vs, e => k vs e
  | .exc c, e => QS (.exc c) e
theorem rF_items (k : List Val → Env → Prop) (vs : List Val) (e : Env) : rF QS k (.items vs) e = k vs e := rfl
theorem rF_exc (k : List Val → Env → Prop) (c : Str) (e : Env) : rF QS k (.exc c) e = QS (.exc c) e := rfl
theorem SX_for {t : Tgt} {it : IF} : OX (sFor t it body env) QS = OX (it env) (rF QS fun vs e => OX (forL t body vs e) QS) := by
  unfold sFor
  cases it env with
  | none => rfl
  | some z => obtain ⟨r, e⟩ := z; cases r <;> rfl
/-- one more turn -/
def lpS (QS : FRes → Env → Prop) (k : Env → Prop) : FRes → Env → Prop
  | .nx, e => k e
  | .ct, e => k e
  | .brk, e => QS .nx e
  | r, e => QS r e
theorem lpS_nx {k : Env → Prop} {e : Env} : lpS QS k .nx e = k e := rfl
theorem lpS_ct {k : Env → Prop} {e : Env} : lpS QS k .ct e = k e := rfl
theorem lpS_brk {k : Env → Prop} {e : Env} : lpS QS k .brk e = QS .nx e := rfl
theorem lpS_ret {k : Env → Prop} {e : Env} {r : RV} : lpS QS k (.ret r) e = QS (.ret r) e := rfl
theorem lpS_exc {k : Env → Prop} {e : Env} {r : Str} : lpS QS k (.exc r) e = QS (.exc r) e := rfl
theorem FL_nil {t : Tgt} : OX (forL t body [] env) QS = QS .nx env := rfl
theorem FL_cons {t : Tgt} {v : Val} {vs : List Val} : OX (forL t body (v :: vs) env) QS = OB (tgSet t v env) fun e => OX (body e) (lpS QS fun e => OX (forL t body vs e) QS) := by
  show OX (match tgSet t v env with
    | none => none
    | some env1 => match body env1 with
      | some (.nx, env2) => forL t body vs env2
      | some (.ct, env2) => forL t body vs env2
      | some (.brk, env2) => some (.nx, env2)
      | z => z) QS = _
  cases tgSet t v env with
  | none => rfl
  | some e =>
    rw [OB_some]
    dsimp only
    cases body e with
    | none => rfl
    | some z => obtain ⟨r, e⟩ := z; cases r <;> rfl
/-- a loop by an invariant of how many turns are done -/
theorem FL_inv {t : Tgt} {vs : List Val} (I : Nat → Env → Prop) (h0 : I 0 env) (hs : ∀ i v e, vs[i]? = some v → I i e → OB (tgSet t v e) fun e => OX (body e) (lpS QS fun e => I (i + 1) e)) (hd : ∀ e, I vs.length e → QS .nx e) : OX (forL t body vs env) QS := by
  have key : ∀ (ws : List Val) (i : Nat) (e : Env), vs.drop i = ws → i ≤ vs.length → I i e → OX (forL t body ws e) QS := by
    intro ws
    induction ws with
    | nil =>
      intro i e hd' hi hI
      rw [FL_nil]
      have : i = vs.length := by
        have := congrArg List.length hd'
        rw [List.length_drop, List.length_nil] at this
        omega
      subst this
      exact hd e hI
    | cons v ws ih =>
      intro i e hd' hi hI
      have hv : vs[i]? = some v := by
        have := congrArg (fun l => l[0]?) hd'
        simpa using this
      have hlt := (List.getElem?_eq_some_iff.mp hv).1
      rw [FL_cons]
      refine OB_mono (hs i v e hv hI) fun e1 h1 => OX_mono h1 fun r e2 h2 => ?_
      have nx : I (i + 1) e2 → OX (forL t body ws e2) QS := fun h => ih (i + 1) e2 (by have := congrArg List.tail hd'; simpa using this) hlt h
      cases r with
      | nx => exact nx h2
      | ct => exact nx h2
      | brk => exact h2
      | ret r => exact h2
      | exc c => exact h2
  exact key vs 0 env rfl (Nat.zero_le _) h0

/-! ### comprehensions -/
theorem EX_lc {t : Tgt} {cl : List Nat} {it : IF} {tt te : EF} : OX (sLC t cl it tt te env) Q = OX (it env) (fun r e => match r with
    | .items vs => OB (wipe? e cl) fun ew => OX (lcL t cl tt te vs [] ew) fun ws e2 => (cl.all fun j => plainAt e2 j) = true ∧ Q (.val (.new (.lst ws))) (restE e e2 cl)
    | .exc c => Q (.exc c) e) := by
  unfold sLC
  cases it env with
  | none => rfl
  | some z =>
    obtain ⟨r, e⟩ := z
    cases r with
    | exc c => rfl
    | items vs =>
      dsimp only
      rw [OX_some]
      dsimp only
      cases wipe? e cl with
      | none => rfl
      | some ew =>
        dsimp only
        rw [OB_some]
        cases lcL t cl tt te vs [] ew with
        | none => rfl
        | some z =>
          obtain ⟨ws, e2⟩ := z
          dsimp only
          rw [OX_some]
          by_cases h : (cl.all fun j => plainAt e2 j) = true
          · rw [if_pos h]; exact propext ⟨fun q => ⟨h, q⟩, fun q => q.2⟩
          · rw [if_neg h]; exact propext ⟨fun q => q.elim, fun q => h q.1⟩
/-- a comprehension by an invariant: i turns are done, acc is what came -/
theorem LC_inv {t : Tgt} {cl : List Nat} {tt te : EF} {vs : List Val} {P : List Val → Env → Prop} (I : Nat → List Val → Env → Prop) (h0 : I 0 [] env)
    (hs : ∀ i v acc e, vs[i]? = some v → I i acc e → OB (tgSet t v e) fun e1 => OX (tt e1) fun r e2 => ∃ b, r = .val (.shr (.bl b)) ∧ (b = true → OX (te e2) fun r e3 => ∃ o, r = .val o ∧ shO o e3 fun w e3 => acc.length < 16000000 ∧ OB (wipe? e3 cl) fun e4 => I (i + 1) (acc ++ [w]) e4)
      ∧ (b = false → OB (wipe? e2 cl) fun e4 => I (i + 1) acc e4)) (hd : ∀ acc e, I vs.length acc e → P acc e) : OX (lcL t cl tt te vs [] env) P := by
  have key : ∀ (ws : List Val) (i : Nat) (acc : List Val) (e : Env), vs.drop i = ws → i ≤ vs.length → I i acc e → OX (lcL t cl tt te ws acc e) P := by
    intro ws
    induction ws with
    | nil =>
      intro i acc e hd' hi hI
      show P acc e
      have : i = vs.length := by
        have := congrArg List.length hd'
        rw [List.length_drop, List.length_nil] at this
        omega
      subst this
      exact hd acc e hI
    | cons v ws ih =>
      intro i acc e hd' hi hI
      have hv : vs[i]? = some v := by
        have := congrArg (fun l => l[0]?) hd'
        simpa using this
      have hlt := (List.getElem?_eq_some_iff.mp hv).1
      have h1 := hs i v acc e hv hI
      have nx : ∀ acc e, I (i + 1) acc e → OX (lcL t cl tt te ws acc e) P := fun acc e h => ih (i + 1) acc e (by have := congrArg List.tail hd'; simpa using this) hlt h
      unfold lcL
      cases ht : tgSet t v e with
      | none => rw [ht] at h1; exact h1.elim
      | some e1 =>
        rw [ht, OB_some] at h1
        dsimp only
        cases h2 : tt e1 with
        | none => rw [h2] at h1; exact h1.elim
        | some z =>
          obtain ⟨r, e2⟩ := z
          rw [h2, OX_some] at h1
          obtain ⟨b, rfl, q1, q2⟩ := h1
          cases b with
          | false =>
            dsimp only
            have q := q2 rfl
            cases h3 : wipe? e2 cl with
            | none => rw [h3] at q; exact q.elim
            | some e4 => rw [h3, OB_some] at q; exact nx _ _ q
          | true =>
            dsimp only
            have q := q1 rfl
            have q' : OX (esh te e2) fun r e3 => ∃ w, r = .val (.shr w) ∧ acc.length < 16000000 ∧ OB (wipe? e3 cl) fun e4 => I (i + 1) (acc ++ [w]) e4 := by
              rw [EX_esh]
              refine OX_mono q fun r e3 h => ?_
              obtain ⟨o, rfl, h⟩ := h
              rw [rE_val]
              unfold shO at h ⊢
              cases o with
              | shr v => exact ⟨v, rfl, h⟩
              | new v => exact ⟨v, rfl, h⟩
              | var i =>
                dsimp only at h ⊢
                cases h5 : e3[i]? with
                | none => rw [h5] at h; exact h.elim
                | some s =>
                  rw [h5] at h
                  cases s with
                  | own v => exact ⟨v, rfl, h⟩
                  | _ => exact h.elim
            cases h3 : esh te e2 with
            | none => rw [h3] at q'; exact q'.elim
            | some z =>
              obtain ⟨r3, e3⟩ := z
              rw [h3, OX_some] at q'
              obtain ⟨w, rfl, hl, q'⟩ := q'
              dsimp only
              rw [if_pos hl]
              cases h4 : wipe? e3 cl with
              | none => rw [h4] at q'; exact q'.elim
              | some e4 => rw [h4, OB_some] at q'; exact nx _ _ q'
  exact key vs 0 [] env rfl (Nat.zero_le _) h0

/-! ### defs -/
def fnR (ss : List Slot) (Q : ORes → List Slot → Prop) : FRes → Env → Prop
  | .nx, e => Q (.ret (.shr .non)) (ioOut ss e)
  | .ret r, e => Q (.ret r) (ioOut ss e)
  | .exc c, e => Q (.exc c) (ioOut ss e)
  | _, _ => False
theorem fnR_nx {ss : List Slot} {Q : ORes → List Slot → Prop} {e : Env} : fnR ss Q .nx e = Q (.ret (.shr .non)) (ioOut ss e) := rfl
theorem fnR_ret {ss : List Slot} {Q : ORes → List Slot → Prop} {e : Env} {r : RV} : fnR ss Q (.ret r) e = Q (.ret r) (ioOut ss e) := rfl
theorem fnR_exc {ss : List Slot} {Q : ORes → List Slot → Prop} {e : Env} {c : Str} : fnR ss Q (.exc c) e = Q (.exc c) (ioOut ss e) := rfl
theorem FX_run {k n : Nat} {g : SF} {ss : List Slot} {Q : ORes → List Slot → Prop} (hk : (ss.length == k && ss.all nown) = true) (h : OX (g (ss ++ List.replicate (n - k) .un)) (fnR ss Q)) : OX (runF k n g ss) Q := by
  unfold runF
  rw [if_pos hk]
  revert h
  cases g (ss ++ List.replicate (n - k) .un) with
  | none => exact id
  | some z => obtain ⟨r, e⟩ := z; cases r <;> exact id
end
end Lw

end
section
set_option Elab.async false
set_option linter.all false
set_option maxRecDepth 100000
set_option maxHeartbeats 1000000
set_option autoImplicit false
/-! M: rewriting on what is written out. -/
namespace Lw
open PySem L2
theorem get_shr {v : Val} {e : Env} : (Opd.shr v).get e = some v := rfl
theorem get_new {v : Val} {e : Env} : (Opd.new v).get e = some v := rfl
theorem get_var {i : Nat} {e : Env} : (Opd.var i).get e = own? e i := rfl
theorem opd_shr {v : Val} : (RV.shr v).opd = .shr v := rfl
theorem opd_new {v : Val} : (RV.new v).opd = .new v := rfl
theorem own_zero {s : Slot} {e : Env} : own? (s :: e) 0 = s.ow := rfl
theorem own_succ {s : Slot} {e : Env} {n : Nat} : own? (s :: e) (n + 1) = own? e n := rfl
theorem ow_own {v : Val} : (Slot.own v).ow = some v := rfl
theorem ow_io {v : Val} : (Slot.io v).ow = some v := rfl
theorem ow_shr {v : Val} : (Slot.shr v).ow = none := rfl
theorem ow_un : (Slot.un).ow = none := rfl
theorem upd_own {v v1 : Val} {e : Env} : updOwn (.own v :: e) 0 v1 = .own v1 :: e := rfl
theorem upd_io {v v1 : Val} {e : Env} : updOwn (.io v :: e) 0 v1 = .io v1 :: e := rfl
theorem upd_succ {s : Slot} {v1 : Val} {e : Env} {n : Nat} : updOwn (s :: e) (n + 1) v1 = s :: updOwn e n v1 := by
  unfold updOwn
  rw [List.getElem?_cons_succ]
  cases e[n]? with
  | none => rfl
  | some t => cases t <;> rfl
theorem so_shr {i : Nat} {v : Val} : slotO i (some (.shr v)) = some (.shr v) := rfl
theorem so_own {i : Nat} {v : Val} : slotO i (some (.own v)) = some (.var i) := rfl
theorem so_io {i : Nat} {v : Val} : slotO i (some (.io v)) = some (.var i) := rfl
theorem unO_shr {v : Val} {e : Env} {k : Opd → Env → Prop} : unO (.shr v) e k = k (.shr v) e := rfl
theorem unO_new {v : Val} {e : Env} {k : Opd → Env → Prop} : unO (.new v) e k = k (.new v) e := rfl
/-- a slot's value, frozen -/
def frz (i : Nat) (e : Env) (s : Option Slot) (k : Val → Env → Prop) : Prop := match s with
  | some (.own v) => k v (e.set i (.shr v))
  | _ => False
theorem frz_own {i : Nat} {e : Env} {v : Val} {k : Val → Env → Prop} : frz i e (some (.own v)) k = k v (e.set i (.shr v)) := rfl
theorem unO_var {i : Nat} {e : Env} {k : Opd → Env → Prop} : unO (.var i) e k = frz i e e[i]? fun v e => k (.shr v) e := by
  unfold unO frz
  first
  | (dsimp only; done)
  | (dsimp only
     cases e[i]? with
     | none => rfl
     | some s => cases s <;> rfl)
theorem shO_var' {i : Nat} {e : Env} {k : Val → Env → Prop} : shO (.var i) e k = frz i e e[i]? k := by
  unfold shO frz
  first
  | (dsimp only; done)
  | (dsimp only
     cases e[i]? with
     | none => rfl
     | some s => cases s <;> rfl)
/-- a slot is set -/
def setOk (s : Option Slot) : Bool := match s with
  | some (.io _) => false
  | some _ => true
  | none => false
theorem setOk_un : setOk (some .un) = true := rfl
theorem setOk_shr {v : Val} : setOk (some (.shr v)) = true := rfl
theorem setOk_own {v : Val} : setOk (some (.own v)) = true := rfl
theorem set_shr {e : Env} {i : Nat} {v : Val} : setSlot e i (.shr v) = if setOk e[i]? = true then some (e.set i (.shr v)) else none := by
  unfold setSlot setOk slotOf
  cases e[i]? with
  | none => rfl
  | some s => cases s <;> rfl
theorem set_new {e : Env} {i : Nat} {v : Val} : setSlot e i (.new v) = if setOk e[i]? = true then some (e.set i (.own v)) else none := by
  unfold setSlot setOk slotOf
  cases e[i]? with
  | none => rfl
  | some s => cases s <;> rfl
def xOwn (s : Option Slot) : Option RV := match s with
  | some (.own v) => some (.new v)
  | _ => none
theorem xOwn_own {v : Val} : xOwn (some (.own v)) = some (.new v) := rfl
theorem ret_shr {v : Val} {e : Env} : opdRet (.shr v) e = some (.shr v) := rfl
theorem ret_new {v : Val} {e : Env} : opdRet (.new v) e = some (.new v) := rfl
theorem ret_var {i : Nat} {e : Env} : opdRet (.var i) e = xOwn e[i]? := by
  unfold opdRet xOwn
  first
  | (dsimp only; done)
  | (dsimp only
     cases e[i]? with
     | none => rfl
     | some s => cases s <;> rfl)
theorem shrs_nil : shrs [] = some [] := rfl
theorem shrs_cons {v : Val} {os : List Opd} : shrs (.shr v :: os) = (shrs os).map (v :: ·) := rfl
theorem gets_nil {e : Env} : gets [] e = some [] := rfl
theorem gets_cons {o : Opd} {os : List Opd} {e : Env} {P : List Val → Prop} : OB (gets (o :: os) e) P = OB (o.get e) fun v => OB (gets os e) fun vs => P (v :: vs) := by
  show OB (match o.get e, gets os e with
    | some v, some vs => some (v :: vs)
    | _, _ => none) P = _
  cases o.get e with
  | none => rfl
  | some v =>
    rw [OB_some]
    cases gets os e <;> rfl
theorem split_nil : splitIo [] = some ([], none) := rfl
theorem split_shr {v : Val} {os : List Opd} : splitIo (.shr v :: os) = (splitIo os).map fun z => (v :: z.1, z.2) := rfl
theorem split_var {i : Nat} {os : List Opd} : splitIo (.var i :: os) = (shrs os).map fun ws => ([], some (i, ws)) := rfl
theorem sets_nil {e : Env} : setSlots e [] [] = some e := rfl
theorem sets_cons {e : Env} {i : Nat} {is : List Nat} {o : Opd} {os : List Opd} {P : Env → Prop} : OB (setSlots e (i :: is) (o :: os)) P = OB (setSlot e i o) fun e => OB (setSlots e is os) P := by
  show OB (match setSlot e i o with | some env1 => setSlots env1 is os | none => none) P = _
  cases setSlot e i o <;> rfl
theorem tg_one {i : Nat} {v : Val} {e : Env} : tgSet (.one i) v e = setSlot e i (.shr v) := by cases v <;> rfl
theorem tg_many {is : List Nat} {vs : List Val} {e : Env} : tgSet (.many is) (.tup vs) e = setSlots e is (vs.map Opd.shr) := rfl
/-! operations on values -/
theorem ev_add {i j : Int} : oAdd (.int i) (.int j) = some (.shr (.int (i + j))) := rfl
theorem ev_addS {a b : List Nat} : oAdd (.str a) (.str b) = if a.length + b.length ≤ 16000000 then some (.shr (.str (a ++ b))) else none := rfl
theorem ev_addL {a b : List Val} : oAdd (.lst a) (.lst b) = if a.length + b.length ≤ 16000000 then some (.new (.lst (a ++ b))) else none := rfl
theorem ev_addT {a b : List Val} : oAdd (.tup a) (.tup b) = if a.length + b.length ≤ 16000000 then some (.shr (.tup (a ++ b))) else none := rfl
theorem ev_sub {i j : Int} : oSub (.int i) (.int j) = some (.shr (.int (i - j))) := rfl
theorem ev_fdiv {i j : Int} : oFdiv (.int i) (.int j) = if 0 < j ∧ j < 1073741824 then some (.shr (.int (i / j))) else none := rfl
theorem ev_mod {i j : Int} : oMod (.int i) (.int j) = if 0 < j then some (.shr (.int (i % j))) else none := rfl
theorem ev_pow {i j : Int} : oPow (.int i) (.int j) = if 0 ≤ j ∧ j ≤ 1000000 ∧ i.natAbs < 2 ^ 64 then some (.shr (.int (i ^ j.toNat))) else none := rfl
theorem ev_pow18 : oPow (.int 10) (.int 18) = some (.shr (.int 1000000000000000000)) := by rw [ev_pow, if_pos (by decide)]; rfl
theorem ev_pow60 : oPow (.int 10) (.int 60) = some (.shr (.int 1000000000000000000000000000000000000000000000000000000000000)) := by rw [ev_pow, if_pos (by decide)]; rfl
theorem ev_mul {i j : Int} : oMul (.int i) (.int j) = if mulOk i j = true then some (.shr (.int (i * j))) else none := rfl
theorem ev_mulL {a : List Val} {k : Int} : oMul (.lst a) (.int k) = if -1000000 ≤ k ∧ k ≤ 1000000 ∧ a.length ≤ 10 then some (.new (.lst (List.replicate k.toNat a).flatten)) else none := by cases a <;> rfl
theorem mulOk_l {i j : Int} (h : i.natAbs < 18446744073709551616) : mulOk i j = true := by unfold mulOk; rw [decide_eq_true h]; rfl
theorem mulOk_r {i j : Int} (h : j.natAbs < 18446744073709551616) : mulOk i j = true := by unfold mulOk; rw [decide_eq_true h, Bool.or_true]; rfl
theorem ev_mul60 : oMul (.int 1000000000000000000000000000000000000000000000000000000000000) (.int 1000000000000000000000000000000000000000000000000000000000000) = some (.shr (.int 1000000000000000000000000000000000000000000000000000000000000000000000000000000000000000000000000000000000000000000000000)) := by
  rw [ev_mul, if_pos (by decide +kernel)]
  rfl
theorem ev_mulA {i : Int} : oMul (.int i) (.int 1103515245) = some (.shr (.int (i * 1103515245))) := by rw [ev_mul, if_pos (mulOk_r (by decide))]
theorem ev_mulB {i : Int} : oMul (.int 7919) (.int i) = some (.shr (.int (7919 * i))) := by rw [ev_mul, if_pos (mulOk_l (by decide))]
theorem ev_pow5 {i : Int} : oPow (.int i) (.int 5) = if i.natAbs < 2 ^ 64 then some (.shr (.int (i ^ 5))) else none := by
  rw [ev_pow]
  by_cases h : i.natAbs < 2 ^ 64
  · rw [if_pos h, if_pos ⟨by decide, by decide, h⟩]; rfl
  · rw [if_neg h, if_neg fun q => h q.2.2]
theorem ev_neg {i : Int} : oNeg (.int i) = some (.shr (.int (-i))) := rfl
theorem ev_lt {i j : Int} : oLt (.int i) (.int j) = some (.shr (.bl (decide (i < j)))) := rfl
theorem ev_le {i j : Int} : oLe (.int i) (.int j) = some (.shr (.bl (decide (i ≤ j)))) := rfl
theorem ev_gt {i j : Int} : oGt (.int i) (.int j) = some (.shr (.bl (decide (j < i)))) := rfl
theorem ev_ge {i j : Int} : oGe (.int i) (.int j) = some (.shr (.bl (decide (j ≤ i)))) := rfl
theorem ev_ixL {xs : List Val} {i : Int} : oIx (.lst xs) (.int i) = (atI xs i).map .shr := rfl
theorem ev_ixT {xs : List Val} {i : Int} : oIx (.tup xs) (.int i) = (atI xs i).map .shr := rfl
theorem ev_ixC {xs : List Int} {i : Int} : oIx (.scr xs) (.int i) = (atI xs i).map fun n => .shr (.int n) := rfl
theorem ev_ixS {z : List Nat} {i : Int} : oIx (.str z) (.int i) = if z.length ≤ 16000000 then (atI z i).map fun c => .shr (.str [c]) else none := rfl
theorem ev_lenS {z : List Nat} : oLen [.str z] = if z.length ≤ 16000000 then some (.shr (.int z.length)) else none := rfl
theorem ev_lenL {z : List Val} : oLen [.lst z] = some (.shr (.int z.length)) := rfl
theorem ev_lenT {z : List Val} : oLen [.tup z] = some (.shr (.int z.length)) := rfl
theorem ev_lenC {z : List Int} : oLen [.scr z] = some (.shr (.int z.length)) := rfl
theorem ev_slS {z : List Nat} {lo hi : Option Int} : oSl (.str z) lo hi = if z.length ≤ 16000000 then some (.shr (.str (cutG z lo hi))) else none := rfl
theorem ev_slL {z : List Val} {lo hi : Option Int} : oSl (.lst z) lo hi = some (.new (.lst (cutG z lo hi))) := rfl
theorem ev_slT {z : List Val} {lo hi : Option Int} : oSl (.tup z) lo hi = some (.shr (.tup (cutG z lo hi))) := rfl
theorem ev_max2 {i j : Int} : oMax [.int i, .int j] = some (.shr (.int (max i j))) := rfl
theorem ev_min2 {i j : Int} : oMin [.int i, .int j] = some (.shr (.int (min i j))) := rfl
theorem eqv_ii (i j : Int) : oEq (.int i) (.int j) = some (.shr (.bl (decide (i = j)))) := by
  unfold oEq vEq
  simp only [toD]
  rw [if_pos ⟨rfl, rfl⟩]
  show some (RV.shr (Val.bl (i == j))) = _
  rfl
theorem nev_ii (i j : Int) : oNe (.int i) (.int j) = some (.shr (.bl (!decide (i = j)))) := by
  unfold oNe vEq
  simp only [toD]
  rw [if_pos ⟨rfl, rfl⟩]
  show some (RV.shr (Val.bl (!(i == j)))) = _
  rfl
/-- a script and [] -/
theorem layInts : ∀ ns : List Int, PyData.canLayAll0 (ns.map PyData.int) = true
  | [] => rfl
  | n :: ns => by
    show (PyData.canLay0 (.int n) && PyData.canLayAll0 (ns.map PyData.int)) = true
    rw [layInts ns]; rfl
theorem depInts : ∀ ns : List Int, PyData.depthAll (ns.map PyData.int) = 0
  | [] => rfl
  | n :: ns => by
    show max (PyData.depth (.int n)) (PyData.depthAll (ns.map PyData.int)) = 0
    rw [depInts ns]; rfl
theorem shapedInts (ns : List Int) : SeqAt.shaped (.list (ns.map PyData.int)) = true := by
  unfold SeqAt.shaped
  have h1 : PyData.canLay0 (.list (ns.map PyData.int)) = true := layInts ns
  have h2 : PyData.depth (.list (ns.map PyData.int)) = 1 := by
    show PyData.depthAll (ns.map PyData.int) + 1 = 1
    rw [depInts ns]
  rw [h1, h2]; rfl
theorem ev_scr0 (ns : List Int) : oEq (.scr ns) (.lst []) = some (.shr (.bl (decide (ns = [])))) := by
  unfold oEq vEq
  show Option.map _ (if SeqAt.shaped (.list (ns.map PyData.int)) = true ∧ SeqAt.shaped (.list []) = true then some (PyData.eqv (.list (ns.map PyData.int)) (.list [])) else none) = _
  rw [if_pos ⟨shapedInts ns, rfl⟩]
  cases ns with
  | nil => rfl
  | cons n ns => simp; rfl
theorem ixN_nat {n : Nat} {i : Int} (h0 : 0 ≤ i) (h1 : i < n) : ixN n i = some i.toNat := by
  unfold ixN; rw [if_pos h0, if_pos h1]
theorem atI_in {α : Type} {xs : List α} {i : Int} (h0 : 0 ≤ i) (h1 : i < xs.length) : ∃ x, atI xs i = some x ∧ x ∈ xs ∧ xs[i.toNat]? = some x := by
  have h2 : i.toNat < xs.length := by omega
  refine ⟨xs[i.toNat], ?_, List.getElem_mem h2, List.getElem?_eq_getElem h2⟩
  unfold atI; rw [ixN_nat h0 h1]
  exact List.getElem?_eq_getElem h2
theorem atI_nat0 {α : Type} {x : α} {xs : List α} : atI (x :: xs) 0 = some x := by
  unfold atI; rw [ixN_nat (Int.le_refl 0) (by simp <;> omega)]; rfl
theorem atI_nat1 {α : Type} {x y : α} {xs : List α} : atI (x :: y :: xs) 1 = some y := by
  unfold atI; rw [ixN_nat (by decide) (by simp <;> omega)]; rfl
theorem atI_nat2 {α : Type} {x y z : α} {xs : List α} : atI (x :: y :: z :: xs) 2 = some z := by
  unfold atI; rw [ixN_nat (by decide) (by simp <;> omega)]; rfl
theorem ix20 : ixN 2 0 = some 0 := rfl
theorem ix21 : ixN 2 1 = some 1 := rfl
end Lw

end
section
set_option Elab.async false
set_option linter.all false
set_option maxRecDepth 100000
set_option maxHeartbeats 1000000
set_option autoImplicit false
/-! M: comprehensions that change nothing, loops over written lists. -/
namespace Lw
open PySem L2
theorem OX_det {α β : Type} {o : Option (α × β)} {x : α} {y : β} (h : OX o fun a b => a = x ∧ b = y) : o = some (x, y) := by
  obtain ⟨a, b, e, rfl, rfl⟩ := OX_eq h
  exact e
theorem LC_pure {t : Tgt} {cl : List Nat} {tt te : EF} {α : Type} {xs : List α} {f : α → Val} {env : Env} {P : List Val → Env → Prop} (φ : α → Option Val) (hl : xs.length ≤ 16000000)
    (hs : ∀ x, x ∈ xs → OB (tgSet t (f x) env) fun e1 => OX (tt e1) fun r e2 => ∃ b, r = .val (.shr (.bl b)) ∧ (b = true → OX (te e2) fun r e3 => ∃ o, r = .val o ∧ shO o e3 fun w e4 => φ x = some w ∧ wipe? e4 cl = some env) ∧ (b = false → φ x = none ∧ wipe? e2 cl = some env))
    (hd : P (xs.filterMap φ) env) : OX (lcL t cl tt te (xs.map f) [] env) P := by
  refine LC_inv (I := fun i acc e => acc = (xs.take i).filterMap φ ∧ e = env ∧ acc.length ≤ i) ⟨rfl, rfl, Nat.le_refl _⟩ (fun i v acc e hv hI => ?_) fun acc e hI => ?_
  · obtain ⟨rfl, rfl, hlen⟩ := hI
    rw [List.getElem?_map] at hv
    obtain ⟨x, hx, rfl⟩ := Option.map_eq_some_iff.mp hv
    have hi := (List.getElem?_eq_some_iff.mp hx).1
    have ht : xs.take (i + 1) = xs.take i ++ [x] := by rw [List.take_succ, hx]; rfl
    refine OB_mono (hs x (List.mem_of_getElem? hx)) fun e1 h1 => OX_mono h1 fun r e2 h2 => ?_
    obtain ⟨b, e3, h4, h5⟩ := h2
    refine ⟨b, e3, fun hb => OX_mono (h4 hb) fun r e3 h6 => ?_, fun hb => ?_⟩
    · obtain ⟨o, e4, h6⟩ := h6
      refine ⟨o, e4, ?_⟩
      have key : ∀ (w : Val) (e4 : Env), (φ x = some w ∧ wipe? e4 cl = some e) → (((xs.take i).filterMap φ).length < 16000000 ∧ OB (wipe? e4 cl) fun e5 => (xs.take i).filterMap φ ++ [w] = (xs.take (i + 1)).filterMap φ ∧ e5 = e ∧ ((xs.take i).filterMap φ ++ [w]).length ≤ i + 1) := fun w e4 ⟨k1, k2⟩ => by
        refine ⟨by omega, ?_⟩
        rw [k2, OB_some, ht, List.filterMap_append]
        refine ⟨by simp [k1], rfl, by rw [List.length_append]; exact Nat.succ_le_succ hlen⟩
      unfold shO at h6 ⊢
      cases o with
      | shr v => exact key _ _ h6
      | new v => exact key _ _ h6
      | var j =>
        dsimp only at h6 ⊢
        cases h7 : e3[j]? with
        | none => rw [h7] at h6; exact h6.elim
        | some s =>
          rw [h7] at h6
          cases s with
          | own v => exact key _ _ h6
          | _ => exact h6.elim
    · obtain ⟨k1, k2⟩ := h5 hb
      rw [k2, OB_some, ht, List.filterMap_append]
      exact ⟨by simp [k1], rfl, by omega⟩
  · obtain ⟨rfl, rfl, _⟩ := hI
    rw [List.length_map, List.take_length]
    exact hd
theorem inS (c : Nat) (z : List Nat) : oIn (.str [c]) (.str z) = some (.shr (.bl (decide (c ∈ z)))) := rfl
theorem notInS (c : Nat) (z : List Nat) : oNotIn (.str [c]) (.str z) = some (.shr (.bl (!decide (c ∈ z)))) := rfl
theorem strs_map : ∀ ls : List (List Nat), strs? (ls.map Val.str) = some ls
  | [] => rfl
  | l :: ls => by show (strs? (ls.map Val.str)).map (l :: ·) = _; rw [strs_map ls]; rfl
theorem ints_map : ∀ ls : List Int, ints? (ls.map Val.int) = some ls
  | [] => rfl
  | l :: ls => by show (ints? (ls.map Val.int)).map (l :: ·) = _; rw [ints_map ls]; rfl
theorem bls_map : ∀ ls : List Bool, bls? (ls.map Val.bl) = some ls
  | [] => rfl
  | l :: ls => by show (bls? (ls.map Val.bl)).map (l :: ·) = _; rw [bls_map ls]; rfl
theorem join0 : ∀ cs : List Nat, TL.joinL [] (cs.map fun c => [c]) = cs
  | [] => rfl
  | [c] => rfl
  | c :: d :: cs => by
    show [c] ++ ([] ++ TL.joinL [] ((d :: cs).map fun c => [c])) = _
    rw [join0 (d :: cs)]; rfl
theorem sum1 : ∀ cs : List Nat, ((cs.map fun c => [c]).map List.length).sum = cs.length
  | [] => rfl
  | c :: cs => by rw [List.map_cons, List.map_cons, List.sum_cons, sum1 cs, List.length_cons]; simp; omega
/-- "".join of signs -/
theorem joinS (cs : List Nat) (h : cs.length ≤ 16000000) : oJoin (.str []) [.lst (cs.map fun c => Val.str [c])] = some (.shr (.str cs)) := by
  show (match strs? (cs.map fun c => Val.str [c]) with
    | some ls => if (ls.map List.length).sum + ls.length * ([] : List Nat).length ≤ 16000000 then some (RV.shr (.str (TL.joinL [] ls))) else none
    | none => none) = _
  have e : (cs.map fun c => Val.str [c]) = (cs.map fun c => [c]).map Val.str := by rw [List.map_map]; rfl
  rw [e, strs_map]
  dsimp only
  rw [sum1, join0, if_pos (by simp; omega)]
theorem filt {α β : Type} (xs : List α) (p : α → Bool) (f : α → β) : xs.filterMap (fun x => if p x = true then some (f x) else none) = (xs.filter p).map f := by
  induction xs with
  | nil => rfl
  | cons x xs ih =>
    by_cases h : p x = true
    · rw [List.filterMap_cons, if_pos h, List.filter_cons_of_pos h, List.map_cons, ih]
    · rw [List.filterMap_cons, if_neg h, List.filter_cons_of_neg h, ih]
theorem itS (z : List Nat) : itemsA (.str z) = some (z.map fun c => .str [c]) := rfl
theorem itL (z : List Val) : itemsA (.lst z) = some z := rfl
theorem itT (z : List Val) : itemsA (.tup z) = some z := rfl
theorem wipeOk {env : Env} {cl : List Nat} (h : (cl.all fun j => plainAt env j) = true) : wipe? env cl = some (wipeE env cl) := if_pos h
end Lw

end
section
set_option Elab.async false
set_option linter.all false
set_option maxRecDepth 100000
set_option maxHeartbeats 0
namespace G
open PySem PySem.Spec PyProof.Rows L2 Lw
def top (i : Nat) : Stmt := PySem.Challenge.pw_hyphenpatterns_k20_whole_counts_add.main.body.getD i (.Pass ⟨0, 0, 0, 0⟩)
abbrev s_is_count : Stmt := top 10
def d_is_count : He.DefD := ⟨("is_count", none), "is_count", "is_count", defArgs s_is_count, defBody s_is_count, defScope s_is_count, [], []⟩
abbrev s_chars_of : Stmt := top 11
def d_chars_of : He.DefD := ⟨("chars_of", none), "chars_of", "chars_of", defArgs s_chars_of, defBody s_chars_of, defScope s_chars_of, [], []⟩
abbrev s_digits_of : Stmt := top 12
def d_digits_of : He.DefD := ⟨("digits_of", none), "digits_of", "digits_of", defArgs s_digits_of, defBody s_digits_of, defScope s_digits_of, [], []⟩
abbrev s_is_pattern : Stmt := top 13
def d_is_pattern : He.DefD := ⟨("is_pattern", none), "is_pattern", "is_pattern", defArgs s_is_pattern, defBody s_is_pattern, defScope s_is_pattern, [], []⟩
abbrev s_is_rules : Stmt := top 14
def d_is_rules : He.DefD := ⟨("is_rules", none), "is_rules", "is_rules", defArgs s_is_rules, defBody s_is_rules, defScope s_is_rules, [], []⟩
abbrev s_need_rules : Stmt := top 15
def d_need_rules : He.DefD := ⟨("need_rules", none), "need_rules", "need_rules", defArgs s_need_rules, defBody s_need_rules, defScope s_need_rules, [], []⟩
abbrev s_is_letters : Stmt := top 18
def d_is_letters : He.DefD := ⟨("is_letters", none), "is_letters", "is_letters", defArgs s_is_letters, defBody s_is_letters, defScope s_is_letters, [], []⟩
abbrev s_updated : Stmt := top 19
def d_updated : He.DefD := ⟨("updated", none), "updated", "updated", defArgs s_updated, defBody s_updated, defScope s_updated, [], []⟩
abbrev s_useful_end : Stmt := top 20
def d_useful_end : He.DefD := ⟨("useful_end", none), "useful_end", "useful_end", defArgs s_useful_end, defBody s_useful_end, defScope s_useful_end, [], []⟩
abbrev s_is_broken : Stmt := top 21
def d_is_broken : He.DefD := ⟨("is_broken", none), "is_broken", "is_broken", defArgs s_is_broken, defBody s_is_broken, defScope s_is_broken, [], []⟩
abbrev s_count : Stmt := top 22
def d_count : He.DefD := ⟨("count", none), "count", "count", defArgs s_count, defBody s_count, defScope s_count, [], []⟩
abbrev s_followed : Stmt := top 23
def d_followed : He.DefD := ⟨("followed", none), "followed", "followed", defArgs s_followed, defBody s_followed, defScope s_followed, [], []⟩
abbrev s__law_draw : Stmt := top 25
def d__law_draw : He.DefD := ⟨("_law_draw", none), "_law_draw", "_law_draw", defArgs s__law_draw, defBody s__law_draw, defScope s__law_draw, [], []⟩
abbrev s__law_pick : Stmt := top 26
def d__law_pick : He.DefD := ⟨("_law_pick", none), "_law_pick", "_law_pick", defArgs s__law_pick, defBody s__law_pick, defScope s__law_pick, [], []⟩
abbrev s__law_pattern : Stmt := top 27
def d__law_pattern : He.DefD := ⟨("_law_pattern", none), "_law_pattern", "_law_pattern", defArgs s__law_pattern, defBody s__law_pattern, defScope s__law_pattern, [], []⟩
abbrev s__law_bare : Stmt := top 28
def d__law_bare : He.DefD := ⟨("_law_bare", none), "_law_bare", "_law_bare", defArgs s__law_bare, defBody s__law_bare, defScope s__law_bare, [], []⟩
abbrev s__law_rules : Stmt := top 29
def d__law_rules : He.DefD := ⟨("_law_rules", none), "_law_rules", "_law_rules", defArgs s__law_rules, defBody s__law_rules, defScope s__law_rules, [], []⟩
abbrev s__law_power : Stmt := top 30
def d__law_power : He.DefD := ⟨("_law_power", none), "_law_power", "_law_power", defArgs s__law_power, defBody s__law_power, defScope s__law_power, [], []⟩
abbrev s_law : Stmt := top 31
def d_law : He.DefD := ⟨("law", none), "law", "law", defArgs s_law, defBody s_law, defScope s_law, [], []⟩
def fn : List He.DefD := [d_is_count, d_chars_of, d_digits_of, d_is_pattern, d_is_rules, d_need_rules, d_is_letters, d_updated, d_useful_end, d_is_broken, d_count, d_followed, d__law_draw, d__law_pick, d__law_pattern, d__law_bare, d__law_rules, d__law_power, d_law]
def fa1 : List He.Fa := [.glo "HyphenError", .exc "HyphenError", .glo "InvalidRules", .exc "InvalidRules", .glo "InvalidLetters", .exc "InvalidLetters", .glo "InvalidSize", .exc "InvalidSize", .str "LETTERS" "abcdefghijklmnopqrstuvwxyz", .str "DIGITS" "123456789", .int "PATTERNS" 6, .int "LONGEST" 4, .glo "is_count", .glo "chars_of", .glo "digits_of", .glo "is_pattern", .glo "is_rules", .glo "need_rules", .int "SIZE" 12, .glo "is_letters", .glo "updated", .glo "useful_end", .glo "is_broken", .glo "count", .glo "followed", .glo "_law_draw", .glo "_law_pick", .glo "_law_pattern", .glo "_law_bare", .glo "_law_rules", .glo "_law_power", .glo "law", .free "all", .free "any", .free "bool", .free "enumerate", .free "int", .free "isinstance", .free "len", .free "list"]
def fa2 : List He.Fa := [.free "max", .free "min", .free "range", .free "set", .free "str", .free "tuple", .free "zip"]
def fa : List He.Fa := fa1 ++ fa2
abbrev FnP (K : PySem.W.Frag) (x : Str) (st : Stmt) (f : Addr) (fd : FuncData) : Prop := FunD K x x (defArgs st) (defBody st) (defScope st) [] [] f fd
structure Facts (K : PySem.W.Frag) (mg : Str → Option Value) : Prop where
  c : He.SaysD fa fn K
  g : ∀ (i : Nat) (x : Str), fa[i]? = some (.glo x) → mg x = some (.ref (He.ga K x))
  f : ∀ (i : Nat) (x : Str), fa[i]? = some (.free x) → mg x = none
  i : ∀ (i : Nat) (x : Str) (n : Int), fa[i]? = some (.int x n) → ∃ t, mg x = some (.int n t)
  s : ∀ (i : Nat) (x z : Str), fa[i]? = some (.str x z) → ∃ t, mg x = some (.str z t)
theorem Facts.of {K : PySem.W.Frag} {mg : Str → Option Value} {h : Heap} (X : K.In h) (G : h.Ns mainGlobals mg) (c : He.SaysD fa fn K) : Facts K mg :=
  ⟨c, fun i x e => He.glo_ok X G (c.fact i e), fun i x e => He.free_ok X G (c.fact i e), fun i x n e => He.int_ok X G (c.fact i e), fun i x z e => He.str_ok X G (c.fact i e)⟩
section
variable {K : PySem.W.Frag} {mg : Str → Option Value}
theorem m_HyphenError (Z : Facts K mg) : mg "HyphenError" = some (.ref (He.ga K "HyphenError")) := Z.g 0 _ rfl
theorem x_HyphenError (Z : Facts K mg) : (He.Fa.exc "HyphenError").ok K = true := Z.c.fact 1 rfl
theorem m_InvalidRules (Z : Facts K mg) : mg "InvalidRules" = some (.ref (He.ga K "InvalidRules")) := Z.g 2 _ rfl
theorem x_InvalidRules (Z : Facts K mg) : (He.Fa.exc "InvalidRules").ok K = true := Z.c.fact 3 rfl
theorem m_InvalidLetters (Z : Facts K mg) : mg "InvalidLetters" = some (.ref (He.ga K "InvalidLetters")) := Z.g 4 _ rfl
theorem x_InvalidLetters (Z : Facts K mg) : (He.Fa.exc "InvalidLetters").ok K = true := Z.c.fact 5 rfl
theorem m_InvalidSize (Z : Facts K mg) : mg "InvalidSize" = some (.ref (He.ga K "InvalidSize")) := Z.g 6 _ rfl
theorem x_InvalidSize (Z : Facts K mg) : (He.Fa.exc "InvalidSize").ok K = true := Z.c.fact 7 rfl
theorem m_LETTERS (Z : Facts K mg) : ∃ t, mg "LETTERS" = some (.str "abcdefghijklmnopqrstuvwxyz" t) := Z.s 8 _ _ rfl
theorem m_DIGITS (Z : Facts K mg) : ∃ t, mg "DIGITS" = some (.str "123456789" t) := Z.s 9 _ _ rfl
theorem m_PATTERNS (Z : Facts K mg) : ∃ t, mg "PATTERNS" = some (.int 6 t) := Z.i 10 _ _ rfl
theorem m_LONGEST (Z : Facts K mg) : ∃ t, mg "LONGEST" = some (.int 4 t) := Z.i 11 _ _ rfl
theorem m_is_count (Z : Facts K mg) : mg "is_count" = some (.ref (He.ga K "is_count")) := Z.g 12 _ rfl
theorem m_chars_of (Z : Facts K mg) : mg "chars_of" = some (.ref (He.ga K "chars_of")) := Z.g 13 _ rfl
theorem m_digits_of (Z : Facts K mg) : mg "digits_of" = some (.ref (He.ga K "digits_of")) := Z.g 14 _ rfl
theorem m_is_pattern (Z : Facts K mg) : mg "is_pattern" = some (.ref (He.ga K "is_pattern")) := Z.g 15 _ rfl
theorem m_is_rules (Z : Facts K mg) : mg "is_rules" = some (.ref (He.ga K "is_rules")) := Z.g 16 _ rfl
theorem m_need_rules (Z : Facts K mg) : mg "need_rules" = some (.ref (He.ga K "need_rules")) := Z.g 17 _ rfl
theorem m_SIZE (Z : Facts K mg) : ∃ t, mg "SIZE" = some (.int 12 t) := Z.i 18 _ _ rfl
theorem m_is_letters (Z : Facts K mg) : mg "is_letters" = some (.ref (He.ga K "is_letters")) := Z.g 19 _ rfl
theorem m_updated (Z : Facts K mg) : mg "updated" = some (.ref (He.ga K "updated")) := Z.g 20 _ rfl
theorem m_useful_end (Z : Facts K mg) : mg "useful_end" = some (.ref (He.ga K "useful_end")) := Z.g 21 _ rfl
theorem m_is_broken (Z : Facts K mg) : mg "is_broken" = some (.ref (He.ga K "is_broken")) := Z.g 22 _ rfl
theorem m_count (Z : Facts K mg) : mg "count" = some (.ref (He.ga K "count")) := Z.g 23 _ rfl
theorem m_followed (Z : Facts K mg) : mg "followed" = some (.ref (He.ga K "followed")) := Z.g 24 _ rfl
theorem m__law_draw (Z : Facts K mg) : mg "_law_draw" = some (.ref (He.ga K "_law_draw")) := Z.g 25 _ rfl
theorem m__law_pick (Z : Facts K mg) : mg "_law_pick" = some (.ref (He.ga K "_law_pick")) := Z.g 26 _ rfl
theorem m__law_pattern (Z : Facts K mg) : mg "_law_pattern" = some (.ref (He.ga K "_law_pattern")) := Z.g 27 _ rfl
theorem m__law_bare (Z : Facts K mg) : mg "_law_bare" = some (.ref (He.ga K "_law_bare")) := Z.g 28 _ rfl
theorem m__law_rules (Z : Facts K mg) : mg "_law_rules" = some (.ref (He.ga K "_law_rules")) := Z.g 29 _ rfl
theorem m__law_power (Z : Facts K mg) : mg "_law_power" = some (.ref (He.ga K "_law_power")) := Z.g 30 _ rfl
theorem m_law (Z : Facts K mg) : mg "law" = some (.ref (He.ga K "law")) := Z.g 31 _ rfl
theorem m_all (Z : Facts K mg) : mg "all" = none := Z.f 32 _ rfl
theorem m_any (Z : Facts K mg) : mg "any" = none := Z.f 33 _ rfl
theorem m_bool (Z : Facts K mg) : mg "bool" = none := Z.f 34 _ rfl
theorem m_enumerate (Z : Facts K mg) : mg "enumerate" = none := Z.f 35 _ rfl
theorem m_int (Z : Facts K mg) : mg "int" = none := Z.f 36 _ rfl
theorem m_isinstance (Z : Facts K mg) : mg "isinstance" = none := Z.f 37 _ rfl
theorem m_len (Z : Facts K mg) : mg "len" = none := Z.f 38 _ rfl
theorem m_list (Z : Facts K mg) : mg "list" = none := Z.f 39 _ rfl
theorem m_max (Z : Facts K mg) : mg "max" = none := Z.f 40 _ rfl
theorem m_min (Z : Facts K mg) : mg "min" = none := Z.f 41 _ rfl
theorem m_range (Z : Facts K mg) : mg "range" = none := Z.f 42 _ rfl
theorem m_set (Z : Facts K mg) : mg "set" = none := Z.f 43 _ rfl
theorem m_str (Z : Facts K mg) : mg "str" = none := Z.f 44 _ rfl
theorem m_tuple (Z : Facts K mg) : mg "tuple" = none := Z.f 45 _ rfl
theorem m_zip (Z : Facts K mg) : mg "zip" = none := Z.f 46 _ rfl
end
/-! ### _law_draw -/
def g__law_draw : SF := sSeq (sIfS (sBin oGt (sBin oIx (sVar 1) (sC (.int 1))) (sC (.int 0))) (sSeq (sAsg 3 (sBin oMod (sBin oIx (sVar 1) (sC (.int 1))) (sVar 2))) (sSeq (sSetL 1 (sC (.int 1)) (sBin oFdiv (sBin oIx (sVar 1) (sC (.int 1))) (sVar 2))) (sRet (sVar 3)))) (sNil)) (sSeq (sAsg 4 (sBin oIx (sVar 1) (sC (.int 0)))) (sSeq (sAugL 1 (fun a b => a + b) (sC (.int 0)) (sC (.int 1))) (sSeq (sIfS (sBin oEq (sVar 0) (sLst [])) (sRet (sBin oMod (sVar 4) (sVar 2))) (sNil)) (sSeq (sIfS (sAnd (sBin oLt (sVar 4) (sCallB oLen [sVar 0])) (sBin oGe (sBin oIx (sVar 0) (sVar 4)) (sBin oPow (sC (.int 10)) (sC (.int 18))))) (sSeq (sSetL 1 (sC (.int 1)) (sBin oMod (sBin oFdiv (sBin oIx (sVar 0) (sVar 4)) (sVar 2)) (sBin oMul (sBin oPow (sC (.int 10)) (sC (.int 60))) (sBin oPow (sC (.int 10)) (sC (.int 60)))))) (sRet (sBin oMod (sBin oIx (sVar 0) (sVar 4)) (sVar 2)))) (sNil)) (sSeq (sAsg 5 (sBin oMod (sBin oAdd (sBin oAdd (sBin oMul (sBin oIx (sVar 0) (sBin oMod (sVar 4) (sCallB oLen [sVar 0]))) (sC (.int 1103515245))) (sBin oMul (sC (.int 7919)) (sVar 4))) (sC (.int 12345))) (sC (.int 2147483647)))) (sRet (sBin oMod (sBin oMod (sBin oMod (sBin oPow (sVar 5) (sC (.int 5))) (sC (.int 2147483647))) (sC (.int 999983))) (sVar 2))))))))
def fn__law_draw : Fn := runF 3 6 g__law_draw
theorem sc__law_draw : FnScope ["_law_script", "_law_town", "_law_many", "_law_one", "_law_at", "_law_mixed"] ["_law_script", "_law_town", "_law_many"] (defScope s__law_draw) := ⟨rfl, rfl, rfl, by decide +kernel, rfl, by decide +kernel, by decide +kernel⟩
theorem ok__law_draw {P : Program} {w : World} {K : PySem.W.Frag} {mg : Str → Option Value} {base : Heap} (Z : Facts K mg) {fd : FuncData} (F : FnP K "_law_draw" s__law_draw (He.ga K "_law_draw") fd) : FnOk P w K mg base (L2.CX P w) 1 (He.ga K "_law_draw") fd ["_law_script", "_law_town", "_law_many"] (spF ⟨P, w, K⟩ 3 fn__law_draw) := by
  have nd := sc__law_draw.nd
  exact fn_ok F sc__law_draw fun cdv A outer s H E hr => (sss_cons (ss_if (st_cmp ho_gt os_gt (se_ix ho_ix os_ix (se_var (pv 1)) se_int (fun _ _ => rfl)) se_int (nomark _)) (sss_cons (ss_asg (i := 3) nd rfl (by first | exact .inl rfl | exact .inr rfl) (se_bin ho_mod os_mod (se_ix ho_ix os_ix (se_var (pv 1)) se_int (fun _ _ => rfl)) (se_var (pv 2)))) (sss_cons (ss_setL (pv 1) se_int (se_bin ho_fdiv os_fdiv (se_ix ho_ix os_ix (se_var (pv 1)) se_int (fun _ _ => rfl)) (se_var (pv 2)))) (sss_one (ss_ret (se_var (pv 3)))))) sss_nil) (sss_cons (ss_asg (i := 4) nd rfl (by first | exact .inl rfl | exact .inr rfl) (se_ix ho_ix os_ix (se_var (pv 1)) se_int (fun _ _ => rfl))) (sss_cons (ss_augL (pv 1) se_int se_int ip_add) (sss_cons (ss_if (st_cmp (ho_eq (u64 hr)) os_eq (se_var (pv 0)) (se_lst sa_nil) (nomark _)) (sss_one (ss_ret (se_bin ho_mod os_mod (se_var (pv 4)) (se_var (pv 2))))) sss_nil) (sss_cons (ss_if (st_w (sw_and (st_cmp ho_lt os_lt (se_var (pv 4)) (se_callB call_len os_len rfl (m_len Z) b_len (sa_cons (se_var (pv 0)) sa_nil)) (nomark _)) (sw_one (st_cmp ho_ge os_ge (se_ix ho_ix os_ix (se_var (pv 0)) (se_var (pv 4)) (fun _ _ => rfl)) (se_bin ho_pow os_pow se_int se_int) (nomark _))))) (sss_cons (ss_setL (pv 1) se_int (se_bin ho_mod os_mod (se_bin ho_fdiv os_fdiv (se_ix ho_ix os_ix (se_var (pv 0)) (se_var (pv 4)) (fun _ _ => rfl)) (se_var (pv 2))) (se_bin ho_mul os_mul (se_bin ho_pow os_pow se_int se_int) (se_bin ho_pow os_pow se_int se_int)))) (sss_one (ss_ret (se_bin ho_mod os_mod (se_ix ho_ix os_ix (se_var (pv 0)) (se_var (pv 4)) (fun _ _ => rfl)) (se_var (pv 2)))))) sss_nil) (sss_cons (ss_asg (i := 5) nd rfl (by first | exact .inl rfl | exact .inr rfl) (se_bin ho_mod os_mod (se_bin ho_add os_add (se_bin ho_add os_add (se_bin ho_mul os_mul (se_ix ho_ix os_ix (se_var (pv 0)) (se_bin ho_mod os_mod (se_var (pv 4)) (se_callB call_len os_len rfl (m_len Z) b_len (sa_cons (se_var (pv 0)) sa_nil))) (fun _ _ => rfl)) se_int) (se_bin ho_mul os_mul se_int (se_var (pv 4)))) se_int) se_int)) (sss_one (ss_ret (se_bin ho_mod os_mod (se_bin ho_mod os_mod (se_bin ho_mod os_mod (se_bin ho_pow os_pow (se_var (pv 5)) se_int) se_int) se_int) (se_var (pv 2)))))))))))
/-! ### _law_pick -/
def g__law_pick : SF := sRet (sBin oIx (sVar 2) (sCall fn__law_draw [esh (sVar 0), sVar 1, esh (sCallB oLen [sVar 2])]))
def fn__law_pick : Fn := runF 3 3 g__law_pick
theorem sc__law_pick : FnScope ["_law_script", "_law_town", "_law_some"] ["_law_script", "_law_town", "_law_some"] (defScope s__law_pick) := ⟨rfl, rfl, rfl, by decide +kernel, rfl, by decide +kernel, by decide +kernel⟩
theorem ok__law_pick {P : Program} {w : World} {K : PySem.W.Frag} {mg : Str → Option Value} {base : Heap} (Z : Facts K mg) {fd : FuncData} (F : FnP K "_law_pick" s__law_pick (He.ga K "_law_pick") fd) : FnOk P w K mg base (L2.CX P w) 2 (He.ga K "_law_pick") fd ["_law_script", "_law_town", "_law_some"] (spF ⟨P, w, K⟩ 3 fn__law_pick) := by
  obtain ⟨fd__law_draw, F__law_draw⟩ := Z.c.def_ 12 (d := d__law_draw) rfl
  have F__law_draw : FnP K "_law_draw" s__law_draw (He.ga K "_law_draw") fd__law_draw := F__law_draw
  have ok__law_draw' : FnOk P w K mg base (L2.CX P w) 1 (He.ga K "_law_draw") fd__law_draw ["_law_script", "_law_town", "_law_many"] (spF ⟨P, w, K⟩ 3 fn__law_draw) := ok__law_draw Z F__law_draw
  have b__law_draw : Binds K fd__law_draw ["_law_script", "_law_town", "_law_many"] [] := F__law_draw.bindsN fun _ _ _ _ _ _ us hl => match us, hl with | [_, _, _], _ => rfl
  have nd := sc__law_pick.nd
  exact fn_ok F sc__law_pick fun cdv A outer s H E hr => (sss_one (ss_ret (se_ix ho_ix os_ix (se_var (pv 2)) (se_call ok__law_draw' runF_len (hr.mono (by decide)) rfl (m__law_draw Z) F__law_draw.kp b__law_draw (takes_of rfl rfl rfl rfl) (sa_cons (se_esh (se_var (pv 0))) (sa_cons (se_var (pv 1)) (sa_cons (se_esh (se_callB call_len os_len rfl (m_len Z) b_len (sa_cons (se_var (pv 2)) sa_nil))) sa_nil)))) (fun _ _ => rfl))))
/-! ### _law_pattern -/
def g__law_pattern : SF := sSeq (sPar [3, 4] [sC (.str []), sCall fn__law_pick [esh (sVar 0), sVar 1, esh (sLst [sC (.int 1), sC (.int 1), sC (.int 2), sC (.int 2), sC (.int 3), sC (.int 4)])]]) (sSeq (sFor (.one 5) (sRange1 (sBin oAdd (sVar 4) (sC (.int 1)))) (sSeq (sIfS (sOr (sBin oEq (sVar 5) (sCall fn__law_draw [esh (sVar 0), sVar 1, esh (sC (.int 5))])) (sAnd (sBin oEq (sVar 5) (sVar 4)) (sNot (sCallB oAny [sLC (.one 7) [7] (sAny (sVar 3)) (sYes) (sBin oIn (sVar 7) (sC (.str [49, 50, 51, 52, 53, 54, 55, 56, 57])))])))) (sAsg 3 (sBin oAdd (sVar 3) (sCall fn__law_pick [esh (sVar 0), sVar 1, esh (sC (.str [49, 50, 49, 50, 51, 52, 53]))]))) (sNil)) (sIfS (sBin oLt (sVar 5) (sVar 4)) (sAsg 3 (sBin oAdd (sVar 3) (sCall fn__law_pick [esh (sVar 0), sVar 1, esh (sVar 2)]))) (sNil)))) (sSeq (sAsg 6 (sCall fn__law_draw [esh (sVar 0), sVar 1, esh (sC (.int 8))])) (sRet (sBin oAdd (sBin oAdd (sIf (sBin oIn (sVar 6) (sTup [sC (.int 0), sC (.int 2)])) (sC (.str [46])) (sC (.str []))) (sVar 3)) (sIf (sBin oIn (sVar 6) (sTup [sC (.int 1), sC (.int 2)])) (sC (.str [46])) (sC (.str [])))))))
def fn__law_pattern : Fn := runF 3 8 g__law_pattern
theorem sc__law_pattern : FnScope ["_law_script", "_law_town", "_law_letters", "_law_text", "_law_many", "_law_at", "_law_where", "_law_char"] ["_law_script", "_law_town", "_law_letters"] (defScope s__law_pattern) := ⟨rfl, rfl, rfl, by decide +kernel, rfl, by decide +kernel, by decide +kernel⟩
theorem ok__law_pattern {P : Program} {w : World} {K : PySem.W.Frag} {mg : Str → Option Value} {base : Heap} (Z : Facts K mg) {fd : FuncData} (F : FnP K "_law_pattern" s__law_pattern (He.ga K "_law_pattern") fd) : FnOk P w K mg base (L2.CX P w) 3 (He.ga K "_law_pattern") fd ["_law_script", "_law_town", "_law_letters"] (spF ⟨P, w, K⟩ 3 fn__law_pattern) := by
  obtain ⟨fd__law_pick, F__law_pick⟩ := Z.c.def_ 13 (d := d__law_pick) rfl
  have F__law_pick : FnP K "_law_pick" s__law_pick (He.ga K "_law_pick") fd__law_pick := F__law_pick
  have ok__law_pick' : FnOk P w K mg base (L2.CX P w) 2 (He.ga K "_law_pick") fd__law_pick ["_law_script", "_law_town", "_law_some"] (spF ⟨P, w, K⟩ 3 fn__law_pick) := ok__law_pick Z F__law_pick
  have b__law_pick : Binds K fd__law_pick ["_law_script", "_law_town", "_law_some"] [] := F__law_pick.bindsN fun _ _ _ _ _ _ us hl => match us, hl with | [_, _, _], _ => rfl
  obtain ⟨fd__law_draw, F__law_draw⟩ := Z.c.def_ 12 (d := d__law_draw) rfl
  have F__law_draw : FnP K "_law_draw" s__law_draw (He.ga K "_law_draw") fd__law_draw := F__law_draw
  have ok__law_draw' : FnOk P w K mg base (L2.CX P w) 1 (He.ga K "_law_draw") fd__law_draw ["_law_script", "_law_town", "_law_many"] (spF ⟨P, w, K⟩ 3 fn__law_draw) := ok__law_draw Z F__law_draw
  have b__law_draw : Binds K fd__law_draw ["_law_script", "_law_town", "_law_many"] [] := F__law_draw.bindsN fun _ _ _ _ _ _ us hl => match us, hl with | [_, _, _], _ => rfl
  have nd := sc__law_pattern.nd
  exact fn_ok F sc__law_pattern fun cdv A outer s H E hr => (sss_cons (ss_par2 rfl nd rfl rfl (by decide) rfl rfl (sa_cons (se_eun (se_str (by decide +kernel))) (sa_cons (se_eun (se_call ok__law_pick' runF_len (hr.mono (by decide)) rfl (m__law_pick Z) F__law_pick.kp b__law_pick (takes_of rfl rfl rfl rfl) (sa_cons (se_esh (se_var (pv 0))) (sa_cons (se_var (pv 1)) (sa_cons (se_esh (se_lst (sa_cons (se_esh se_int) (sa_cons (se_esh se_int) (sa_cons (se_esh se_int) (sa_cons (se_esh se_int) (sa_cons (se_esh se_int) (sa_cons (se_esh se_int) sa_nil)))))))) sa_nil))))) sa_nil)) rfl) (sss_cons (ss_for (t := (.one 5)) (passes_of rfl) rfl (si_range1 rfl (m_range Z) (sa_cons (se_bin ho_add os_add (se_var (pv 4)) se_int) sa_nil)) (pg_name (i := 5) nd rfl (by first | exact .inl rfl | exact .inr rfl)) (sss_cons (ss_if (st_w (sw_or (st_cmp (ho_eq (u64 hr)) os_eq (se_var (pv 5)) (se_call ok__law_draw' runF_len (hr.mono (by decide)) rfl (m__law_draw Z) F__law_draw.kp b__law_draw (takes_of rfl rfl rfl rfl) (sa_cons (se_esh (se_var (pv 0))) (sa_cons (se_var (pv 1)) (sa_cons (se_esh se_int) sa_nil)))) (nomark _)) (sw_one' (st_w (sw_and (st_cmp (ho_eq (u64 hr)) os_eq (se_var (pv 5)) (se_var (pv 4)) (nomark _)) (sw_one (st_not (st_val (se_callB (cr_any rfl) os_any rfl (m_any Z) b_any (sa_cons (se_lc rfl nd (si_any (se_var (pv 3))) (blkOk_by (own := [("_law_char", 7)]) (by kernel_rfl)) (fun _ _ _ _ _ => (pg_name (i := 7) nd rfl (by first | exact .inl rfl | exact .inr rfl))) (fun _ _ _ _ _ => sts_nil) (fun _ _ _ _ _ => (se_cmp (ho_in (u65 hr)) os_in (se_var (pv 7)) (se_str (by decide +kernel)) (by with_unfolding_all rfl))) rfl (by decide)) sa_nil)))))))))) (sss_one (ss_asg (i := 3) nd rfl (by first | exact .inl rfl | exact .inr rfl) (se_bin ho_add os_add (se_var (pv 3)) (se_call ok__law_pick' runF_len (hr.mono (by decide)) rfl (m__law_pick Z) F__law_pick.kp b__law_pick (takes_of rfl rfl rfl rfl) (sa_cons (se_esh (se_var (pv 0))) (sa_cons (se_var (pv 1)) (sa_cons (se_esh (se_str (by decide +kernel))) sa_nil))))))) sss_nil) (sss_one (ss_if (st_cmp ho_lt os_lt (se_var (pv 5)) (se_var (pv 4)) (nomark _)) (sss_one (ss_asg (i := 3) nd rfl (by first | exact .inl rfl | exact .inr rfl) (se_bin ho_add os_add (se_var (pv 3)) (se_call ok__law_pick' runF_len (hr.mono (by decide)) rfl (m__law_pick Z) F__law_pick.kp b__law_pick (takes_of rfl rfl rfl rfl) (sa_cons (se_esh (se_var (pv 0))) (sa_cons (se_var (pv 1)) (sa_cons (se_esh (se_var (pv 2))) sa_nil))))))) sss_nil)))) (sss_cons (ss_asg (i := 6) nd rfl (by first | exact .inl rfl | exact .inr rfl) (se_call ok__law_draw' runF_len (hr.mono (by decide)) rfl (m__law_draw Z) F__law_draw.kp b__law_draw (takes_of rfl rfl rfl rfl) (sa_cons (se_esh (se_var (pv 0))) (sa_cons (se_var (pv 1)) (sa_cons (se_esh se_int) sa_nil))))) (sss_one (ss_ret (se_bin ho_add os_add (se_bin ho_add os_add (se_if (st_cmp (ho_in (u65 hr)) os_in (se_var (pv 6)) (se_tup (sa_cons (se_esh se_int) (sa_cons (se_esh se_int) sa_nil))) (by with_unfolding_all rfl)) (se_str (by decide +kernel)) (se_str (by decide +kernel))) (se_var (pv 3))) (se_if (st_cmp (ho_in (u65 hr)) os_in (se_var (pv 6)) (se_tup (sa_cons (se_esh se_int) (sa_cons (se_esh se_int) sa_nil))) (by with_unfolding_all rfl)) (se_str (by decide +kernel)) (se_str (by decide +kernel)))))))))
/-! ### _law_bare -/
def g__law_bare : SF := sRet (sMeth "str" oJoin (sC (.str [])) [sLC (.one 1) [1] (sAny (sVar 0)) (sBin oNotIn (sVar 1) (sC (.str [48, 49, 50, 51, 52, 53, 54, 55, 56, 57]))) (sVar 1)])
def fn__law_bare : Fn := runF 1 2 g__law_bare
theorem sc__law_bare : FnScope ["_law_pattern_here", "_law_char"] ["_law_pattern_here"] (defScope s__law_bare) := ⟨rfl, rfl, rfl, by decide +kernel, rfl, by decide +kernel, by decide +kernel⟩
theorem ok__law_bare {P : Program} {w : World} {K : PySem.W.Frag} {mg : Str → Option Value} {base : Heap} (Z : Facts K mg) {fd : FuncData} (F : FnP K "_law_bare" s__law_bare (He.ga K "_law_bare") fd) : FnOk P w K mg base (L2.CX P w) 1 (He.ga K "_law_bare") fd ["_law_pattern_here"] (spF ⟨P, w, K⟩ 1 fn__law_bare) := by
  have nd := sc__law_bare.nd
  exact fn_ok F sc__law_bare fun cdv A outer s H E hr => (sss_one (ss_ret (se_bm PySem.F.plainAttrs_str PySem.F.slot_str_join PySem.F.type_str_join mt_join os_join (se_str (by decide +kernel)) (sa_cons (se_lc rfl nd (si_any (se_var (pv 0))) (blkOk_by (own := [("_law_char", 1)]) (by kernel_rfl)) (fun _ _ _ _ _ => (pg_name (i := 1) nd rfl (by first | exact .inl rfl | exact .inr rfl))) (fun _ _ _ _ _ => (sts_one (st_cmp (ho_notin (u65 hr)) os_notin (se_var (pv 1)) (se_str (by decide +kernel)) (by with_unfolding_all rfl)))) (fun _ _ _ _ _ => (se_var (pv 1))) rfl (by decide)) sa_nil))))
/-! ### _law_rules -/
def g__law_rules : SF := sSeq (sPar [4, 5] [sLst [], sLst []]) (sSeq (sFor (.one 6) (sRange1 (sCall fn__law_draw [esh (sVar 0), sVar 1, esh (sBin oAdd (sVar 2) (sC (.int 1)))])) (sSeq (sAsg 7 (sCall fn__law_pattern [esh (sVar 0), sVar 1, esh (sVar 3)])) (sIfS (sBin oNotIn (sCall fn__law_bare [esh (sVar 7)]) (sVar 5)) (sSeq (sExpr (sMutS 4 oAppend [sVar 7])) (sExpr (sMutS 5 oAppend [sCall fn__law_bare [esh (sVar 7)]]))) (sNil)))) (sRet (sTup [sCallB oTupleOf [sVar 4], sCall fn__law_pick [esh (sVar 0), sVar 1, esh (sLst [sC (.int 1), sC (.int 1), sC (.int 2), sC (.int 3)])], sCall fn__law_pick [esh (sVar 0), sVar 1, esh (sLst [sC (.int 1), sC (.int 1), sC (.int 2), sC (.int 3)])]])))
def fn__law_rules : Fn := runF 4 8 g__law_rules
theorem sc__law_rules : FnScope ["_law_script", "_law_town", "_law_most", "_law_letters", "_law_made", "_law_seen", "_law_k", "_law_pattern_here"] ["_law_script", "_law_town", "_law_most", "_law_letters"] (defScope s__law_rules) := ⟨rfl, rfl, rfl, by decide +kernel, rfl, by decide +kernel, by decide +kernel⟩
theorem ok__law_rules {P : Program} {w : World} {K : PySem.W.Frag} {mg : Str → Option Value} {base : Heap} (Z : Facts K mg) {fd : FuncData} (F : FnP K "_law_rules" s__law_rules (He.ga K "_law_rules") fd) : FnOk P w K mg base (L2.CX P w) 4 (He.ga K "_law_rules") fd ["_law_script", "_law_town", "_law_most", "_law_letters"] (spF ⟨P, w, K⟩ 4 fn__law_rules) := by
  obtain ⟨fd__law_draw, F__law_draw⟩ := Z.c.def_ 12 (d := d__law_draw) rfl
  have F__law_draw : FnP K "_law_draw" s__law_draw (He.ga K "_law_draw") fd__law_draw := F__law_draw
  have ok__law_draw' : FnOk P w K mg base (L2.CX P w) 1 (He.ga K "_law_draw") fd__law_draw ["_law_script", "_law_town", "_law_many"] (spF ⟨P, w, K⟩ 3 fn__law_draw) := ok__law_draw Z F__law_draw
  have b__law_draw : Binds K fd__law_draw ["_law_script", "_law_town", "_law_many"] [] := F__law_draw.bindsN fun _ _ _ _ _ _ us hl => match us, hl with | [_, _, _], _ => rfl
  obtain ⟨fd__law_pattern, F__law_pattern⟩ := Z.c.def_ 14 (d := d__law_pattern) rfl
  have F__law_pattern : FnP K "_law_pattern" s__law_pattern (He.ga K "_law_pattern") fd__law_pattern := F__law_pattern
  have ok__law_pattern' : FnOk P w K mg base (L2.CX P w) 3 (He.ga K "_law_pattern") fd__law_pattern ["_law_script", "_law_town", "_law_letters"] (spF ⟨P, w, K⟩ 3 fn__law_pattern) := ok__law_pattern Z F__law_pattern
  have b__law_pattern : Binds K fd__law_pattern ["_law_script", "_law_town", "_law_letters"] [] := F__law_pattern.bindsN fun _ _ _ _ _ _ us hl => match us, hl with | [_, _, _], _ => rfl
  obtain ⟨fd__law_bare, F__law_bare⟩ := Z.c.def_ 15 (d := d__law_bare) rfl
  have F__law_bare : FnP K "_law_bare" s__law_bare (He.ga K "_law_bare") fd__law_bare := F__law_bare
  have ok__law_bare' : FnOk P w K mg base (L2.CX P w) 1 (He.ga K "_law_bare") fd__law_bare ["_law_pattern_here"] (spF ⟨P, w, K⟩ 1 fn__law_bare) := ok__law_bare Z F__law_bare
  have b__law_bare : Binds K fd__law_bare ["_law_pattern_here"] [] := F__law_bare.bindsN fun _ _ _ _ _ _ us hl => match us, hl with | [_], _ => rfl
  obtain ⟨fd__law_pick, F__law_pick⟩ := Z.c.def_ 13 (d := d__law_pick) rfl
  have F__law_pick : FnP K "_law_pick" s__law_pick (He.ga K "_law_pick") fd__law_pick := F__law_pick
  have ok__law_pick' : FnOk P w K mg base (L2.CX P w) 2 (He.ga K "_law_pick") fd__law_pick ["_law_script", "_law_town", "_law_some"] (spF ⟨P, w, K⟩ 3 fn__law_pick) := ok__law_pick Z F__law_pick
  have b__law_pick : Binds K fd__law_pick ["_law_script", "_law_town", "_law_some"] [] := F__law_pick.bindsN fun _ _ _ _ _ _ us hl => match us, hl with | [_, _, _], _ => rfl
  have nd := sc__law_rules.nd
  exact fn_ok F sc__law_rules fun cdv A outer s H E hr => (sss_cons (ss_par2 rfl nd rfl rfl (by decide) rfl rfl (sa_cons (se_eun (se_lst sa_nil)) (sa_cons (se_eun (se_lst sa_nil)) sa_nil)) rfl) (sss_cons (ss_for (t := (.one 6)) (passes_of rfl) rfl (si_range1 rfl (m_range Z) (sa_cons (se_call ok__law_draw' runF_len (hr.mono (by decide)) rfl (m__law_draw Z) F__law_draw.kp b__law_draw (takes_of rfl rfl rfl rfl) (sa_cons (se_esh (se_var (pv 0))) (sa_cons (se_var (pv 1)) (sa_cons (se_esh (se_bin ho_add os_add (se_var (pv 2)) se_int)) sa_nil)))) sa_nil)) (pg_name (i := 6) nd rfl (by first | exact .inl rfl | exact .inr rfl)) (sss_cons (ss_asg (i := 7) nd rfl (by first | exact .inl rfl | exact .inr rfl) (se_call ok__law_pattern' runF_len (hr.mono (by decide)) rfl (m__law_pattern Z) F__law_pattern.kp b__law_pattern (takes_of rfl rfl rfl rfl) (sa_cons (se_esh (se_var (pv 0))) (sa_cons (se_var (pv 1)) (sa_cons (se_esh (se_var (pv 3))) sa_nil))))) (sss_one (ss_if (st_cmp (ho_notin (u65 hr)) os_notin (se_call ok__law_bare' runF_len (hr.mono (by decide)) rfl (m__law_bare Z) F__law_bare.kp b__law_bare (takes_of rfl rfl rfl rfl) (sa_cons (se_esh (se_var (pv 7))) sa_nil)) (se_var (pv 5)) (by with_unfolding_all rfl)) (sss_cons (ss_expr (se_mutS PySem.F.slot_list_append PySem.F.type_list_append mt_append m_append (pv 4) (sa_cons (se_esh (se_var (pv 7))) sa_nil))) (sss_one (ss_expr (se_mutS PySem.F.slot_list_append PySem.F.type_list_append mt_append m_append (pv 5) (sa_cons (se_esh (se_call ok__law_bare' runF_len (hr.mono (by decide)) rfl (m__law_bare Z) F__law_bare.kp b__law_bare (takes_of rfl rfl rfl rfl) (sa_cons (se_esh (se_var (pv 7))) sa_nil))) sa_nil))))) sss_nil)))) (sss_one (ss_ret (se_tup (sa_cons (se_esh (se_callTy call_tuple_of os_tupleOf rfl (m_tuple Z) b_tuple (sa_cons (se_var (pv 4)) sa_nil))) (sa_cons (se_esh (se_call ok__law_pick' runF_len (hr.mono (by decide)) rfl (m__law_pick Z) F__law_pick.kp b__law_pick (takes_of rfl rfl rfl rfl) (sa_cons (se_esh (se_var (pv 0))) (sa_cons (se_var (pv 1)) (sa_cons (se_esh (se_lst (sa_cons (se_esh se_int) (sa_cons (se_esh se_int) (sa_cons (se_esh se_int) (sa_cons (se_esh se_int) sa_nil)))))) sa_nil))))) (sa_cons (se_esh (se_call ok__law_pick' runF_len (hr.mono (by decide)) rfl (m__law_pick Z) F__law_pick.kp b__law_pick (takes_of rfl rfl rfl rfl) (sa_cons (se_esh (se_var (pv 0))) (sa_cons (se_var (pv 1)) (sa_cons (se_esh (se_lst (sa_cons (se_esh se_int) (sa_cons (se_esh se_int) (sa_cons (se_esh se_int) (sa_cons (se_esh se_int) sa_nil)))))) sa_nil))))) sa_nil))))))))
/-! ### is_count -/
def g_is_count : SF := sRet (sAnd (sCallB oIsi [sVar 0, sC (.ty "int")]) (sAnd (sNot (sCallB oIsi [sVar 0, sC (.ty "bool")])) (sChain oLe oLe (sVar 1) (sVar 0) (sVar 2))))
def fn_is_count : Fn := runF 3 3 g_is_count
theorem sc_is_count : FnScope ["value", "least", "most"] ["value", "least", "most"] (defScope s_is_count) := ⟨rfl, rfl, rfl, by decide +kernel, rfl, by decide +kernel, by decide +kernel⟩
theorem ok_is_count {P : Program} {w : World} {K : PySem.W.Frag} {mg : Str → Option Value} {base : Heap} (Z : Facts K mg) {fd : FuncData} (F : FnP K "is_count" s_is_count (He.ga K "is_count") fd) : FnOk P w K mg base (L2.CX P w) 1 (He.ga K "is_count") fd ["value", "least", "most"] (spF ⟨P, w, K⟩ 3 fn_is_count) := by
  have nd := sc_is_count.nd
  exact fn_ok F sc_is_count fun cdv A outer s H E hr => (sss_one (ss_ret (se_and (se_callB call_isi os_isi rfl (m_isinstance Z) b_isi (sa_cons (se_var (pv 0)) (sa_cons (se_ty rfl (m_int Z) b_int) sa_nil))) (se_and (se_not (se_callB call_isi os_isi rfl (m_isinstance Z) b_isi (sa_cons (se_var (pv 0)) (sa_cons (se_ty rfl (m_bool Z) b_bool) sa_nil)))) (se_one (se_chain ho_le os_le ho_le os_le (se_var (pv 1)) (se_var (pv 0)) (se_var (pv 2))))))))
/-! ### chars_of -/
def g_chars_of : SF := sRet (sMeth "str" oJoin (sC (.str [])) [sLC (.one 1) [1] (sAny (sVar 0)) (sBin oNotIn (sVar 1) (sC (.str [49, 50, 51, 52, 53, 54, 55, 56, 57]))) (sVar 1)])
def fn_chars_of : Fn := runF 1 2 g_chars_of
theorem sc_chars_of : FnScope ["pattern", "char"] ["pattern"] (defScope s_chars_of) := ⟨rfl, rfl, rfl, by decide +kernel, rfl, by decide +kernel, by decide +kernel⟩
theorem ok_chars_of {P : Program} {w : World} {K : PySem.W.Frag} {mg : Str → Option Value} {base : Heap} (Z : Facts K mg) {fd : FuncData} (F : FnP K "chars_of" s_chars_of (He.ga K "chars_of") fd) : FnOk P w K mg base (L2.CX P w) 1 (He.ga K "chars_of") fd ["pattern"] (spF ⟨P, w, K⟩ 1 fn_chars_of) := by
  have nd := sc_chars_of.nd
  exact fn_ok F sc_chars_of fun cdv A outer s H E hr => (sss_one (ss_ret (se_bm PySem.F.plainAttrs_str PySem.F.slot_str_join PySem.F.type_str_join mt_join os_join (se_str (by decide +kernel)) (sa_cons (se_lc rfl nd (si_any (se_var (pv 0))) (blkOk_by (own := [("char", 1)]) (by kernel_rfl)) (fun _ _ _ _ _ => (pg_name (i := 1) nd rfl (by first | exact .inl rfl | exact .inr rfl))) (fun _ _ _ _ _ => (sts_one (st_cmp (ho_notin (u65 hr)) os_notin (se_var (pv 1)) (se_gstr rfl (m_DIGITS Z) (by decide +kernel)) (by with_unfolding_all rfl)))) (fun _ _ _ _ _ => (se_var (pv 1))) rfl (by decide)) sa_nil))))
/-! ### is_pattern -/
def g_is_pattern : SF := sSeq (sIfS (sOr (sNot (sCallB oIsi [sVar 0, sC (.ty "str")])) (sBin oEq (sVar 0) (sC (.str [])))) (sRet (sC (.bl false))) (sNil)) (sSeq (sAsg 1 (sIf (sBin oEq (sBin oIx (sVar 0) (sC (.int 0))) (sC (.str [46]))) (sSl oSl (sVar 0) (some (sC (.int 1))) none) (sVar 0))) (sSeq (sAsg 1 (sIf (sMeth "str" oEnds (sVar 1) [sC (.str [46])]) (sSl oSl (sVar 1) none (some (sUn oNeg (sC (.int 1))))) (sVar 1))) (sSeq (sIfS (sNot (sCallB oAll [sLC (.one 3) [3] (sAny (sVar 1)) (sYes) (sBin oIn (sVar 3) (sBin oAdd (sC (.str [97, 98, 99, 100, 101, 102, 103, 104, 105, 106, 107, 108, 109, 110, 111, 112, 113, 114, 115, 116, 117, 118, 119, 120, 121, 122])) (sC (.str [49, 50, 51, 52, 53, 54, 55, 56, 57]))))])) (sRet (sC (.bl false))) (sNil)) (sSeq (sIfS (sCallB oAny [sLC (.many [4, 5]) [4, 5] (sZip [sVar 1, sSl oSl (sVar 1) (some (sC (.int 1))) none]) (sYes) (sAnd (sBin oIn (sVar 4) (sC (.str [49, 50, 51, 52, 53, 54, 55, 56, 57]))) (sBin oIn (sVar 5) (sC (.str [49, 50, 51, 52, 53, 54, 55, 56, 57]))))]) (sRet (sC (.bl false))) (sNil)) (sSeq (sAsg 2 (sCallB oLen [sCall fn_chars_of [esh (sVar 1)]])) (sRet (sAnd (sChain oLe oLe (sC (.int 1)) (sVar 2) (sC (.int 4))) (sBin oLt (sVar 2) (sCallB oLen [sVar 1])))))))))
def fn_is_pattern : Fn := runF 1 6 g_is_pattern
theorem sc_is_pattern : FnScope ["value", "inside", "letters", "char", "one", "other"] ["value"] (defScope s_is_pattern) := ⟨rfl, rfl, rfl, by decide +kernel, rfl, by decide +kernel, by decide +kernel⟩
theorem ok_is_pattern {P : Program} {w : World} {K : PySem.W.Frag} {mg : Str → Option Value} {base : Heap} (Z : Facts K mg) {fd : FuncData} (F : FnP K "is_pattern" s_is_pattern (He.ga K "is_pattern") fd) : FnOk P w K mg base (L2.CX P w) 2 (He.ga K "is_pattern") fd ["value"] (spF ⟨P, w, K⟩ 1 fn_is_pattern) := by
  obtain ⟨fd_chars_of, F_chars_of⟩ := Z.c.def_ 1 (d := d_chars_of) rfl
  have F_chars_of : FnP K "chars_of" s_chars_of (He.ga K "chars_of") fd_chars_of := F_chars_of
  have ok_chars_of' : FnOk P w K mg base (L2.CX P w) 1 (He.ga K "chars_of") fd_chars_of ["pattern"] (spF ⟨P, w, K⟩ 1 fn_chars_of) := ok_chars_of Z F_chars_of
  have b_chars_of : Binds K fd_chars_of ["pattern"] [] := F_chars_of.bindsN fun _ _ _ _ _ _ us hl => match us, hl with | [_], _ => rfl
  have nd := sc_is_pattern.nd
  exact fn_ok F sc_is_pattern fun cdv A outer s H E hr => (sss_cons (ss_if (st_w (sw_or (st_not (st_val (se_callB call_isi os_isi rfl (m_isinstance Z) b_isi (sa_cons (se_var (pv 0)) (sa_cons (se_ty rfl (m_str Z) b_str) sa_nil))))) (sw_one' (st_cmp (ho_eq (u64 hr)) os_eq (se_var (pv 0)) (se_str (by decide +kernel)) (nomark _))))) (sss_one (ss_ret se_bl)) sss_nil) (sss_cons (ss_asg (i := 1) nd rfl (by first | exact .inl rfl | exact .inr rfl) (se_if (st_cmp (ho_eq (u64 hr)) os_eq (se_ix ho_ix os_ix (se_var (pv 0)) se_int (fun _ _ => rfl)) (se_str (by decide +kernel)) (nomark _)) (se_sl ho_sl os_sl (se_var (pv 0)) (so_some se_int) so_none) (se_var (pv 0)))) (sss_cons (ss_asg (i := 1) nd rfl (by first | exact .inl rfl | exact .inr rfl) (se_if (st_val (se_bm PySem.F.plainAttrs_str PySem.F.slot_str_endswith PySem.F.type_str_endswith mt_endswith os_ends (se_var (pv 1)) (sa_cons (se_str (by decide +kernel)) sa_nil))) (se_sl ho_sl os_sl (se_var (pv 1)) so_none (so_some (se_un ho_neg os_neg se_int))) (se_var (pv 1)))) (sss_cons (ss_if (st_not (st_val (se_callB (cr_all rfl) os_all rfl (m_all Z) b_all (sa_cons (se_lc rfl nd (si_any (se_var (pv 1))) (blkOk_by (own := [("char", 3)]) (by kernel_rfl)) (fun _ _ _ _ _ => (pg_name (i := 3) nd rfl (by first | exact .inl rfl | exact .inr rfl))) (fun _ _ _ _ _ => sts_nil) (fun _ _ _ _ _ => (se_cmp (ho_in (u65 hr)) os_in (se_var (pv 3)) (se_bin ho_add os_add (se_gstr rfl (m_LETTERS Z) (by decide +kernel)) (se_gstr rfl (m_DIGITS Z) (by decide +kernel))) (by with_unfolding_all rfl))) rfl (by decide)) sa_nil)))) (sss_one (ss_ret se_bl)) sss_nil) (sss_cons (ss_if (st_val (se_callB (cr_any rfl) os_any rfl (m_any Z) b_any (sa_cons (se_lc rfl nd (si_zip rfl (m_zip Z) (sa_cons (se_esh (se_var (pv 1))) (sa_cons (se_esh (se_sl ho_sl os_sl (se_var (pv 1)) (so_some se_int) so_none)) sa_nil))) (blkOk_by (own := [("one", 4), ("other", 5)]) (by kernel_rfl)) (fun _ _ _ _ _ => (pg_tup rfl (pgs_cons (pg_name (i := 4) nd rfl (by first | exact .inl rfl | exact .inr rfl)) (pgs_cons (pg_name (i := 5) nd rfl (by first | exact .inl rfl | exact .inr rfl)) pgs_nil)))) (fun _ _ _ _ _ => sts_nil) (fun _ _ _ _ _ => (se_and (se_cmp (ho_in (u65 hr)) os_in (se_var (pv 4)) (se_gstr rfl (m_DIGITS Z) (by decide +kernel)) (by with_unfolding_all rfl)) (se_one (se_cmp (ho_in (u65 hr)) os_in (se_var (pv 5)) (se_gstr rfl (m_DIGITS Z) (by decide +kernel)) (by with_unfolding_all rfl))))) rfl (by decide)) sa_nil))) (sss_one (ss_ret se_bl)) sss_nil) (sss_cons (ss_asg (i := 2) nd rfl (by first | exact .inl rfl | exact .inr rfl) (se_callB call_len os_len rfl (m_len Z) b_len (sa_cons (se_call ok_chars_of' runF_len (hr.mono (by decide)) rfl (m_chars_of Z) F_chars_of.kp b_chars_of (takes_of rfl rfl rfl rfl) (sa_cons (se_esh (se_var (pv 1))) sa_nil)) sa_nil))) (sss_one (ss_ret (se_and (se_chain ho_le os_le ho_le os_le se_int (se_var (pv 2)) (se_gint rfl (m_LONGEST Z))) (se_one (se_cmp ho_lt os_lt (se_var (pv 2)) (se_callB call_len os_len rfl (m_len Z) b_len (sa_cons (se_var (pv 1)) sa_nil)) (nomark _))))))))))))
/-! ### is_rules -/
def g_is_rules : SF := sSeq (sIfS (sOr (sNot (sCallB oIsi [sVar 0, sC (.ty "tuple")])) (sOr (sBin oNe (sCallB oLen [sVar 0]) (sC (.int 3))) (sNot (sCallB oAll [sLC (.one 2) [2] (sAny (sSl oSl (sVar 0) (some (sC (.int 1))) none)) (sYes) (sCall fn_is_count [esh (sVar 2), esh (sC (.int 1)), esh (sC (.int 4))])])))) (sRet (sC (.bl false))) (sNil)) (sSeq (sAsg 1 (sBin oIx (sVar 0) (sC (.int 0)))) (sSeq (sIfS (sOr (sNot (sCallB oIsi [sVar 1, sC (.ty "tuple")])) (sOr (sBin oGt (sCallB oLen [sVar 1]) (sC (.int 6))) (sNot (sCallB oAll [sLC (.one 3) [3] (sAny (sVar 1)) (sYes) (sCall fn_is_pattern [esh (sVar 3)])])))) (sRet (sC (.bl false))) (sNil)) (sRet (sBin oEq (sLenSet (sLC (.one 4) [4] (sAny (sVar 1)) (sYes) (sCall fn_chars_of [esh (sVar 4)]))) (sCallB oLen [sVar 1])))))
def fn_is_rules : Fn := runF 1 5 g_is_rules
theorem sc_is_rules : FnScope ["value", "patterns", "number", "one", "pattern"] ["value"] (defScope s_is_rules) := ⟨rfl, rfl, rfl, by decide +kernel, rfl, by decide +kernel, by decide +kernel⟩
theorem ok_is_rules {P : Program} {w : World} {K : PySem.W.Frag} {mg : Str → Option Value} {base : Heap} (Z : Facts K mg) {fd : FuncData} (F : FnP K "is_rules" s_is_rules (He.ga K "is_rules") fd) : FnOk P w K mg base (L2.CX P w) 3 (He.ga K "is_rules") fd ["value"] (spF ⟨P, w, K⟩ 1 fn_is_rules) := by
  obtain ⟨fd_is_count, F_is_count⟩ := Z.c.def_ 0 (d := d_is_count) rfl
  have F_is_count : FnP K "is_count" s_is_count (He.ga K "is_count") fd_is_count := F_is_count
  have ok_is_count' : FnOk P w K mg base (L2.CX P w) 1 (He.ga K "is_count") fd_is_count ["value", "least", "most"] (spF ⟨P, w, K⟩ 3 fn_is_count) := ok_is_count Z F_is_count
  have b_is_count : Binds K fd_is_count ["value", "least", "most"] [] := F_is_count.bindsN fun _ _ _ _ _ _ us hl => match us, hl with | [_, _, _], _ => rfl
  obtain ⟨fd_is_pattern, F_is_pattern⟩ := Z.c.def_ 3 (d := d_is_pattern) rfl
  have F_is_pattern : FnP K "is_pattern" s_is_pattern (He.ga K "is_pattern") fd_is_pattern := F_is_pattern
  have ok_is_pattern' : FnOk P w K mg base (L2.CX P w) 2 (He.ga K "is_pattern") fd_is_pattern ["value"] (spF ⟨P, w, K⟩ 1 fn_is_pattern) := ok_is_pattern Z F_is_pattern
  have b_is_pattern : Binds K fd_is_pattern ["value"] [] := F_is_pattern.bindsN fun _ _ _ _ _ _ us hl => match us, hl with | [_], _ => rfl
  obtain ⟨fd_chars_of, F_chars_of⟩ := Z.c.def_ 1 (d := d_chars_of) rfl
  have F_chars_of : FnP K "chars_of" s_chars_of (He.ga K "chars_of") fd_chars_of := F_chars_of
  have ok_chars_of' : FnOk P w K mg base (L2.CX P w) 1 (He.ga K "chars_of") fd_chars_of ["pattern"] (spF ⟨P, w, K⟩ 1 fn_chars_of) := ok_chars_of Z F_chars_of
  have b_chars_of : Binds K fd_chars_of ["pattern"] [] := F_chars_of.bindsN fun _ _ _ _ _ _ us hl => match us, hl with | [_], _ => rfl
  have nd := sc_is_rules.nd
  exact fn_ok F sc_is_rules fun cdv A outer s H E hr => (sss_cons (ss_if (st_w (sw_or (st_not (st_val (se_callB call_isi os_isi rfl (m_isinstance Z) b_isi (sa_cons (se_var (pv 0)) (sa_cons (se_ty rfl (m_tuple Z) b_tuple) sa_nil))))) (sw_or (st_cmp (ho_ne (u64 hr)) os_ne (se_callB call_len os_len rfl (m_len Z) b_len (sa_cons (se_var (pv 0)) sa_nil)) se_int (nomark _)) (sw_one' (st_not (st_val (se_callB (cr_all rfl) os_all rfl (m_all Z) b_all (sa_cons (se_lc rfl nd (si_any (se_sl ho_sl os_sl (se_var (pv 0)) (so_some se_int) so_none)) (blkOk_by (own := [("number", 2)]) (by kernel_rfl)) (fun _ _ _ _ _ => (pg_name (i := 2) nd rfl (by first | exact .inl rfl | exact .inr rfl))) (fun _ _ _ _ _ => sts_nil) (fun _ _ _ _ _ => (se_call ok_is_count' runF_len (hr.mono (by decide)) rfl (m_is_count Z) F_is_count.kp b_is_count takes0 (sa_cons (se_esh (se_var (pv 2))) (sa_cons (se_esh se_int) (sa_cons (se_esh se_int) sa_nil))))) rfl (by decide)) sa_nil)))))))) (sss_one (ss_ret se_bl)) sss_nil) (sss_cons (ss_asg (i := 1) nd rfl (by first | exact .inl rfl | exact .inr rfl) (se_ix ho_ix os_ix (se_var (pv 0)) se_int (fun _ _ => rfl))) (sss_cons (ss_if (st_w (sw_or (st_not (st_val (se_callB call_isi os_isi rfl (m_isinstance Z) b_isi (sa_cons (se_var (pv 1)) (sa_cons (se_ty rfl (m_tuple Z) b_tuple) sa_nil))))) (sw_or (st_cmp ho_gt os_gt (se_callB call_len os_len rfl (m_len Z) b_len (sa_cons (se_var (pv 1)) sa_nil)) (se_gint rfl (m_PATTERNS Z)) (nomark _)) (sw_one' (st_not (st_val (se_callB (cr_all rfl) os_all rfl (m_all Z) b_all (sa_cons (se_lc rfl nd (si_any (se_var (pv 1))) (blkOk_by (own := [("one", 3)]) (by kernel_rfl)) (fun _ _ _ _ _ => (pg_name (i := 3) nd rfl (by first | exact .inl rfl | exact .inr rfl))) (fun _ _ _ _ _ => sts_nil) (fun _ _ _ _ _ => (se_call ok_is_pattern' runF_len (hr.mono (by decide)) rfl (m_is_pattern Z) F_is_pattern.kp b_is_pattern takes0 (sa_cons (se_esh (se_var (pv 3))) sa_nil))) rfl (by decide)) sa_nil)))))))) (sss_one (ss_ret se_bl)) sss_nil) (sss_one (ss_ret (se_cmp (ho_eq (u64 hr)) os_eq (se_lenSet rfl rfl (m_len Z) rfl (m_set Z) (se_lc rfl nd (si_any (se_var (pv 1))) (blkOk_by (own := [("pattern", 4)]) (by kernel_rfl)) (fun _ _ _ _ _ => (pg_name (i := 4) nd rfl (by first | exact .inl rfl | exact .inr rfl))) (fun _ _ _ _ _ => sts_nil) (fun _ _ _ _ _ => (se_call ok_chars_of' runF_len (hr.mono (by decide)) rfl (m_chars_of Z) F_chars_of.kp b_chars_of takes0 (sa_cons (se_esh (se_var (pv 4))) sa_nil))) rfl (by decide))) (se_callB call_len os_len rfl (m_len Z) b_len (sa_cons (se_var (pv 1)) sa_nil)) (nomark _)))))))
/-! ### need_rules -/
def g_need_rules : SF := sIfS (sNot (sCall fn_is_rules [esh (sVar 0)])) (sRaise "InvalidRules") (sNil)
def fn_need_rules : Fn := runF 1 1 g_need_rules
theorem sc_need_rules : FnScope ["value"] ["value"] (defScope s_need_rules) := ⟨rfl, rfl, rfl, by decide +kernel, rfl, by decide +kernel, by decide +kernel⟩
theorem ok_need_rules {P : Program} {w : World} {K : PySem.W.Frag} {mg : Str → Option Value} {base : Heap} (Z : Facts K mg) {fd : FuncData} (F : FnP K "need_rules" s_need_rules (He.ga K "need_rules") fd) : FnOk P w K mg base (L2.CX P w) 4 (He.ga K "need_rules") fd ["value"] (spF ⟨P, w, K⟩ 1 fn_need_rules) := by
  obtain ⟨fd_is_rules, F_is_rules⟩ := Z.c.def_ 4 (d := d_is_rules) rfl
  have F_is_rules : FnP K "is_rules" s_is_rules (He.ga K "is_rules") fd_is_rules := F_is_rules
  have ok_is_rules' : FnOk P w K mg base (L2.CX P w) 3 (He.ga K "is_rules") fd_is_rules ["value"] (spF ⟨P, w, K⟩ 1 fn_is_rules) := ok_is_rules Z F_is_rules
  have b_is_rules : Binds K fd_is_rules ["value"] [] := F_is_rules.bindsN fun _ _ _ _ _ _ us hl => match us, hl with | [_], _ => rfl
  have nd := sc_need_rules.nd
  exact fn_ok F sc_need_rules fun cdv A outer s H E hr => (sss_one (ss_if (st_not (st_val (se_call ok_is_rules' runF_len (hr.mono (by decide)) rfl (m_is_rules Z) F_is_rules.kp b_is_rules (takes_of rfl rfl rfl rfl) (sa_cons (se_esh (se_var (pv 0))) sa_nil)))) (sss_one (ss_raise rfl (takes_of rfl rfl rfl rfl) (x_InvalidRules Z) (m_InvalidRules Z) rfl)) sss_nil))
/-! ### is_letters -/
def g_is_letters : SF := sSeq (sIfS (sOr (sNot (sCallB oIsi [sVar 0, sC (.ty "str")])) (sOr (sNot (sChain oLe oLe (sC (.int 1)) (sCallB oLen [sVar 0]) (sC (.int 4)))) (sNot (sCallB oAll [sLC (.one 1) [1] (sAny (sVar 0)) (sYes) (sBin oIn (sVar 1) (sC (.str [97, 98, 99, 100, 101, 102, 103, 104, 105, 106, 107, 108, 109, 110, 111, 112, 113, 114, 115, 116, 117, 118, 119, 120, 121, 122])))])))) (sRet (sC (.bl false))) (sNil)) (sRet (sBin oEq (sCallB oLen [sVar 0]) (sLenSet (sVar 0))))
def fn_is_letters : Fn := runF 1 2 g_is_letters
theorem sc_is_letters : FnScope ["value", "char"] ["value"] (defScope s_is_letters) := ⟨rfl, rfl, rfl, by decide +kernel, rfl, by decide +kernel, by decide +kernel⟩
theorem ok_is_letters {P : Program} {w : World} {K : PySem.W.Frag} {mg : Str → Option Value} {base : Heap} (Z : Facts K mg) {fd : FuncData} (F : FnP K "is_letters" s_is_letters (He.ga K "is_letters") fd) : FnOk P w K mg base (L2.CX P w) 1 (He.ga K "is_letters") fd ["value"] (spF ⟨P, w, K⟩ 1 fn_is_letters) := by
  have nd := sc_is_letters.nd
  exact fn_ok F sc_is_letters fun cdv A outer s H E hr => (sss_cons (ss_if (st_w (sw_or (st_not (st_val (se_callB call_isi os_isi rfl (m_isinstance Z) b_isi (sa_cons (se_var (pv 0)) (sa_cons (se_ty rfl (m_str Z) b_str) sa_nil))))) (sw_or (st_not (st_chain ho_le os_le ho_le os_le se_int (se_callB call_len os_len rfl (m_len Z) b_len (sa_cons (se_var (pv 0)) sa_nil)) se_int)) (sw_one' (st_not (st_val (se_callB (cr_all rfl) os_all rfl (m_all Z) b_all (sa_cons (se_lc rfl nd (si_any (se_var (pv 0))) (blkOk_by (own := [("char", 1)]) (by kernel_rfl)) (fun _ _ _ _ _ => (pg_name (i := 1) nd rfl (by first | exact .inl rfl | exact .inr rfl))) (fun _ _ _ _ _ => sts_nil) (fun _ _ _ _ _ => (se_cmp (ho_in (u65 hr)) os_in (se_var (pv 1)) (se_gstr rfl (m_LETTERS Z) (by decide +kernel)) (by with_unfolding_all rfl))) rfl (by decide)) sa_nil)))))))) (sss_one (ss_ret se_bl)) sss_nil) (sss_one (ss_ret (se_cmp (ho_eq (u64 hr)) os_eq (se_callB call_len os_len rfl (m_len Z) b_len (sa_cons (se_var (pv 0)) sa_nil)) (se_lenSet rfl rfl (m_len Z) rfl (m_set Z) (se_var (pv 0))) (nomark _)))))
/-! ### updated -/
def g_updated : SF := sSeq (sPar [4, 5] [sBin oAdd (sVar 1) (sVar 2), sBin oAdd (sLst [sC (.int 0)]) (sCallB oListOf [sVar 3])]) (sSeq (sFor (.many [6, 7]) (sAny (sVar 0)) (sIfS (sMeth "str" oEnds (sVar 4) [sVar 6]) (sFor (.many [8, 9]) (sEnum [sRev (sVar 7)]) (sIfS (sBin oLt (sVar 8) (sCallB oLen [sVar 5])) (sSetL 5 (sVar 8) (sCallB oMax [sBin oIx (sVar 5) (sVar 8), sVar 9])) (sNil))) (sNil))) (sRet (sTup [sVar 4, sVar 5])))
def fn_updated : Fn := runF 4 10 g_updated
theorem sc_updated : FnScope ["parts", "end", "char", "known", "text", "new", "chars", "digits", "at", "digit"] ["parts", "end", "char", "known"] (defScope s_updated) := ⟨rfl, rfl, rfl, by decide +kernel, rfl, by decide +kernel, by decide +kernel⟩
theorem ok_updated {P : Program} {w : World} {K : PySem.W.Frag} {mg : Str → Option Value} {base : Heap} (Z : Facts K mg) {fd : FuncData} (F : FnP K "updated" s_updated (He.ga K "updated") fd) : FnOk P w K mg base (L2.CX P w) 1 (He.ga K "updated") fd ["parts", "end", "char", "known"] (spF ⟨P, w, K⟩ 4 fn_updated) := by
  have nd := sc_updated.nd
  exact fn_ok F sc_updated fun cdv A outer s H E hr => (sss_cons (ss_par2 rfl nd rfl rfl (by decide) rfl rfl (sa_cons (se_eun (se_bin ho_add os_add (se_var (pv 1)) (se_var (pv 2)))) (sa_cons (se_eun (se_bin ho_add os_add (se_lst (sa_cons (se_esh se_int) sa_nil)) (se_callTy call_list_of os_listOf rfl (m_list Z) b_list (sa_cons (se_var (pv 3)) sa_nil)))) sa_nil)) rfl) (sss_cons (ss_for (t := (.many [6, 7])) (passes_of rfl) rfl (si_any (se_var (pv 0))) (pg_tup rfl (pgs_cons (pg_name (i := 6) nd rfl (by first | exact .inl rfl | exact .inr rfl)) (pgs_cons (pg_name (i := 7) nd rfl (by first | exact .inl rfl | exact .inr rfl)) pgs_nil))) (sss_one (ss_if (st_val (se_bm PySem.F.plainAttrs_str PySem.F.slot_str_endswith PySem.F.type_str_endswith mt_endswith os_ends (se_var (pv 4)) (sa_cons (se_var (pv 6)) sa_nil))) (sss_one (ss_for (t := (.many [8, 9])) (passes_of rfl) rfl (si_enum rfl (m_enumerate Z) (sa_cons (se_esh (se_rev (se_var (pv 7)))) sa_nil)) (pg_tup rfl (pgs_cons (pg_name (i := 8) nd rfl (by first | exact .inl rfl | exact .inr rfl)) (pgs_cons (pg_name (i := 9) nd rfl (by first | exact .inl rfl | exact .inr rfl)) pgs_nil))) (sss_one (ss_if (st_cmp ho_lt os_lt (se_var (pv 8)) (se_callB call_len os_len rfl (m_len Z) b_len (sa_cons (se_var (pv 5)) sa_nil)) (nomark _)) (sss_one (ss_setL (pv 5) (se_var (pv 8)) (se_callB (hc_max rfl) os_max rfl (m_max Z) b_max (sa_cons (se_ix ho_ix os_ix (se_var (pv 5)) (se_var (pv 8)) (fun _ _ => rfl)) (sa_cons (se_var (pv 9)) sa_nil))))) sss_nil)))) sss_nil))) (sss_one (ss_ret (se_tup (sa_cons (se_esh (se_var (pv 4))) (sa_cons (se_esh (se_var (pv 5))) sa_nil)))))))
/-! ### is_broken -/
def g_is_broken : SF := sSeq (sUnp [4, 5, 6] (sVar 0)) (sSeq (sFor (.many [7, 8]) (sEnum [sVar 1]) (sSeq (sAsg 9 (sIf (sVar 3) (sBin oSub (sVar 7) (sC (.int 1))) (sVar 7))) (sIfS (sAnd (sBin oEq (sBin oMod (sVar 8) (sC (.int 2))) (sC (.int 1))) (sAnd (sBin oGe (sBin oSub (sVar 2) (sVar 9)) (sVar 5)) (sBin oGe (sVar 9) (sVar 6)))) (sRet (sC (.bl true))) (sNil)))) (sRet (sC (.bl false))))
def fn_is_broken : Fn := runF 4 10 g_is_broken
theorem sc_is_broken : FnScope ["rules", "known", "size", "finished", "patterns", "left", "right", "at", "level", "behind"] ["rules", "known", "size", "finished"] (defScope s_is_broken) := ⟨rfl, rfl, rfl, by decide +kernel, rfl, by decide +kernel, by decide +kernel⟩
theorem ok_is_broken {P : Program} {w : World} {K : PySem.W.Frag} {mg : Str → Option Value} {base : Heap} (Z : Facts K mg) {fd : FuncData} (F : FnP K "is_broken" s_is_broken (He.ga K "is_broken") fd) : FnOk P w K mg base (L2.CX P w) 1 (He.ga K "is_broken") fd ["rules", "known", "size", "finished"] (spF ⟨P, w, K⟩ 4 fn_is_broken) := by
  have nd := sc_is_broken.nd
  exact fn_ok F sc_is_broken fun cdv A outer s H E hr => (sss_cons (ss_unp rfl (pgs_cons (pg_name (i := 4) nd rfl (by first | exact .inl rfl | exact .inr rfl)) (pgs_cons (pg_name (i := 5) nd rfl (by first | exact .inl rfl | exact .inr rfl)) (pgs_cons (pg_name (i := 6) nd rfl (by first | exact .inl rfl | exact .inr rfl)) pgs_nil))) (se_var (pv 0))) (sss_cons (ss_for (t := (.many [7, 8])) (passes_of rfl) rfl (si_enum rfl (m_enumerate Z) (sa_cons (se_esh (se_var (pv 1))) sa_nil)) (pg_tup rfl (pgs_cons (pg_name (i := 7) nd rfl (by first | exact .inl rfl | exact .inr rfl)) (pgs_cons (pg_name (i := 8) nd rfl (by first | exact .inl rfl | exact .inr rfl)) pgs_nil))) (sss_cons (ss_asg (i := 9) nd rfl (by first | exact .inl rfl | exact .inr rfl) (se_if (st_val (se_var (pv 3))) (se_bin ho_sub os_sub (se_var (pv 7)) se_int) (se_var (pv 7)))) (sss_one (ss_if (st_w (sw_and (st_cmp (ho_eq (u64 hr)) os_eq (se_bin ho_mod os_mod (se_var (pv 8)) se_int) se_int (nomark _)) (sw_and (st_cmp ho_ge os_ge (se_bin ho_sub os_sub (se_var (pv 2)) (se_var (pv 9))) (se_var (pv 5)) (nomark _)) (sw_one (st_cmp ho_ge os_ge (se_var (pv 9)) (se_var (pv 6)) (nomark _)))))) (sss_one (ss_ret se_bl)) sss_nil)))) (sss_one (ss_ret se_bl))))
/-! ### useful_end -/
def g_useful_end : SF := sSeq (whileN (sBin (oInK true) (sVar 1) (sVar 0)) (sAsg 1 (sSl oSl (sVar 1) (some (sC (.int 1))) none)) 16000000) (sRet (sVar 1))
def fn_useful_end : Fn := runF 2 2 g_useful_end
theorem sc_useful_end : FnScope ["begins", "text"] ["begins", "text"] (defScope s_useful_end) := ⟨rfl, rfl, rfl, by decide +kernel, rfl, by decide +kernel, by decide +kernel⟩
theorem ok_useful_end {P : Program} {w : World} {K : PySem.W.Frag} {mg : Str → Option Value} {base : Heap} (Z : Facts K mg) {fd : FuncData} (F : FnP K "useful_end" s_useful_end (He.ga K "useful_end") fd) : FnOk P w K mg base (L2.CX P w) 1 (He.ga K "useful_end") fd ["begins", "text"] (spF ⟨P, w, K⟩ 2 fn_useful_end) := by
  have nd := sc_useful_end.nd
  exact fn_ok F sc_useful_end fun cdv A outer s H E hr => (sss_cons (ss_while (passes_of rfl) (st_cmp (op_knotin (u16 hr)) (os_inK true) (se_var (pv 1)) (se_var (pv 0)) (by with_unfolding_all rfl)) (sss_one (ss_asg (i := 1) nd rfl (by first | exact .inl rfl | exact .inr rfl) (se_sl ho_sl os_sl (se_var (pv 1)) (so_some se_int) so_none)))) (sss_one (ss_ret (se_var (pv 1)))))
/-! ### followed -/
def g_followed : SF := sSeq (sUnp [6, 7] (sVar 2)) (sSeq (sAsg 8 (sDct0 [.non])) (sSeq (sFor (.many [9, 10]) (sKeysN (sVar 3)) (sFor (.one 11) (sAny (sVar 4)) (sSeq (sUnp [12, 13] (sCall fn_updated [esh (sVar 1), esh (sVar 9), esh (sVar 11), esh (sVar 10)])) (sSeq (sAsg 14 (sLC (.many [16, 17]) [16, 17] (sEnum [sVar 13]) (sYes) (sIf (sBin oGe (sVar 16) (sVar 7)) (sVar 17) (sC (.int 0))))) (sIfS (sNot (sCall fn_is_broken [esh (sVar 0), esh (sVar 14), esh (sVar 5), esh (sC (.bl false))])) (sSeq (sAsg 15 (sTup [sCall fn_useful_end [esh (sVar 6), esh (sVar 12)], sCallB oTupleOf [sSl oSl (sVar 13) none (some (sVar 7))]])) (sSetD stN 8 (sVar 15) (sBin oAdd (sGetN (sVar 8) (sVar 15) (sC (.int 0))) (sBin oIxN (sVar 3) (sTup [sVar 9, sVar 10]))))) (sNil)))))) (sRet (sVar 8))))
def fn_followed : Fn := runF 6 18 g_followed
theorem sc_followed : FnScope ["rules", "parts", "bounds", "states", "letters", "number", "begins", "reach", "found", "end", "known", "letter", "text", "new", "settled", "key", "at", "level"] ["rules", "parts", "bounds", "states", "letters", "number"] (defScope s_followed) := ⟨rfl, rfl, rfl, by decide +kernel, rfl, by decide +kernel, by decide +kernel⟩
theorem ok_followed {P : Program} {w : World} {K : PySem.W.Frag} {mg : Str → Option Value} {base : Heap} (Z : Facts K mg) {fd : FuncData} (F : FnP K "followed" s_followed (He.ga K "followed") fd) : FnOk P w K mg base (L2.CX P w) 2 (He.ga K "followed") fd ["rules", "parts", "bounds", "states", "letters", "number"] (spF ⟨P, w, K⟩ 6 fn_followed) := by
  obtain ⟨fd_updated, F_updated⟩ := Z.c.def_ 7 (d := d_updated) rfl
  have F_updated : FnP K "updated" s_updated (He.ga K "updated") fd_updated := F_updated
  have ok_updated' : FnOk P w K mg base (L2.CX P w) 1 (He.ga K "updated") fd_updated ["parts", "end", "char", "known"] (spF ⟨P, w, K⟩ 4 fn_updated) := ok_updated Z F_updated
  have b_updated : Binds K fd_updated ["parts", "end", "char", "known"] [] := F_updated.bindsN fun _ _ _ _ _ _ us hl => match us, hl with | [_, _, _, _], _ => rfl
  obtain ⟨fd_is_broken, F_is_broken⟩ := Z.c.def_ 9 (d := d_is_broken) rfl
  have F_is_broken : FnP K "is_broken" s_is_broken (He.ga K "is_broken") fd_is_broken := F_is_broken
  have ok_is_broken' : FnOk P w K mg base (L2.CX P w) 1 (He.ga K "is_broken") fd_is_broken ["rules", "known", "size", "finished"] (spF ⟨P, w, K⟩ 4 fn_is_broken) := ok_is_broken Z F_is_broken
  have b_is_broken : Binds K fd_is_broken ["rules", "known", "size", "finished"] [] := F_is_broken.bindsN fun _ _ _ _ _ _ us hl => match us, hl with | [_, _, _, _], _ => rfl
  obtain ⟨fd_useful_end, F_useful_end⟩ := Z.c.def_ 8 (d := d_useful_end) rfl
  have F_useful_end : FnP K "useful_end" s_useful_end (He.ga K "useful_end") fd_useful_end := F_useful_end
  have ok_useful_end' : FnOk P w K mg base (L2.CX P w) 1 (He.ga K "useful_end") fd_useful_end ["begins", "text"] (spF ⟨P, w, K⟩ 2 fn_useful_end) := ok_useful_end Z F_useful_end
  have b_useful_end : Binds K fd_useful_end ["begins", "text"] [] := F_useful_end.bindsN fun _ _ _ _ _ _ us hl => match us, hl with | [_, _], _ => rfl
  have nd := sc_followed.nd
  exact fn_ok F sc_followed fun cdv A outer s H E hr => (sss_cons (ss_unp rfl (pgs_cons (pg_name (i := 6) nd rfl (by first | exact .inl rfl | exact .inr rfl)) (pgs_cons (pg_name (i := 7) nd rfl (by first | exact .inl rfl | exact .inr rfl)) pgs_nil)) (se_var (pv 2))) (sss_cons (ss_asg (i := 8) nd rfl (by first | exact .inl rfl | exact .inr rfl) se_dct0N) (sss_cons (ss_for (t := (.many [9, 10])) (passes_of rfl) rfl (si_keysN (se_var (pv 3))) (pg_tup rfl (pgs_cons (pg_name (i := 9) nd rfl (by first | exact .inl rfl | exact .inr rfl)) (pgs_cons (pg_name (i := 10) nd rfl (by first | exact .inl rfl | exact .inr rfl)) pgs_nil))) (sss_one (ss_for (t := (.one 11)) (passes_of rfl) rfl (si_any (se_var (pv 4))) (pg_name (i := 11) nd rfl (by first | exact .inl rfl | exact .inr rfl)) (sss_cons (ss_unp rfl (pgs_cons (pg_name (i := 12) nd rfl (by first | exact .inl rfl | exact .inr rfl)) (pgs_cons (pg_name (i := 13) nd rfl (by first | exact .inl rfl | exact .inr rfl)) pgs_nil)) (se_call ok_updated' runF_len (hr.mono (by decide)) rfl (m_updated Z) F_updated.kp b_updated (takes_of rfl rfl rfl rfl) (sa_cons (se_esh (se_var (pv 1))) (sa_cons (se_esh (se_var (pv 9))) (sa_cons (se_esh (se_var (pv 11))) (sa_cons (se_esh (se_var (pv 10))) sa_nil)))))) (sss_cons (ss_setLc rfl nd rfl rfl rfl (si_enum rfl (m_enumerate Z) (sa_cons (se_esh (se_var (pv 13))) sa_nil)) (blkOk_by (own := [("at", 16), ("level", 17)]) (by kernel_rfl)) (fun _ _ _ _ _ => (pg_tup rfl (pgs_cons (pg_name (i := 16) nd rfl (by first | exact .inl rfl | exact .inr rfl)) (pgs_cons (pg_name (i := 17) nd rfl (by first | exact .inl rfl | exact .inr rfl)) pgs_nil)))) (fun _ _ _ _ _ => sts_nil) (fun _ _ _ _ _ => (se_if (st_cmp ho_ge os_ge (se_var (pv 16)) (se_var (pv 7)) (nomark _)) (se_var (pv 17)) se_int)) rfl (by decide)) (sss_one (ss_if (st_not (st_val (se_call ok_is_broken' runF_len (hr.mono (by decide)) rfl (m_is_broken Z) F_is_broken.kp b_is_broken (takes_of rfl rfl rfl rfl) (sa_cons (se_esh (se_var (pv 0))) (sa_cons (se_esh (se_var (pv 14))) (sa_cons (se_esh (se_var (pv 5))) (sa_cons (se_esh se_bl) sa_nil))))))) (sss_cons (ss_asg (i := 15) nd rfl (by first | exact .inl rfl | exact .inr rfl) (se_tup (sa_cons (se_esh (se_call ok_useful_end' runF_len (hr.mono (by decide)) rfl (m_useful_end Z) F_useful_end.kp b_useful_end (takes_of rfl rfl rfl rfl) (sa_cons (se_esh (se_var (pv 6))) (sa_cons (se_esh (se_var (pv 12))) sa_nil)))) (sa_cons (se_esh (se_callTy call_tuple_of os_tupleOf rfl (m_tuple Z) b_tuple (sa_cons (se_sl ho_sl os_sl (se_var (pv 13)) so_none (so_some (se_var (pv 7)))) sa_nil))) sa_nil)))) (sss_one (ss_setD (set_n (u16 hr)) st_n (pv 8) (se_var (pv 15)) (se_bin ho_add os_add (se_getN (u16 hr) (se_var (pv 8)) (se_var (pv 15)) se_int ⟨rfl, rfl, rfl, rfl⟩) (se_ix (ix_n (u16 hr)) os_ixN (se_var (pv 3)) (se_tup (sa_cons (se_esh (se_var (pv 9))) (sa_cons (se_esh (se_var (pv 10))) sa_nil))) (fun _ _ => rfl)))))) sss_nil))))))) (sss_one (ss_ret (se_var (pv 8)))))))
/-! ### digits_of -/
def g_digits_of : SF := sSeq (sAsg 1 (sLst [sC (.int 0)])) (sSeq (sFor (.one 2) (sAny (sVar 0)) (sIfS (sBin oIn (sVar 2) (sC (.str [49, 50, 51, 52, 53, 54, 55, 56, 57]))) (sSetL 1 (sUn oNeg (sC (.int 1))) (sCallB oInt [sVar 2])) (sExpr (sMutS 1 oAppend [sC (.int 0)])))) (sRet (sVar 1)))
def fn_digits_of : Fn := runF 1 3 g_digits_of
theorem sc_digits_of : FnScope ["pattern", "result", "char"] ["pattern"] (defScope s_digits_of) := ⟨rfl, rfl, rfl, by decide +kernel, rfl, by decide +kernel, by decide +kernel⟩
theorem ok_digits_of {P : Program} {w : World} {K : PySem.W.Frag} {mg : Str → Option Value} {base : Heap} (Z : Facts K mg) {fd : FuncData} (F : FnP K "digits_of" s_digits_of (He.ga K "digits_of") fd) : FnOk P w K mg base (L2.CX P w) 1 (He.ga K "digits_of") fd ["pattern"] (spF ⟨P, w, K⟩ 1 fn_digits_of) := by
  have nd := sc_digits_of.nd
  exact fn_ok F sc_digits_of fun cdv A outer s H E hr => (sss_cons (ss_asg (i := 1) nd rfl (by first | exact .inl rfl | exact .inr rfl) (se_lst (sa_cons (se_esh se_int) sa_nil))) (sss_cons (ss_for (t := (.one 2)) (passes_of rfl) rfl (si_any (se_var (pv 0))) (pg_name (i := 2) nd rfl (by first | exact .inl rfl | exact .inr rfl)) (sss_one (ss_if (st_cmp (ho_in (u65 hr)) os_in (se_var (pv 2)) (se_gstr rfl (m_DIGITS Z) (by decide +kernel)) (by with_unfolding_all rfl)) (sss_one (ss_setL (pv 1) (se_un ho_neg os_neg se_int) (se_callTy call_int_str os_int rfl (m_int Z) b_int (sa_cons (se_var (pv 2)) sa_nil)))) (sss_one (ss_expr (se_mutS PySem.F.slot_list_append PySem.F.type_list_append mt_append m_append (pv 1) (sa_cons (se_esh se_int) sa_nil))))))) (sss_one (ss_ret (se_var (pv 1))))))
/-! ### count -/
def g_count : SF := sSeq (sExpr (sCall fn_need_rules [esh (sVar 0)])) (sSeq (sIfS (sNot (sCall fn_is_letters [esh (sVar 1)])) (sRaise "InvalidLetters") (sNil)) (sSeq (sIfS (sNot (sCall fn_is_count [esh (sVar 2), esh (sC (.int 1)), esh (sC (.int 12))])) (sRaise "InvalidSize") (sNil)) (sSeq (sAsg 3 (sLC (.one 16) [16] (sAny (sBin oIx (sVar 0) (sC (.int 0)))) (sYes) (sTup [sCall fn_chars_of [esh (sVar 16)], sCall fn_digits_of [esh (sVar 16)]]))) (sSeq (sAsg 4 (sBin oAdd (sCallB oMax [sBin oAdd (sLC (.many [6, 7]) [6, 7] (sAny (sVar 3)) (sYes) (sCallB oLen [sVar 6])) (sLst [sBin oIx (sVar 0) (sC (.int 2))])]) (sC (.int 1)))) (sSeq (sAsg 5 (sDct1K (sC (.str [])) (sC (.bl true)))) (sSeq (sFor (.many [6, 7]) (sAny (sVar 3)) (sFor (.one 8) (sRange1 (sBin oAdd (sCallB oLen [sVar 6]) (sC (.int 1)))) (sSetD stK 5 (sSl oSl (sVar 6) none (some (sVar 8))) (sC (.bl true))))) (sSeq (sAsg 9 (sDct1 (sTup [sCall fn_useful_end [esh (sVar 5), esh (sC (.str [46]))], sTup [sC (.int 0)]]) (sC (.int 1)))) (sSeq (sFor (.one 10) (sRange2 (sC (.int 1)) (sBin oAdd (sVar 2) (sC (.int 1)))) (sAsg 9 (sCall fn_followed [esh (sVar 0), esh (sVar 3), esh (sTup [sVar 5, sVar 4]), esh (sVar 9), esh (sVar 1), esh (sVar 10)]))) (sSeq (sAsg 11 (sC (.int 0))) (sSeq (sFor (.many [12, 13]) (sKeysN (sVar 9)) (sSeq (sUnp [14, 15] (sCall fn_updated [esh (sVar 3), esh (sVar 12), esh (sC (.str [46])), esh (sVar 13)])) (sIfS (sNot (sCall fn_is_broken [esh (sVar 0), esh (sVar 15), esh (sVar 2), esh (sC (.bl true))])) (sAug 11 (fun a b => a + b) (sBin oIxN (sVar 9) (sTup [sVar 12, sVar 13]))) (sNil)))) (sRet (sVar 11))))))))))))
def fn_count : Fn := runF 3 17 g_count
theorem sc_count : FnScope ["rules", "letters", "size", "parts", "reach", "begins", "chars", "digits", "length", "states", "number", "total", "end", "known", "text", "new", "pattern"] ["rules", "letters", "size"] (defScope s_count) := ⟨rfl, rfl, rfl, by decide +kernel, rfl, by decide +kernel, by decide +kernel⟩
theorem ok_count {P : Program} {w : World} {K : PySem.W.Frag} {mg : Str → Option Value} {base : Heap} (Z : Facts K mg) {fd : FuncData} (F : FnP K "count" s_count (He.ga K "count") fd) : FnOk P w K mg base (L2.CX P w) 5 (He.ga K "count") fd ["rules", "letters", "size"] (spF ⟨P, w, K⟩ 3 fn_count) := by
  obtain ⟨fd_need_rules, F_need_rules⟩ := Z.c.def_ 5 (d := d_need_rules) rfl
  have F_need_rules : FnP K "need_rules" s_need_rules (He.ga K "need_rules") fd_need_rules := F_need_rules
  have ok_need_rules' : FnOk P w K mg base (L2.CX P w) 4 (He.ga K "need_rules") fd_need_rules ["value"] (spF ⟨P, w, K⟩ 1 fn_need_rules) := ok_need_rules Z F_need_rules
  have b_need_rules : Binds K fd_need_rules ["value"] [] := F_need_rules.bindsN fun _ _ _ _ _ _ us hl => match us, hl with | [_], _ => rfl
  obtain ⟨fd_is_letters, F_is_letters⟩ := Z.c.def_ 6 (d := d_is_letters) rfl
  have F_is_letters : FnP K "is_letters" s_is_letters (He.ga K "is_letters") fd_is_letters := F_is_letters
  have ok_is_letters' : FnOk P w K mg base (L2.CX P w) 1 (He.ga K "is_letters") fd_is_letters ["value"] (spF ⟨P, w, K⟩ 1 fn_is_letters) := ok_is_letters Z F_is_letters
  have b_is_letters : Binds K fd_is_letters ["value"] [] := F_is_letters.bindsN fun _ _ _ _ _ _ us hl => match us, hl with | [_], _ => rfl
  obtain ⟨fd_is_count, F_is_count⟩ := Z.c.def_ 0 (d := d_is_count) rfl
  have F_is_count : FnP K "is_count" s_is_count (He.ga K "is_count") fd_is_count := F_is_count
  have ok_is_count' : FnOk P w K mg base (L2.CX P w) 1 (He.ga K "is_count") fd_is_count ["value", "least", "most"] (spF ⟨P, w, K⟩ 3 fn_is_count) := ok_is_count Z F_is_count
  have b_is_count : Binds K fd_is_count ["value", "least", "most"] [] := F_is_count.bindsN fun _ _ _ _ _ _ us hl => match us, hl with | [_, _, _], _ => rfl
  obtain ⟨fd_chars_of, F_chars_of⟩ := Z.c.def_ 1 (d := d_chars_of) rfl
  have F_chars_of : FnP K "chars_of" s_chars_of (He.ga K "chars_of") fd_chars_of := F_chars_of
  have ok_chars_of' : FnOk P w K mg base (L2.CX P w) 1 (He.ga K "chars_of") fd_chars_of ["pattern"] (spF ⟨P, w, K⟩ 1 fn_chars_of) := ok_chars_of Z F_chars_of
  have b_chars_of : Binds K fd_chars_of ["pattern"] [] := F_chars_of.bindsN fun _ _ _ _ _ _ us hl => match us, hl with | [_], _ => rfl
  obtain ⟨fd_digits_of, F_digits_of⟩ := Z.c.def_ 2 (d := d_digits_of) rfl
  have F_digits_of : FnP K "digits_of" s_digits_of (He.ga K "digits_of") fd_digits_of := F_digits_of
  have ok_digits_of' : FnOk P w K mg base (L2.CX P w) 1 (He.ga K "digits_of") fd_digits_of ["pattern"] (spF ⟨P, w, K⟩ 1 fn_digits_of) := ok_digits_of Z F_digits_of
  have b_digits_of : Binds K fd_digits_of ["pattern"] [] := F_digits_of.bindsN fun _ _ _ _ _ _ us hl => match us, hl with | [_], _ => rfl
  obtain ⟨fd_useful_end, F_useful_end⟩ := Z.c.def_ 8 (d := d_useful_end) rfl
  have F_useful_end : FnP K "useful_end" s_useful_end (He.ga K "useful_end") fd_useful_end := F_useful_end
  have ok_useful_end' : FnOk P w K mg base (L2.CX P w) 1 (He.ga K "useful_end") fd_useful_end ["begins", "text"] (spF ⟨P, w, K⟩ 2 fn_useful_end) := ok_useful_end Z F_useful_end
  have b_useful_end : Binds K fd_useful_end ["begins", "text"] [] := F_useful_end.bindsN fun _ _ _ _ _ _ us hl => match us, hl with | [_, _], _ => rfl
  obtain ⟨fd_followed, F_followed⟩ := Z.c.def_ 11 (d := d_followed) rfl
  have F_followed : FnP K "followed" s_followed (He.ga K "followed") fd_followed := F_followed
  have ok_followed' : FnOk P w K mg base (L2.CX P w) 2 (He.ga K "followed") fd_followed ["rules", "parts", "bounds", "states", "letters", "number"] (spF ⟨P, w, K⟩ 6 fn_followed) := ok_followed Z F_followed
  have b_followed : Binds K fd_followed ["rules", "parts", "bounds", "states", "letters", "number"] [] := F_followed.bindsN fun _ _ _ _ _ _ us hl => match us, hl with | [_, _, _, _, _, _], _ => rfl
  obtain ⟨fd_updated, F_updated⟩ := Z.c.def_ 7 (d := d_updated) rfl
  have F_updated : FnP K "updated" s_updated (He.ga K "updated") fd_updated := F_updated
  have ok_updated' : FnOk P w K mg base (L2.CX P w) 1 (He.ga K "updated") fd_updated ["parts", "end", "char", "known"] (spF ⟨P, w, K⟩ 4 fn_updated) := ok_updated Z F_updated
  have b_updated : Binds K fd_updated ["parts", "end", "char", "known"] [] := F_updated.bindsN fun _ _ _ _ _ _ us hl => match us, hl with | [_, _, _, _], _ => rfl
  obtain ⟨fd_is_broken, F_is_broken⟩ := Z.c.def_ 9 (d := d_is_broken) rfl
  have F_is_broken : FnP K "is_broken" s_is_broken (He.ga K "is_broken") fd_is_broken := F_is_broken
  have ok_is_broken' : FnOk P w K mg base (L2.CX P w) 1 (He.ga K "is_broken") fd_is_broken ["rules", "known", "size", "finished"] (spF ⟨P, w, K⟩ 4 fn_is_broken) := ok_is_broken Z F_is_broken
  have b_is_broken : Binds K fd_is_broken ["rules", "known", "size", "finished"] [] := F_is_broken.bindsN fun _ _ _ _ _ _ us hl => match us, hl with | [_, _, _, _], _ => rfl
  have nd := sc_count.nd
  exact fn_ok F sc_count fun cdv A outer s H E hr => (sss_cons (ss_expr (se_call ok_need_rules' runF_len (hr.mono (by decide)) rfl (m_need_rules Z) F_need_rules.kp b_need_rules (takes_of rfl rfl rfl rfl) (sa_cons (se_esh (se_var (pv 0))) sa_nil))) (sss_cons (ss_if (st_not (st_val (se_call ok_is_letters' runF_len (hr.mono (by decide)) rfl (m_is_letters Z) F_is_letters.kp b_is_letters (takes_of rfl rfl rfl rfl) (sa_cons (se_esh (se_var (pv 1))) sa_nil)))) (sss_one (ss_raise rfl (takes_of rfl rfl rfl rfl) (x_InvalidLetters Z) (m_InvalidLetters Z) rfl)) sss_nil) (sss_cons (ss_if (st_not (st_val (se_call ok_is_count' runF_len (hr.mono (by decide)) rfl (m_is_count Z) F_is_count.kp b_is_count (takes_of rfl rfl rfl rfl) (sa_cons (se_esh (se_var (pv 2))) (sa_cons (se_esh se_int) (sa_cons (se_esh (se_gint rfl (m_SIZE Z))) sa_nil)))))) (sss_one (ss_raise rfl (takes_of rfl rfl rfl rfl) (x_InvalidSize Z) (m_InvalidSize Z) rfl)) sss_nil) (sss_cons (ss_setLc rfl nd rfl rfl rfl (si_any (se_ix ho_ix os_ix (se_var (pv 0)) se_int (fun _ _ => rfl))) (blkOk_by (own := [("pattern", 16)]) (by kernel_rfl)) (fun _ _ _ _ _ => (pg_name (i := 16) nd rfl (by first | exact .inl rfl | exact .inr rfl))) (fun _ _ _ _ _ => sts_nil) (fun _ _ _ _ _ => (se_tup (sa_cons (se_esh (se_call ok_chars_of' runF_len (hr.mono (by decide)) rfl (m_chars_of Z) F_chars_of.kp b_chars_of takes0 (sa_cons (se_esh (se_var (pv 16))) sa_nil))) (sa_cons (se_esh (se_call ok_digits_of' runF_len (hr.mono (by decide)) rfl (m_digits_of Z) F_digits_of.kp b_digits_of takes0 (sa_cons (se_esh (se_var (pv 16))) sa_nil))) sa_nil)))) rfl (by decide)) (sss_cons (ss_asg (i := 4) nd rfl (by first | exact .inl rfl | exact .inr rfl) (se_bin ho_add os_add (se_callB (hc_max rfl) os_max rfl (m_max Z) b_max (sa_cons (se_bin ho_add os_add (se_lc rfl nd (si_any (se_var (pv 3))) (blkOk_by (own := [("chars", 6), ("digits", 7)]) (by kernel_rfl)) (fun _ _ _ _ _ => (pg_tup rfl (pgs_cons (pg_name (i := 6) nd rfl (by first | exact .inl rfl | exact .inr rfl)) (pgs_cons (pg_name (i := 7) nd rfl (by first | exact .inl rfl | exact .inr rfl)) pgs_nil)))) (fun _ _ _ _ _ => sts_nil) (fun _ _ _ _ _ => (se_callB call_len os_len rfl (m_len Z) b_len (sa_cons (se_var (pv 6)) sa_nil))) rfl (by decide)) (se_lst (sa_cons (se_esh (se_ix ho_ix os_ix (se_var (pv 0)) se_int (fun _ _ => rfl))) sa_nil))) sa_nil)) se_int)) (sss_cons (ss_asg (i := 5) nd rfl (by first | exact .inl rfl | exact .inr rfl) (se_dct1K (se_str (by decide +kernel)) se_bl)) (sss_cons (ss_for (t := (.many [6, 7])) (passes_of rfl) rfl (si_any (se_var (pv 3))) (pg_tup rfl (pgs_cons (pg_name (i := 6) nd rfl (by first | exact .inl rfl | exact .inr rfl)) (pgs_cons (pg_name (i := 7) nd rfl (by first | exact .inl rfl | exact .inr rfl)) pgs_nil))) (sss_one (ss_for (t := (.one 8)) (passes_of rfl) rfl (si_range1 rfl (m_range Z) (sa_cons (se_bin ho_add os_add (se_callB call_len os_len rfl (m_len Z) b_len (sa_cons (se_var (pv 6)) sa_nil)) se_int) sa_nil)) (pg_name (i := 8) nd rfl (by first | exact .inl rfl | exact .inr rfl)) (sss_one (ss_setD (set_k (u16 hr)) st_k (pv 5) (se_sl ho_sl os_sl (se_var (pv 6)) so_none (so_some (se_var (pv 8)))) se_bl))))) (sss_cons (ss_asg (i := 9) nd rfl (by first | exact .inl rfl | exact .inr rfl) (se_dct1 (u16 hr) (se_tup (sa_cons (se_esh (se_call ok_useful_end' runF_len (hr.mono (by decide)) rfl (m_useful_end Z) F_useful_end.kp b_useful_end (takes_of rfl rfl rfl rfl) (sa_cons (se_esh (se_var (pv 5))) (sa_cons (se_esh (se_str (by decide +kernel))) sa_nil)))) (sa_cons (se_esh (se_tup (sa_cons (se_esh se_int) sa_nil))) sa_nil))) se_int)) (sss_cons (ss_for (t := (.one 10)) (passes_of rfl) rfl (si_range2 rfl (m_range Z) (sa_cons se_int (sa_cons (se_bin ho_add os_add (se_var (pv 2)) se_int) sa_nil))) (pg_name (i := 10) nd rfl (by first | exact .inl rfl | exact .inr rfl)) (sss_one (ss_asg (i := 9) nd rfl (by first | exact .inl rfl | exact .inr rfl) (se_call ok_followed' runF_len (hr.mono (by decide)) rfl (m_followed Z) F_followed.kp b_followed (takes_of rfl rfl rfl rfl) (sa_cons (se_esh (se_var (pv 0))) (sa_cons (se_esh (se_var (pv 3))) (sa_cons (se_esh (se_tup (sa_cons (se_esh (se_var (pv 5))) (sa_cons (se_esh (se_var (pv 4))) sa_nil)))) (sa_cons (se_esh (se_var (pv 9))) (sa_cons (se_esh (se_var (pv 1))) (sa_cons (se_esh (se_var (pv 10))) sa_nil)))))))))) (sss_cons (ss_asg (i := 11) nd rfl (by first | exact .inl rfl | exact .inr rfl) se_int) (sss_cons (ss_for (t := (.many [12, 13])) (passes_of rfl) rfl (si_keysN (se_var (pv 9))) (pg_tup rfl (pgs_cons (pg_name (i := 12) nd rfl (by first | exact .inl rfl | exact .inr rfl)) (pgs_cons (pg_name (i := 13) nd rfl (by first | exact .inl rfl | exact .inr rfl)) pgs_nil))) (sss_cons (ss_unp rfl (pgs_cons (pg_name (i := 14) nd rfl (by first | exact .inl rfl | exact .inr rfl)) (pgs_cons (pg_name (i := 15) nd rfl (by first | exact .inl rfl | exact .inr rfl)) pgs_nil)) (se_call ok_updated' runF_len (hr.mono (by decide)) rfl (m_updated Z) F_updated.kp b_updated (takes_of rfl rfl rfl rfl) (sa_cons (se_esh (se_var (pv 3))) (sa_cons (se_esh (se_var (pv 12))) (sa_cons (se_esh (se_str (by decide +kernel))) (sa_cons (se_esh (se_var (pv 13))) sa_nil)))))) (sss_one (ss_if (st_not (st_val (se_call ok_is_broken' runF_len (hr.mono (by decide)) rfl (m_is_broken Z) F_is_broken.kp b_is_broken (takes_of rfl rfl rfl rfl) (sa_cons (se_esh (se_var (pv 0))) (sa_cons (se_esh (se_var (pv 15))) (sa_cons (se_esh (se_var (pv 2))) (sa_cons (se_esh se_bl) sa_nil))))))) (sss_one (ss_aug nd rfl (by first | exact .inl rfl | exact .inr rfl) (se_ix (ix_n (u16 hr)) os_ixN (se_var (pv 9)) (se_tup (sa_cons (se_esh (se_var (pv 12))) (sa_cons (se_esh (se_var (pv 13))) sa_nil))) (fun _ _ => rfl)) ip_add)) sss_nil)))) (sss_one (ss_ret (se_var (pv 11)))))))))))))))
/-! ### _law_power -/
def g__law_power : SF := sSeq (sAsg 2 (sC (.int 1))) (sSeq (sFor (.one 3) (sRange1 (sVar 1)) (sAsg 2 (sBin oMul (sVar 2) (sVar 0)))) (sRet (sVar 2)))
def fn__law_power : Fn := runF 2 4 g__law_power
theorem sc__law_power : FnScope ["_law_base", "_law_many", "_law_found", "_law_k"] ["_law_base", "_law_many"] (defScope s__law_power) := ⟨rfl, rfl, rfl, by decide +kernel, rfl, by decide +kernel, by decide +kernel⟩
theorem ok__law_power {P : Program} {w : World} {K : PySem.W.Frag} {mg : Str → Option Value} {base : Heap} (Z : Facts K mg) {fd : FuncData} (F : FnP K "_law_power" s__law_power (He.ga K "_law_power") fd) : FnOk P w K mg base (L2.CX P w) 1 (He.ga K "_law_power") fd ["_law_base", "_law_many"] (spF ⟨P, w, K⟩ 2 fn__law_power) := by
  have nd := sc__law_power.nd
  exact fn_ok F sc__law_power fun cdv A outer s H E hr => (sss_cons (ss_asg (i := 2) nd rfl (by first | exact .inl rfl | exact .inr rfl) se_int) (sss_cons (ss_for (t := (.one 3)) (passes_of rfl) rfl (si_range1 rfl (m_range Z) (sa_cons (se_var (pv 1)) sa_nil)) (pg_name (i := 3) nd rfl (by first | exact .inl rfl | exact .inr rfl)) (sss_one (ss_asg (i := 2) nd rfl (by first | exact .inl rfl | exact .inr rfl) (se_bin ho_mul os_mul (se_var (pv 2)) (se_var (pv 0)))))) (sss_one (ss_ret (se_var (pv 2))))))
/-! ### law -/
def g_law : SF := sSeq (sAsg 1 (sLst [sC (.int 0), sC (.int 0)])) (sSeq (sAsg 2 (sSl oSl (sC (.str [97, 98, 99, 100])) none (some (sBin oAdd (sC (.int 1)) (sCall fn__law_draw [esh (sVar 0), sVar 1, esh (sC (.int 4))]))))) (sSeq (sPar [3, 4, 5] [sBin oAdd (sC (.int 1)) (sCall fn__law_draw [esh (sVar 0), sVar 1, esh (sC (.int 4))]), sBin oAdd (sC (.int 1)) (sCall fn__law_draw [esh (sVar 0), sVar 1, esh (sC (.int 4))]), sBin oAdd (sC (.int 1)) (sCall fn__law_draw [esh (sVar 0), sVar 1, esh (sC (.int 12))])]) (sSeq (sPar [6, 7] [sCallB oLen [sVar 2], sCallB oMax [sC (.int 0), sBin oAdd (sBin oSub (sBin oSub (sVar 5) (sVar 4)) (sVar 3)) (sC (.int 1))]]) (sSeq (sAsg 8 (sBin oSub (sVar 5) (sVar 7))) (sSeq (sIfS (sBin oNe (sCall fn_count [esh (sTup [sTup [sC (.str [49, 97])], sVar 3, sVar 4]), esh (sVar 2), esh (sVar 5)]) (sBin oMul (sCall fn__law_power [esh (sVar 6), esh (sVar 8)]) (sCall fn__law_power [esh (sBin oSub (sVar 6) (sC (.int 1))), esh (sVar 7)]))) (sRet (sC (.bl false))) (sNil)) (sSeq (sIfS (sBin oNe (sCall fn_count [esh (sTup [sTup [sC (.str [97, 49])], sVar 3, sVar 4]), esh (sVar 2), esh (sVar 5)]) (sBin oMul (sCall fn__law_power [esh (sVar 6), esh (sVar 8)]) (sCall fn__law_power [esh (sBin oSub (sVar 6) (sC (.int 1))), esh (sVar 7)]))) (sRet (sC (.bl false))) (sNil)) (sSeq (sAsg 9 (sTup [sTup [sC (.str [49, 97]), sC (.str [49, 98])], sVar 3, sVar 4])) (sSeq (sAsg 10 (sIf (sBin oLt (sVar 6) (sC (.int 2))) (sC (.int 0)) (sBin oMul (sCall fn__law_power [esh (sVar 6), esh (sVar 8)]) (sCall fn__law_power [esh (sBin oSub (sVar 6) (sC (.int 2))), esh (sVar 7)])))) (sSeq (sIfS (sAnd (sBin oGt (sVar 6) (sC (.int 1))) (sBin oNe (sCall fn_count [esh (sVar 9), esh (sVar 2), esh (sVar 5)]) (sVar 10))) (sRet (sC (.bl false))) (sNil)) (sSeq (sIfS (sBin oNe (sCall fn_count [esh (sTup [sTup [sC (.str [50, 97]), sC (.str [98, 52])], sVar 3, sVar 4]), esh (sVar 2), esh (sVar 5)]) (sCall fn__law_power [esh (sVar 6), esh (sVar 5)])) (sRet (sC (.bl false))) (sNil)) (sSeq (sIfS (sBin oNe (sCall fn_count [esh (sTup [sTup [sC (.str [49, 120]), sC (.str [121, 49, 122])], sVar 3, sVar 4]), esh (sVar 2), esh (sVar 5)]) (sCall fn__law_power [esh (sVar 6), esh (sVar 5)])) (sRet (sC (.bl false))) (sNil)) (sSeq (sAsg 11 (sCall fn__law_rules [esh (sVar 0), sVar 1, esh (sC (.int 4)), esh (sC (.str [97, 98]))])) (sSeq (sIfS (sBin oGt (sCall fn_count [esh (sVar 11), esh (sVar 2), esh (sVar 5)]) (sCall fn_count [esh (sTup [sBin oIx (sVar 11) (sC (.int 0)), sCallB oMin [sC (.int 4), sBin oAdd (sBin oIx (sVar 11) (sC (.int 1))) (sC (.int 1))], sBin oIx (sVar 11) (sC (.int 2))]), esh (sVar 2), esh (sVar 5)])) (sRet (sC (.bl false))) (sNil)) (sRet (sChain oLe oLe (sCall fn_count [esh (sVar 11), esh (sSl oSl (sC (.str [97, 98])) none (some (sVar 6))), esh (sVar 5)]) (sCall fn_count [esh (sVar 11), esh (sVar 2), esh (sVar 5)]) (sCall fn__law_power [esh (sVar 6), esh (sVar 5)]))))))))))))))))
def fn_law : Fn := runF 1 12 g_law
theorem sc_law : FnScope ["_law_script", "_law_town", "_law_letters", "_law_left", "_law_right", "_law_size", "_law_many", "_law_inner", "_law_free", "_law_both", "_law_due", "_law_rules_here"] ["_law_script"] (defScope s_law) := ⟨rfl, rfl, rfl, by decide +kernel, rfl, by decide +kernel, by decide +kernel⟩
theorem ok_law {P : Program} {w : World} {K : PySem.W.Frag} {mg : Str → Option Value} {base : Heap} (Z : Facts K mg) {fd : FuncData} (F : FnP K "law" s_law (He.ga K "law") fd) : FnOk P w K mg base (L2.CX P w) 6 (He.ga K "law") fd ["_law_script"] (spF ⟨P, w, K⟩ 1 fn_law) := by
  obtain ⟨fd__law_draw, F__law_draw⟩ := Z.c.def_ 12 (d := d__law_draw) rfl
  have F__law_draw : FnP K "_law_draw" s__law_draw (He.ga K "_law_draw") fd__law_draw := F__law_draw
  have ok__law_draw' : FnOk P w K mg base (L2.CX P w) 1 (He.ga K "_law_draw") fd__law_draw ["_law_script", "_law_town", "_law_many"] (spF ⟨P, w, K⟩ 3 fn__law_draw) := ok__law_draw Z F__law_draw
  have b__law_draw : Binds K fd__law_draw ["_law_script", "_law_town", "_law_many"] [] := F__law_draw.bindsN fun _ _ _ _ _ _ us hl => match us, hl with | [_, _, _], _ => rfl
  obtain ⟨fd_count, F_count⟩ := Z.c.def_ 10 (d := d_count) rfl
  have F_count : FnP K "count" s_count (He.ga K "count") fd_count := F_count
  have ok_count' : FnOk P w K mg base (L2.CX P w) 5 (He.ga K "count") fd_count ["rules", "letters", "size"] (spF ⟨P, w, K⟩ 3 fn_count) := ok_count Z F_count
  have b_count : Binds K fd_count ["rules", "letters", "size"] [] := F_count.bindsN fun _ _ _ _ _ _ us hl => match us, hl with | [_, _, _], _ => rfl
  obtain ⟨fd__law_power, F__law_power⟩ := Z.c.def_ 17 (d := d__law_power) rfl
  have F__law_power : FnP K "_law_power" s__law_power (He.ga K "_law_power") fd__law_power := F__law_power
  have ok__law_power' : FnOk P w K mg base (L2.CX P w) 1 (He.ga K "_law_power") fd__law_power ["_law_base", "_law_many"] (spF ⟨P, w, K⟩ 2 fn__law_power) := ok__law_power Z F__law_power
  have b__law_power : Binds K fd__law_power ["_law_base", "_law_many"] [] := F__law_power.bindsN fun _ _ _ _ _ _ us hl => match us, hl with | [_, _], _ => rfl
  obtain ⟨fd__law_rules, F__law_rules⟩ := Z.c.def_ 16 (d := d__law_rules) rfl
  have F__law_rules : FnP K "_law_rules" s__law_rules (He.ga K "_law_rules") fd__law_rules := F__law_rules
  have ok__law_rules' : FnOk P w K mg base (L2.CX P w) 4 (He.ga K "_law_rules") fd__law_rules ["_law_script", "_law_town", "_law_most", "_law_letters"] (spF ⟨P, w, K⟩ 4 fn__law_rules) := ok__law_rules Z F__law_rules
  have b__law_rules : Binds K fd__law_rules ["_law_script", "_law_town", "_law_most", "_law_letters"] [] := F__law_rules.bindsN fun _ _ _ _ _ _ us hl => match us, hl with | [_, _, _, _], _ => rfl
  have nd := sc_law.nd
  exact fn_ok F sc_law fun cdv A outer s H E hr => (sss_cons (ss_asg (i := 1) nd rfl (by first | exact .inl rfl | exact .inr rfl) (se_lst (sa_cons (se_esh se_int) (sa_cons (se_esh se_int) sa_nil)))) (sss_cons (ss_asg (i := 2) nd rfl (by first | exact .inl rfl | exact .inr rfl) (se_sl ho_sl os_sl (se_str (by decide +kernel)) so_none (so_some (se_bin ho_add os_add se_int (se_call ok__law_draw' runF_len (hr.mono (by decide)) rfl (m__law_draw Z) F__law_draw.kp b__law_draw (takes_of rfl rfl rfl rfl) (sa_cons (se_esh (se_var (pv 0))) (sa_cons (se_var (pv 1)) (sa_cons (se_esh se_int) sa_nil)))))))) (sss_cons (ss_par3 rfl nd rfl rfl rfl (by decide) (by decide) (by decide) rfl rfl rfl (sa_cons (se_eun (se_bin ho_add os_add se_int (se_call ok__law_draw' runF_len (hr.mono (by decide)) rfl (m__law_draw Z) F__law_draw.kp b__law_draw (takes_of rfl rfl rfl rfl) (sa_cons (se_esh (se_var (pv 0))) (sa_cons (se_var (pv 1)) (sa_cons (se_esh se_int) sa_nil)))))) (sa_cons (se_eun (se_bin ho_add os_add se_int (se_call ok__law_draw' runF_len (hr.mono (by decide)) rfl (m__law_draw Z) F__law_draw.kp b__law_draw (takes_of rfl rfl rfl rfl) (sa_cons (se_esh (se_var (pv 0))) (sa_cons (se_var (pv 1)) (sa_cons (se_esh se_int) sa_nil)))))) (sa_cons (se_eun (se_bin ho_add os_add se_int (se_call ok__law_draw' runF_len (hr.mono (by decide)) rfl (m__law_draw Z) F__law_draw.kp b__law_draw (takes_of rfl rfl rfl rfl) (sa_cons (se_esh (se_var (pv 0))) (sa_cons (se_var (pv 1)) (sa_cons (se_esh se_int) sa_nil)))))) sa_nil))) rfl) (sss_cons (ss_par2 rfl nd rfl rfl (by decide) rfl rfl (sa_cons (se_eun (se_callB call_len os_len rfl (m_len Z) b_len (sa_cons (se_var (pv 2)) sa_nil))) (sa_cons (se_eun (se_callB (hc_max rfl) os_max rfl (m_max Z) b_max (sa_cons se_int (sa_cons (se_bin ho_add os_add (se_bin ho_sub os_sub (se_bin ho_sub os_sub (se_var (pv 5)) (se_var (pv 4))) (se_var (pv 3))) se_int) sa_nil)))) sa_nil)) rfl) (sss_cons (ss_asg (i := 8) nd rfl (by first | exact .inl rfl | exact .inr rfl) (se_bin ho_sub os_sub (se_var (pv 5)) (se_var (pv 7)))) (sss_cons (ss_if (st_cmp (ho_ne (u64 hr)) os_ne (se_call ok_count' runF_len (hr.mono (by decide)) rfl (m_count Z) F_count.kp b_count (takes_of rfl rfl rfl rfl) (sa_cons (se_esh (se_tup (sa_cons (se_esh (se_tup (sa_cons (se_esh (se_str (by decide +kernel))) sa_nil))) (sa_cons (se_esh (se_var (pv 3))) (sa_cons (se_esh (se_var (pv 4))) sa_nil))))) (sa_cons (se_esh (se_var (pv 2))) (sa_cons (se_esh (se_var (pv 5))) sa_nil)))) (se_bin ho_mul os_mul (se_call ok__law_power' runF_len (hr.mono (by decide)) rfl (m__law_power Z) F__law_power.kp b__law_power (takes_of rfl rfl rfl rfl) (sa_cons (se_esh (se_var (pv 6))) (sa_cons (se_esh (se_var (pv 8))) sa_nil))) (se_call ok__law_power' runF_len (hr.mono (by decide)) rfl (m__law_power Z) F__law_power.kp b__law_power (takes_of rfl rfl rfl rfl) (sa_cons (se_esh (se_bin ho_sub os_sub (se_var (pv 6)) se_int)) (sa_cons (se_esh (se_var (pv 7))) sa_nil)))) (nomark _)) (sss_one (ss_ret se_bl)) sss_nil) (sss_cons (ss_if (st_cmp (ho_ne (u64 hr)) os_ne (se_call ok_count' runF_len (hr.mono (by decide)) rfl (m_count Z) F_count.kp b_count (takes_of rfl rfl rfl rfl) (sa_cons (se_esh (se_tup (sa_cons (se_esh (se_tup (sa_cons (se_esh (se_str (by decide +kernel))) sa_nil))) (sa_cons (se_esh (se_var (pv 3))) (sa_cons (se_esh (se_var (pv 4))) sa_nil))))) (sa_cons (se_esh (se_var (pv 2))) (sa_cons (se_esh (se_var (pv 5))) sa_nil)))) (se_bin ho_mul os_mul (se_call ok__law_power' runF_len (hr.mono (by decide)) rfl (m__law_power Z) F__law_power.kp b__law_power (takes_of rfl rfl rfl rfl) (sa_cons (se_esh (se_var (pv 6))) (sa_cons (se_esh (se_var (pv 8))) sa_nil))) (se_call ok__law_power' runF_len (hr.mono (by decide)) rfl (m__law_power Z) F__law_power.kp b__law_power (takes_of rfl rfl rfl rfl) (sa_cons (se_esh (se_bin ho_sub os_sub (se_var (pv 6)) se_int)) (sa_cons (se_esh (se_var (pv 7))) sa_nil)))) (nomark _)) (sss_one (ss_ret se_bl)) sss_nil) (sss_cons (ss_asg (i := 9) nd rfl (by first | exact .inl rfl | exact .inr rfl) (se_tup (sa_cons (se_esh (se_tup (sa_cons (se_esh (se_str (by decide +kernel))) (sa_cons (se_esh (se_str (by decide +kernel))) sa_nil)))) (sa_cons (se_esh (se_var (pv 3))) (sa_cons (se_esh (se_var (pv 4))) sa_nil))))) (sss_cons (ss_asg (i := 10) nd rfl (by first | exact .inl rfl | exact .inr rfl) (se_if (st_cmp ho_lt os_lt (se_var (pv 6)) se_int (nomark _)) se_int (se_bin ho_mul os_mul (se_call ok__law_power' runF_len (hr.mono (by decide)) rfl (m__law_power Z) F__law_power.kp b__law_power (takes_of rfl rfl rfl rfl) (sa_cons (se_esh (se_var (pv 6))) (sa_cons (se_esh (se_var (pv 8))) sa_nil))) (se_call ok__law_power' runF_len (hr.mono (by decide)) rfl (m__law_power Z) F__law_power.kp b__law_power (takes_of rfl rfl rfl rfl) (sa_cons (se_esh (se_bin ho_sub os_sub (se_var (pv 6)) se_int)) (sa_cons (se_esh (se_var (pv 7))) sa_nil)))))) (sss_cons (ss_if (st_w (sw_and (st_cmp ho_gt os_gt (se_var (pv 6)) se_int (nomark _)) (sw_one (st_cmp (ho_ne (u64 hr)) os_ne (se_call ok_count' runF_len (hr.mono (by decide)) rfl (m_count Z) F_count.kp b_count (takes_of rfl rfl rfl rfl) (sa_cons (se_esh (se_var (pv 9))) (sa_cons (se_esh (se_var (pv 2))) (sa_cons (se_esh (se_var (pv 5))) sa_nil)))) (se_var (pv 10)) (nomark _))))) (sss_one (ss_ret se_bl)) sss_nil) (sss_cons (ss_if (st_cmp (ho_ne (u64 hr)) os_ne (se_call ok_count' runF_len (hr.mono (by decide)) rfl (m_count Z) F_count.kp b_count (takes_of rfl rfl rfl rfl) (sa_cons (se_esh (se_tup (sa_cons (se_esh (se_tup (sa_cons (se_esh (se_str (by decide +kernel))) (sa_cons (se_esh (se_str (by decide +kernel))) sa_nil)))) (sa_cons (se_esh (se_var (pv 3))) (sa_cons (se_esh (se_var (pv 4))) sa_nil))))) (sa_cons (se_esh (se_var (pv 2))) (sa_cons (se_esh (se_var (pv 5))) sa_nil)))) (se_call ok__law_power' runF_len (hr.mono (by decide)) rfl (m__law_power Z) F__law_power.kp b__law_power (takes_of rfl rfl rfl rfl) (sa_cons (se_esh (se_var (pv 6))) (sa_cons (se_esh (se_var (pv 5))) sa_nil))) (nomark _)) (sss_one (ss_ret se_bl)) sss_nil) (sss_cons (ss_if (st_cmp (ho_ne (u64 hr)) os_ne (se_call ok_count' runF_len (hr.mono (by decide)) rfl (m_count Z) F_count.kp b_count (takes_of rfl rfl rfl rfl) (sa_cons (se_esh (se_tup (sa_cons (se_esh (se_tup (sa_cons (se_esh (se_str (by decide +kernel))) (sa_cons (se_esh (se_str (by decide +kernel))) sa_nil)))) (sa_cons (se_esh (se_var (pv 3))) (sa_cons (se_esh (se_var (pv 4))) sa_nil))))) (sa_cons (se_esh (se_var (pv 2))) (sa_cons (se_esh (se_var (pv 5))) sa_nil)))) (se_call ok__law_power' runF_len (hr.mono (by decide)) rfl (m__law_power Z) F__law_power.kp b__law_power (takes_of rfl rfl rfl rfl) (sa_cons (se_esh (se_var (pv 6))) (sa_cons (se_esh (se_var (pv 5))) sa_nil))) (nomark _)) (sss_one (ss_ret se_bl)) sss_nil) (sss_cons (ss_asg (i := 11) nd rfl (by first | exact .inl rfl | exact .inr rfl) (se_call ok__law_rules' runF_len (hr.mono (by decide)) rfl (m__law_rules Z) F__law_rules.kp b__law_rules (takes_of rfl rfl rfl rfl) (sa_cons (se_esh (se_var (pv 0))) (sa_cons (se_var (pv 1)) (sa_cons (se_esh se_int) (sa_cons (se_esh (se_str (by decide +kernel))) sa_nil)))))) (sss_cons (ss_if (st_cmp ho_gt os_gt (se_call ok_count' runF_len (hr.mono (by decide)) rfl (m_count Z) F_count.kp b_count (takes_of rfl rfl rfl rfl) (sa_cons (se_esh (se_var (pv 11))) (sa_cons (se_esh (se_var (pv 2))) (sa_cons (se_esh (se_var (pv 5))) sa_nil)))) (se_call ok_count' runF_len (hr.mono (by decide)) rfl (m_count Z) F_count.kp b_count (takes_of rfl rfl rfl rfl) (sa_cons (se_esh (se_tup (sa_cons (se_esh (se_ix ho_ix os_ix (se_var (pv 11)) se_int (fun _ _ => rfl))) (sa_cons (se_esh (se_callB (call_min2 rfl) os_min rfl (m_min Z) b_min (sa_cons se_int (sa_cons (se_bin ho_add os_add (se_ix ho_ix os_ix (se_var (pv 11)) se_int (fun _ _ => rfl)) se_int) sa_nil)))) (sa_cons (se_esh (se_ix ho_ix os_ix (se_var (pv 11)) se_int (fun _ _ => rfl))) sa_nil))))) (sa_cons (se_esh (se_var (pv 2))) (sa_cons (se_esh (se_var (pv 5))) sa_nil)))) (nomark _)) (sss_one (ss_ret se_bl)) sss_nil) (sss_one (ss_ret (se_chain ho_le os_le ho_le os_le (se_call ok_count' runF_len (hr.mono (by decide)) rfl (m_count Z) F_count.kp b_count (takes_of rfl rfl rfl rfl) (sa_cons (se_esh (se_var (pv 11))) (sa_cons (se_esh (se_sl ho_sl os_sl (se_str (by decide +kernel)) so_none (so_some (se_var (pv 6))))) (sa_cons (se_esh (se_var (pv 5))) sa_nil)))) (se_call ok_count' runF_len (hr.mono (by decide)) rfl (m_count Z) F_count.kp b_count (takes_of rfl rfl rfl rfl) (sa_cons (se_esh (se_var (pv 11))) (sa_cons (se_esh (se_var (pv 2))) (sa_cons (se_esh (se_var (pv 5))) sa_nil)))) (se_call ok__law_power' runF_len (hr.mono (by decide)) rfl (m__law_power Z) F__law_power.kp b__law_power (takes_of rfl rfl rfl rfl) (sa_cons (se_esh (se_var (pv 6))) (sa_cons (se_esh (se_var (pv 5))) sa_nil))))))))))))))))))))
end G

end
section
set_option Elab.async false
set_option linter.all false
set_option maxRecDepth 100000
set_option maxHeartbeats 4000000
set_option autoImplicit false
/-! M: draws. -/
namespace G
open PySem L2 Lw
/-- where the draws stand: two counts -/
def Tn (v : Val) : Prop := ∃ p c : Int, 0 ≤ p ∧ 0 ≤ c ∧ v = .lst [.int p, .int c]
theorem draw_ok (ns : List Int) (v : Val) (hv : Tn v) (m : Int) (hm : 0 < m) (hm2 : m < 1073741824) :
    OX (fn__law_draw [.shr (.scr ns), .io v, .shr (.int m)]) fun o ss => ∃ r v1, o = .ret (.shr (.int r)) ∧ 0 ≤ r ∧ r < m ∧ Tn v1 ∧ ss = [.un, .io v1, .un] := by
  obtain ⟨p, c, hp, hc, rfl⟩ := hv
  unfold fn__law_draw g__law_draw
  refine FX_run rfl ?_
  simp -implicitDefEqProofs only [SX_seq, SX_if, SX_asg, SX_ret, SX_retN, SX_setL, SX_augL, SX_nil, SX_expr, SX_par, SX_unp, SX_raise, SX_brk, SX_ct, SX_for, EX_bin, EX_un, EX_var, EX_c, EX_and, EX_or, EX_not, EX_if, EX_lst, EX_tup, EX_callB, EX_call, EX_meth, EX_mut, EX_extend, EX_sl, EX_chain, EX_esh, EX_eun, EX_tru,
    IX_any, IX_range1, IX_range2, IX_zip, IX_enum, xArgs_nil, xArgs_cons, xP_none, xP_some, iO_int, List.map_nil, List.map_cons, rE_val, rS_val, rI_val, rF_items, rE_exc, rS_exc, rI_exc, rF_exc, nxS_nx, nxS_ret, nxS_exc, nxS_brk, nxS_ct, lpS_nx, lpS_ct, lpS_brk, lpS_ret, lpS_exc,
    OX_some, OB_some, OB_map, OB_ite, ifO_bl, notO_bl, ifR_bl, get_shr, get_new, get_var, opd_shr, opd_new, own_zero, own_succ, ow_own, ow_io, upd_own, upd_io, upd_succ, so_shr, so_own, so_io, unO_shr, unO_new, unO_var, shO_shr, shO_new, shO_var', frz_own, setOk_un, setOk_shr, setOk_own, set_shr, set_new,
    xOwn_own, ret_shr, ret_new, ret_var, shrs_nil, shrs_cons, Option.map_some, gets_nil, gets_cons, split_nil, split_shr, split_var, sets_nil, sets_cons, tg_one, tg_many, callS_none, callS_some, xIo_some, xLst_some, xInt_some, oE_ret, oE_exc, two?, one?,
    List.cons_append, List.nil_append, List.replicate, List.getElem?_cons_zero, List.getElem?_cons_succ, List.set_cons_zero, List.set_cons_succ, List.length_cons, List.length_nil, Nat.zero_add, Nat.reduceAdd, Nat.reduceSub, Nat.reduceLeDiff, true_and, if_true, ite_true,
    ev_add, ev_sub, ev_fdiv, ev_mod, ev_pow18, ev_pow60, ev_pow5, ev_mul60, ev_mulA, ev_mulB, ev_neg, ev_lt, ev_le, ev_gt, ev_ge, ev_ixL, ev_ixT, ev_ixC, ev_ixS, ev_lenS, ev_lenL, ev_lenT, ev_lenC, ev_addS, ev_addL, ev_addT, ev_mulL, ev_max2, ev_min2, ev_slS, ev_slL, ev_slT, eqv_ii, nev_ii, Int.zero_add, ev_scr0, atI_nat0, atI_nat1, atI_nat2, ix20, ix21,
    Int.reduceLT, Int.reduceLE, Bool.false_eq_true, Bool.true_eq_false, false_implies, true_implies, implies_true, and_true, fnR_nx, fnR_ret, fnR_exc, ioOut, decide_eq_true_eq, decide_eq_false_iff_not]
  have fin : ∀ x a b : Int, 0 ≤ a → 0 ≤ b → ∃ r v1, ORes.ret (.shr (.int (x % m))) = .ret (.shr (.int r)) ∧ 0 ≤ r ∧ r < m ∧ Tn v1 ∧ [Slot.un, .io (.lst [.int a, .int b]), .un] = [.un, .io v1, .un] := fun x a b ha hb =>
    ⟨x % m, _, rfl, Int.emod_nonneg _ (by omega), Int.emod_lt_of_pos _ hm, ⟨a, b, ha, hb, rfl⟩, rfl⟩
  have lit : ∀ x : Int, 0 ≤ x % 1000000000000000000000000000000000000000000000000000000000000000000000000000000000000000000000000000000000000000000000000 := fun x => Int.emod_nonneg _ (by decide)
  refine ⟨fun h => ⟨hm, ⟨hm, hm2⟩, fin _ _ _ hp (Int.ediv_nonneg hc (by omega))⟩, fun h => ⟨fun h1 => ⟨hm, fin _ _ _ (by omega) hc⟩, fun h1 => ?_⟩⟩
  have hl : 0 < ns.length := List.length_pos_iff.mpr h1
  have rest : ∃ a, atI ns (p % (ns.length : Int)) = some a := by
    obtain ⟨a, ha, hm, _⟩ := atI_in (xs := ns) (i := p % (ns.length : Int)) (Int.emod_nonneg _ (by omega)) (Int.emod_lt_of_pos _ (by omega))
    exact ⟨a, ha⟩
  obtain ⟨a, ha⟩ := rest
  have r5 : ((a * 1103515245 + 7919 * p + 12345) % 2147483647).natAbs < 2 ^ 64 := by omega
  refine ⟨fun h2 => ?_, fun h2 => ?_⟩
  · obtain ⟨b, hb, hbm, _⟩ := atI_in (xs := ns) (i := p) hp h2
    rw [hb]
    simp only [OB_some]
    refine ⟨fun h3 => ⟨⟨hm, hm2⟩, ?_⟩, fun h3 => ?_⟩
    · exact ⟨hm, fin _ _ _ (by omega) (lit _)⟩
    · refine ⟨by omega, ?_⟩
      rw [ha]
      exact ⟨r5, hm, fin _ _ _ (by omega) hc⟩
  · refine ⟨by omega, ?_⟩
    rw [ha]
    exact ⟨r5, hm, fin _ _ _ (by omega) hc⟩
theorem pick_ok (ns : List Int) (v : Val) (hv : Tn v) (s : Val) (vs : List Val) (hs : itemsA s = some vs) (h0 : 0 < vs.length) (h1 : vs.length ≤ 1000000) :
    OX (fn__law_pick [.shr (.scr ns), .io v, .shr s]) fun o ss => ∃ r v1, o = .ret (.shr r) ∧ r ∈ vs ∧ Tn v1 ∧ ss = [.un, .io v1, .un] := by
  unfold fn__law_pick g__law_pick
  refine FX_run rfl ?_
  have call : ∀ (n : Nat) (Q : ORes → List Slot → Prop), n = vs.length → (∀ r v1, 0 ≤ r → r < (n : Int) → Tn v1 → Q (.ret (.shr (.int r))) [.un, .io v1, .un]) → OX (fn__law_draw [.shr (.scr ns), .io v, .shr (.int n)]) Q := fun n Q hn hQ =>
    OX_mono (draw_ok ns v hv n (by omega) (by omega)) fun o ss ⟨r, v1, e1, e2, e3, e4, e5⟩ => by
      subst e1 e5
      exact hQ r v1 e2 e3 e4
  cases s with
  | lst xs =>
    cases hs
    simp -implicitDefEqProofs only [SX_seq, SX_if, SX_asg, SX_ret, SX_retN, SX_setL, SX_augL, SX_nil, SX_expr, SX_par, SX_unp, SX_raise, SX_brk, SX_ct, SX_for, EX_bin, EX_un, EX_var, EX_c, EX_and, EX_or, EX_not, EX_if, EX_lst, EX_tup, EX_callB, EX_call, EX_meth, EX_mut, EX_extend, EX_sl, EX_chain, EX_esh, EX_eun, EX_tru,
    IX_any, IX_range1, IX_range2, IX_zip, IX_enum, xArgs_nil, xArgs_cons, xP_none, xP_some, iO_int, List.map_nil, List.map_cons, rE_val, rS_val, rI_val, rF_items, rE_exc, rS_exc, rI_exc, rF_exc, nxS_nx, nxS_ret, nxS_exc, nxS_brk, nxS_ct, lpS_nx, lpS_ct, lpS_brk, lpS_ret, lpS_exc,
    OX_some, OB_some, OB_map, OB_ite, ifO_bl, notO_bl, ifR_bl, get_shr, get_new, get_var, opd_shr, opd_new, own_zero, own_succ, ow_own, ow_io, upd_own, upd_io, upd_succ, so_shr, so_own, so_io, unO_shr, unO_new, unO_var, shO_shr, shO_new, shO_var', frz_own, setOk_un, setOk_shr, setOk_own, set_shr, set_new,
    xOwn_own, ret_shr, ret_new, ret_var, shrs_nil, shrs_cons, Option.map_some, gets_nil, gets_cons, split_nil, split_shr, split_var, sets_nil, sets_cons, tg_one, tg_many, callS_none, callS_some, xIo_some, xLst_some, xInt_some, oE_ret, oE_exc, two?, one?,
    List.cons_append, List.nil_append, List.replicate, List.getElem?_cons_zero, List.getElem?_cons_succ, List.set_cons_zero, List.set_cons_succ, List.length_cons, List.length_nil, Nat.zero_add, Nat.reduceAdd, Nat.reduceSub, Nat.reduceLeDiff, true_and, if_true, ite_true,
    ev_add, ev_sub, ev_fdiv, ev_mod, ev_pow18, ev_pow60, ev_pow5, ev_mul60, ev_mulA, ev_mulB, ev_neg, ev_lt, ev_le, ev_gt, ev_ge, ev_ixL, ev_ixT, ev_ixC, ev_ixS, ev_lenS, ev_lenL, ev_lenT, ev_lenC, ev_addS, ev_addL, ev_addT, ev_mulL, ev_max2, ev_min2, ev_slS, ev_slL, ev_slT, eqv_ii, nev_ii, Int.zero_add, ev_scr0, atI_nat0, atI_nat1, atI_nat2, ix20, ix21,
    Int.reduceLT, Int.reduceLE, Bool.false_eq_true, Bool.true_eq_false, false_implies, true_implies, implies_true, and_true, fnR_nx, fnR_ret, fnR_exc, ioOut, decide_eq_true_eq, decide_eq_false_iff_not]
    refine call _ _ rfl fun r v1 r0 r1 t => ?_
    obtain ⟨x, hx, hm, _⟩ := atI_in (xs := vs) r0 r1
    simp -implicitDefEqProofs only [SX_seq, SX_if, SX_asg, SX_ret, SX_retN, SX_setL, SX_augL, SX_nil, SX_expr, SX_par, SX_unp, SX_raise, SX_brk, SX_ct, SX_for, EX_bin, EX_un, EX_var, EX_c, EX_and, EX_or, EX_not, EX_if, EX_lst, EX_tup, EX_callB, EX_call, EX_meth, EX_mut, EX_extend, EX_sl, EX_chain, EX_esh, EX_eun, EX_tru,
    IX_any, IX_range1, IX_range2, IX_zip, IX_enum, xArgs_nil, xArgs_cons, xP_none, xP_some, iO_int, List.map_nil, List.map_cons, rE_val, rS_val, rI_val, rF_items, rE_exc, rS_exc, rI_exc, rF_exc, nxS_nx, nxS_ret, nxS_exc, nxS_brk, nxS_ct, lpS_nx, lpS_ct, lpS_brk, lpS_ret, lpS_exc,
    OX_some, OB_some, OB_map, OB_ite, ifO_bl, notO_bl, ifR_bl, get_shr, get_new, get_var, opd_shr, opd_new, own_zero, own_succ, ow_own, ow_io, upd_own, upd_io, upd_succ, so_shr, so_own, so_io, unO_shr, unO_new, unO_var, shO_shr, shO_new, shO_var', frz_own, setOk_un, setOk_shr, setOk_own, set_shr, set_new,
    xOwn_own, ret_shr, ret_new, ret_var, shrs_nil, shrs_cons, Option.map_some, gets_nil, gets_cons, split_nil, split_shr, split_var, sets_nil, sets_cons, tg_one, tg_many, callS_none, callS_some, xIo_some, xLst_some, xInt_some, oE_ret, oE_exc, two?, one?,
    List.cons_append, List.nil_append, List.replicate, List.getElem?_cons_zero, List.getElem?_cons_succ, List.set_cons_zero, List.set_cons_succ, List.length_cons, List.length_nil, Nat.zero_add, Nat.reduceAdd, Nat.reduceSub, Nat.reduceLeDiff, true_and, if_true, ite_true,
    ev_add, ev_sub, ev_fdiv, ev_mod, ev_pow18, ev_pow60, ev_pow5, ev_mul60, ev_mulA, ev_mulB, ev_neg, ev_lt, ev_le, ev_gt, ev_ge, ev_ixL, ev_ixT, ev_ixC, ev_ixS, ev_lenS, ev_lenL, ev_lenT, ev_lenC, ev_addS, ev_addL, ev_addT, ev_mulL, ev_max2, ev_min2, ev_slS, ev_slL, ev_slT, eqv_ii, nev_ii, Int.zero_add, ev_scr0, atI_nat0, atI_nat1, atI_nat2, ix20, ix21,
    Int.reduceLT, Int.reduceLE, Bool.false_eq_true, Bool.true_eq_false, false_implies, true_implies, implies_true, and_true, fnR_nx, fnR_ret, fnR_exc, ioOut, decide_eq_true_eq, decide_eq_false_iff_not, hx]
    exact ⟨x, v1, rfl, hm, t, rfl⟩
  | tup xs =>
    cases hs
    simp -implicitDefEqProofs only [SX_seq, SX_if, SX_asg, SX_ret, SX_retN, SX_setL, SX_augL, SX_nil, SX_expr, SX_par, SX_unp, SX_raise, SX_brk, SX_ct, SX_for, EX_bin, EX_un, EX_var, EX_c, EX_and, EX_or, EX_not, EX_if, EX_lst, EX_tup, EX_callB, EX_call, EX_meth, EX_mut, EX_extend, EX_sl, EX_chain, EX_esh, EX_eun, EX_tru,
    IX_any, IX_range1, IX_range2, IX_zip, IX_enum, xArgs_nil, xArgs_cons, xP_none, xP_some, iO_int, List.map_nil, List.map_cons, rE_val, rS_val, rI_val, rF_items, rE_exc, rS_exc, rI_exc, rF_exc, nxS_nx, nxS_ret, nxS_exc, nxS_brk, nxS_ct, lpS_nx, lpS_ct, lpS_brk, lpS_ret, lpS_exc,
    OX_some, OB_some, OB_map, OB_ite, ifO_bl, notO_bl, ifR_bl, get_shr, get_new, get_var, opd_shr, opd_new, own_zero, own_succ, ow_own, ow_io, upd_own, upd_io, upd_succ, so_shr, so_own, so_io, unO_shr, unO_new, unO_var, shO_shr, shO_new, shO_var', frz_own, setOk_un, setOk_shr, setOk_own, set_shr, set_new,
    xOwn_own, ret_shr, ret_new, ret_var, shrs_nil, shrs_cons, Option.map_some, gets_nil, gets_cons, split_nil, split_shr, split_var, sets_nil, sets_cons, tg_one, tg_many, callS_none, callS_some, xIo_some, xLst_some, xInt_some, oE_ret, oE_exc, two?, one?,
    List.cons_append, List.nil_append, List.replicate, List.getElem?_cons_zero, List.getElem?_cons_succ, List.set_cons_zero, List.set_cons_succ, List.length_cons, List.length_nil, Nat.zero_add, Nat.reduceAdd, Nat.reduceSub, Nat.reduceLeDiff, true_and, if_true, ite_true,
    ev_add, ev_sub, ev_fdiv, ev_mod, ev_pow18, ev_pow60, ev_pow5, ev_mul60, ev_mulA, ev_mulB, ev_neg, ev_lt, ev_le, ev_gt, ev_ge, ev_ixL, ev_ixT, ev_ixC, ev_ixS, ev_lenS, ev_lenL, ev_lenT, ev_lenC, ev_addS, ev_addL, ev_addT, ev_mulL, ev_max2, ev_min2, ev_slS, ev_slL, ev_slT, eqv_ii, nev_ii, Int.zero_add, ev_scr0, atI_nat0, atI_nat1, atI_nat2, ix20, ix21,
    Int.reduceLT, Int.reduceLE, Bool.false_eq_true, Bool.true_eq_false, false_implies, true_implies, implies_true, and_true, fnR_nx, fnR_ret, fnR_exc, ioOut, decide_eq_true_eq, decide_eq_false_iff_not]
    refine call _ _ rfl fun r v1 r0 r1 t => ?_
    obtain ⟨x, hx, hm, _⟩ := atI_in (xs := vs) r0 r1
    simp -implicitDefEqProofs only [SX_seq, SX_if, SX_asg, SX_ret, SX_retN, SX_setL, SX_augL, SX_nil, SX_expr, SX_par, SX_unp, SX_raise, SX_brk, SX_ct, SX_for, EX_bin, EX_un, EX_var, EX_c, EX_and, EX_or, EX_not, EX_if, EX_lst, EX_tup, EX_callB, EX_call, EX_meth, EX_mut, EX_extend, EX_sl, EX_chain, EX_esh, EX_eun, EX_tru,
    IX_any, IX_range1, IX_range2, IX_zip, IX_enum, xArgs_nil, xArgs_cons, xP_none, xP_some, iO_int, List.map_nil, List.map_cons, rE_val, rS_val, rI_val, rF_items, rE_exc, rS_exc, rI_exc, rF_exc, nxS_nx, nxS_ret, nxS_exc, nxS_brk, nxS_ct, lpS_nx, lpS_ct, lpS_brk, lpS_ret, lpS_exc,
    OX_some, OB_some, OB_map, OB_ite, ifO_bl, notO_bl, ifR_bl, get_shr, get_new, get_var, opd_shr, opd_new, own_zero, own_succ, ow_own, ow_io, upd_own, upd_io, upd_succ, so_shr, so_own, so_io, unO_shr, unO_new, unO_var, shO_shr, shO_new, shO_var', frz_own, setOk_un, setOk_shr, setOk_own, set_shr, set_new,
    xOwn_own, ret_shr, ret_new, ret_var, shrs_nil, shrs_cons, Option.map_some, gets_nil, gets_cons, split_nil, split_shr, split_var, sets_nil, sets_cons, tg_one, tg_many, callS_none, callS_some, xIo_some, xLst_some, xInt_some, oE_ret, oE_exc, two?, one?,
    List.cons_append, List.nil_append, List.replicate, List.getElem?_cons_zero, List.getElem?_cons_succ, List.set_cons_zero, List.set_cons_succ, List.length_cons, List.length_nil, Nat.zero_add, Nat.reduceAdd, Nat.reduceSub, Nat.reduceLeDiff, true_and, if_true, ite_true,
    ev_add, ev_sub, ev_fdiv, ev_mod, ev_pow18, ev_pow60, ev_pow5, ev_mul60, ev_mulA, ev_mulB, ev_neg, ev_lt, ev_le, ev_gt, ev_ge, ev_ixL, ev_ixT, ev_ixC, ev_ixS, ev_lenS, ev_lenL, ev_lenT, ev_lenC, ev_addS, ev_addL, ev_addT, ev_mulL, ev_max2, ev_min2, ev_slS, ev_slL, ev_slT, eqv_ii, nev_ii, Int.zero_add, ev_scr0, atI_nat0, atI_nat1, atI_nat2, ix20, ix21,
    Int.reduceLT, Int.reduceLE, Bool.false_eq_true, Bool.true_eq_false, false_implies, true_implies, implies_true, and_true, fnR_nx, fnR_ret, fnR_exc, ioOut, decide_eq_true_eq, decide_eq_false_iff_not, hx]
    exact ⟨x, v1, rfl, hm, t, rfl⟩
  | str z =>
    cases hs
    rw [List.length_map] at h0 h1
    simp -implicitDefEqProofs only [SX_seq, SX_if, SX_asg, SX_ret, SX_retN, SX_setL, SX_augL, SX_nil, SX_expr, SX_par, SX_unp, SX_raise, SX_brk, SX_ct, SX_for, EX_bin, EX_un, EX_var, EX_c, EX_and, EX_or, EX_not, EX_if, EX_lst, EX_tup, EX_callB, EX_call, EX_meth, EX_mut, EX_extend, EX_sl, EX_chain, EX_esh, EX_eun, EX_tru,
    IX_any, IX_range1, IX_range2, IX_zip, IX_enum, xArgs_nil, xArgs_cons, xP_none, xP_some, iO_int, List.map_nil, List.map_cons, rE_val, rS_val, rI_val, rF_items, rE_exc, rS_exc, rI_exc, rF_exc, nxS_nx, nxS_ret, nxS_exc, nxS_brk, nxS_ct, lpS_nx, lpS_ct, lpS_brk, lpS_ret, lpS_exc,
    OX_some, OB_some, OB_map, OB_ite, ifO_bl, notO_bl, ifR_bl, get_shr, get_new, get_var, opd_shr, opd_new, own_zero, own_succ, ow_own, ow_io, upd_own, upd_io, upd_succ, so_shr, so_own, so_io, unO_shr, unO_new, unO_var, shO_shr, shO_new, shO_var', frz_own, setOk_un, setOk_shr, setOk_own, set_shr, set_new,
    xOwn_own, ret_shr, ret_new, ret_var, shrs_nil, shrs_cons, Option.map_some, gets_nil, gets_cons, split_nil, split_shr, split_var, sets_nil, sets_cons, tg_one, tg_many, callS_none, callS_some, xIo_some, xLst_some, xInt_some, oE_ret, oE_exc, two?, one?,
    List.cons_append, List.nil_append, List.replicate, List.getElem?_cons_zero, List.getElem?_cons_succ, List.set_cons_zero, List.set_cons_succ, List.length_cons, List.length_nil, Nat.zero_add, Nat.reduceAdd, Nat.reduceSub, Nat.reduceLeDiff, true_and, if_true, ite_true,
    ev_add, ev_sub, ev_fdiv, ev_mod, ev_pow18, ev_pow60, ev_pow5, ev_mul60, ev_mulA, ev_mulB, ev_neg, ev_lt, ev_le, ev_gt, ev_ge, ev_ixL, ev_ixT, ev_ixC, ev_ixS, ev_lenS, ev_lenL, ev_lenT, ev_lenC, ev_addS, ev_addL, ev_addT, ev_mulL, ev_max2, ev_min2, ev_slS, ev_slL, ev_slT, eqv_ii, nev_ii, Int.zero_add, ev_scr0, atI_nat0, atI_nat1, atI_nat2, ix20, ix21,
    Int.reduceLT, Int.reduceLE, Bool.false_eq_true, Bool.true_eq_false, false_implies, true_implies, implies_true, and_true, fnR_nx, fnR_ret, fnR_exc, ioOut, decide_eq_true_eq, decide_eq_false_iff_not]
    refine ⟨by omega, ?_⟩
    refine call _ _ (by rw [List.length_map]) fun r v1 r0 r1 t => ?_
    obtain ⟨x, hx, hm, _⟩ := atI_in (xs := z) r0 r1
    simp -implicitDefEqProofs only [SX_seq, SX_if, SX_asg, SX_ret, SX_retN, SX_setL, SX_augL, SX_nil, SX_expr, SX_par, SX_unp, SX_raise, SX_brk, SX_ct, SX_for, EX_bin, EX_un, EX_var, EX_c, EX_and, EX_or, EX_not, EX_if, EX_lst, EX_tup, EX_callB, EX_call, EX_meth, EX_mut, EX_extend, EX_sl, EX_chain, EX_esh, EX_eun, EX_tru,
    IX_any, IX_range1, IX_range2, IX_zip, IX_enum, xArgs_nil, xArgs_cons, xP_none, xP_some, iO_int, List.map_nil, List.map_cons, rE_val, rS_val, rI_val, rF_items, rE_exc, rS_exc, rI_exc, rF_exc, nxS_nx, nxS_ret, nxS_exc, nxS_brk, nxS_ct, lpS_nx, lpS_ct, lpS_brk, lpS_ret, lpS_exc,
    OX_some, OB_some, OB_map, OB_ite, ifO_bl, notO_bl, ifR_bl, get_shr, get_new, get_var, opd_shr, opd_new, own_zero, own_succ, ow_own, ow_io, upd_own, upd_io, upd_succ, so_shr, so_own, so_io, unO_shr, unO_new, unO_var, shO_shr, shO_new, shO_var', frz_own, setOk_un, setOk_shr, setOk_own, set_shr, set_new,
    xOwn_own, ret_shr, ret_new, ret_var, shrs_nil, shrs_cons, Option.map_some, gets_nil, gets_cons, split_nil, split_shr, split_var, sets_nil, sets_cons, tg_one, tg_many, callS_none, callS_some, xIo_some, xLst_some, xInt_some, oE_ret, oE_exc, two?, one?,
    List.cons_append, List.nil_append, List.replicate, List.getElem?_cons_zero, List.getElem?_cons_succ, List.set_cons_zero, List.set_cons_succ, List.length_cons, List.length_nil, Nat.zero_add, Nat.reduceAdd, Nat.reduceSub, Nat.reduceLeDiff, true_and, if_true, ite_true,
    ev_add, ev_sub, ev_fdiv, ev_mod, ev_pow18, ev_pow60, ev_pow5, ev_mul60, ev_mulA, ev_mulB, ev_neg, ev_lt, ev_le, ev_gt, ev_ge, ev_ixL, ev_ixT, ev_ixC, ev_ixS, ev_lenS, ev_lenL, ev_lenT, ev_lenC, ev_addS, ev_addL, ev_addT, ev_mulL, ev_max2, ev_min2, ev_slS, ev_slL, ev_slT, eqv_ii, nev_ii, Int.zero_add, ev_scr0, atI_nat0, atI_nat1, atI_nat2, ix20, ix21,
    Int.reduceLT, Int.reduceLE, Bool.false_eq_true, Bool.true_eq_false, false_implies, true_implies, implies_true, and_true, fnR_nx, fnR_ret, fnR_exc, ioOut, decide_eq_true_eq, decide_eq_false_iff_not, hx]
    exact ⟨by omega, _, v1, rfl, List.mem_map.mpr ⟨x, hm, rfl⟩, t, rfl⟩
  | _ => cases hs
end G

end
section
set_option Elab.async false
set_option linter.all false
set_option maxRecDepth 100000
set_option maxHeartbeats 4000000
set_option autoImplicit false
/-! M: patterns' letters and digits. -/
namespace G
open PySem L2 Lw
def D9 : List Nat := [49, 50, 51, 52, 53, 54, 55, 56, 57]
def D10 : List Nat := [48, 49, 50, 51, 52, 53, 54, 55, 56, 57]
def charsM (p : List Nat) : List Nat := p.filter fun c => !decide (c ∈ D9)
def bareM (p : List Nat) : List Nat := p.filter fun c => !decide (c ∈ D10)
theorem chars_ok (p : List Nat) (h : p.length ≤ 1000000) : fn_chars_of [.shr (.str p)] = some (.ret (.shr (.str (charsM p))), [.un]) := by
  apply OX_det
  unfold fn_chars_of g_chars_of
  refine FX_run rfl ?_
  simp -implicitDefEqProofs only [SX_seq, SX_if, SX_asg, SX_ret, SX_retN, SX_setL, SX_augL, SX_nil, SX_expr, SX_par, SX_unp, SX_raise, SX_brk, SX_ct, SX_for, EX_bin, EX_un, EX_var, EX_c, EX_and, EX_or, EX_not, EX_if, EX_lst, EX_tup, EX_callB, EX_call, EX_meth, EX_mut, EX_extend, EX_sl, EX_chain, EX_esh, EX_eun, EX_tru,
    IX_any, IX_range1, IX_range2, IX_zip, IX_enum, xArgs_nil, xArgs_cons, xP_none, xP_some, iO_int, List.map_nil, List.map_cons, rE_val, rS_val, rI_val, rF_items, rE_exc, rS_exc, rI_exc, rF_exc, nxS_nx, nxS_ret, nxS_exc, nxS_brk, nxS_ct, lpS_nx, lpS_ct, lpS_brk, lpS_ret, lpS_exc,
    OX_some, OB_some, OB_map, OB_ite, ifO_bl, notO_bl, ifR_bl, get_shr, get_new, get_var, opd_shr, opd_new, own_zero, own_succ, ow_own, ow_io, upd_own, upd_io, upd_succ, so_shr, so_own, so_io, unO_shr, unO_new, unO_var, shO_shr, shO_new, shO_var', frz_own, setOk_un, setOk_shr, setOk_own, set_shr, set_new,
    xOwn_own, ret_shr, ret_new, ret_var, shrs_nil, shrs_cons, Option.map_some, gets_nil, gets_cons, split_nil, split_shr, split_var, sets_nil, sets_cons, tg_one, tg_many, callS_none, callS_some, xIo_some, xLst_some, xInt_some, oE_ret, oE_exc, two?, one?,
    List.cons_append, List.nil_append, List.replicate, List.getElem?_cons_zero, List.getElem?_cons_succ, List.set_cons_zero, List.set_cons_succ, List.length_cons, List.length_nil, Nat.zero_add, Nat.reduceAdd, Nat.reduceSub, Nat.reduceLeDiff, true_and, if_true, ite_true,
    ev_add, ev_sub, ev_fdiv, ev_mod, ev_pow18, ev_pow60, ev_pow5, ev_mul60, ev_mulA, ev_mulB, ev_neg, ev_lt, ev_le, ev_gt, ev_ge, ev_ixL, ev_ixT, ev_ixC, ev_ixS, ev_lenS, ev_lenL, ev_lenT, ev_lenC, ev_addS, ev_addL, ev_addT, ev_mulL, ev_max2, ev_min2, ev_slS, ev_slL, ev_slT, eqv_ii, nev_ii, Int.zero_add, ev_scr0, atI_nat0, atI_nat1, atI_nat2, ix20, ix21,
    Int.reduceLT, Int.reduceLE, Bool.false_eq_true, Bool.true_eq_false, false_implies, true_implies, implies_true, and_true, fnR_nx, fnR_ret, fnR_exc, ioOut, decide_eq_true_eq, decide_eq_false_iff_not, EX_lc, itS, wipe?, plainAt, plainS, wipeE, List.all_cons, List.all_nil, Bool.and_self, tyOf]
  refine LC_pure (fun c => if (!decide (c ∈ D9)) = true then some (.str [c]) else none) (by omega) (fun c hc => ?_) ?_
  · simp -implicitDefEqProofs only [SX_seq, SX_if, SX_asg, SX_ret, SX_retN, SX_setL, SX_augL, SX_nil, SX_expr, SX_par, SX_unp, SX_raise, SX_brk, SX_ct, SX_for, EX_bin, EX_un, EX_var, EX_c, EX_and, EX_or, EX_not, EX_if, EX_lst, EX_tup, EX_callB, EX_call, EX_meth, EX_mut, EX_extend, EX_sl, EX_chain, EX_esh, EX_eun, EX_tru,
    IX_any, IX_range1, IX_range2, IX_zip, IX_enum, xArgs_nil, xArgs_cons, xP_none, xP_some, iO_int, List.map_nil, List.map_cons, rE_val, rS_val, rI_val, rF_items, rE_exc, rS_exc, rI_exc, rF_exc, nxS_nx, nxS_ret, nxS_exc, nxS_brk, nxS_ct, lpS_nx, lpS_ct, lpS_brk, lpS_ret, lpS_exc,
    OX_some, OB_some, OB_map, OB_ite, ifO_bl, notO_bl, ifR_bl, get_shr, get_new, get_var, opd_shr, opd_new, own_zero, own_succ, ow_own, ow_io, upd_own, upd_io, upd_succ, so_shr, so_own, so_io, unO_shr, unO_new, unO_var, shO_shr, shO_new, shO_var', frz_own, setOk_un, setOk_shr, setOk_own, set_shr, set_new,
    xOwn_own, ret_shr, ret_new, ret_var, shrs_nil, shrs_cons, Option.map_some, gets_nil, gets_cons, split_nil, split_shr, split_var, sets_nil, sets_cons, tg_one, tg_many, callS_none, callS_some, xIo_some, xLst_some, xInt_some, oE_ret, oE_exc, two?, one?,
    List.cons_append, List.nil_append, List.replicate, List.getElem?_cons_zero, List.getElem?_cons_succ, List.set_cons_zero, List.set_cons_succ, List.length_cons, List.length_nil, Nat.zero_add, Nat.reduceAdd, Nat.reduceSub, Nat.reduceLeDiff, true_and, if_true, ite_true,
    ev_add, ev_sub, ev_fdiv, ev_mod, ev_pow18, ev_pow60, ev_pow5, ev_mul60, ev_mulA, ev_mulB, ev_neg, ev_lt, ev_le, ev_gt, ev_ge, ev_ixL, ev_ixT, ev_ixC, ev_ixS, ev_lenS, ev_lenL, ev_lenT, ev_lenC, ev_addS, ev_addL, ev_addT, ev_mulL, ev_max2, ev_min2, ev_slS, ev_slL, ev_slT, eqv_ii, nev_ii, Int.zero_add, ev_scr0, atI_nat0, atI_nat1, atI_nat2, ix20, ix21,
    Int.reduceLT, Int.reduceLE, Bool.false_eq_true, Bool.true_eq_false, false_implies, true_implies, implies_true, and_true, fnR_nx, fnR_ret, fnR_exc, ioOut, decide_eq_true_eq, decide_eq_false_iff_not, notInS]
    exact ⟨_, rfl, fun hb => ⟨_, rfl, if_pos hb, rfl⟩, fun hb => ⟨if_neg (by rw [show (!decide (c ∈ D9)) = false from hb]; decide), rfl⟩⟩
  · rw [filt]
    refine ⟨rfl, ?_⟩
    rw [joinS _ (by have := List.length_filter_le (fun c => !decide (c ∈ D9)) p; omega)]
    exact ⟨rfl, rfl⟩
theorem bare_ok (p : List Nat) (h : p.length ≤ 1000000) : fn__law_bare [.shr (.str p)] = some (.ret (.shr (.str (bareM p))), [.un]) := by
  apply OX_det
  unfold fn__law_bare g__law_bare
  refine FX_run rfl ?_
  simp -implicitDefEqProofs only [SX_seq, SX_if, SX_asg, SX_ret, SX_retN, SX_setL, SX_augL, SX_nil, SX_expr, SX_par, SX_unp, SX_raise, SX_brk, SX_ct, SX_for, EX_bin, EX_un, EX_var, EX_c, EX_and, EX_or, EX_not, EX_if, EX_lst, EX_tup, EX_callB, EX_call, EX_meth, EX_mut, EX_extend, EX_sl, EX_chain, EX_esh, EX_eun, EX_tru,
    IX_any, IX_range1, IX_range2, IX_zip, IX_enum, xArgs_nil, xArgs_cons, xP_none, xP_some, iO_int, List.map_nil, List.map_cons, rE_val, rS_val, rI_val, rF_items, rE_exc, rS_exc, rI_exc, rF_exc, nxS_nx, nxS_ret, nxS_exc, nxS_brk, nxS_ct, lpS_nx, lpS_ct, lpS_brk, lpS_ret, lpS_exc,
    OX_some, OB_some, OB_map, OB_ite, ifO_bl, notO_bl, ifR_bl, get_shr, get_new, get_var, opd_shr, opd_new, own_zero, own_succ, ow_own, ow_io, upd_own, upd_io, upd_succ, so_shr, so_own, so_io, unO_shr, unO_new, unO_var, shO_shr, shO_new, shO_var', frz_own, setOk_un, setOk_shr, setOk_own, set_shr, set_new,
    xOwn_own, ret_shr, ret_new, ret_var, shrs_nil, shrs_cons, Option.map_some, gets_nil, gets_cons, split_nil, split_shr, split_var, sets_nil, sets_cons, tg_one, tg_many, callS_none, callS_some, xIo_some, xLst_some, xInt_some, oE_ret, oE_exc, two?, one?,
    List.cons_append, List.nil_append, List.replicate, List.getElem?_cons_zero, List.getElem?_cons_succ, List.set_cons_zero, List.set_cons_succ, List.length_cons, List.length_nil, Nat.zero_add, Nat.reduceAdd, Nat.reduceSub, Nat.reduceLeDiff, true_and, if_true, ite_true,
    ev_add, ev_sub, ev_fdiv, ev_mod, ev_pow18, ev_pow60, ev_pow5, ev_mul60, ev_mulA, ev_mulB, ev_neg, ev_lt, ev_le, ev_gt, ev_ge, ev_ixL, ev_ixT, ev_ixC, ev_ixS, ev_lenS, ev_lenL, ev_lenT, ev_lenC, ev_addS, ev_addL, ev_addT, ev_mulL, ev_max2, ev_min2, ev_slS, ev_slL, ev_slT, eqv_ii, nev_ii, Int.zero_add, ev_scr0, atI_nat0, atI_nat1, atI_nat2, ix20, ix21,
    Int.reduceLT, Int.reduceLE, Bool.false_eq_true, Bool.true_eq_false, false_implies, true_implies, implies_true, and_true, fnR_nx, fnR_ret, fnR_exc, ioOut, decide_eq_true_eq, decide_eq_false_iff_not, EX_lc, itS, wipe?, plainAt, plainS, wipeE, List.all_cons, List.all_nil, Bool.and_self, tyOf]
  refine LC_pure (fun c => if (!decide (c ∈ D10)) = true then some (.str [c]) else none) (by omega) (fun c hc => ?_) ?_
  · simp -implicitDefEqProofs only [SX_seq, SX_if, SX_asg, SX_ret, SX_retN, SX_setL, SX_augL, SX_nil, SX_expr, SX_par, SX_unp, SX_raise, SX_brk, SX_ct, SX_for, EX_bin, EX_un, EX_var, EX_c, EX_and, EX_or, EX_not, EX_if, EX_lst, EX_tup, EX_callB, EX_call, EX_meth, EX_mut, EX_extend, EX_sl, EX_chain, EX_esh, EX_eun, EX_tru,
    IX_any, IX_range1, IX_range2, IX_zip, IX_enum, xArgs_nil, xArgs_cons, xP_none, xP_some, iO_int, List.map_nil, List.map_cons, rE_val, rS_val, rI_val, rF_items, rE_exc, rS_exc, rI_exc, rF_exc, nxS_nx, nxS_ret, nxS_exc, nxS_brk, nxS_ct, lpS_nx, lpS_ct, lpS_brk, lpS_ret, lpS_exc,
    OX_some, OB_some, OB_map, OB_ite, ifO_bl, notO_bl, ifR_bl, get_shr, get_new, get_var, opd_shr, opd_new, own_zero, own_succ, ow_own, ow_io, upd_own, upd_io, upd_succ, so_shr, so_own, so_io, unO_shr, unO_new, unO_var, shO_shr, shO_new, shO_var', frz_own, setOk_un, setOk_shr, setOk_own, set_shr, set_new,
    xOwn_own, ret_shr, ret_new, ret_var, shrs_nil, shrs_cons, Option.map_some, gets_nil, gets_cons, split_nil, split_shr, split_var, sets_nil, sets_cons, tg_one, tg_many, callS_none, callS_some, xIo_some, xLst_some, xInt_some, oE_ret, oE_exc, two?, one?,
    List.cons_append, List.nil_append, List.replicate, List.getElem?_cons_zero, List.getElem?_cons_succ, List.set_cons_zero, List.set_cons_succ, List.length_cons, List.length_nil, Nat.zero_add, Nat.reduceAdd, Nat.reduceSub, Nat.reduceLeDiff, true_and, if_true, ite_true,
    ev_add, ev_sub, ev_fdiv, ev_mod, ev_pow18, ev_pow60, ev_pow5, ev_mul60, ev_mulA, ev_mulB, ev_neg, ev_lt, ev_le, ev_gt, ev_ge, ev_ixL, ev_ixT, ev_ixC, ev_ixS, ev_lenS, ev_lenL, ev_lenT, ev_lenC, ev_addS, ev_addL, ev_addT, ev_mulL, ev_max2, ev_min2, ev_slS, ev_slL, ev_slT, eqv_ii, nev_ii, Int.zero_add, ev_scr0, atI_nat0, atI_nat1, atI_nat2, ix20, ix21,
    Int.reduceLT, Int.reduceLE, Bool.false_eq_true, Bool.true_eq_false, false_implies, true_implies, implies_true, and_true, fnR_nx, fnR_ret, fnR_exc, ioOut, decide_eq_true_eq, decide_eq_false_iff_not, notInS]
    exact ⟨_, rfl, fun hb => ⟨_, rfl, if_pos hb, rfl⟩, fun hb => ⟨if_neg (by rw [show (!decide (c ∈ D10)) = false from hb]; decide), rfl⟩⟩
  · rw [filt]
    refine ⟨rfl, ?_⟩
    rw [joinS _ (by have := List.length_filter_le (fun c => !decide (c ∈ D10)) p; omega)]
    exact ⟨rfl, rfl⟩
def stepD (ds : List Int) (c : Nat) : List Int := if c ∈ D9 then ds.dropLast ++ [(c : Int) - 48] else ds ++ [0]
def digitsM (p : List Nat) : List Int := p.foldl stepD [0]
theorem stepD_len (ds : List Int) (c : Nat) (h : 0 < ds.length) : 0 < (stepD ds c).length ∧ (stepD ds c).length ≤ ds.length + 1 := by
  unfold stepD
  split
  · rw [List.length_append, List.length_dropLast, List.length_singleton]; omega
  · rw [List.length_append, List.length_singleton]; omega
theorem foldD_len : ∀ (p : List Nat) (ds : List Int), 0 < ds.length → 0 < (p.foldl stepD ds).length ∧ (p.foldl stepD ds).length ≤ ds.length + p.length
  | [], ds, h => ⟨h, Nat.le_refl _⟩
  | c :: p, ds, h => by
    have h1 := stepD_len ds c h
    have h2 := foldD_len p (stepD ds c) h1.1
    refine ⟨h2.1, ?_⟩
    show (p.foldl stepD (stepD ds c)).length ≤ _
    rw [List.length_cons]
    have := h2.2; have := h1.2; omega
theorem int_of (c : Nat) (n : Int) (e : PySem.intText? ⟨[c].toArray⟩ = some n) : oInt [.str [c]] = some (.shr (.int n)) := by
  unfold oInt
  dsimp only
  rw [if_pos (by simp), e]; rfl
theorem int_sign (c : Nat) (h : c ∈ D9) : oInt [.str [c]] = some (.shr (.int ((c : Int) - 48))) := by
  have h' : c = 49 ∨ c = 50 ∨ c = 51 ∨ c = 52 ∨ c = 53 ∨ c = 54 ∨ c = 55 ∨ c = 56 ∨ c = 57 := by simpa [D9] using h
  rcases h' with rfl | rfl | rfl | rfl | rfl | rfl | rfl | rfl | rfl <;> exact int_of _ _ (by decide +kernel)
theorem set_last {α : Type} (xs : List α) (v : α) (h : 0 < xs.length) : xs.set (xs.length - 1) v = xs.dropLast ++ [v] := by
  induction xs with
  | nil => cases h
  | cons x xs ih =>
    cases xs with
    | nil => rfl
    | cons y ys =>
      have := ih (by simp)
      simp only [List.length_cons, Nat.add_sub_cancel] at this ⊢
      rw [List.set_cons_succ, List.dropLast_cons_of_ne_nil (by simp), List.cons_append, this]
theorem ixN_m1 {n : Nat} (h : 0 < n) : ixN n (-1) = some (n - 1) := by
  unfold ixN
  rw [if_neg (by decide), if_pos (by omega)]
  congr 1; omega
theorem digits_ok (p : List Nat) (h : p.length ≤ 1000000) : fn_digits_of [.shr (.str p)] = some (.ret (.new (.lst ((digitsM p).map Val.int))), [.un]) := by
  apply OX_det
  unfold fn_digits_of g_digits_of
  refine FX_run rfl ?_
  simp -implicitDefEqProofs only [SX_seq, SX_if, SX_asg, SX_ret, SX_retN, SX_setL, SX_augL, SX_nil, SX_expr, SX_par, SX_unp, SX_raise, SX_brk, SX_ct, SX_for, EX_bin, EX_un, EX_var, EX_c, EX_and, EX_or, EX_not, EX_if, EX_lst, EX_tup, EX_callB, EX_call, EX_meth, EX_mut, EX_extend, EX_sl, EX_chain, EX_esh, EX_eun, EX_tru,
    IX_any, IX_range1, IX_range2, IX_zip, IX_enum, xArgs_nil, xArgs_cons, xP_none, xP_some, iO_int, List.map_nil, List.map_cons, rE_val, rS_val, rI_val, rF_items, rE_exc, rS_exc, rI_exc, rF_exc, nxS_nx, nxS_ret, nxS_exc, nxS_brk, nxS_ct, lpS_nx, lpS_ct, lpS_brk, lpS_ret, lpS_exc,
    OX_some, OB_some, OB_map, OB_ite, ifO_bl, notO_bl, ifR_bl, get_shr, get_new, get_var, opd_shr, opd_new, own_zero, own_succ, ow_own, ow_io, upd_own, upd_io, upd_succ, so_shr, so_own, so_io, unO_shr, unO_new, unO_var, shO_shr, shO_new, shO_var', frz_own, setOk_un, setOk_shr, setOk_own, set_shr, set_new,
    xOwn_own, ret_shr, ret_new, ret_var, shrs_nil, shrs_cons, Option.map_some, gets_nil, gets_cons, split_nil, split_shr, split_var, sets_nil, sets_cons, tg_one, tg_many, callS_none, callS_some, xIo_some, xLst_some, xInt_some, oE_ret, oE_exc, two?, one?,
    List.cons_append, List.nil_append, List.replicate, List.getElem?_cons_zero, List.getElem?_cons_succ, List.set_cons_zero, List.set_cons_succ, List.length_cons, List.length_nil, Nat.zero_add, Nat.reduceAdd, Nat.reduceSub, Nat.reduceLeDiff, true_and, if_true, ite_true,
    ev_add, ev_sub, ev_fdiv, ev_mod, ev_pow18, ev_pow60, ev_pow5, ev_mul60, ev_mulA, ev_mulB, ev_neg, ev_lt, ev_le, ev_gt, ev_ge, ev_ixL, ev_ixT, ev_ixC, ev_ixS, ev_lenS, ev_lenL, ev_lenT, ev_lenC, ev_addS, ev_addL, ev_addT, ev_mulL, ev_max2, ev_min2, ev_slS, ev_slL, ev_slT, eqv_ii, nev_ii, Int.zero_add, ev_scr0, atI_nat0, atI_nat1, atI_nat2, ix20, ix21,
    Int.reduceLT, Int.reduceLE, Bool.false_eq_true, Bool.true_eq_false, false_implies, true_implies, implies_true, and_true, fnR_nx, fnR_ret, fnR_exc, ioOut, decide_eq_true_eq, decide_eq_false_iff_not, itS]
  refine FL_inv (fun i e => ∃ s2, setOk (some s2) = true ∧ e = [.shr (.str p), .own (.lst ((digitsM (p.take i)).map Val.int)), s2]) ⟨.un, rfl, rfl⟩ (fun i v e hv hI => ?_) fun e hI => ?_
  · obtain ⟨s2, hs2, rfl⟩ := hI
    rw [List.getElem?_map] at hv
    obtain ⟨c, hc, rfl⟩ := Option.map_eq_some_iff.mp hv
    have hi := (List.getElem?_eq_some_iff.mp hc).1
    have ht : digitsM (p.take (i + 1)) = stepD (digitsM (p.take i)) c := by
      unfold digitsM
      rw [List.take_succ, hc, List.foldl_append]; rfl
    have hl := foldD_len (p.take i) [0] (by simp)
    rw [List.length_take] at hl
    have hl' : 0 < (digitsM (p.take i)).length := hl.1
    simp -implicitDefEqProofs only [SX_seq, SX_if, SX_asg, SX_ret, SX_retN, SX_setL, SX_augL, SX_nil, SX_expr, SX_par, SX_unp, SX_raise, SX_brk, SX_ct, SX_for, EX_bin, EX_un, EX_var, EX_c, EX_and, EX_or, EX_not, EX_if, EX_lst, EX_tup, EX_callB, EX_call, EX_meth, EX_mut, EX_extend, EX_sl, EX_chain, EX_esh, EX_eun, EX_tru,
    IX_any, IX_range1, IX_range2, IX_zip, IX_enum, xArgs_nil, xArgs_cons, xP_none, xP_some, iO_int, List.map_nil, List.map_cons, rE_val, rS_val, rI_val, rF_items, rE_exc, rS_exc, rI_exc, rF_exc, nxS_nx, nxS_ret, nxS_exc, nxS_brk, nxS_ct, lpS_nx, lpS_ct, lpS_brk, lpS_ret, lpS_exc,
    OX_some, OB_some, OB_map, OB_ite, ifO_bl, notO_bl, ifR_bl, get_shr, get_new, get_var, opd_shr, opd_new, own_zero, own_succ, ow_own, ow_io, upd_own, upd_io, upd_succ, so_shr, so_own, so_io, unO_shr, unO_new, unO_var, shO_shr, shO_new, shO_var', frz_own, setOk_un, setOk_shr, setOk_own, set_shr, set_new,
    xOwn_own, ret_shr, ret_new, ret_var, shrs_nil, shrs_cons, Option.map_some, gets_nil, gets_cons, split_nil, split_shr, split_var, sets_nil, sets_cons, tg_one, tg_many, callS_none, callS_some, xIo_some, xLst_some, xInt_some, oE_ret, oE_exc, two?, one?,
    List.cons_append, List.nil_append, List.replicate, List.getElem?_cons_zero, List.getElem?_cons_succ, List.set_cons_zero, List.set_cons_succ, List.length_cons, List.length_nil, Nat.zero_add, Nat.reduceAdd, Nat.reduceSub, Nat.reduceLeDiff, true_and, if_true, ite_true,
    ev_add, ev_sub, ev_fdiv, ev_mod, ev_pow18, ev_pow60, ev_pow5, ev_mul60, ev_mulA, ev_mulB, ev_neg, ev_lt, ev_le, ev_gt, ev_ge, ev_ixL, ev_ixT, ev_ixC, ev_ixS, ev_lenS, ev_lenL, ev_lenT, ev_lenC, ev_addS, ev_addL, ev_addT, ev_mulL, ev_max2, ev_min2, ev_slS, ev_slL, ev_slT, eqv_ii, nev_ii, Int.zero_add, ev_scr0, atI_nat0, atI_nat1, atI_nat2, ix20, ix21,
    Int.reduceLT, Int.reduceLE, Bool.false_eq_true, Bool.true_eq_false, false_implies, true_implies, implies_true, and_true, fnR_nx, fnR_ret, fnR_exc, ioOut, decide_eq_true_eq, decide_eq_false_iff_not, inS, hs2]
    refine ⟨fun h1 => ?_, fun h1 => ?_⟩
    · rw [int_sign c h1]
      simp -implicitDefEqProofs only [SX_seq, SX_if, SX_asg, SX_ret, SX_retN, SX_setL, SX_augL, SX_nil, SX_expr, SX_par, SX_unp, SX_raise, SX_brk, SX_ct, SX_for, EX_bin, EX_un, EX_var, EX_c, EX_and, EX_or, EX_not, EX_if, EX_lst, EX_tup, EX_callB, EX_call, EX_meth, EX_mut, EX_extend, EX_sl, EX_chain, EX_esh, EX_eun, EX_tru,
    IX_any, IX_range1, IX_range2, IX_zip, IX_enum, xArgs_nil, xArgs_cons, xP_none, xP_some, iO_int, List.map_nil, List.map_cons, rE_val, rS_val, rI_val, rF_items, rE_exc, rS_exc, rI_exc, rF_exc, nxS_nx, nxS_ret, nxS_exc, nxS_brk, nxS_ct, lpS_nx, lpS_ct, lpS_brk, lpS_ret, lpS_exc,
    OX_some, OB_some, OB_map, OB_ite, ifO_bl, notO_bl, ifR_bl, get_shr, get_new, get_var, opd_shr, opd_new, own_zero, own_succ, ow_own, ow_io, upd_own, upd_io, upd_succ, so_shr, so_own, so_io, unO_shr, unO_new, unO_var, shO_shr, shO_new, shO_var', frz_own, setOk_un, setOk_shr, setOk_own, set_shr, set_new,
    xOwn_own, ret_shr, ret_new, ret_var, shrs_nil, shrs_cons, Option.map_some, gets_nil, gets_cons, split_nil, split_shr, split_var, sets_nil, sets_cons, tg_one, tg_many, callS_none, callS_some, xIo_some, xLst_some, xInt_some, oE_ret, oE_exc, two?, one?,
    List.cons_append, List.nil_append, List.replicate, List.getElem?_cons_zero, List.getElem?_cons_succ, List.set_cons_zero, List.set_cons_succ, List.length_cons, List.length_nil, Nat.zero_add, Nat.reduceAdd, Nat.reduceSub, Nat.reduceLeDiff, true_and, if_true, ite_true,
    ev_add, ev_sub, ev_fdiv, ev_mod, ev_pow18, ev_pow60, ev_pow5, ev_mul60, ev_mulA, ev_mulB, ev_neg, ev_lt, ev_le, ev_gt, ev_ge, ev_ixL, ev_ixT, ev_ixC, ev_ixS, ev_lenS, ev_lenL, ev_lenT, ev_lenC, ev_addS, ev_addL, ev_addT, ev_mulL, ev_max2, ev_min2, ev_slS, ev_slL, ev_slT, eqv_ii, nev_ii, Int.zero_add, ev_scr0, atI_nat0, atI_nat1, atI_nat2, ix20, ix21,
    Int.reduceLT, Int.reduceLE, Bool.false_eq_true, Bool.true_eq_false, false_implies, true_implies, implies_true, and_true, fnR_nx, fnR_ret, fnR_exc, ioOut, decide_eq_true_eq, decide_eq_false_iff_not, List.length_map]
      rw [ixN_m1 hl', OB_some]
      refine ⟨.shr (.str [c]), rfl, ?_⟩
      rw [ht]
      unfold stepD
      rw [if_pos (show c ∈ D9 from h1), ← set_last _ _ hl', List.map_set]
    · show OB (if (List.map Val.int (digitsM (p.take i))).length < 16000000 then some (Val.non, List.map Val.int (digitsM (p.take i)) ++ [Val.int 0]) else none) _
      have hl2 : (digitsM (p.take i)).length ≤ [(0 : Int)].length + min i p.length := hl.2
      rw [List.length_singleton] at hl2
      rw [if_pos (by rw [List.length_map]; omega), OB_some]
      refine ⟨.shr (.str [c]), rfl, ?_⟩
      rw [ht]
      unfold stepD
      rw [if_neg (show ¬c ∈ D9 from h1), List.map_append]
      rfl
  · obtain ⟨s2, hs2, rfl⟩ := hI
    simp -implicitDefEqProofs only [SX_seq, SX_if, SX_asg, SX_ret, SX_retN, SX_setL, SX_augL, SX_nil, SX_expr, SX_par, SX_unp, SX_raise, SX_brk, SX_ct, SX_for, EX_bin, EX_un, EX_var, EX_c, EX_and, EX_or, EX_not, EX_if, EX_lst, EX_tup, EX_callB, EX_call, EX_meth, EX_mut, EX_extend, EX_sl, EX_chain, EX_esh, EX_eun, EX_tru,
    IX_any, IX_range1, IX_range2, IX_zip, IX_enum, xArgs_nil, xArgs_cons, xP_none, xP_some, iO_int, List.map_nil, List.map_cons, rE_val, rS_val, rI_val, rF_items, rE_exc, rS_exc, rI_exc, rF_exc, nxS_nx, nxS_ret, nxS_exc, nxS_brk, nxS_ct, lpS_nx, lpS_ct, lpS_brk, lpS_ret, lpS_exc,
    OX_some, OB_some, OB_map, OB_ite, ifO_bl, notO_bl, ifR_bl, get_shr, get_new, get_var, opd_shr, opd_new, own_zero, own_succ, ow_own, ow_io, upd_own, upd_io, upd_succ, so_shr, so_own, so_io, unO_shr, unO_new, unO_var, shO_shr, shO_new, shO_var', frz_own, setOk_un, setOk_shr, setOk_own, set_shr, set_new,
    xOwn_own, ret_shr, ret_new, ret_var, shrs_nil, shrs_cons, Option.map_some, gets_nil, gets_cons, split_nil, split_shr, split_var, sets_nil, sets_cons, tg_one, tg_many, callS_none, callS_some, xIo_some, xLst_some, xInt_some, oE_ret, oE_exc, two?, one?,
    List.cons_append, List.nil_append, List.replicate, List.getElem?_cons_zero, List.getElem?_cons_succ, List.set_cons_zero, List.set_cons_succ, List.length_cons, List.length_nil, Nat.zero_add, Nat.reduceAdd, Nat.reduceSub, Nat.reduceLeDiff, true_and, if_true, ite_true,
    ev_add, ev_sub, ev_fdiv, ev_mod, ev_pow18, ev_pow60, ev_pow5, ev_mul60, ev_mulA, ev_mulB, ev_neg, ev_lt, ev_le, ev_gt, ev_ge, ev_ixL, ev_ixT, ev_ixC, ev_ixS, ev_lenS, ev_lenL, ev_lenT, ev_lenC, ev_addS, ev_addL, ev_addT, ev_mulL, ev_max2, ev_min2, ev_slS, ev_slL, ev_slT, eqv_ii, nev_ii, Int.zero_add, ev_scr0, atI_nat0, atI_nat1, atI_nat2, ix20, ix21,
    Int.reduceLT, Int.reduceLE, Bool.false_eq_true, Bool.true_eq_false, false_implies, true_implies, implies_true, and_true, fnR_nx, fnR_ret, fnR_exc, ioOut, decide_eq_true_eq, decide_eq_false_iff_not]
    rw [List.length_map, List.take_length]
end G

end
section
set_option Elab.async false
set_option linter.all false
set_option maxRecDepth 100000
set_option maxHeartbeats 4000000
set_option autoImplicit false
/-! M: where a pattern is found. -/
namespace G
open PySem L2 Lw
/-- signs that a text may hold -/
def okS (z : List Nat) : Prop := ∀ c ∈ z, c < 1114112
theorem shaped_s {z : List Nat} (h : okS z) : SeqAt.shaped (.str ⟨z.toArray⟩) = true := by
  unfold SeqAt.shaped
  have h1 : PyData.canLay0 (.str ⟨z.toArray⟩) = true := by
    show PyData.strOk ⟨z.toArray⟩ = true
    unfold PyData.strOk
    rw [List.all_toArray, List.all_eq_true]
    exact fun c hc => decide_eq_true (h c hc)
  rw [h1]; rfl
theorem vEq_ss {a b : List Nat} (ha : okS a) (hb : okS b) : vEq (.str a) (.str b) = some (decide (a = b)) := by
  unfold vEq
  simp only [toD]
  rw [if_pos ⟨shaped_s ha, shaped_s hb⟩]
  show some ((⟨a.toArray⟩ : PySem.Str) == ⟨b.toArray⟩) = _
  rw [str_beq]
  by_cases h : a = b
  · subst h; simp
  · simp [h]
theorem eqv_ss {a b : List Nat} (ha : okS a) (hb : okS b) : oEq (.str a) (.str b) = some (.shr (.bl (decide (a = b)))) := by unfold oEq; rw [vEq_ss ha hb]; rfl
theorem nev_ss {a b : List Nat} (ha : okS a) (hb : okS b) : oNe (.str a) (.str b) = some (.shr (.bl (!decide (a = b)))) := by unfold oNe; rw [vEq_ss ha hb]; rfl
theorem okS_filter {z : List Nat} (h : okS z) (p : Nat → Bool) : okS (z.filter p) := fun c hc => h c (List.mem_filter.mp hc).1
theorem okS_take {z : List Nat} (h : okS z) (n : Nat) : okS (z.take n) := fun c hc => h c (List.mem_of_mem_take hc)
theorem okS_drop {z : List Nat} (h : okS z) (n : Nat) : okS (z.drop n) := fun c hc => h c (List.mem_of_mem_drop hc)
theorem cut_mid {α : Type} (xs : List α) (s e : Nat) (h : e ≤ xs.length) (h2 : s ≤ e) : cutG xs (some (s : Int)) (some (e : Int)) = (xs.drop s).take (e - s) := by
  unfold cutG
  rw [HT.sIx_nat, HT.sIx_nat, Nat.min_eq_left (Nat.le_trans h2 h), Nat.min_eq_left h]
theorem okS_chars {p : List Nat} (h : okS p) : okS (charsM p) := okS_filter h _
def txt (w : List Nat) : List Nat := 46 :: (w ++ [46])
theorem okS_txt {w : List Nat} (h : okS w) : okS (txt w) := fun c hc => by
  unfold txt at hc
  rcases List.mem_cons.mp hc with rfl | hc
  · decide
  · rcases List.mem_append.mp hc with hc | hc
    · exact h c hc
    · rw [List.mem_singleton] at hc; subst hc; decide
/-- the pairs that an occurrence at s gives -/
def hits (s : Nat) (ds : List Int) : List (Int × Int) := ds.zipIdx.filterMap fun z => if decide (0 < z.1) = true then some ((s : Int) + z.2 - 1, z.1) else none
def occ (p w : List Nat) (s : Nat) : Bool := decide (((txt w).drop s).take (charsM p).length = charsM p)
def foundM (p w : List Nat) : List (Int × Int) := (List.range (w.length + 3 - (charsM p).length)).flatMap fun s => if occ p w s = true then hits s (digitsM p) else []
def pr (z : Int × Int) : Val := .tup [.int z.1, .int z.2]
theorem hits_len (s : Nat) (ds : List Int) : (hits s ds).length ≤ ds.length := by
  unfold hits
  have := List.length_filterMap_le (fun z : Int × Nat => if decide (0 < z.1) = true then some ((s : Int) + z.2 - 1, z.1) else none) ds.zipIdx
  rw [List.length_zipIdx] at this
  exact this
theorem found_len (p w : List Nat) (f : Nat → List (Int × Int)) (k : Nat) (h : ∀ s, (f s).length ≤ k) : ∀ n, ((List.range n).flatMap f).length ≤ n * k
  | 0 => by simp
  | n + 1 => by
    rw [List.range_succ, List.flatMap_append, List.length_append]
    have := found_len p w f k h n
    have h2 := h n
    rw [Nat.succ_mul]
    simp only [List.flatMap_cons, List.flatMap_nil, List.append_nil]
    omega
theorem enumI (ds : List Int) : enumV (ds.map Val.int) = ds.zipIdx.map fun z => Val.tup [.int (z.2 : Nat), .int z.1] := by
  unfold enumV
  rw [List.mapIdx_eq_zipIdx_map, List.zipIdx_map, List.map_map]
  rfl
end G

end
section
set_option Elab.async false
set_option linter.all false
set_option maxRecDepth 100000
set_option maxHeartbeats 4000000
set_option autoImplicit false
/-! M: the levels of a word. -/
namespace G
open PySem L2 Lw
/-- a level is raised -/
def up (ls : List Int) (z : Int × Int) : List Int := ls.set z.1.toNat (max (ls.getD z.1.toNat 0) z.2)
theorem up_len (ls : List Int) (z : Int × Int) : (up ls z).length = ls.length := by unfold up; rw [List.length_set]
theorem ups_len : ∀ (zs : List (Int × Int)) (ls : List Int), (zs.foldl up ls).length = ls.length
  | [], _ => rfl
  | z :: zs, ls => (ups_len zs (up ls z)).trans (up_len ls z)
def zs (n : Nat) : List Int := List.replicate n 0
def levM (ps : List (List Nat)) (w : List Nat) : List Int := (ps.flatMap fun p => foundM p w).foldl up (zs (w.length + 1))
theorem lev_len (ps : List (List Nat)) (w : List Nat) : (levM ps w).length = w.length + 1 := by unfold levM; rw [ups_len]; unfold zs; rw [List.length_replicate]
/-- all is found within the word -/
def Inw (p w : List Nat) : Prop := ∀ z ∈ foundM p w, 0 ≤ z.1 ∧ z.1 ≤ (w.length : Int)
theorem at_ints {ls : List Int} {g : Int} (h0 : 0 ≤ g) (h1 : g < ls.length) : atI (ls.map Val.int) g = some (.int (ls.getD g.toNat 0)) := by
  unfold atI
  rw [ixN_nat h0 (by rw [List.length_map]; exact h1)]
  have h2 : g.toNat < ls.length := by omega
  show (ls.map Val.int)[g.toNat]? = _
  rw [List.getElem?_map, List.getElem?_eq_getElem h2, List.getD_eq_getElem?_getD, List.getElem?_eq_getElem h2]
  rfl
theorem up_step {ls : List Int} {z : Int × Int} (h0 : 0 ≤ z.1) (h1 : z.1 < ls.length) : (ls.map Val.int).set z.1.toNat (.int (max (ls.getD z.1.toNat 0) z.2)) = (up ls z).map Val.int := by
  unfold up
  rw [List.map_set]
def rulesV (ps : List (List Nat)) (l r : Int) : Val := .tup [.tup (ps.map Val.str), .int l, .int r]
end G

end
section
set_option Elab.async false
set_option linter.all false
set_option maxRecDepth 100000
set_option maxHeartbeats 4000000
set_option autoImplicit false
/-! M: a pattern walked sign by sign gives what its digits by place give. -/
namespace G
open PySem L2 Lw
/-- the digits by place, d the last so far -/
def dgo (d : Int) : List Nat → List Int
  | [] => [d]
  | c :: p => if c ∈ D9 then dgo ((c : Int) - 48) p else d :: dgo 0 p
theorem fold_dgo : ∀ (p : List Nat) (xs : List Int) (d : Int), p.foldl stepD (xs ++ [d]) = xs ++ dgo d p
  | [], xs, d => rfl
  | c :: p, xs, d => by
    show p.foldl stepD (stepD (xs ++ [d]) c) = _
    unfold dgo
    by_cases h : c ∈ D9
    · have e : stepD (xs ++ [d]) c = xs ++ [(c : Int) - 48] := by unfold stepD; rw [if_pos h, List.dropLast_concat]
      rw [if_pos h, e, fold_dgo p xs]
    · have e : stepD (xs ++ [d]) c = xs ++ [d] ++ [0] := by unfold stepD; rw [if_neg h]
      rw [if_neg h, e, fold_dgo p (xs ++ [d]) 0, List.append_assoc]; rfl
theorem digits_dgo (p : List Nat) : digitsM p = dgo 0 p := fold_dgo p [] 0
def hitsF (s : Int) : List Int → List (Int × Int)
  | [] => []
  | d :: ds => (if decide (0 < d) = true then [(s - 1, d)] else []) ++ hitsF (s + 1) ds
theorem hits_go (s : Nat) : ∀ (ds : List Int) (k : Nat), (ds.zipIdx k).filterMap (fun z => if decide (0 < z.1) = true then some ((s : Int) + z.2 - 1, z.1) else none) = hitsF ((s : Int) + k) ds
  | [], k => rfl
  | d :: ds, k => by
    rw [List.zipIdx_cons, List.filterMap_cons]
    have ih := hits_go s ds (k + 1)
    have e : (s : Int) + ((k + 1 : Nat) : Int) = (s : Int) + k + 1 := by omega
    rw [e] at ih
    unfold hitsF
    by_cases h : decide (0 < d) = true
    · rw [if_pos h, if_pos h, ih]; rfl
    · rw [if_neg h, if_neg h, ih]; rfl
theorem hits_eq (s : Nat) (ds : List Int) : hits s ds = hitsF s ds := by
  have := hits_go s ds 0
  have e : (s : Int) + ((0 : Nat) : Int) = s := by omega
  rw [e] at this
  exact this
/-- the law's walk: at its place, each digit -/
def wk (s : Int) : List Nat → List (Int × Int)
  | [] => []
  | c :: p => if c ∈ D9 then (s, (c : Int) - 48) :: wk s p else wk (s + 1) p
/-- no two digits side by side (b: one stands ahead) -/
def noAdj (b : Bool) : List Nat → Bool
  | [] => true
  | c :: p => if c ∈ D9 then !b && noAdj true p else noAdj false p
theorem d9_pos {c : Nat} (h : c ∈ D9) : 0 < (c : Int) - 48 := by
  have h' : c = 49 ∨ c = 50 ∨ c = 51 ∨ c = 52 ∨ c = 53 ∨ c = 54 ∨ c = 55 ∨ c = 56 ∨ c = 57 := by simpa [D9] using h
  omega
theorem walk_hits : ∀ (p : List Nat) (d s : Int), noAdj (decide (0 < d)) p = true → hitsF s (dgo d p) = (if decide (0 < d) = true then [(s - 1, d)] else []) ++ (wk s p).map fun z => (z.1 - 1, z.2)
  | [], d, s, _ => by unfold dgo wk hitsF hitsF; rfl
  | c :: p, d, s, h => by
    unfold noAdj at h
    unfold dgo wk
    by_cases hc : c ∈ D9
    · rw [if_pos hc] at h ⊢
      rw [if_pos hc]
      obtain ⟨h1, h2⟩ := Bool.and_eq_true_iff.mp h
      have hd : decide (0 < d) = false := by simpa using h1
      have hp := d9_pos hc
      rw [walk_hits p _ s (by rw [decide_eq_true hp]; exact h2), hd, decide_eq_true hp]
      rfl
    · rw [if_neg hc] at h ⊢
      rw [if_neg hc]
      show (if decide (0 < d) = true then [(s - 1, d)] else []) ++ hitsF (s + 1) (dgo 0 p) = _
      rw [walk_hits p 0 (s + 1) h]
      rfl
theorem walk_ok {p : List Nat} (h : noAdj false p = true) (s : Nat) : hits s (digitsM p) = (wk s p).map fun z => (z.1 - 1, z.2) := by
  rw [hits_eq, digits_dgo, walk_hits p 0 s h]; rfl
end G

end
section
set_option Elab.async false
set_option linter.all false
set_option maxRecDepth 100000
set_option maxHeartbeats 4000000
set_option autoImplicit false
/-! M: the law's own levels. -/
namespace G
open PySem L2 Lw
theorem starts3 (T b : List Nat) (i : Nat) (hi : i ≤ T.length) : Txt.startswith3 (S T) (S b) (i : Int) = decide ((T.drop i).take b.length = b) := by
  unfold Txt.startswith3
  have e : fromIndex (S T).length (i : Int) = i := by
    unfold fromIndex
    rw [if_neg (by omega)]
    omega
  rw [e, StrLaws.subAt_eq, S_len, S_len]
  show (decide (i + b.length ≤ T.length) && ((T.drop i).take b.length == b)) = _
  by_cases h : (T.drop i).take b.length = b
  · have hl := congrArg List.length h
    rw [List.length_take, List.length_drop] at hl
    rw [decide_eq_true h, decide_eq_true (by omega : i + b.length ≤ T.length), h]
    simp
  · rw [decide_eq_false h]
    have : ((T.drop i).take b.length == b) = false := by simpa using h
    rw [this, Bool.and_false]
theorem ev_starts3 (T b : List Nat) (i : Nat) (hi : i ≤ T.length) : oStarts (.str T) [.str b, .int (i : Int)] = some (.shr (.bl (decide ((T.drop i).take b.length = b)))) := by
  show some (RV.shr (.bl (Txt.startswith3 (S T) (S b) (i : Int)))) = _
  rw [starts3 T b i hi]
/-- what the law's loop raises -/
def lawUps (p w : List Nat) : List (Int × Int) := (List.range (w.length + 2)).flatMap fun s => if occ p w s = true then wk s p else []
def lawLevM (ps : List (List Nat)) (w : List Nat) : List Int := (ps.flatMap fun p => lawUps p w).foldl up (zs (w.length + 3))
theorem lawLev_len (ps : List (List Nat)) (w : List Nat) : (lawLevM ps w).length = w.length + 3 := by unfold lawLevM; rw [ups_len]; unfold zs; rw [List.length_replicate]
theorem bare_chars {p : List Nat} (h : 48 ∉ p) : bareM p = charsM p := by
  unfold bareM charsM
  apply List.filter_congr
  intro c hc
  have : c ≠ 48 := fun e => h (e ▸ hc)
  simp [D9, D10, this]
/-- where a walk ends -/
def wkEnd (s : Int) (p : List Nat) : Int := s + (charsM p).length
theorem wk_in : ∀ (p : List Nat) (s : Int) (z : Int × Int), z ∈ wk s p → s ≤ z.1 ∧ z.1 ≤ s + (charsM p).length
  | [], s, z, h => by cases h
  | c :: p, s, z, h => by
    unfold wk at h
    by_cases hc : c ∈ D9
    · rw [if_pos hc] at h
      have e : charsM (c :: p) = charsM p := by unfold charsM; rw [List.filter_cons_of_neg (by simp [hc])]
      rw [e]
      rcases List.mem_cons.mp h with rfl | h
      · exact ⟨Int.le_refl _, by omega⟩
      · exact wk_in p s z h
    · rw [if_neg hc] at h
      have e : charsM (c :: p) = c :: charsM p := by unfold charsM; rw [List.filter_cons_of_pos (by simp [hc])]
      rw [e, List.length_cons]
      obtain ⟨h1, h2⟩ := wk_in p (s + 1) z h
      exact ⟨by omega, by omega⟩
end G

end
section
set_option Elab.async false
set_option linter.all false
set_option maxRecDepth 100000
set_option maxHeartbeats 4000000
set_option autoImplicit false
/-! M: the law's levels run. -/
namespace G
open PySem L2 Lw
theorem chars_app (a b : List Nat) : charsM (a ++ b) = charsM a ++ charsM b := List.filter_append a b
theorem wk_app : ∀ (a b : List Nat) (s : Int), wk s (a ++ b) = wk s a ++ wk (s + (charsM a).length) b
  | [], b, s => by simp [wk, charsM]
  | c :: a, b, s => by
    show wk s (c :: (a ++ b)) = _
    have w1 : ∀ q : List Nat, wk s (c :: q) = if c ∈ D9 then (s, (c : Int) - 48) :: wk s q else wk (s + 1) q := fun q => rfl
    rw [w1, w1]
    by_cases hc : c ∈ D9
    · have e : charsM (c :: a) = charsM a := by unfold charsM; rw [List.filter_cons_of_neg (by simp [hc])]
      rw [if_pos hc, if_pos hc, wk_app a b s, e]; rfl
    · have e : charsM (c :: a) = c :: charsM a := by unfold charsM; rw [List.filter_cons_of_pos (by simp [hc])]
      have e2 : s + 1 + ((charsM a).length : Int) = s + (((charsM a).length + 1 : Nat) : Int) := by omega
      rw [if_neg hc, if_neg hc, wk_app a b (s + 1), e, List.length_cons, e2]
theorem wk_snoc (a : List Nat) (c : Nat) (s : Int) : wk s (a ++ [c]) = wk s a ++ (if c ∈ D9 then [(s + (charsM a).length, (c : Int) - 48)] else []) := by
  rw [wk_app]
  congr 1
theorem chars_snoc (a : List Nat) (c : Nat) : (charsM (a ++ [c])).length = (charsM a).length + (if c ∈ D9 then 0 else 1) := by
  rw [chars_app, List.length_append]
  congr 1
  unfold charsM
  by_cases hc : c ∈ D9
  · rw [List.filter_cons_of_neg (by simp [hc]), if_pos hc]; rfl
  · rw [List.filter_cons_of_pos (by simp [hc]), if_neg hc]; rfl
theorem occ_len {p w : List Nat} {s : Nat} (h : occ p w s = true) (hs : s ≤ w.length + 2) : s + (charsM p).length ≤ w.length + 2 := by
  have h := congrArg List.length (of_decide_eq_true h)
  rw [List.length_take, List.length_drop] at h
  have : (txt w).length = w.length + 2 := by simp [txt]
  omega
theorem chars_take_le (p : List Nat) (j : Nat) : (charsM (p.take j)).length ≤ (charsM p).length := by
  conv => rhs; rw [← List.take_append_drop j p, chars_app, List.length_append]
  exact Nat.le_add_right _ _
theorem zs_rep (n : Nat) (k : Int) (h : k.toNat = n) : (List.replicate k.toNat [Val.int 0]).flatten = (zs n).map Val.int := by
  rw [h]
  unfold zs
  rw [List.map_replicate]
  clear h
  induction n with
  | zero => rfl
  | succ n ih => rw [List.replicate_succ, List.flatten_cons, ih, List.replicate_succ]; rfl
/-- the part of a law's levels that it gives back -/
def lawCut (ps : List (List Nat)) (w : List Nat) : List Int := ((lawLevM ps w).drop 1).take (w.length + 1)
end G

end
section
set_option Elab.async false
set_option linter.all false
set_option maxRecDepth 100000
set_option maxHeartbeats 4000000
set_option autoImplicit false
/-! M: what a pattern's digits at a gap hang on. -/
namespace G
open PySem L2 Lw
def isLet (c : Nat) : Prop := 97 ≤ c ∧ c ≤ 122
def lets (w : List Nat) : Prop := ∀ c ∈ w, isLet c
structure VPw (p d1 t d2 : List Nat) : Prop where
  eq : p = d1 ++ t ++ d2
  h1 : d1 = [] ∨ d1 = [46]
  h2 : d2 = [] ∨ d2 = [46]
  sg : ∀ c ∈ t, c ∈ D9 ∨ isLet c
  na : noAdj false t = true
  c1 : 1 ≤ (charsM t).length
  c4 : (charsM t).length ≤ 4
  lt : (charsM t).length < t.length
def VP (p : List Nat) : Prop := ∃ d1 t d2, VPw p d1 t d2
theorem lets_ok {w : List Nat} (h : lets w) : okS w := fun c hc => by have h := h c hc; unfold isLet at h; omega
theorem d9_le {c : Nat} (h : c ∈ D9) : 49 ≤ c ∧ c ≤ 57 := by
  have h' : c = 49 ∨ c = 50 ∨ c = 51 ∨ c = 52 ∨ c = 53 ∨ c = 54 ∨ c = 55 ∨ c = 56 ∨ c = 57 := by simpa [D9] using h
  omega
theorem d9_of {c : Nat} (h : 49 ≤ c) (h2 : c ≤ 57) : c ∈ D9 := by
  have : c = 49 ∨ c = 50 ∨ c = 51 ∨ c = 52 ∨ c = 53 ∨ c = 54 ∨ c = 55 ∨ c = 56 ∨ c = 57 := by omega
  rcases this with rfl | rfl | rfl | rfl | rfl | rfl | rfl | rfl | rfl <;> decide
theorem na_len : ∀ (t : List Nat) (b : Bool), noAdj b t = true → t.length ≤ 2 * (charsM t).length + (if b = true then 0 else 1)
  | [], b, _ => Nat.zero_le _
  | c :: t, b, h => by
    unfold noAdj at h
    by_cases hc : c ∈ D9
    · rw [if_pos hc] at h
      obtain ⟨h1, h2⟩ := Bool.and_eq_true_iff.mp h
      have e : charsM (c :: t) = charsM t := by unfold charsM; rw [List.filter_cons_of_neg (by simp [hc])]
      have := na_len t true h2
      cases b
      · rw [e, List.length_cons]; simp at this ⊢; omega
      · cases h1
    · rw [if_neg hc] at h
      have e : charsM (c :: t) = c :: charsM t := by unfold charsM; rw [List.filter_cons_of_pos (by simp [hc])]
      have := na_len t false h
      rw [e, List.length_cons, List.length_cons]
      cases b <;> simp at this ⊢ <;> omega
theorem na_dot : ∀ (t : List Nat) (b : Bool), noAdj b (t ++ [46]) = noAdj b t
  | [], b => by cases b <;> rfl
  | c :: t, b => by
    show noAdj b (c :: (t ++ [46])) = _
    unfold noAdj
    rw [na_dot t true, na_dot t false]
section
variable {p d1 t d2 : List Nat} (h : VPw p d1 t d2)
include h
theorem VPw.l1 : d1.length ≤ 1 := by rcases h.h1 with rfl | rfl <;> decide
theorem VPw.l2 : d2.length ≤ 1 := by rcases h.h2 with rfl | rfl <;> decide
theorem VPw.chars : charsM p = d1 ++ charsM t ++ d2 := by
  rw [h.eq, chars_app, chars_app]
  have e1 : charsM d1 = d1 := by rcases h.h1 with rfl | rfl <;> rfl
  have e2 : charsM d2 = d2 := by rcases h.h2 with rfl | rfl <;> rfl
  rw [e1, e2]
theorem VPw.clen : (charsM p).length = d1.length + (charsM t).length + d2.length := by rw [h.chars, List.length_append, List.length_append]
theorem VPw.na' : noAdj false p = true := by
  rw [h.eq]
  have e1 : noAdj false (d1 ++ t ++ d2) = noAdj false (t ++ d2) := by rcases h.h1 with rfl | rfl <;> rfl
  rw [e1]
  rcases h.h2 with rfl | rfl
  · rw [List.append_nil]; exact h.na
  · rw [na_dot]; exact h.na
theorem VPw.len : p.length ≤ 11 := by
  have := na_len t false h.na
  have := h.c4
  have := h.l1
  have := h.l2
  rw [h.eq, List.length_append, List.length_append]
  simp at *
  omega
theorem VPw.sgn : ∀ c ∈ p, c = 46 ∨ c ∈ D9 ∨ isLet c := by
  rw [h.eq]
  intro c hc
  rcases List.mem_append.mp hc with hc | hc
  · rcases List.mem_append.mp hc with hc | hc
    · rcases h.h1 with rfl | rfl
      · cases hc
      · exact .inl (List.mem_singleton.mp hc)
    · exact .inr (h.sg c hc)
  · rcases h.h2 with rfl | rfl
    · cases hc
    · exact .inl (List.mem_singleton.mp hc)
theorem VPw.ok : okS p := fun c hc => by
  rcases h.sgn c hc with rfl | hd | hd
  · decide
  · have := d9_le hd; omega
  · unfold isLet at hd; omega
theorem VPw.no0 : 48 ∉ p := fun hc => by
  rcases h.sgn 48 hc with hd | hd | hd
  · cases hd
  · have := d9_le hd; omega
  · unfold isLet at hd; omega
theorem VPw.clet : lets (charsM t) := fun c hc => by
  obtain ⟨h1, h2⟩ := List.mem_filter.mp hc
  rcases h.sg c h1 with hd | hd
  · simp [hd] at h2
  · exact hd
theorem VPw.wk (s : Int) : G.wk s p = G.wk (s + d1.length) t := by
  rw [h.eq, wk_app, wk_app]
  have e1 : G.wk s d1 = [] := by rcases h.h1 with rfl | rfl <;> rfl
  have e2 : ∀ s, G.wk s d2 = [] := fun s => by rcases h.h2 with rfl | rfl <;> rfl
  have e3 : charsM d1 = d1 := by rcases h.h1 with rfl | rfl <;> rfl
  rw [e1, e2, e3, List.append_nil, List.nil_append]
end
theorem wk_sh : ∀ (p : List Nat) (s k : Int), wk (s + k) p = (wk s p).map fun z => (z.1 + k, z.2)
  | [], s, k => rfl
  | c :: p, s, k => by
    unfold wk
    by_cases hc : c ∈ D9
    · rw [if_pos hc, if_pos hc, List.map_cons, wk_sh p s k]
    · rw [if_neg hc, if_neg hc, ← wk_sh p (s + 1) k]
      congr 1; omega
theorem range_ext {α : Type} (f : Nat → List α) (N : Nat) : ∀ k, (∀ s, N ≤ s → s < N + k → f s = []) → (List.range (N + k)).flatMap f = (List.range N).flatMap f
  | 0, _ => rfl
  | k + 1, h => by
    rw [← Nat.add_assoc, List.range_succ, List.flatMap_append, range_ext f N k fun s h1 h2 => h s h1 (by omega)]
    simp [h (N + k) (by omega) (by omega)]
theorem found_ups {p w : List Nat} (na : noAdj false p = true) (hc : 0 < (charsM p).length) : foundM p w = (lawUps p w).map fun z => (z.1 - 1, z.2) := by
  unfold foundM lawUps
  rw [List.map_flatMap]
  have e : ∀ s : Nat, (if occ p w s = true then hits s (digitsM p) else []) = (if occ p w s = true then wk s p else []).map fun z => (z.1 - 1, z.2) := fun s => by
    split
    · exact walk_ok na s
    · rfl
  have e' : (fun s : Nat => if occ p w s = true then hits s (digitsM p) else []) = fun s : Nat => (if occ p w s = true then wk s p else []).map fun z => (z.1 - 1, z.2) := funext e
  rw [e']
  obtain ⟨k, hk⟩ : ∃ k, w.length + 2 = (w.length + 3 - (charsM p).length) + k := ⟨w.length + 2 - (w.length + 3 - (charsM p).length), by omega⟩
  rw [hk]
  refine (range_ext _ _ k fun s h1 h2 => ?_).symm
  rw [if_neg fun ho => ?_]
  · rfl
  · have := occ_len ho (by omega)
    omega
/-! text places -/
theorem txt_len (w : List Nat) : (txt w).length = w.length + 2 := by simp [txt]
theorem txt_0 (w : List Nat) : (txt w)[0]? = some 46 := rfl
theorem txt_in {w : List Nat} {i : Nat} (h : i < w.length) : (txt w)[i + 1]? = w[i]? := by
  unfold txt
  rw [List.getElem?_cons_succ, List.getElem?_append_left h]
theorem txt_end (w : List Nat) : (txt w)[w.length + 1]? = some 46 := by
  unfold txt
  rw [List.getElem?_cons_succ, List.getElem?_append_right (Nat.le_refl _), Nat.sub_self]; rfl
theorem txt_let {w : List Nat} (hw : lets w) {i c : Nat} (h : (txt w)[i]? = some c) (hc : c ≠ 46) : 1 ≤ i ∧ i ≤ w.length := by
  have hl := (List.getElem?_eq_some_iff.mp h).1
  rw [txt_len] at hl
  refine ⟨?_, ?_⟩
  · rcases i with _ | i
    · rw [txt_0] at h; cases h; exact absurd rfl hc
    · omega
  · rcases Nat.lt_or_ge w.length i with h2 | h2
    · have : i = w.length + 1 := by omega
      subst this
      rw [txt_end] at h; cases h; exact absurd rfl hc
    · exact h2
theorem txt_dot {w : List Nat} (hw : lets w) {i : Nat} (h1 : 1 ≤ i) (h2 : i ≤ w.length) : (txt w)[i]? ≠ some 46 := by
  obtain ⟨j, rfl⟩ : ∃ j, i = j + 1 := ⟨i - 1, by omega⟩
  rw [txt_in (by omega)]
  intro e
  have := hw 46 (List.mem_of_getElem? e)
  unfold isLet at this
  omega
theorem occ_get {p w : List Nat} {s : Nat} : occ p w s = true ↔ ∀ i, i < (charsM p).length → (txt w)[s + i]? = (charsM p)[i]? := by
  unfold occ
  rw [decide_eq_true_eq]
  constructor
  · intro h i hi
    have : (((txt w).drop s).take (charsM p).length)[i]? = (charsM p)[i]? := by rw [h]
    rw [List.getElem?_take, if_pos hi, List.getElem?_drop] at this
    exact this
  · intro h
    refine List.ext_getElem? fun i => ?_
    rw [List.getElem?_take]
    by_cases hi : i < (charsM p).length
    · rw [if_pos hi, List.getElem?_drop]; exact h i hi
    · rw [if_neg hi, List.getElem?_eq_none (Nat.le_of_not_lt hi)]
theorem ups_in {p w : List Nat} (hp : VP p) (hw : lets w) {z : Int × Int} (hz : z ∈ lawUps p w) : 1 ≤ z.1 ∧ z.1 ≤ (w.length : Int) + 1 := by
  obtain ⟨d1, t, d2, h⟩ := hp
  obtain ⟨s, hs, hz⟩ := List.mem_flatMap.mp hz
  by_cases ho : occ p w s = true
  · rw [if_pos ho, h.wk] at hz
    obtain ⟨b1, b2⟩ := wk_in _ _ _ hz
    have og := occ_get.mp ho
    have c1 := h.c1
    have cg : ∀ i, i < (charsM t).length → ∃ c, (txt w)[s + (d1.length + i)]? = some c ∧ c ≠ 46 := fun i hi => by
      have e := og (d1.length + i) (by rw [h.clen]; omega)
      rw [h.chars, List.append_assoc, List.getElem?_append_right (by omega), Nat.add_sub_cancel_left, List.getElem?_append_left hi, List.getElem?_eq_getElem hi] at e
      refine ⟨_, e, fun q => ?_⟩
      have := h.clet _ (List.getElem_mem hi)
      unfold isLet at this
      omega
    obtain ⟨a, ha, na⟩ := cg 0 (by omega)
    obtain ⟨b, hb, nb⟩ := cg ((charsM t).length - 1) (by omega)
    have q1 := txt_let hw ha na
    have q2 := txt_let hw hb nb
    omega
  · rw [if_neg ho] at hz; cases hz
theorem vp_in {p w : List Nat} (hp : VP p) (hw : lets w) : Inw p w := fun z hz => by
  obtain ⟨d1, t, d2, h⟩ := id hp
  rw [found_ups h.na' (by have := h.clen; have := h.c1; omega)] at hz
  obtain ⟨y, hy, rfl⟩ := List.mem_map.mp hz
  have := ups_in hp hw hy
  dsimp only
  omega
/-! the law's levels are the program's -/
theorem cut_up {ls : List Int} {z : Int × Int} {n : Nat} (hl : ls.length = n + 3) (h1 : 1 ≤ z.1) (h2 : z.1 ≤ (n : Int) + 1) : ((up ls z).drop 1).take (n + 1) = up ((ls.drop 1).take (n + 1)) (z.1 - 1, z.2) := by
  obtain ⟨q, d⟩ := z
  dsimp only at h1 h2
  obtain ⟨k, rfl⟩ : ∃ k : Nat, q = (k : Int) + 1 := ⟨(q - 1).toNat, by omega⟩
  cases ls with
  | nil => cases hl
  | cons a ls =>
    have hk : ((k : Int) + 1).toNat = k + 1 := by omega
    have hk2 : ((k : Int) + 1 - 1).toNat = k := by omega
    have hkn : k < n + 1 := by omega
    unfold up
    dsimp only
    rw [hk, hk2]
    simp only [List.set_cons_succ, List.drop_succ_cons, List.drop_zero, List.getD_cons_succ]
    have e : (ls.take (n + 1)).getD k 0 = ls.getD k 0 := by
      rw [List.getD_eq_getElem?_getD, List.getD_eq_getElem?_getD, List.getElem?_take, if_pos hkn]
    rw [e]
    refine List.ext_getElem? fun i => ?_
    rw [List.getElem?_take, List.getElem?_set, List.getElem?_set, List.getElem?_take]
    by_cases hi : i < n + 1
    · rw [if_pos hi, if_pos hi, List.length_take]
      by_cases hki : k = i
      · subst hki
        rw [if_pos rfl, if_pos rfl]
        have : (k < min (n + 1) ls.length) ↔ (k < ls.length) := by omega
        simp only [this]
      · rw [if_neg hki, if_neg hki]
    · rw [if_neg hi, if_neg hi]
      rw [if_neg (by omega)]
theorem cut_ups {n : Nat} : ∀ (us : List (Int × Int)) (ls : List Int), ls.length = n + 3 → (∀ z ∈ us, 1 ≤ z.1 ∧ z.1 ≤ (n : Int) + 1) → ((us.foldl up ls).drop 1).take (n + 1) = (us.map fun z => (z.1 - 1, z.2)).foldl up ((ls.drop 1).take (n + 1))
  | [], ls, _, _ => rfl
  | z :: us, ls, hl, h => by
    have hz := h z (List.mem_cons_self ..)
    rw [List.foldl_cons, List.map_cons, List.foldl_cons, cut_ups us (up ls z) (by rw [up_len]; exact hl) fun y hy => h y (List.mem_cons_of_mem _ hy), cut_up hl hz.1 hz.2]
theorem law_cut {ps : List (List Nat)} {w : List Nat} (hp : ∀ p ∈ ps, VP p) (hw : lets w) : lawCut ps w = levM ps w := by
  unfold lawCut lawLevM levM
  rw [cut_ups (n := w.length) _ _ (by unfold zs; rw [List.length_replicate]) fun z hz => by
    obtain ⟨p, hpp, hz⟩ := List.mem_flatMap.mp hz
    exact ups_in (hp p hpp) hw hz]
  have e1 : ((zs (w.length + 3)).drop 1).take (w.length + 1) = zs (w.length + 1) := by
    unfold zs
    rw [List.drop_replicate, List.take_replicate]
    congr 1; omega
  have e2 : ((ps.flatMap fun p => lawUps p w).map fun z => (z.1 - 1, z.2)) = ps.flatMap fun p => foundM p w := by
    rw [List.map_flatMap]
    clear e1
    induction ps with
    | nil => rfl
    | cons p ps ih =>
      obtain ⟨d1, t, d2, h⟩ := hp p (List.mem_cons_self ..)
      rw [List.flatMap_cons, List.flatMap_cons, ih fun q hq => hp q (List.mem_cons_of_mem _ hq), found_ups h.na' (by have := h.clen; have := h.c1; omega)]
  rw [e1, e2]
/-! places -/
def atT (w : List Nat) (q : Int) : Option Nat := if 0 ≤ q then (txt w)[q.toNat]? else none
theorem found_mem {p w : List Nat} (hp : VP p) {g d : Int} : (g, d) ∈ foundM p w ↔ ∃ (rel : Int) (s : Nat), (rel, d) ∈ wk 0 p ∧ (s : Int) = g + 1 - rel ∧ occ p w s = true := by
  obtain ⟨d1, t, d2, h⟩ := id hp
  have hc : 0 < (charsM p).length := by have := h.clen; have := h.c1; omega
  rw [found_ups h.na' hc]
  have sh : ∀ s : Nat, wk (s : Int) p = (wk 0 p).map fun z => (z.1 + (s : Int), z.2) := fun s => by
    have := wk_sh p 0 s
    rwa [Int.zero_add] at this
  constructor
  · intro hz
    obtain ⟨y, hy, e⟩ := List.mem_map.mp hz
    obtain ⟨s, hs, hy⟩ := List.mem_flatMap.mp hy
    by_cases ho : occ p w s = true
    · rw [if_pos ho, sh] at hy
      obtain ⟨x, hx, rfl⟩ := List.mem_map.mp hy
      injection e with e1 e2
      dsimp only at e1 e2
      subst e2
      exact ⟨x.1, s, hx, by omega, ho⟩
    · rw [if_neg ho] at hy; cases hy
  · rintro ⟨rel, s, h1, h2, ho⟩
    refine List.mem_map.mpr ⟨(g + 1, d), List.mem_flatMap.mpr ⟨s, ?_, ?_⟩, by simp⟩
    · have og := occ_get.mp ho 0 hc
      rw [List.getElem?_eq_getElem hc] at og
      have := (List.getElem?_eq_some_iff.mp og).1
      rw [txt_len] at this
      exact List.mem_range.mpr (by omega)
    · rw [if_pos ho, sh]
      exact List.mem_map.mpr ⟨(rel, d), h1, by dsimp only; congr 1; omega⟩
/-- what stands around two gaps is alike, as far as a pattern sees -/
def Alike (w1 : List Nat) (g1 : Int) (w2 : List Nat) (g2 : Int) : Prop := ∀ (k : Int) (c : Nat), -5 ≤ k → k ≤ 4 → ((k = -5 ∨ k = 4) → c = 46) → (atT w1 (g1 + 1 + k) = some c ↔ atT w2 (g2 + 1 + k) = some c)
theorem Alike.symm {w1 w2 : List Nat} {g1 g2 : Int} (A : Alike w1 g1 w2 g2) : Alike w2 g2 w1 g1 := fun k c h1 h2 h3 => (A k c h1 h2 h3).symm
theorem found_loc {p w1 w2 : List Nat} {g1 g2 : Int} (hp : VP p) (A : Alike w1 g1 w2 g2) {d : Int} (hm : (g1, d) ∈ foundM p w1) : (g2, d) ∈ foundM p w2 := by
  obtain ⟨rel, s, h1, h2, ho⟩ := (found_mem hp).mp hm
  refine (found_mem hp).mpr ?_
  obtain ⟨d1, t, d2, h⟩ := hp
  have hb := h1
  rw [h.wk] at hb
  obtain ⟨b1, b2⟩ := wk_in _ _ _ hb
  dsimp only at b1 b2
  have c1 := h.c1
  have c4 := h.c4
  have l1 := h.l1
  have l2 := h.l2
  have cl := h.clen
  have og := occ_get.mp ho
  have key : ∀ i, i < (charsM p).length → atT w2 (g2 + 1 + ((i : Int) - rel)) = (charsM p)[i]? := fun i hi => by
    have e := og i hi
    rw [List.getElem?_eq_getElem hi] at e ⊢
    have e1 : atT w1 (g1 + 1 + ((i : Int) - rel)) = some (charsM p)[i] := by
      unfold atT
      have : g1 + 1 + ((i : Int) - rel) = ((s + i : Nat) : Int) := by omega
      rw [this, if_pos (by omega)]
      exact e
    refine (A _ _ (by omega) (by omega) (fun q => ?_)).mp e1
    have ge := List.getElem?_eq_getElem hi
    rcases q with q | q
    · have hd : d1 = [46] := by
        rcases h.h1 with rfl | rfl
        · simp at b2; omega
        · rfl
      have i0 : i = 0 := by omega
      subst i0
      generalize (charsM p)[0] = x at ge ⊢
      rw [h.chars, hd] at ge
      exact (Option.some.inj ge).symm
    · have hd : d2 = [46] := by
        rcases h.h2 with rfl | rfl
        · simp at cl; omega
        · rfl
      have ie : i = (d1 ++ charsM t).length := by rw [List.length_append]; omega
      generalize (charsM p)[i] = x at ge ⊢
      rw [h.chars, hd, List.getElem?_append_right (by omega), ie, Nat.sub_self] at ge
      exact (Option.some.inj ge).symm
  have k0 := key 0 (by omega)
  rw [List.getElem?_eq_getElem (by omega)] at k0
  have p0 : 0 ≤ g2 + 1 + (((0 : Nat) : Int) - rel) := by
    unfold atT at k0
    split at k0
    · assumption
    · cases k0
  refine ⟨rel, (g2 + 1 - rel).toNat, h1, by omega, occ_get.mpr fun i hi => ?_⟩
  have ki := key i hi
  unfold atT at ki
  rw [if_pos (by omega)] at ki
  rw [← ki]
  congr 1
  omega
theorem found_iff {p w1 w2 : List Nat} {g1 g2 : Int} (hp : VP p) (A : Alike w1 g1 w2 g2) {d : Int} : (g1, d) ∈ foundM p w1 ↔ (g2, d) ∈ foundM p w2 := ⟨found_loc hp A, found_loc hp A.symm⟩
/-! a level by what is found -/
theorem up_get {ls : List Int} {z : Int × Int} {g : Nat} (hg : g < ls.length) : (up ls z).getD g 0 = if z.1.toNat = g then max (ls.getD g 0) z.2 else ls.getD g 0 := by
  unfold up
  rw [List.getD_eq_getElem?_getD, List.getElem?_set]
  by_cases h : z.1.toNat = g
  · subst h
    rw [if_pos rfl, if_pos rfl, if_pos hg]; rfl
  · rw [if_neg h, if_neg h, List.getD_eq_getElem?_getD]
theorem ups_get {g : Nat} : ∀ (us : List (Int × Int)) (ls : List Int), g < ls.length → (ls.getD g 0 ≤ (us.foldl up ls).getD g 0) ∧ (∀ z ∈ us, z.1.toNat = g → z.2 ≤ (us.foldl up ls).getD g 0) ∧ ((us.foldl up ls).getD g 0 = ls.getD g 0 ∨ ∃ z ∈ us, z.1.toNat = g ∧ z.2 = (us.foldl up ls).getD g 0)
  | [], ls, _ => ⟨Int.le_refl _, (fun z hz => nomatch hz), .inl rfl⟩
  | z :: us, ls, hg => by
    obtain ⟨i1, i2, i3⟩ := ups_get us (up ls z) (by rw [up_len]; exact hg)
    have e := up_get (z := z) hg
    rw [List.foldl_cons]
    generalize (us.foldl up (up ls z)).getD g 0 = R at i1 i2 i3 ⊢
    rw [e] at i1 i3
    by_cases h : z.1.toNat = g
    · rw [if_pos h] at i1 i3
      refine ⟨Int.le_trans (Int.le_max_left _ _) i1, fun y hy hyg => ?_, ?_⟩
      · rcases List.mem_cons.mp hy with rfl | hy
        · exact Int.le_trans (Int.le_max_right _ _) i1
        · exact i2 y hy hyg
      · rcases i3 with i3 | ⟨y, hy, q⟩
        · rcases Int.le_total (ls.getD g 0) z.2 with q | q
          · exact .inr ⟨z, List.mem_cons_self .., h, by rw [i3, Int.max_eq_right q]⟩
          · exact .inl (by rw [i3, Int.max_eq_left q])
        · exact .inr ⟨y, List.mem_cons_of_mem _ hy, q⟩
    · rw [if_neg h] at i1 i3
      refine ⟨i1, fun y hy hyg => ?_, ?_⟩
      · rcases List.mem_cons.mp hy with rfl | hy
        · exact absurd hyg h
        · exact i2 y hy hyg
      · rcases i3 with i3 | ⟨y, hy, q⟩
        · exact .inl i3
        · exact .inr ⟨y, List.mem_cons_of_mem _ hy, q⟩
theorem zs_get (n g : Nat) : (zs n).getD g 0 = 0 := by
  unfold zs
  rw [List.getD_eq_getElem?_getD, List.getElem?_replicate]
  split <;> rfl
/-- what a level is -/
theorem lev_is {ps : List (List Nat)} {w : List Nat} (hp : ∀ p ∈ ps, Inw p w) {g : Nat} (hg : g ≤ w.length) : 0 ≤ (levM ps w).getD g 0 ∧ (∀ p ∈ ps, ∀ d, ((g : Int), d) ∈ foundM p w → d ≤ (levM ps w).getD g 0) ∧ ((levM ps w).getD g 0 = 0 ∨ ∃ p ∈ ps, ((g : Int), (levM ps w).getD g 0) ∈ foundM p w) := by
  have := ups_get (g := g) (ps.flatMap fun p => foundM p w) (zs (w.length + 1)) (by unfold zs; rw [List.length_replicate]; omega)
  rw [zs_get] at this
  obtain ⟨i1, i2, i3⟩ := this
  refine ⟨i1, fun p hpp d hd => i2 _ (List.mem_flatMap.mpr ⟨p, hpp, hd⟩) rfl, ?_⟩
  rcases i3 with i3 | ⟨z, hz, q1, q2⟩
  · exact .inl i3
  · obtain ⟨p, hpp, hz⟩ := List.mem_flatMap.mp hz
    have := (hp p hpp z hz).1
    refine .inr ⟨p, hpp, ?_⟩
    have ez : z = ((g : Int), (levM ps w).getD g 0) := by
      obtain ⟨a, b⟩ := z
      dsimp only at q1 q2 this
      rw [show a = (g : Int) by omega, q2]; rfl
    rw [← ez]
    exact hz
theorem lev_alike {ps : List (List Nat)} {w1 w2 : List Nat} (hp : ∀ p ∈ ps, VP p) (hw1 : lets w1) (hw2 : lets w2) {g1 g2 : Nat} (hg1 : g1 ≤ w1.length) (hg2 : g2 ≤ w2.length) (A : Alike w1 g1 w2 g2) : (levM ps w1).getD g1 0 = (levM ps w2).getD g2 0 := by
  obtain ⟨a1, a2, a3⟩ := lev_is (fun p hpp => vp_in (hp p hpp) hw1) hg1
  obtain ⟨b1, b2, b3⟩ := lev_is (fun p hpp => vp_in (hp p hpp) hw2) hg2
  refine Int.le_antisymm ?_ ?_
  · rcases a3 with a3 | ⟨p, hpp, q⟩
    · omega
    · exact b2 p hpp _ ((found_iff (hp p hpp) A).mp q)
  · rcases b3 with b3 | ⟨p, hpp, q⟩
    · omega
    · exact a2 p hpp _ ((found_iff (hp p hpp) A).mpr q)
/-- the same letters in the middle -/
theorem alike_mid {a1 a2 b1 b2 m : List Nat} (hm : m.length = 8) (ha1 : 1 ≤ a1.length) (ha2 : 1 ≤ a2.length) (hb1 : 1 ≤ b1.length) (hb2 : 1 ≤ b2.length) (l1 : lets (a1 ++ m ++ b1)) (l2 : lets (a2 ++ m ++ b2)) : Alike (a1 ++ m ++ b1) ((a1.length + 4 : Nat) : Int) (a2 ++ m ++ b2) ((a2.length + 4 : Nat) : Int) := by
  have mid : ∀ (a b : List Nat) (k : Int), -4 ≤ k → k ≤ 3 → atT (a ++ m ++ b) (((a.length + 4 : Nat) : Int) + 1 + k) = m[(k + 4).toNat]? := fun a b k h1 h2 => by
    unfold atT
    rw [if_pos (by omega)]
    have e : (((a.length + 4 : Nat) : Int) + 1 + k).toNat = (a.length + (k + 4).toNat) + 1 := by omega
    rw [e, txt_in (by rw [List.length_append, List.length_append]; omega), List.getElem?_append_left (by rw [List.length_append]; omega), List.getElem?_append_right (by omega), Nat.add_sub_cancel_left]
  have out : ∀ (a b : List Nat) (k : Int), 1 ≤ a.length → 1 ≤ b.length → lets (a ++ m ++ b) → (k = -5 ∨ k = 4) → atT (a ++ m ++ b) (((a.length + 4 : Nat) : Int) + 1 + k) ≠ some 46 := fun a b k h1 h2 hl hk => by
    unfold atT
    rw [if_pos (by omega)]
    refine txt_dot hl (by omega) ?_
    rw [List.length_append, List.length_append]
    omega
  intro k c h1 h2 h3
  by_cases hk : k = -5 ∨ k = 4
  · have := h3 hk
    subst this
    exact ⟨fun e => absurd e (out a1 b1 k ha1 hb1 l1 hk), fun e => absurd e (out a2 b2 k ha2 hb2 l2 hk)⟩
  · rw [mid a1 b1 k (by omega) (by omega), mid a2 b2 k (by omega) (by omega)]
/-- what stands far behind -/
theorem alike_tail {w e : List Nat} {g : Nat} (hg : g + 5 ≤ w.length) : Alike (w ++ e) g w g := by
  intro k c h1 h2 h3
  have e : atT (w ++ e) ((g : Int) + 1 + k) = atT w ((g : Int) + 1 + k) := by
    unfold atT
    by_cases h0 : 0 ≤ (g : Int) + 1 + k
    · rw [if_pos h0, if_pos h0]
      obtain ⟨j, hj⟩ : ∃ j : Nat, ((g : Int) + 1 + k).toNat = j := ⟨_, rfl⟩
      rw [hj]
      rcases j with _ | j
      · rfl
      · rw [txt_in (by rw [List.length_append]; omega), txt_in (by omega), List.getElem?_append_left (by omega)]
    · rw [if_neg h0, if_neg h0]
  rw [e]
end G

end
section
set_option Elab.async false
set_option linter.all false
set_option maxRecDepth 100000
set_option maxHeartbeats 4000000
set_option autoImplicit false
/-! M: data compared and sought. -/
namespace G
open PySem L2 Lw
theorem toDs_map {α : Type} (f : α → Val) (g : α → PyData) : ∀ (xs : List α), (∀ x ∈ xs, toD (f x) = some (g x)) → toDs (xs.map f) = some (xs.map g)
  | [], _ => rfl
  | x :: xs, h => by
    show (match toD (f x), toDs (xs.map f) with
      | some d, some ds => some (d :: ds)
      | _, _ => none) = _
    rw [h x (List.mem_cons_self ..), toDs_map f g xs fun y hy => h y (List.mem_cons_of_mem _ hy)]; rfl
theorem layAll_map {α : Type} (g : α → PyData) : ∀ (xs : List α), (∀ x ∈ xs, PyData.canLay0 (g x) = true) → PyData.canLayAll0 (xs.map g) = true
  | [], _ => rfl
  | x :: xs, h => by
    show (PyData.canLay0 (g x) && PyData.canLayAll0 (xs.map g)) = true
    rw [h x (List.mem_cons_self ..), layAll_map g xs fun y hy => h y (List.mem_cons_of_mem _ hy)]; rfl
theorem depAll_map {α : Type} (g : α → PyData) (k : Nat) : ∀ (xs : List α), (∀ x ∈ xs, PyData.depth (g x) ≤ k) → PyData.depthAll (xs.map g) ≤ k
  | [], _ => Nat.zero_le _
  | x :: xs, h => by
    show max (PyData.depth (g x)) (PyData.depthAll (xs.map g)) ≤ k
    exact Nat.max_le.mpr ⟨h x (List.mem_cons_self ..), depAll_map g k xs fun y hy => h y (List.mem_cons_of_mem _ hy)⟩
theorem shaped_list {α : Type} (g : α → PyData) (xs : List α) (h1 : ∀ x ∈ xs, PyData.canLay0 (g x) = true) (h2 : ∀ x ∈ xs, PyData.depth (g x) ≤ 60) : SeqAt.shaped (.list (xs.map g)) = true := by
  unfold SeqAt.shaped
  have e1 : PyData.canLay0 (.list (xs.map g)) = true := layAll_map g xs h1
  have e2 : PyData.depth (.list (xs.map g)) ≤ 64 := by
    show PyData.depthAll (xs.map g) + 1 ≤ 64
    have := depAll_map g 60 xs h2
    omega
  rw [e1, decide_eq_true e2]; rfl
theorem shaped_tuple {α : Type} (g : α → PyData) (xs : List α) (h1 : ∀ x ∈ xs, PyData.canLay0 (g x) = true) (h2 : ∀ x ∈ xs, PyData.depth (g x) ≤ 60) : SeqAt.shaped (.tuple (xs.map g)) = true := by
  unfold SeqAt.shaped
  have e1 : PyData.canLay0 (.tuple (xs.map g)) = true := layAll_map g xs h1
  have e2 : PyData.depth (.tuple (xs.map g)) ≤ 64 := by
    show PyData.depthAll (xs.map g) + 1 ≤ 64
    have := depAll_map g 60 xs h2
    omega
  rw [e1, decide_eq_true e2]; rfl
theorem eqvAll_map {α : Type} [DecidableEq α] (g : α → PyData) : ∀ (xs ys : List α), (∀ x ∈ xs, ∀ y ∈ ys, PyData.eqv (g x) (g y) = decide (x = y)) → PyData.eqvAll (xs.map g) (ys.map g) = decide (xs = ys)
  | [], [], _ => by simp [PyData.eqvAll]
  | [], y :: ys, _ => by simp [PyData.eqvAll]
  | x :: xs, [], _ => by simp [PyData.eqvAll]
  | x :: xs, y :: ys, h => by
    rw [List.map_cons, List.map_cons, PyData.eqvAll, h x (List.mem_cons_self ..) y (List.mem_cons_self ..), eqvAll_map g xs ys fun a ha b hb => h a (List.mem_cons_of_mem _ ha) b (List.mem_cons_of_mem _ hb)]
    by_cases e : x = y
    · by_cases e2 : xs = ys <;> simp [e, e2]
    · simp [e]
theorem any_map {α : Type} [DecidableEq α] (g : α → PyData) (a : α) : ∀ (xs : List α), (∀ x ∈ xs, PyData.eqv (g x) (g a) = decide (x = a)) → (xs.map g).any (fun z => PyData.eqv z (g a)) = decide (a ∈ xs)
  | [], _ => by simp
  | x :: xs, h => by
    rw [List.map_cons, List.any_cons, h x (List.mem_cons_self ..), any_map g a xs fun y hy => h y (List.mem_cons_of_mem _ hy)]
    by_cases e : x = a
    · subst e; simp
    · have e' : ¬a = x := fun q => e q.symm
      by_cases e2 : a ∈ xs <;> simp [e, e', e2]
/-- data of one kind: laid out, as values and as data -/
structure Kd (α : Type) [DecidableEq α] (f : α → Val) (g : α → PyData) (P : α → Prop) : Prop where
  to : ∀ x, toD (f x) = some (g x)
  lay : ∀ x, P x → PyData.canLay0 (g x) = true
  dep : ∀ x, P x → PyData.depth (g x) ≤ 8
  eq : ∀ x y, PyData.eqv (g x) (g y) = decide (x = y)
section
variable {α : Type} [DecidableEq α] {f : α → Val} {g : α → PyData} {P : α → Prop} (k : Kd α f g P)
include k
theorem Kd.shaped {x : α} (h : P x) : SeqAt.shaped (g x) = true := by
  unfold SeqAt.shaped
  rw [k.lay x h, decide_eq_true (Nat.le_trans (k.dep x h) (by decide))]; rfl
theorem Kd.vEq {x y : α} (hx : P x) (hy : P y) : vEq (f x) (f y) = some (decide (x = y)) := by
  unfold Lw.vEq
  rw [k.to, k.to]
  dsimp only
  rw [if_pos ⟨k.shaped hx, k.shaped hy⟩, k.eq]
theorem Kd.eqv {x y : α} (hx : P x) (hy : P y) : oEq (f x) (f y) = some (.shr (.bl (decide (x = y)))) := by unfold oEq; rw [k.vEq hx hy]; rfl
theorem Kd.nev {x y : α} (hx : P x) (hy : P y) : oNe (f x) (f y) = some (.shr (.bl (!decide (x = y)))) := by unfold oNe; rw [k.vEq hx hy]; rfl
theorem Kd.lst : Kd (List α) (fun xs => .lst (xs.map f)) (fun xs => .list (xs.map g)) (fun xs => (∀ x ∈ xs, P x) ∧ ∀ x ∈ xs, PyData.depth (g x) ≤ 7) where
  to xs := by
    show (toDs (xs.map f)).map PyData.list = _
    rw [toDs_map f g xs fun x _ => k.to x]; rfl
  lay xs h := layAll_map g xs fun x hx => k.lay x (h.1 x hx)
  dep xs h := by
    show PyData.depthAll (xs.map g) + 1 ≤ 8
    have := depAll_map g 7 xs h.2
    omega
  eq xs ys := eqvAll_map g xs ys fun x _ y _ => k.eq x y
theorem Kd.tup : Kd (List α) (fun xs => .tup (xs.map f)) (fun xs => .tuple (xs.map g)) (fun xs => (∀ x ∈ xs, P x) ∧ ∀ x ∈ xs, PyData.depth (g x) ≤ 7) where
  to xs := by
    show (toDs (xs.map f)).map PyData.tuple = _
    rw [toDs_map f g xs fun x _ => k.to x]; rfl
  lay xs h := layAll_map g xs fun x hx => k.lay x (h.1 x hx)
  dep xs h := by
    show PyData.depthAll (xs.map g) + 1 ≤ 8
    have := depAll_map g 7 xs h.2
    omega
  eq xs ys := eqvAll_map g xs ys fun x _ y _ => k.eq x y
theorem Kd.vInL (hn : ∀ x (c : Nat), f x ≠ .str [c] ∨ True) {x : α} {ys : List α} (hx : P x) (hy : ∀ y ∈ ys, P y) : vIn (f x) (.lst (ys.map f)) = some (decide (x ∈ ys)) := by
  have e : ∀ (v : Val), toD v = some (g x) → vIn v (.lst (ys.map f)) = some (decide (x ∈ ys)) := fun v hv => by
    have e1 : vIn v (.lst (ys.map f)) = (match toD v, toDs (ys.map f) with
      | some d, some ds => if SeqAt.shaped d = true ∧ SeqAt.shaped (.list ds) = true then some (ds.any fun z => PyData.eqv z d) else none
      | _, _ => none) := by
      cases v with
      | str z =>
        cases z with
        | nil => rfl
        | cons a z => cases z <;> rfl
      | _ => rfl
    rw [e1, hv, toDs_map f g ys fun y _ => k.to y]
    dsimp only
    rw [if_pos ⟨k.shaped hx, shaped_list g ys (fun y h => k.lay y (hy y h)) fun y h => Nat.le_trans (k.dep y (hy y h)) (by decide)⟩, any_map g x ys fun y _ => k.eq y x]
  exact e _ (k.to x)
theorem Kd.inL {x : α} {ys : List α} [d : Decidable (x ∈ ys)] (hx : P x) (hy : ∀ y ∈ ys, P y) : oIn (f x) (.lst (ys.map f)) = some (.shr (.bl (decide (x ∈ ys)))) := by
  unfold oIn
  rw [k.vInL (fun _ _ => .inr trivial) hx hy]
  show some (RV.shr (.bl _)) = _
  congr
theorem Kd.notInL {x : α} {ys : List α} [d : Decidable (x ∈ ys)] (hx : P x) (hy : ∀ y ∈ ys, P y) : oNotIn (f x) (.lst (ys.map f)) = some (.shr (.bl (!decide (x ∈ ys)))) := by
  unfold oNotIn
  rw [k.vInL (fun _ _ => .inr trivial) hx hy]
  show some (RV.shr (.bl (!_))) = _
  congr
end
theorem kI : Kd Int Val.int PyData.int fun _ => True where
  to _ := rfl
  lay _ _ := rfl
  dep _ _ := Nat.zero_le _
  eq x y := by show (x == y) = _; rfl
theorem kS : Kd (List Nat) Val.str (fun z => .str ⟨z.toArray⟩) okS where
  to _ := rfl
  lay z h := by
    show PyData.strOk ⟨z.toArray⟩ = true
    unfold PyData.strOk
    rw [List.all_toArray, List.all_eq_true]
    exact fun c hc => decide_eq_true (h c hc)
  dep _ _ := Nat.zero_le _
  eq a b := by
    show ((⟨a.toArray⟩ : PySem.Str) == ⟨b.toArray⟩) = _
    rw [str_beq]
    by_cases h : a = b
    · subst h; simp
    · simp [h]
theorem kP : Kd (Int × Int) pr (fun z => .tuple [.int z.1, .int z.2]) fun _ => True where
  to _ := rfl
  lay _ _ := rfl
  dep z _ := by
    show max 0 (max 0 0) + 1 ≤ 8
    decide
  eq x y := by
    show (x.1 == y.1 && (x.2 == y.2 && true)) = _
    obtain ⟨a, b⟩ := x
    obtain ⟨c, d⟩ := y
    by_cases h1 : a = c
    · by_cases h2 : b = d
      · subst h1 h2; simp
      · subst h1; simp [h2]
    · simp [h1]
theorem eq_ints (xs ys : List Int) : oEq (.lst (xs.map Val.int)) (.lst (ys.map Val.int)) = some (.shr (.bl (decide (xs = ys)))) := kI.lst.eqv ⟨fun _ _ => trivial, fun _ _ => Nat.zero_le _⟩ ⟨fun _ _ => trivial, fun _ _ => Nat.zero_le _⟩
theorem ne_ints (xs ys : List Int) : oNe (.lst (xs.map Val.int)) (.lst (ys.map Val.int)) = some (.shr (.bl (!decide (xs = ys)))) := kI.lst.nev ⟨fun _ _ => trivial, fun _ _ => Nat.zero_le _⟩ ⟨fun _ _ => trivial, fun _ _ => Nat.zero_le _⟩
theorem in_ints (x : Int) (ys : List Int) : oIn (.int x) (.lst (ys.map Val.int)) = some (.shr (.bl (decide (x ∈ ys)))) := kI.inL trivial fun _ _ => trivial
theorem in_prs (a b : Int) (ys : List (Int × Int)) : oIn (.tup [.int a, .int b]) (.lst (ys.map pr)) = some (.shr (.bl (decide ((a, b) ∈ ys)))) := kP.inL (x := (a, b)) trivial fun _ _ => trivial
theorem notin_strs {x : List Nat} {ys : List (List Nat)} (hx : okS x) (hy : ∀ y ∈ ys, okS y) : oNotIn (.str x) (.lst (ys.map Val.str)) = some (.shr (.bl (!decide (x ∈ ys)))) := kS.notInL hx hy
theorem in_strs {x : List Nat} {ys : List (List Nat)} (hx : okS x) (hy : ∀ y ∈ ys, okS y) : oIn (.str x) (.lst (ys.map Val.str)) = some (.shr (.bl (decide (x ∈ ys)))) := kS.inL hx hy
theorem ne_bb (a b : Bool) : oNe (.bl a) (.bl b) = some (.shr (.bl (!decide (a = b)))) := by cases a <;> cases b <;> rfl
theorem eq_bb (a b : Bool) : oEq (.bl a) (.bl b) = some (.shr (.bl (decide (a = b)))) := by cases a <;> cases b <;> rfl
end G

end
section
set_option Elab.async false
set_option linter.all false
set_option maxRecDepth 100000
set_option maxHeartbeats 4000000
set_option autoImplicit false
/-! M: what is valid. -/
namespace G
open PySem L2 Lw
theorem smI {i : Int} (h0 : 0 ≤ i) (h1 : i ≤ 100000) : smallI i = true := by unfold smallI; exact decide_eq_true (by omega)
theorem tupleOf_l (xs : List Val) : oTupleOf [.lst xs] = some (.shr (.tup xs)) := rfl
theorem app_ok {xs : List Val} {v : Val} : oAppend xs [v] = if xs.length < 16000000 then some (.non, xs ++ [v]) else none := rfl
theorem EX_yes {env : Lw.Env} {Q : ERes → Lw.Env → Prop} : OX (sYes env) Q = Q (.val (.shr (.bl true))) env := rfl
theorem isi_ii (i : Int) : oIsi [.int i, .ty "int"] = some (.shr (.bl true)) := rfl
theorem isi_ib (i : Int) : oIsi [.int i, .ty "bool"] = some (.shr (.bl false)) := rfl
theorem isi_ss (z : List Nat) : oIsi [.str z, .ty "str"] = some (.shr (.bl true)) := rfl
theorem isi_tt (z : List Val) : oIsi [.tup z, .ty "tuple"] = some (.shr (.bl true)) := rfl
theorem all_bls {α : Type} (xs : List α) (b : α → Bool) : oAll [.lst (xs.map fun x => .bl (b x))] = some (.shr (.bl (xs.all b))) := by
  show (bls? (xs.map fun x => .bl (b x))).map (fun bs => RV.shr (.bl (bs.all id))) = _
  have : (xs.map fun x => Val.bl (b x)) = (xs.map b).map Val.bl := by rw [List.map_map]; rfl
  rw [this, bls_map]
  simp
theorem any_bls {α : Type} (xs : List α) (b : α → Bool) : oAny [.lst (xs.map fun x => .bl (b x))] = some (.shr (.bl (xs.any b))) := by
  show (bls? (xs.map fun x => .bl (b x))).map (fun bs => RV.shr (.bl (bs.any id))) = _
  have : (xs.map fun x => Val.bl (b x)) = (xs.map b).map Val.bl := by rw [List.map_map]; rfl
  rw [this, bls_map]
  simp
theorem fm_some {α β : Type} (xs : List α) (f : α → β) : xs.filterMap (fun x => some (f x)) = xs.map f := by
  induction xs with
  | nil => rfl
  | cons x xs ih => rw [List.filterMap_cons, ih]; rfl
theorem zipS : ∀ a b : List Nat, zipV (a.map fun c => Val.str [c]) (b.map fun c => Val.str [c]) = (a.zip b).map fun z => Val.tup [.str [z.1], .str [z.2]]
  | [], _ => by simp [zipV]
  | _ :: _, [] => by simp [zipV]
  | x :: a, y :: b => by
    have := zipS a b
    unfold zipV at this ⊢
    simp only [List.map_cons, List.zipWith_cons_cons, List.zip_cons_cons, this]
theorem cut_tail {α : Type} (a : α) (x : List α) : cutG (a :: x) (some 1) none = x := by
  unfold cutG
  simp [HT.sIx]
  try omega
theorem cut_init {α : Type} (a : α) (x : List α) : cutG (x ++ [a]) none (some (-1)) = x := by
  unfold cutG
  simp [HT.sIx]
  have e : (-1 + ((x.length : Int) + 1)).toNat = x.length := by omega
  rw [e, List.take_left]
theorem count_ok (i a b : Int) : fn_is_count [.shr (.int i), .shr (.int a), .shr (.int b)] = some (.ret (.shr (.bl (decide (a ≤ i) && decide (i ≤ b)))), [.un, .un, .un]) := by
  apply OX_det
  unfold fn_is_count g_is_count
  refine FX_run rfl ?_
  simp -implicitDefEqProofs only [SX_seq, SX_if, SX_asg, SX_ret, SX_retN, SX_setL, SX_augL, SX_nil, SX_expr, SX_par, SX_unp, SX_raise, SX_brk, SX_ct, SX_for, EX_bin, EX_un, EX_var, EX_c, EX_and, EX_or, EX_not, EX_if, EX_lst, EX_tup, EX_callB, EX_call, EX_meth, EX_mut, EX_extend, EX_sl, EX_chain, EX_esh, EX_eun, EX_tru,
    IX_any, IX_range1, IX_range2, IX_zip, IX_enum, xArgs_nil, xArgs_cons, xP_none, xP_some, iO_int, List.map_nil, List.map_cons, rE_val, rS_val, rI_val, rF_items, rE_exc, rS_exc, rI_exc, rF_exc, nxS_nx, nxS_ret, nxS_exc, nxS_brk, nxS_ct, lpS_nx, lpS_ct, lpS_brk, lpS_ret, lpS_exc,
    OX_some, OB_some, OB_map, OB_ite, ifO_bl, notO_bl, ifR_bl, get_shr, get_new, get_var, opd_shr, opd_new, own_zero, own_succ, ow_own, ow_io, upd_own, upd_io, upd_succ, so_shr, so_own, so_io, unO_shr, unO_new, unO_var, shO_shr, shO_new, shO_var', frz_own, setOk_un, setOk_shr, setOk_own, set_shr, set_new,
    xOwn_own, ret_shr, ret_new, ret_var, shrs_nil, shrs_cons, Option.map_some, gets_nil, gets_cons, split_nil, split_shr, split_var, sets_nil, sets_cons, tg_one, tg_many, callS_none, callS_some, xIo_some, xLst_some, xInt_some, oE_ret, oE_exc, two?, one?,
    List.cons_append, List.nil_append, List.replicate, List.getElem?_cons_zero, List.getElem?_cons_succ, List.set_cons_zero, List.set_cons_succ, List.length_cons, List.length_nil, Nat.zero_add, Nat.reduceAdd, Nat.reduceSub, Nat.reduceLeDiff, true_and, if_true, ite_true,
    ev_add, ev_sub, ev_fdiv, ev_mod, ev_pow18, ev_pow60, ev_pow5, ev_mul60, ev_mulA, ev_mulB, ev_neg, ev_lt, ev_le, ev_gt, ev_ge, ev_ixL, ev_ixT, ev_ixC, ev_ixS, ev_lenS, ev_lenL, ev_lenT, ev_lenC, ev_addS, ev_addL, ev_addT, ev_mulL, ev_max2, ev_min2, ev_slS, ev_slL, ev_slT, eqv_ii, nev_ii, Int.zero_add, ev_scr0, atI_nat0, atI_nat1, atI_nat2, ix20, ix21,
    Int.reduceLT, Int.reduceLE, Bool.false_eq_true, Bool.true_eq_false, false_implies, true_implies, implies_true, and_true, fnR_nx, fnR_ret, fnR_exc, ioOut, decide_eq_true_eq, decide_eq_false_iff_not, isi_ii, isi_ib, Bool.not_false, Bool.true_eq_false]
  refine ⟨fun h => ?_, fun h => ?_⟩
  · rw [decide_eq_true h, Bool.true_and]
  · rw [decide_eq_false h, Bool.false_and]
theorem na_pairs : ∀ (t : List Nat) (b : Bool), noAdj b t = true → ∀ z ∈ t.zip (t.drop 1), (decide (z.1 ∈ D9) && decide (z.2 ∈ D9)) = false
  | [], _, _, z, hz => by cases hz
  | [c], _, _, z, hz => by cases hz
  | c :: d :: t, b, h, z, hz => by
    unfold noAdj at h
    rw [List.drop_succ_cons, List.drop_zero, List.zip_cons_cons] at hz
    rcases List.mem_cons.mp hz with rfl | hz
    · dsimp only
      by_cases hc : c ∈ D9
      · rw [if_pos hc] at h
        have h2 := (Bool.and_eq_true_iff.mp h).2
        unfold noAdj at h2
        by_cases hd : d ∈ D9
        · rw [if_pos hd] at h2; cases h2
        · simp [hd]
      · simp [hc]
    · have hz' : z ∈ (d :: t).zip ((d :: t).drop 1) := hz
      by_cases hc : c ∈ D9
      · rw [if_pos hc] at h
        exact na_pairs (d :: t) true (Bool.and_eq_true_iff.mp h).2 z hz'
      · rw [if_neg hc] at h
        exact na_pairs (d :: t) false h z hz'
def LD : List Nat := [97, 98, 99, 100, 101, 102, 103, 104, 105, 106, 107, 108, 109, 110, 111, 112, 113, 114, 115, 116, 117, 118, 119, 120, 121, 122, 49, 50, 51, 52, 53, 54, 55, 56, 57]
def LL : List Nat := [97, 98, 99, 100, 101, 102, 103, 104, 105, 106, 107, 108, 109, 110, 111, 112, 113, 114, 115, 116, 117, 118, 119, 120, 121, 122]
theorem let_all : ∀ k : Fin 26, (97 + k.val) ∈ LL ∧ (97 + k.val) ∈ LD := by decide
theorem let_LL {c : Nat} (h : isLet c) : c ∈ LL ∧ c ∈ LD := by
  unfold isLet at h
  have := let_all ⟨c - 97, by omega⟩
  have e : 97 + (c - 97) = c := by omega
  simpa only [e] using this
theorem d9_LD : ∀ c ∈ D9, c ∈ LD := by decide
end G

end
section
set_option Elab.async false
set_option linter.all false
set_option maxRecDepth 100000
set_option maxHeartbeats 4000000
set_option autoImplicit false
/-! M: valid patterns are taken for such. -/
namespace G
open PySem L2 Lw
theorem ends_last (x : List Nat) (c : Nat) : Txt.endswith (S (x ++ [c])) (S [46]) = decide (c = 46) := by
  unfold Txt.endswith
  rw [StrLaws.subAt_eq, S_len, S_len]
  have e : (x ++ [c]).length - [46].length = x.length := by rw [List.length_append]; simp
  rw [e]
  show (decide (0 + 1 ≤ (x ++ [c]).length) && (((x ++ [c]).drop x.length).take 1 == [46])) = _
  rw [List.drop_left, decide_eq_true (by rw [List.length_append]; simp), Bool.true_and]
  by_cases h : c = 46
  · subst h; rfl
  · rw [decide_eq_false h]; simp [h]
theorem ends_dot (x : List Nat) : Txt.endswith (S (x ++ [46])) (S [46]) = true := ends_last x 46
theorem ends_no {t : List Nat} (h : 0 < t.length) (nd : 46 ∉ t) : Txt.endswith (S t) (S [46]) = false := by
  obtain ⟨x, c, rfl⟩ : ∃ x c, t = x ++ [c] := by
    refine ⟨t.dropLast, t.getLast (by intro e; subst e; cases h), ?_⟩
    exact (List.dropLast_concat_getLast _).symm
  rw [ends_last]
  exact decide_eq_false fun e => nd (by rw [e]; simp)
theorem sg_noDot {t : List Nat} (h : ∀ c ∈ t, c ∈ D9 ∨ isLet c) : 46 ∉ t := fun hc => by
  rcases h 46 hc with hd | hd
  · have := d9_le hd; omega
  · unfold isLet at hd; omega
theorem pattern_ok {p : List Nat} (hp : VP p) : fn_is_pattern [.shr (.str p)] = some (.ret (.shr (.bl true)), [.un]) := by
  obtain ⟨d1, t, d2, h⟩ := hp
  have hl := h.len
  have hok := h.ok
  have tl : t.length ≤ 11 := by have := h.eq; have := h.len; subst p; rw [List.length_append, List.length_append] at this; omega
  have tp : 0 < t.length := by have := h.c1; have := h.lt; omega
  have all1 : t.all (fun c => decide (c ∈ LD)) = true := List.all_eq_true.mpr fun c hc => decide_eq_true (by
    rcases h.sg c hc with hd | hd
    · exact d9_LD c hd
    · exact (let_LL hd).2)
  have any1 : (t.zip (t.drop 1)).any (fun z => decide (z.1 ∈ D9) && decide (z.2 ∈ D9)) = false := List.any_eq_false.mpr fun z hz => by rw [na_pairs t false h.na z hz]; decide
  have nd := sg_noDot h.sg
  obtain ⟨c0, t0, ht⟩ : ∃ c0 t0, t = c0 :: t0 := by
    cases t with
    | nil => cases tp
    | cons a b => exact ⟨a, b, rfl⟩
  have nc : c0 ≠ 46 := fun e => nd (by rw [ht, ← e]; exact List.mem_cons_self ..)
  have dn : decide (p = []) = false := decide_eq_false (by
    intro e; have := h.eq; rw [e, ht] at this; simp at this)
  have nd2 : Txt.endswith (S t) (S [46]) = false := ends_no tp nd
  apply OX_det
  unfold fn_is_pattern g_is_pattern
  refine FX_run rfl ?_
  have f1 : ∃ (e1 e2 : Bool) (i1 : List Nat) (x0 : Nat), i1.length ≤ 12 ∧ atI p 0 = some x0 ∧ decide ([x0] = [46]) = e1 ∧ (e1 = true → cutG p (some 1) none = i1) ∧ (e1 = false → p = i1) ∧ Txt.endswith (S i1) (S [46]) = e2 ∧ (e2 = true → cutG i1 none (some (-1)) = t) ∧ (e2 = false → t = i1) := by
    have l2 := h.l2
    have f2 : ∃ e2 : Bool, Txt.endswith (S (t ++ d2)) (S [46]) = e2 ∧ (e2 = true → cutG (t ++ d2) none (some (-1)) = t) ∧ (e2 = false → t = t ++ d2) := by
      rcases h.h2 with rfl | rfl
      · exact ⟨false, by rw [List.append_nil]; exact nd2, (fun q => by cases q), fun _ => (List.append_nil t).symm⟩
      · exact ⟨true, ends_dot t, (fun _ => cut_init _ _), (fun q => by cases q)⟩
    obtain ⟨e2, r1, r2, r3⟩ := f2
    rcases h.h1 with rfl | rfl
    · refine ⟨false, e2, t ++ d2, c0, by rw [List.length_append]; omega, ?_, decide_eq_false (by simp [nc]), (fun q => by cases q), (fun _ => h.eq), r1, r2, r3⟩
      rw [h.eq, ht]; exact atI_nat0
    · refine ⟨true, e2, t ++ d2, 46, by rw [List.length_append]; omega, ?_, decide_eq_true rfl, (fun _ => by rw [h.eq]; exact cut_tail _ _), (fun q => by cases q), r1, r2, r3⟩
      rw [h.eq]; exact atI_nat0
  obtain ⟨e1, e2, i1, x0, il, q1, q2, q3, q4, r1, r2, r3⟩ := f1
  have okx : okS [x0] := fun c hc => by
    rw [List.mem_singleton] at hc; subst hc
    obtain ⟨y, hy, hm, _⟩ := atI_in (xs := p) (i := 0) (by decide) (by have := h.eq; rw [this, ht]; simp; omega)
    rw [q1] at hy; cases hy
    exact hok _ hm
  have en : oEnds (.str i1) [.str [46]] = some (.shr (.bl e2)) := by rw [← r1]; rfl
  have c1 := h.c1
  have c4 := h.c4
  have lt := h.lt
  have ok0 : okS ([] : List Nat) := fun c hc => by cases hc
  have ok46 : okS [46] := fun c hc => by rw [List.mem_singleton] at hc; subst hc; decide
  clear h
  have hl16 : p.length ≤ 16000000 := by omega
  have tl16 : t.length ≤ 16000000 := by omega
  have il16 : i1.length ≤ 16000000 := by omega
  have c16 : (charsM t).length ≤ 16000000 := by omega
  have c1i : decide ((1 : Int) ≤ ((charsM t).length : Int)) = true := decide_eq_true (by omega)
  have c4i : decide (((charsM t).length : Int) ≤ 4) = true := decide_eq_true (by omega)
  have lti : decide (((charsM t).length : Int) < (t.length : Int)) = true := decide_eq_true (by omega)
  have X : (e1 = false ∧ p = i1 ∧ True ∨ e1 = true ∧ cutG p (some 1) none = i1) := by
    cases e1
    · exact .inl ⟨rfl, q4 rfl, trivial⟩
    · exact .inr ⟨rfl, q3 rfl⟩
  have Y : (e2 = false ∧ t = i1 ∧ True ∨ e2 = true ∧ cutG i1 none (some (-1)) = t) := by
    cases e2
    · exact .inl ⟨rfl, r3 rfl, trivial⟩
    · exact .inr ⟨rfl, r2 rfl⟩
  have all2 : oAll [.lst (t.map fun c => .bl (decide (c ∈ LD)))] = some (.shr (.bl true)) := by rw [all_bls, all1]
  have any2 : oAny [.lst ((t.zip (t.drop 1)).map fun z => .bl (decide (z.1 ∈ D9) && decide (z.2 ∈ D9)))] = some (.shr (.bl false)) := by rw [any_bls, any1]
  have cut1 : cutG t (some 1) none = t.drop 1 := by rw [ht]; exact cut_tail _ _
  clear r1 r2 r3 q3 q4
  rcases X with ⟨rfl, rfl, X⟩ | ⟨rfl, X⟩ <;> rcases Y with ⟨rfl, rfl, Y⟩ | ⟨rfl, Y⟩
  all_goals
    simp -implicitDefEqProofs only [SX_seq, SX_if, SX_asg, SX_ret, SX_retN, SX_setL, SX_augL, SX_nil, SX_expr, SX_par, SX_unp, SX_raise, SX_brk, SX_ct, SX_for, EX_bin, EX_un, EX_var, EX_c, EX_and, EX_or, EX_not, EX_if, EX_lst, EX_tup, EX_callB, EX_call, EX_meth, EX_mut, EX_extend, EX_sl, EX_chain, EX_esh, EX_eun, EX_tru,
    IX_any, IX_range1, IX_range2, IX_zip, IX_enum, xArgs_nil, xArgs_cons, xP_none, xP_some, iO_int, List.map_nil, List.map_cons, rE_val, rS_val, rI_val, rF_items, rE_exc, rS_exc, rI_exc, rF_exc, nxS_nx, nxS_ret, nxS_exc, nxS_brk, nxS_ct, lpS_nx, lpS_ct, lpS_brk, lpS_ret, lpS_exc,
    OX_some, OB_some, OB_map, OB_ite, ifO_bl, notO_bl, ifR_bl, get_shr, get_new, get_var, opd_shr, opd_new, own_zero, own_succ, ow_own, ow_io, upd_own, upd_io, upd_succ, so_shr, so_own, so_io, unO_shr, unO_new, unO_var, shO_shr, shO_new, shO_var', frz_own, setOk_un, setOk_shr, setOk_own, set_shr, set_new,
    xOwn_own, ret_shr, ret_new, ret_var, shrs_nil, shrs_cons, Option.map_some, gets_nil, gets_cons, split_nil, split_shr, split_var, sets_nil, sets_cons, tg_one, tg_many, callS_none, callS_some, xIo_some, xLst_some, xInt_some, oE_ret, oE_exc, two?, one?,
    List.cons_append, List.nil_append, List.replicate, List.getElem?_cons_zero, List.getElem?_cons_succ, List.set_cons_zero, List.set_cons_succ, List.length_cons, List.length_nil, Nat.zero_add, Nat.reduceAdd, Nat.reduceSub, Nat.reduceLeDiff, true_and, if_true, ite_true,
    ev_add, ev_sub, ev_fdiv, ev_mod, ev_pow18, ev_pow60, ev_pow5, ev_mul60, ev_mulA, ev_mulB, ev_neg, ev_lt, ev_le, ev_gt, ev_ge, ev_ixL, ev_ixT, ev_ixC, ev_ixS, ev_lenS, ev_lenL, ev_lenT, ev_lenC, ev_addS, ev_addL, ev_addT, ev_mulL, ev_max2, ev_min2, ev_slS, ev_slL, ev_slT, eqv_ii, nev_ii, Int.zero_add, ev_scr0, atI_nat0, atI_nat1, atI_nat2, ix20, ix21,
    Int.reduceLT, Int.reduceLE, Bool.false_eq_true, Bool.true_eq_false, false_implies, true_implies, implies_true, and_true, fnR_nx, fnR_ret, fnR_exc, ioOut, decide_eq_true_eq, decide_eq_false_iff_not, isi_ss, eqv_ss hok ok0, dn, q1, Bool.not_true, Bool.not_false, eqv_ss okx ok46, q2, tyOf, en, EX_lc, itS, wipe?, plainAt, plainS, wipeE, List.all_cons, List.all_nil, Bool.and_self, EX_yes, Bool.true_eq_false, hl16, tl16, il16, X, Y]
    refine LC_pure (fun c => some (.bl (decide (c ∈ LD)))) tl16 (fun c hc => ?_) ?_
    · simp -implicitDefEqProofs only [SX_seq, SX_if, SX_asg, SX_ret, SX_retN, SX_setL, SX_augL, SX_nil, SX_expr, SX_par, SX_unp, SX_raise, SX_brk, SX_ct, SX_for, EX_bin, EX_un, EX_var, EX_c, EX_and, EX_or, EX_not, EX_if, EX_lst, EX_tup, EX_callB, EX_call, EX_meth, EX_mut, EX_extend, EX_sl, EX_chain, EX_esh, EX_eun, EX_tru,
    IX_any, IX_range1, IX_range2, IX_zip, IX_enum, xArgs_nil, xArgs_cons, xP_none, xP_some, iO_int, List.map_nil, List.map_cons, rE_val, rS_val, rI_val, rF_items, rE_exc, rS_exc, rI_exc, rF_exc, nxS_nx, nxS_ret, nxS_exc, nxS_brk, nxS_ct, lpS_nx, lpS_ct, lpS_brk, lpS_ret, lpS_exc,
    OX_some, OB_some, OB_map, OB_ite, ifO_bl, notO_bl, ifR_bl, get_shr, get_new, get_var, opd_shr, opd_new, own_zero, own_succ, ow_own, ow_io, upd_own, upd_io, upd_succ, so_shr, so_own, so_io, unO_shr, unO_new, unO_var, shO_shr, shO_new, shO_var', frz_own, setOk_un, setOk_shr, setOk_own, set_shr, set_new,
    xOwn_own, ret_shr, ret_new, ret_var, shrs_nil, shrs_cons, Option.map_some, gets_nil, gets_cons, split_nil, split_shr, split_var, sets_nil, sets_cons, tg_one, tg_many, callS_none, callS_some, xIo_some, xLst_some, xInt_some, oE_ret, oE_exc, two?, one?,
    List.cons_append, List.nil_append, List.replicate, List.getElem?_cons_zero, List.getElem?_cons_succ, List.set_cons_zero, List.set_cons_succ, List.length_cons, List.length_nil, Nat.zero_add, Nat.reduceAdd, Nat.reduceSub, Nat.reduceLeDiff, true_and, if_true, ite_true,
    ev_add, ev_sub, ev_fdiv, ev_mod, ev_pow18, ev_pow60, ev_pow5, ev_mul60, ev_mulA, ev_mulB, ev_neg, ev_lt, ev_le, ev_gt, ev_ge, ev_ixL, ev_ixT, ev_ixC, ev_ixS, ev_lenS, ev_lenL, ev_lenT, ev_lenC, ev_addS, ev_addL, ev_addT, ev_mulL, ev_max2, ev_min2, ev_slS, ev_slL, ev_slT, eqv_ii, nev_ii, Int.zero_add, ev_scr0, atI_nat0, atI_nat1, atI_nat2, ix20, ix21,
    Int.reduceLT, Int.reduceLE, Bool.false_eq_true, Bool.true_eq_false, false_implies, true_implies, implies_true, and_true, fnR_nx, fnR_ret, fnR_exc, ioOut, decide_eq_true_eq, decide_eq_false_iff_not, EX_yes, inS]
      exact ⟨_, rfl, fun _ => ⟨_, rfl, rfl, rfl⟩, (fun q => by cases q)⟩
    · rw [fm_some]
      refine ⟨rfl, ?_⟩
      simp -implicitDefEqProofs only [SX_seq, SX_if, SX_asg, SX_ret, SX_retN, SX_setL, SX_augL, SX_nil, SX_expr, SX_par, SX_unp, SX_raise, SX_brk, SX_ct, SX_for, EX_bin, EX_un, EX_var, EX_c, EX_and, EX_or, EX_not, EX_if, EX_lst, EX_tup, EX_callB, EX_call, EX_meth, EX_mut, EX_extend, EX_sl, EX_chain, EX_esh, EX_eun, EX_tru,
    IX_any, IX_range1, IX_range2, IX_zip, IX_enum, xArgs_nil, xArgs_cons, xP_none, xP_some, iO_int, List.map_nil, List.map_cons, rE_val, rS_val, rI_val, rF_items, rE_exc, rS_exc, rI_exc, rF_exc, nxS_nx, nxS_ret, nxS_exc, nxS_brk, nxS_ct, lpS_nx, lpS_ct, lpS_brk, lpS_ret, lpS_exc,
    OX_some, OB_some, OB_map, OB_ite, ifO_bl, notO_bl, ifR_bl, get_shr, get_new, get_var, opd_shr, opd_new, own_zero, own_succ, ow_own, ow_io, upd_own, upd_io, upd_succ, so_shr, so_own, so_io, unO_shr, unO_new, unO_var, shO_shr, shO_new, shO_var', frz_own, setOk_un, setOk_shr, setOk_own, set_shr, set_new,
    xOwn_own, ret_shr, ret_new, ret_var, shrs_nil, shrs_cons, Option.map_some, gets_nil, gets_cons, split_nil, split_shr, split_var, sets_nil, sets_cons, tg_one, tg_many, callS_none, callS_some, xIo_some, xLst_some, xInt_some, oE_ret, oE_exc, two?, one?,
    List.cons_append, List.nil_append, List.replicate, List.getElem?_cons_zero, List.getElem?_cons_succ, List.set_cons_zero, List.set_cons_succ, List.length_cons, List.length_nil, Nat.zero_add, Nat.reduceAdd, Nat.reduceSub, Nat.reduceLeDiff, true_and, if_true, ite_true,
    ev_add, ev_sub, ev_fdiv, ev_mod, ev_pow18, ev_pow60, ev_pow5, ev_mul60, ev_mulA, ev_mulB, ev_neg, ev_lt, ev_le, ev_gt, ev_ge, ev_ixL, ev_ixT, ev_ixC, ev_ixS, ev_lenS, ev_lenL, ev_lenT, ev_lenC, ev_addS, ev_addL, ev_addT, ev_mulL, ev_max2, ev_min2, ev_slS, ev_slL, ev_slT, eqv_ii, nev_ii, Int.zero_add, ev_scr0, atI_nat0, atI_nat1, atI_nat2, ix20, ix21,
    Int.reduceLT, Int.reduceLE, Bool.false_eq_true, Bool.true_eq_false, false_implies, true_implies, implies_true, and_true, fnR_nx, fnR_ret, fnR_exc, ioOut, decide_eq_true_eq, decide_eq_false_iff_not, restE, Option.getD_some, all2, Bool.not_true, Bool.true_eq_false, tl16, cut1, itS, zipS, wipe?, plainAt, plainS, wipeE, List.all_cons, List.all_nil, Bool.and_self]
      refine LC_pure (fun z => some (.bl (decide (z.1 ∈ D9) && decide (z.2 ∈ D9)))) (by rw [List.length_zip]; omega) (fun z hz => ?_) ?_
      · simp -implicitDefEqProofs only [SX_seq, SX_if, SX_asg, SX_ret, SX_retN, SX_setL, SX_augL, SX_nil, SX_expr, SX_par, SX_unp, SX_raise, SX_brk, SX_ct, SX_for, EX_bin, EX_un, EX_var, EX_c, EX_and, EX_or, EX_not, EX_if, EX_lst, EX_tup, EX_callB, EX_call, EX_meth, EX_mut, EX_extend, EX_sl, EX_chain, EX_esh, EX_eun, EX_tru,
    IX_any, IX_range1, IX_range2, IX_zip, IX_enum, xArgs_nil, xArgs_cons, xP_none, xP_some, iO_int, List.map_nil, List.map_cons, rE_val, rS_val, rI_val, rF_items, rE_exc, rS_exc, rI_exc, rF_exc, nxS_nx, nxS_ret, nxS_exc, nxS_brk, nxS_ct, lpS_nx, lpS_ct, lpS_brk, lpS_ret, lpS_exc,
    OX_some, OB_some, OB_map, OB_ite, ifO_bl, notO_bl, ifR_bl, get_shr, get_new, get_var, opd_shr, opd_new, own_zero, own_succ, ow_own, ow_io, upd_own, upd_io, upd_succ, so_shr, so_own, so_io, unO_shr, unO_new, unO_var, shO_shr, shO_new, shO_var', frz_own, setOk_un, setOk_shr, setOk_own, set_shr, set_new,
    xOwn_own, ret_shr, ret_new, ret_var, shrs_nil, shrs_cons, Option.map_some, gets_nil, gets_cons, split_nil, split_shr, split_var, sets_nil, sets_cons, tg_one, tg_many, callS_none, callS_some, xIo_some, xLst_some, xInt_some, oE_ret, oE_exc, two?, one?,
    List.cons_append, List.nil_append, List.replicate, List.getElem?_cons_zero, List.getElem?_cons_succ, List.set_cons_zero, List.set_cons_succ, List.length_cons, List.length_nil, Nat.zero_add, Nat.reduceAdd, Nat.reduceSub, Nat.reduceLeDiff, true_and, if_true, ite_true,
    ev_add, ev_sub, ev_fdiv, ev_mod, ev_pow18, ev_pow60, ev_pow5, ev_mul60, ev_mulA, ev_mulB, ev_neg, ev_lt, ev_le, ev_gt, ev_ge, ev_ixL, ev_ixT, ev_ixC, ev_ixS, ev_lenS, ev_lenL, ev_lenT, ev_lenC, ev_addS, ev_addL, ev_addT, ev_mulL, ev_max2, ev_min2, ev_slS, ev_slL, ev_slT, eqv_ii, nev_ii, Int.zero_add, ev_scr0, atI_nat0, atI_nat1, atI_nat2, ix20, ix21,
    Int.reduceLT, Int.reduceLE, Bool.false_eq_true, Bool.true_eq_false, false_implies, true_implies, implies_true, and_true, fnR_nx, fnR_ret, fnR_exc, ioOut, decide_eq_true_eq, decide_eq_false_iff_not, EX_yes, inS]
        refine ⟨_, rfl, fun _ => ⟨fun h1 => ⟨_, rfl, ?_, rfl⟩, fun h1 => ⟨_, rfl, ?_, rfl⟩⟩, (fun q => by cases q)⟩
        · show _ = some (Val.bl (decide (z.2 ∈ D9)))
          rw [decide_eq_true (show z.1 ∈ D9 from h1), Bool.true_and]
        · rw [decide_eq_false (show ¬z.1 ∈ D9 from h1), Bool.false_and]
      · rw [fm_some]
        refine ⟨rfl, ?_⟩
        simp -implicitDefEqProofs only [SX_seq, SX_if, SX_asg, SX_ret, SX_retN, SX_setL, SX_augL, SX_nil, SX_expr, SX_par, SX_unp, SX_raise, SX_brk, SX_ct, SX_for, EX_bin, EX_un, EX_var, EX_c, EX_and, EX_or, EX_not, EX_if, EX_lst, EX_tup, EX_callB, EX_call, EX_meth, EX_mut, EX_extend, EX_sl, EX_chain, EX_esh, EX_eun, EX_tru,
    IX_any, IX_range1, IX_range2, IX_zip, IX_enum, xArgs_nil, xArgs_cons, xP_none, xP_some, iO_int, List.map_nil, List.map_cons, rE_val, rS_val, rI_val, rF_items, rE_exc, rS_exc, rI_exc, rF_exc, nxS_nx, nxS_ret, nxS_exc, nxS_brk, nxS_ct, lpS_nx, lpS_ct, lpS_brk, lpS_ret, lpS_exc,
    OX_some, OB_some, OB_map, OB_ite, ifO_bl, notO_bl, ifR_bl, get_shr, get_new, get_var, opd_shr, opd_new, own_zero, own_succ, ow_own, ow_io, upd_own, upd_io, upd_succ, so_shr, so_own, so_io, unO_shr, unO_new, unO_var, shO_shr, shO_new, shO_var', frz_own, setOk_un, setOk_shr, setOk_own, set_shr, set_new,
    xOwn_own, ret_shr, ret_new, ret_var, shrs_nil, shrs_cons, Option.map_some, gets_nil, gets_cons, split_nil, split_shr, split_var, sets_nil, sets_cons, tg_one, tg_many, callS_none, callS_some, xIo_some, xLst_some, xInt_some, oE_ret, oE_exc, two?, one?,
    List.cons_append, List.nil_append, List.replicate, List.getElem?_cons_zero, List.getElem?_cons_succ, List.set_cons_zero, List.set_cons_succ, List.length_cons, List.length_nil, Nat.zero_add, Nat.reduceAdd, Nat.reduceSub, Nat.reduceLeDiff, true_and, if_true, ite_true,
    ev_add, ev_sub, ev_fdiv, ev_mod, ev_pow18, ev_pow60, ev_pow5, ev_mul60, ev_mulA, ev_mulB, ev_neg, ev_lt, ev_le, ev_gt, ev_ge, ev_ixL, ev_ixT, ev_ixC, ev_ixS, ev_lenS, ev_lenL, ev_lenT, ev_lenC, ev_addS, ev_addL, ev_addT, ev_mulL, ev_max2, ev_min2, ev_slS, ev_slL, ev_slT, eqv_ii, nev_ii, Int.zero_add, ev_scr0, atI_nat0, atI_nat1, atI_nat2, ix20, ix21,
    Int.reduceLT, Int.reduceLE, Bool.false_eq_true, Bool.true_eq_false, false_implies, true_implies, implies_true, and_true, fnR_nx, fnR_ret, fnR_exc, ioOut, decide_eq_true_eq, decide_eq_false_iff_not, restE, Option.getD_some, any2, Bool.not_true, Bool.true_eq_false, tl16, chars_ok t (by omega), c16, c1i, c4i, lti]
end G

end
section
set_option Elab.async false
set_option linter.all false
set_option maxRecDepth 100000
set_option maxHeartbeats 4000000
set_option autoImplicit false
/-! M: valid rules and words; levels, breaks, why. -/
namespace G
open PySem L2 Lw
theorem S_inj {a b : List Nat} (h : S a = S b) : a = b := by
  have : (S a).cps.toList = (S b).cps.toList := by rw [h]
  exact this
theorem puts_nodup : ∀ (xs : List (List Nat)) (ms : List PySem.Str), (∀ x ∈ xs, S x ∉ ms) → xs.Nodup → (Lw.ST.puts ms (xs.map S)).length = ms.length + xs.length
  | [], ms, _, _ => rfl
  | x :: xs, ms, h, nd => by
    obtain ⟨n1, n2⟩ := List.nodup_cons.mp nd
    show (Lw.ST.puts (Lw.ST.put ms (S x)) (xs.map S)).length = _
    have e : Lw.ST.put ms (S x) = S x :: ms := by unfold Lw.ST.put; rw [if_neg (h x (List.mem_cons_self ..))]
    rw [e, puts_nodup xs (S x :: ms) (fun y hy hm => ?_) n2, List.length_cons, List.length_cons]
    · omega
    · rcases List.mem_cons.mp hm with q | q
      · exact n1 (S_inj q ▸ hy)
      · exact h y (List.mem_cons_of_mem _ hy) q
theorem lenSet_nodup {ls : List (List Nat)} (nd : ls.Nodup) (hl : ls.length ≤ 4000) : oLenSet (.lst (ls.map Val.str)) = some (.shr (.int (ls.length : Nat))) := by
  show (match strs? (ls.map Val.str) with
    | some ls => if ls.length ≤ 4000 then some (RV.shr (.int (uniqN ls))) else none
    | none => none) = _
  rw [strs_map]
  dsimp only
  rw [if_pos hl]
  have : uniqN ls = ls.length := by
    have := puts_nodup ls [] (fun _ _ h => by cases h) nd
    unfold uniqN
    rw [this]; simp
  rw [this]
theorem EX_lenSet {f : EF} {env : Lw.Env} {Q : ERes → Lw.Env → Prop} : OX (sLenSet f env) Q = OX (f env) (rE Q fun o e => OB (o.get e) fun x => OB (oLenSet x) fun r => Q (.val r.opd) e) := EX_un
/-- valid rules -/
structure VR (ps : List (List Nat)) (l r : Int) : Prop where
  vp : ∀ p ∈ ps, VP p
  nd : (ps.map charsM).Nodup
  n6 : ps.length ≤ 6
  l1 : 1 ≤ l
  l4 : l ≤ 4
  r1 : 1 ≤ r
  r4 : r ≤ 4
theorem VP.len {p : List Nat} (h : VP p) : p.length ≤ 11 := by obtain ⟨_, _, _, h⟩ := h; exact h.len
theorem VP.ok {p : List Nat} (h : VP p) : okS p := by obtain ⟨_, _, _, h⟩ := h; exact h.ok
theorem rules_ok {ps : List (List Nat)} {l r : Int} (h : VR ps l r) : fn_is_rules [.shr (rulesV ps l r)] = some (.ret (.shr (.bl true)), [.un]) := by
  obtain ⟨vp, nd, n6, l1, l4, r1, r4⟩ := h
  apply OX_det
  unfold fn_is_rules g_is_rules rulesV
  refine FX_run rfl ?_
  have en : (([l, r] : List Int).map Val.int) = [.int l, .int r] := rfl
  have cutT : ∀ v : Val, cutG [v, .int l, .int r] (some 1) none = ([l, r] : List Int).map Val.int := fun v => cut_tail _ _
  have alln : oAll [.lst (([l, r] : List Int).map fun i => .bl (decide (1 ≤ i) && decide (i ≤ 4)))] = some (.shr (.bl true)) := by rw [all_bls]; simp [l1, l4, r1, r4]
  have alln2 : oAll [.lst [.bl (decide (1 ≤ l) && decide (l ≤ 4)), .bl (decide (1 ≤ r) && decide (r ≤ 4))]] = some (.shr (.bl true)) := alln
  have allp : oAll [.lst (ps.map fun _ => .bl true)] = some (.shr (.bl true)) := by rw [all_bls ps fun _ => true]; simp
  have n6i : ¬(6 : Int) < (ps.length : Int) := by omega
  have e3 : decide (((3 : Nat) : Int) = 3) = true := rfl
  have ls := lenSet_nodup nd (by rw [List.length_map]; omega)
  rw [List.length_map] at ls
  simp -implicitDefEqProofs only [SX_seq, SX_if, SX_asg, SX_ret, SX_retN, SX_setL, SX_augL, SX_nil, SX_expr, SX_par, SX_unp, SX_raise, SX_brk, SX_ct, SX_for, EX_bin, EX_un, EX_var, EX_c, EX_and, EX_or, EX_not, EX_if, EX_lst, EX_tup, EX_callB, EX_call, EX_meth, EX_mut, EX_extend, EX_sl, EX_chain, EX_esh, EX_eun, EX_tru,
    IX_any, IX_range1, IX_range2, IX_zip, IX_enum, xArgs_nil, xArgs_cons, xP_none, xP_some, iO_int, List.map_nil, List.map_cons, rE_val, rS_val, rI_val, rF_items, rE_exc, rS_exc, rI_exc, rF_exc, nxS_nx, nxS_ret, nxS_exc, nxS_brk, nxS_ct, lpS_nx, lpS_ct, lpS_brk, lpS_ret, lpS_exc,
    OX_some, OB_some, OB_map, OB_ite, ifO_bl, notO_bl, ifR_bl, get_shr, get_new, get_var, opd_shr, opd_new, own_zero, own_succ, ow_own, ow_io, upd_own, upd_io, upd_succ, so_shr, so_own, so_io, unO_shr, unO_new, unO_var, shO_shr, shO_new, shO_var', frz_own, setOk_un, setOk_shr, setOk_own, set_shr, set_new,
    xOwn_own, ret_shr, ret_new, ret_var, shrs_nil, shrs_cons, Option.map_some, gets_nil, gets_cons, split_nil, split_shr, split_var, sets_nil, sets_cons, tg_one, tg_many, callS_none, callS_some, xIo_some, xLst_some, xInt_some, oE_ret, oE_exc, two?, one?,
    List.cons_append, List.nil_append, List.replicate, List.getElem?_cons_zero, List.getElem?_cons_succ, List.set_cons_zero, List.set_cons_succ, List.length_cons, List.length_nil, Nat.zero_add, Nat.reduceAdd, Nat.reduceSub, Nat.reduceLeDiff, true_and, if_true, ite_true,
    ev_add, ev_sub, ev_fdiv, ev_mod, ev_pow18, ev_pow60, ev_pow5, ev_mul60, ev_mulA, ev_mulB, ev_neg, ev_lt, ev_le, ev_gt, ev_ge, ev_ixL, ev_ixT, ev_ixC, ev_ixS, ev_lenS, ev_lenL, ev_lenT, ev_lenC, ev_addS, ev_addL, ev_addT, ev_mulL, ev_max2, ev_min2, ev_slS, ev_slL, ev_slT, eqv_ii, nev_ii, Int.zero_add, ev_scr0, atI_nat0, atI_nat1, atI_nat2, ix20, ix21,
    Int.reduceLT, Int.reduceLE, Bool.false_eq_true, Bool.true_eq_false, false_implies, true_implies, implies_true, and_true, fnR_nx, fnR_ret, fnR_exc, ioOut, decide_eq_true_eq, decide_eq_false_iff_not, isi_tt, EX_lc, itT, itL, wipe?, plainAt, plainS, wipeE, List.all_cons, List.all_nil, Bool.and_self, tyOf, cutT, EX_yes, restE, Option.getD_some, Bool.not_true, Bool.not_false, e3, Bool.true_eq_false, List.length_map, n6i, not_false_eq_true]
  refine LC_pure (xs := [l, r]) (fun i => some (.bl (decide (1 ≤ i) && decide (i ≤ 4)))) (by show 2 ≤ 16000000; decide) (fun i hi => ?_) ?_
  · simp -implicitDefEqProofs only [SX_seq, SX_if, SX_asg, SX_ret, SX_retN, SX_setL, SX_augL, SX_nil, SX_expr, SX_par, SX_unp, SX_raise, SX_brk, SX_ct, SX_for, EX_bin, EX_un, EX_var, EX_c, EX_and, EX_or, EX_not, EX_if, EX_lst, EX_tup, EX_callB, EX_call, EX_meth, EX_mut, EX_extend, EX_sl, EX_chain, EX_esh, EX_eun, EX_tru,
    IX_any, IX_range1, IX_range2, IX_zip, IX_enum, xArgs_nil, xArgs_cons, xP_none, xP_some, iO_int, List.map_nil, List.map_cons, rE_val, rS_val, rI_val, rF_items, rE_exc, rS_exc, rI_exc, rF_exc, nxS_nx, nxS_ret, nxS_exc, nxS_brk, nxS_ct, lpS_nx, lpS_ct, lpS_brk, lpS_ret, lpS_exc,
    OX_some, OB_some, OB_map, OB_ite, ifO_bl, notO_bl, ifR_bl, get_shr, get_new, get_var, opd_shr, opd_new, own_zero, own_succ, ow_own, ow_io, upd_own, upd_io, upd_succ, so_shr, so_own, so_io, unO_shr, unO_new, unO_var, shO_shr, shO_new, shO_var', frz_own, setOk_un, setOk_shr, setOk_own, set_shr, set_new,
    xOwn_own, ret_shr, ret_new, ret_var, shrs_nil, shrs_cons, Option.map_some, gets_nil, gets_cons, split_nil, split_shr, split_var, sets_nil, sets_cons, tg_one, tg_many, callS_none, callS_some, xIo_some, xLst_some, xInt_some, oE_ret, oE_exc, two?, one?,
    List.cons_append, List.nil_append, List.replicate, List.getElem?_cons_zero, List.getElem?_cons_succ, List.set_cons_zero, List.set_cons_succ, List.length_cons, List.length_nil, Nat.zero_add, Nat.reduceAdd, Nat.reduceSub, Nat.reduceLeDiff, true_and, if_true, ite_true,
    ev_add, ev_sub, ev_fdiv, ev_mod, ev_pow18, ev_pow60, ev_pow5, ev_mul60, ev_mulA, ev_mulB, ev_neg, ev_lt, ev_le, ev_gt, ev_ge, ev_ixL, ev_ixT, ev_ixC, ev_ixS, ev_lenS, ev_lenL, ev_lenT, ev_lenC, ev_addS, ev_addL, ev_addT, ev_mulL, ev_max2, ev_min2, ev_slS, ev_slL, ev_slT, eqv_ii, nev_ii, Int.zero_add, ev_scr0, atI_nat0, atI_nat1, atI_nat2, ix20, ix21,
    Int.reduceLT, Int.reduceLE, Bool.false_eq_true, Bool.true_eq_false, false_implies, true_implies, implies_true, and_true, fnR_nx, fnR_ret, fnR_exc, ioOut, decide_eq_true_eq, decide_eq_false_iff_not, EX_yes, count_ok]
    exact ⟨_, rfl, fun _ => ⟨_, rfl, rfl, rfl⟩, (fun q => by cases q)⟩
  rw [fm_some]
  refine ⟨rfl, ?_⟩
  simp -implicitDefEqProofs only [SX_seq, SX_if, SX_asg, SX_ret, SX_retN, SX_setL, SX_augL, SX_nil, SX_expr, SX_par, SX_unp, SX_raise, SX_brk, SX_ct, SX_for, EX_bin, EX_un, EX_var, EX_c, EX_and, EX_or, EX_not, EX_if, EX_lst, EX_tup, EX_callB, EX_call, EX_meth, EX_mut, EX_extend, EX_sl, EX_chain, EX_esh, EX_eun, EX_tru,
    IX_any, IX_range1, IX_range2, IX_zip, IX_enum, xArgs_nil, xArgs_cons, xP_none, xP_some, iO_int, List.map_nil, List.map_cons, rE_val, rS_val, rI_val, rF_items, rE_exc, rS_exc, rI_exc, rF_exc, nxS_nx, nxS_ret, nxS_exc, nxS_brk, nxS_ct, lpS_nx, lpS_ct, lpS_brk, lpS_ret, lpS_exc,
    OX_some, OB_some, OB_map, OB_ite, ifO_bl, notO_bl, ifR_bl, get_shr, get_new, get_var, opd_shr, opd_new, own_zero, own_succ, ow_own, ow_io, upd_own, upd_io, upd_succ, so_shr, so_own, so_io, unO_shr, unO_new, unO_var, shO_shr, shO_new, shO_var', frz_own, setOk_un, setOk_shr, setOk_own, set_shr, set_new,
    xOwn_own, ret_shr, ret_new, ret_var, shrs_nil, shrs_cons, Option.map_some, gets_nil, gets_cons, split_nil, split_shr, split_var, sets_nil, sets_cons, tg_one, tg_many, callS_none, callS_some, xIo_some, xLst_some, xInt_some, oE_ret, oE_exc, two?, one?,
    List.cons_append, List.nil_append, List.replicate, List.getElem?_cons_zero, List.getElem?_cons_succ, List.set_cons_zero, List.set_cons_succ, List.length_cons, List.length_nil, Nat.zero_add, Nat.reduceAdd, Nat.reduceSub, Nat.reduceLeDiff, true_and, if_true, ite_true,
    ev_add, ev_sub, ev_fdiv, ev_mod, ev_pow18, ev_pow60, ev_pow5, ev_mul60, ev_mulA, ev_mulB, ev_neg, ev_lt, ev_le, ev_gt, ev_ge, ev_ixL, ev_ixT, ev_ixC, ev_ixS, ev_lenS, ev_lenL, ev_lenT, ev_lenC, ev_addS, ev_addL, ev_addT, ev_mulL, ev_max2, ev_min2, ev_slS, ev_slL, ev_slT, eqv_ii, nev_ii, Int.zero_add, ev_scr0, atI_nat0, atI_nat1, atI_nat2, ix20, ix21,
    Int.reduceLT, Int.reduceLE, Bool.false_eq_true, Bool.true_eq_false, false_implies, true_implies, implies_true, and_true, fnR_nx, fnR_ret, fnR_exc, ioOut, decide_eq_true_eq, decide_eq_false_iff_not, alln2, Bool.not_true, Bool.not_false, Bool.true_eq_false, List.length_map, n6i, not_false_eq_true, isi_tt, EX_lc, itT, itL, wipe?, plainAt, plainS, wipeE, List.all_cons, List.all_nil, Bool.and_self, tyOf, EX_yes, restE, Option.getD_some]
  refine LC_pure (xs := ps) (fun p => some (.bl true)) (by omega) (fun p hp => ?_) ?_
  · simp -implicitDefEqProofs only [SX_seq, SX_if, SX_asg, SX_ret, SX_retN, SX_setL, SX_augL, SX_nil, SX_expr, SX_par, SX_unp, SX_raise, SX_brk, SX_ct, SX_for, EX_bin, EX_un, EX_var, EX_c, EX_and, EX_or, EX_not, EX_if, EX_lst, EX_tup, EX_callB, EX_call, EX_meth, EX_mut, EX_extend, EX_sl, EX_chain, EX_esh, EX_eun, EX_tru,
    IX_any, IX_range1, IX_range2, IX_zip, IX_enum, xArgs_nil, xArgs_cons, xP_none, xP_some, iO_int, List.map_nil, List.map_cons, rE_val, rS_val, rI_val, rF_items, rE_exc, rS_exc, rI_exc, rF_exc, nxS_nx, nxS_ret, nxS_exc, nxS_brk, nxS_ct, lpS_nx, lpS_ct, lpS_brk, lpS_ret, lpS_exc,
    OX_some, OB_some, OB_map, OB_ite, ifO_bl, notO_bl, ifR_bl, get_shr, get_new, get_var, opd_shr, opd_new, own_zero, own_succ, ow_own, ow_io, upd_own, upd_io, upd_succ, so_shr, so_own, so_io, unO_shr, unO_new, unO_var, shO_shr, shO_new, shO_var', frz_own, setOk_un, setOk_shr, setOk_own, set_shr, set_new,
    xOwn_own, ret_shr, ret_new, ret_var, shrs_nil, shrs_cons, Option.map_some, gets_nil, gets_cons, split_nil, split_shr, split_var, sets_nil, sets_cons, tg_one, tg_many, callS_none, callS_some, xIo_some, xLst_some, xInt_some, oE_ret, oE_exc, two?, one?,
    List.cons_append, List.nil_append, List.replicate, List.getElem?_cons_zero, List.getElem?_cons_succ, List.set_cons_zero, List.set_cons_succ, List.length_cons, List.length_nil, Nat.zero_add, Nat.reduceAdd, Nat.reduceSub, Nat.reduceLeDiff, true_and, if_true, ite_true,
    ev_add, ev_sub, ev_fdiv, ev_mod, ev_pow18, ev_pow60, ev_pow5, ev_mul60, ev_mulA, ev_mulB, ev_neg, ev_lt, ev_le, ev_gt, ev_ge, ev_ixL, ev_ixT, ev_ixC, ev_ixS, ev_lenS, ev_lenL, ev_lenT, ev_lenC, ev_addS, ev_addL, ev_addT, ev_mulL, ev_max2, ev_min2, ev_slS, ev_slL, ev_slT, eqv_ii, nev_ii, Int.zero_add, ev_scr0, atI_nat0, atI_nat1, atI_nat2, ix20, ix21,
    Int.reduceLT, Int.reduceLE, Bool.false_eq_true, Bool.true_eq_false, false_implies, true_implies, implies_true, and_true, fnR_nx, fnR_ret, fnR_exc, ioOut, decide_eq_true_eq, decide_eq_false_iff_not, EX_yes, pattern_ok (vp p hp)]
    exact ⟨_, rfl, fun _ => ⟨_, rfl, rfl, rfl⟩, (fun q => by cases q)⟩
  rw [fm_some]
  refine ⟨rfl, ?_⟩
  simp -implicitDefEqProofs only [SX_seq, SX_if, SX_asg, SX_ret, SX_retN, SX_setL, SX_augL, SX_nil, SX_expr, SX_par, SX_unp, SX_raise, SX_brk, SX_ct, SX_for, EX_bin, EX_un, EX_var, EX_c, EX_and, EX_or, EX_not, EX_if, EX_lst, EX_tup, EX_callB, EX_call, EX_meth, EX_mut, EX_extend, EX_sl, EX_chain, EX_esh, EX_eun, EX_tru,
    IX_any, IX_range1, IX_range2, IX_zip, IX_enum, xArgs_nil, xArgs_cons, xP_none, xP_some, iO_int, List.map_nil, List.map_cons, rE_val, rS_val, rI_val, rF_items, rE_exc, rS_exc, rI_exc, rF_exc, nxS_nx, nxS_ret, nxS_exc, nxS_brk, nxS_ct, lpS_nx, lpS_ct, lpS_brk, lpS_ret, lpS_exc,
    OX_some, OB_some, OB_map, OB_ite, ifO_bl, notO_bl, ifR_bl, get_shr, get_new, get_var, opd_shr, opd_new, own_zero, own_succ, ow_own, ow_io, upd_own, upd_io, upd_succ, so_shr, so_own, so_io, unO_shr, unO_new, unO_var, shO_shr, shO_new, shO_var', frz_own, setOk_un, setOk_shr, setOk_own, set_shr, set_new,
    xOwn_own, ret_shr, ret_new, ret_var, shrs_nil, shrs_cons, Option.map_some, gets_nil, gets_cons, split_nil, split_shr, split_var, sets_nil, sets_cons, tg_one, tg_many, callS_none, callS_some, xIo_some, xLst_some, xInt_some, oE_ret, oE_exc, two?, one?,
    List.cons_append, List.nil_append, List.replicate, List.getElem?_cons_zero, List.getElem?_cons_succ, List.set_cons_zero, List.set_cons_succ, List.length_cons, List.length_nil, Nat.zero_add, Nat.reduceAdd, Nat.reduceSub, Nat.reduceLeDiff, true_and, if_true, ite_true,
    ev_add, ev_sub, ev_fdiv, ev_mod, ev_pow18, ev_pow60, ev_pow5, ev_mul60, ev_mulA, ev_mulB, ev_neg, ev_lt, ev_le, ev_gt, ev_ge, ev_ixL, ev_ixT, ev_ixC, ev_ixS, ev_lenS, ev_lenL, ev_lenT, ev_lenC, ev_addS, ev_addL, ev_addT, ev_mulL, ev_max2, ev_min2, ev_slS, ev_slL, ev_slT, eqv_ii, nev_ii, Int.zero_add, ev_scr0, atI_nat0, atI_nat1, atI_nat2, ix20, ix21,
    Int.reduceLT, Int.reduceLE, Bool.false_eq_true, Bool.true_eq_false, false_implies, true_implies, implies_true, and_true, fnR_nx, fnR_ret, fnR_exc, ioOut, decide_eq_true_eq, decide_eq_false_iff_not, allp, EX_lenSet, Bool.not_true, Bool.not_false, Bool.true_eq_false, List.length_map, isi_tt, EX_lc, itT, itL, wipe?, plainAt, plainS, wipeE, List.all_cons, List.all_nil, Bool.and_self, tyOf, EX_yes, restE, Option.getD_some]
  refine LC_pure (xs := ps) (fun p => some (.str (charsM p))) (by omega) (fun p hp => ?_) ?_
  · simp -implicitDefEqProofs only [SX_seq, SX_if, SX_asg, SX_ret, SX_retN, SX_setL, SX_augL, SX_nil, SX_expr, SX_par, SX_unp, SX_raise, SX_brk, SX_ct, SX_for, EX_bin, EX_un, EX_var, EX_c, EX_and, EX_or, EX_not, EX_if, EX_lst, EX_tup, EX_callB, EX_call, EX_meth, EX_mut, EX_extend, EX_sl, EX_chain, EX_esh, EX_eun, EX_tru,
    IX_any, IX_range1, IX_range2, IX_zip, IX_enum, xArgs_nil, xArgs_cons, xP_none, xP_some, iO_int, List.map_nil, List.map_cons, rE_val, rS_val, rI_val, rF_items, rE_exc, rS_exc, rI_exc, rF_exc, nxS_nx, nxS_ret, nxS_exc, nxS_brk, nxS_ct, lpS_nx, lpS_ct, lpS_brk, lpS_ret, lpS_exc,
    OX_some, OB_some, OB_map, OB_ite, ifO_bl, notO_bl, ifR_bl, get_shr, get_new, get_var, opd_shr, opd_new, own_zero, own_succ, ow_own, ow_io, upd_own, upd_io, upd_succ, so_shr, so_own, so_io, unO_shr, unO_new, unO_var, shO_shr, shO_new, shO_var', frz_own, setOk_un, setOk_shr, setOk_own, set_shr, set_new,
    xOwn_own, ret_shr, ret_new, ret_var, shrs_nil, shrs_cons, Option.map_some, gets_nil, gets_cons, split_nil, split_shr, split_var, sets_nil, sets_cons, tg_one, tg_many, callS_none, callS_some, xIo_some, xLst_some, xInt_some, oE_ret, oE_exc, two?, one?,
    List.cons_append, List.nil_append, List.replicate, List.getElem?_cons_zero, List.getElem?_cons_succ, List.set_cons_zero, List.set_cons_succ, List.length_cons, List.length_nil, Nat.zero_add, Nat.reduceAdd, Nat.reduceSub, Nat.reduceLeDiff, true_and, if_true, ite_true,
    ev_add, ev_sub, ev_fdiv, ev_mod, ev_pow18, ev_pow60, ev_pow5, ev_mul60, ev_mulA, ev_mulB, ev_neg, ev_lt, ev_le, ev_gt, ev_ge, ev_ixL, ev_ixT, ev_ixC, ev_ixS, ev_lenS, ev_lenL, ev_lenT, ev_lenC, ev_addS, ev_addL, ev_addT, ev_mulL, ev_max2, ev_min2, ev_slS, ev_slL, ev_slT, eqv_ii, nev_ii, Int.zero_add, ev_scr0, atI_nat0, atI_nat1, atI_nat2, ix20, ix21,
    Int.reduceLT, Int.reduceLE, Bool.false_eq_true, Bool.true_eq_false, false_implies, true_implies, implies_true, and_true, fnR_nx, fnR_ret, fnR_exc, ioOut, decide_eq_true_eq, decide_eq_false_iff_not, EX_yes, chars_ok p (by have := (vp p hp).len; omega)]
    exact ⟨_, rfl, fun _ => ⟨_, rfl, rfl, rfl⟩, (fun q => by cases q)⟩
  rw [fm_some]
  have em : (ps.map fun p => Val.str (charsM p)) = (ps.map charsM).map Val.str := by rw [List.map_map]; rfl
  refine ⟨rfl, ?_⟩
  simp -implicitDefEqProofs only [SX_seq, SX_if, SX_asg, SX_ret, SX_retN, SX_setL, SX_augL, SX_nil, SX_expr, SX_par, SX_unp, SX_raise, SX_brk, SX_ct, SX_for, EX_bin, EX_un, EX_var, EX_c, EX_and, EX_or, EX_not, EX_if, EX_lst, EX_tup, EX_callB, EX_call, EX_meth, EX_mut, EX_extend, EX_sl, EX_chain, EX_esh, EX_eun, EX_tru,
    IX_any, IX_range1, IX_range2, IX_zip, IX_enum, xArgs_nil, xArgs_cons, xP_none, xP_some, iO_int, List.map_nil, List.map_cons, rE_val, rS_val, rI_val, rF_items, rE_exc, rS_exc, rI_exc, rF_exc, nxS_nx, nxS_ret, nxS_exc, nxS_brk, nxS_ct, lpS_nx, lpS_ct, lpS_brk, lpS_ret, lpS_exc,
    OX_some, OB_some, OB_map, OB_ite, ifO_bl, notO_bl, ifR_bl, get_shr, get_new, get_var, opd_shr, opd_new, own_zero, own_succ, ow_own, ow_io, upd_own, upd_io, upd_succ, so_shr, so_own, so_io, unO_shr, unO_new, unO_var, shO_shr, shO_new, shO_var', frz_own, setOk_un, setOk_shr, setOk_own, set_shr, set_new,
    xOwn_own, ret_shr, ret_new, ret_var, shrs_nil, shrs_cons, Option.map_some, gets_nil, gets_cons, split_nil, split_shr, split_var, sets_nil, sets_cons, tg_one, tg_many, callS_none, callS_some, xIo_some, xLst_some, xInt_some, oE_ret, oE_exc, two?, one?,
    List.cons_append, List.nil_append, List.replicate, List.getElem?_cons_zero, List.getElem?_cons_succ, List.set_cons_zero, List.set_cons_succ, List.length_cons, List.length_nil, Nat.zero_add, Nat.reduceAdd, Nat.reduceSub, Nat.reduceLeDiff, true_and, if_true, ite_true,
    ev_add, ev_sub, ev_fdiv, ev_mod, ev_pow18, ev_pow60, ev_pow5, ev_mul60, ev_mulA, ev_mulB, ev_neg, ev_lt, ev_le, ev_gt, ev_ge, ev_ixL, ev_ixT, ev_ixC, ev_ixS, ev_lenS, ev_lenL, ev_lenT, ev_lenC, ev_addS, ev_addL, ev_addT, ev_mulL, ev_max2, ev_min2, ev_slS, ev_slL, ev_slT, eqv_ii, nev_ii, Int.zero_add, ev_scr0, atI_nat0, atI_nat1, atI_nat2, ix20, ix21,
    Int.reduceLT, Int.reduceLE, Bool.false_eq_true, Bool.true_eq_false, false_implies, true_implies, implies_true, and_true, fnR_nx, fnR_ret, fnR_exc, ioOut, decide_eq_true_eq, decide_eq_false_iff_not, em, ls, List.length_map, decide_true, and_self]
theorem need_rules_ok {ps : List (List Nat)} {l r : Int} (h : VR ps l r) : fn_need_rules [.shr (rulesV ps l r)] = some (.ret (.shr .non), [.un]) := by
  apply OX_det
  unfold fn_need_rules g_need_rules
  refine FX_run rfl ?_
  simp -implicitDefEqProofs only [SX_seq, SX_if, SX_asg, SX_ret, SX_retN, SX_setL, SX_augL, SX_nil, SX_expr, SX_par, SX_unp, SX_raise, SX_brk, SX_ct, SX_for, EX_bin, EX_un, EX_var, EX_c, EX_and, EX_or, EX_not, EX_if, EX_lst, EX_tup, EX_callB, EX_call, EX_meth, EX_mut, EX_extend, EX_sl, EX_chain, EX_esh, EX_eun, EX_tru,
    IX_any, IX_range1, IX_range2, IX_zip, IX_enum, xArgs_nil, xArgs_cons, xP_none, xP_some, iO_int, List.map_nil, List.map_cons, rE_val, rS_val, rI_val, rF_items, rE_exc, rS_exc, rI_exc, rF_exc, nxS_nx, nxS_ret, nxS_exc, nxS_brk, nxS_ct, lpS_nx, lpS_ct, lpS_brk, lpS_ret, lpS_exc,
    OX_some, OB_some, OB_map, OB_ite, ifO_bl, notO_bl, ifR_bl, get_shr, get_new, get_var, opd_shr, opd_new, own_zero, own_succ, ow_own, ow_io, upd_own, upd_io, upd_succ, so_shr, so_own, so_io, unO_shr, unO_new, unO_var, shO_shr, shO_new, shO_var', frz_own, setOk_un, setOk_shr, setOk_own, set_shr, set_new,
    xOwn_own, ret_shr, ret_new, ret_var, shrs_nil, shrs_cons, Option.map_some, gets_nil, gets_cons, split_nil, split_shr, split_var, sets_nil, sets_cons, tg_one, tg_many, callS_none, callS_some, xIo_some, xLst_some, xInt_some, oE_ret, oE_exc, two?, one?,
    List.cons_append, List.nil_append, List.replicate, List.getElem?_cons_zero, List.getElem?_cons_succ, List.set_cons_zero, List.set_cons_succ, List.length_cons, List.length_nil, Nat.zero_add, Nat.reduceAdd, Nat.reduceSub, Nat.reduceLeDiff, true_and, if_true, ite_true,
    ev_add, ev_sub, ev_fdiv, ev_mod, ev_pow18, ev_pow60, ev_pow5, ev_mul60, ev_mulA, ev_mulB, ev_neg, ev_lt, ev_le, ev_gt, ev_ge, ev_ixL, ev_ixT, ev_ixC, ev_ixS, ev_lenS, ev_lenL, ev_lenT, ev_lenC, ev_addS, ev_addL, ev_addT, ev_mulL, ev_max2, ev_min2, ev_slS, ev_slL, ev_slT, eqv_ii, nev_ii, Int.zero_add, ev_scr0, atI_nat0, atI_nat1, atI_nat2, ix20, ix21,
    Int.reduceLT, Int.reduceLE, Bool.false_eq_true, Bool.true_eq_false, false_implies, true_implies, implies_true, and_true, fnR_nx, fnR_ret, fnR_exc, ioOut, decide_eq_true_eq, decide_eq_false_iff_not, rules_ok h, Bool.not_true, Bool.true_eq_false, and_self]
end G

end
section
set_option Elab.async false
set_option linter.all false
set_option maxRecDepth 100000
set_option maxHeartbeats 4000000
set_option autoImplicit false
/-! M: breaks and why. -/
namespace G
open PySem L2 Lw
def oddAt (ps : List (List Nat)) (w : List Nat) (g : Int) : Bool := decide ((levM ps w).getD g.toNat 0 % 2 = 1)
def gapsM (l r : Int) (n : Nat) : List Int := (List.range ((n : Int) - r + 1 - l).toNat).map fun i => l + (i : Nat)
def breaksM (ps : List (List Nat)) (l r : Int) (w : List Nat) : List Int := (gapsM l r w.length).filter (oddAt ps w)
theorem gaps_mem {l r : Int} {n : Nat} {g : Int} : g ∈ gapsM l r n ↔ l ≤ g ∧ g ≤ (n : Int) - r := by
  unfold gapsM
  rw [List.mem_map]
  constructor
  · rintro ⟨i, hi, rfl⟩
    have := List.mem_range.mp hi
    omega
  · rintro ⟨h1, h2⟩
    exact ⟨(g - l).toNat, List.mem_range.mpr (by omega), by omega⟩
theorem breaks_mem {ps : List (List Nat)} {l r : Int} {w : List Nat} {g : Int} : g ∈ breaksM ps l r w ↔ (l ≤ g ∧ g ≤ (w.length : Int) - r) ∧ oddAt ps w g = true := by
  unfold breaksM
  rw [List.mem_filter, gaps_mem]
/-- the places of the patterns that give a gap its level -/
def whyM (ps : List (List Nat)) (w : List Nat) (g : Int) : List Int :=
  if (levM ps w).getD g.toNat 0 = 0 then [] else (ps.zipIdx.filter fun z => decide ((g, (levM ps w).getD g.toNat 0) ∈ foundM z.1 w)).map fun z => ((z.2 : Nat) : Int)
theorem enumS (ps : List (List Nat)) : enumV (ps.map Val.str) = ps.zipIdx.map fun z => Val.tup [.int (z.2 : Nat), .str z.1] := by
  unfold enumV
  rw [List.mapIdx_eq_zipIdx_map, List.zipIdx_map, List.map_map]
  rfl
end G

end
section
set_option Elab.async false
set_option linter.all false
set_option maxRecDepth 100000
set_option maxHeartbeats 4000000
set_option autoImplicit false
/-! M: what the law makes of a script. -/
namespace G
open PySem L2 Lw

/-! digits and letters, one by one -/
theorem na_d : ∀ (t : List Nat) (b : Bool) (d : Nat), d ∈ D9 → noAdj b (t ++ [d]) = noAdj b (t ++ [49])
  | [], b, d, h => by
    show noAdj b [d] = noAdj b [49]
    unfold noAdj
    rw [if_pos h, if_pos (show 49 ∈ D9 by decide)]
  | c :: t, b, d, h => by
    show noAdj b (c :: (t ++ [d])) = noAdj b (c :: (t ++ [49]))
    unfold noAdj
    rw [na_d t true d h, na_d t false d h]
theorem na_l : ∀ (t : List Nat) (b : Bool) (c : Nat), c ∉ D9 → noAdj b (t ++ [c]) = noAdj b t ∧ noAdj b (t ++ [c] ++ [49]) = noAdj b t
  | [], b, c, h => by
    refine ⟨?_, ?_⟩
    · show noAdj b [c] = _
      unfold noAdj
      rw [if_neg h]
      rfl
    · show noAdj b [c, 49] = _
      unfold noAdj
      rw [if_neg h]
      rfl
  | a :: t, b, c, h => by
    refine ⟨?_, ?_⟩
    · show noAdj b (a :: (t ++ [c])) = noAdj b (a :: t)
      unfold noAdj
      rw [(na_l t true c h).1, (na_l t false c h).1]
    · show noAdj b (a :: (t ++ [c] ++ [49])) = noAdj b (a :: t)
      unfold noAdj
      rw [(na_l t true c h).2, (na_l t false c h).2]
theorem na_of : ∀ (t : List Nat) (b : Bool), noAdj b (t ++ [49]) = true → noAdj b t = true
  | [], b, _ => by cases b <;> rfl
  | a :: t, b, h => by
    have h : noAdj b (a :: (t ++ [49])) = true := h
    unfold noAdj at h ⊢
    by_cases ha : a ∈ D9
    · rw [if_pos ha] at h ⊢
      obtain ⟨h1, h2⟩ := Bool.and_eq_true_iff.mp h
      rw [h1, na_of t true h2]; rfl
    · rw [if_neg ha] at h ⊢
      exact na_of t false h
/-- the digits that a law's pattern takes -/
def D5 : List Nat := [49, 50, 51, 52, 53]
theorem d5_9 {c : Nat} (h : c ∈ D5) : c ∈ D9 := by
  have : c = 49 ∨ c = 50 ∨ c = 51 ∨ c = 52 ∨ c = 53 := by simpa [D5] using h
  exact d9_of (by omega) (by omega)
structure Way (z t : List Nat) (i : Nat) : Prop where
  fit : noAdj false (t ++ [49]) = true
  cl : (charsM t).length = i
  sg : ∀ c ∈ t, c ∈ D9 ∨ isLet c
  sz : ∀ c ∈ t, c ∈ D5 ∨ c ∈ z
theorem Way.len {z t : List Nat} {i : Nat} (h : Way z t i) : t.length ≤ 2 * i + 1 := by
  have := na_len t false (na_of t false h.fit)
  rw [h.cl] at this
  simpa using this
theorem let_nd {c : Nat} (h : isLet c) : c ∉ D9 := fun q => by have := d9_le q; unfold isLet at h; omega
theorem Way.letter {z t : List Nat} {i : Nat} (h : noAdj false t = true) (cl : (charsM t).length = i) (sg : ∀ c ∈ t, c ∈ D9 ∨ isLet c) (sz : ∀ c ∈ t, c ∈ D5 ∨ c ∈ z) {c : Nat} (hc : isLet c ∧ c ∈ z) : Way z (t ++ [c]) (i + 1) where
  fit := by rw [(na_l t false c (let_nd hc.1)).2]; exact h
  cl := by rw [chars_snoc, if_neg (let_nd hc.1), cl]
  sg := fun a ha => by
    rcases List.mem_append.mp ha with q | q
    · exact sg a q
    · rw [List.mem_singleton] at q; subst q; exact .inr hc.1
  sz := fun a ha => by
    rcases List.mem_append.mp ha with q | q
    · exact sz a q
    · rw [List.mem_singleton] at q; subst q; exact .inr hc.2
/-- .. or a digit has been set -/
structure Way1 (z t : List Nat) (i : Nat) : Prop where
  na : noAdj false t = true
  cl : (charsM t).length = i
  sg : ∀ c ∈ t, c ∈ D9 ∨ isLet c
  sz : ∀ c ∈ t, c ∈ D5 ∨ c ∈ z
theorem Way.one {z t : List Nat} {i : Nat} (h : Way z t i) : Way1 z t i := ⟨na_of t false h.fit, h.cl, h.sg, h.sz⟩
theorem Way.digit {z t : List Nat} {i : Nat} (h : Way z t i) {d : Nat} (hd5 : d ∈ D5) : Way1 z (t ++ [d]) i ∧ (charsM (t ++ [d])).length < (t ++ [d]).length := by
  have hd := d5_9 hd5
  have e : (charsM (t ++ [d])).length = i := by rw [chars_snoc, if_pos hd, h.cl]; rfl
  have le : (charsM t).length ≤ t.length := List.length_filter_le _ _
  refine ⟨⟨by rw [na_d t false d hd]; exact h.fit, e, fun a ha => ?_, fun a ha => ?_⟩, ?_⟩
  · rcases List.mem_append.mp ha with q | q
    · exact h.sg a q
    · rw [List.mem_singleton] at q; subst q; exact .inl hd
  · rcases List.mem_append.mp ha with q | q
    · exact h.sz a q
    · rw [List.mem_singleton] at q; subst q; exact .inl hd5
  · rw [e, List.length_append]
    have := h.cl
    simp only [List.length_cons, List.length_nil]
    omega
theorem dig_lt {t : List Nat} (h : t.any (fun c => decide (c ∈ D9)) = true) : (charsM t).length < t.length := by
  obtain ⟨c, hc, hd⟩ := List.any_eq_true.mp h
  have le : (charsM t).length ≤ t.length := List.length_filter_le _ _
  rcases Nat.lt_or_ge (charsM t).length t.length with q | q
  · exact q
  · exfalso
    have := List.length_filter_eq_length_iff.mp (Nat.le_antisymm le q) c hc
    simp at this
    exact this (of_decide_eq_true hd)
end G

end
section
set_option Elab.async false
set_option linter.all false
set_option maxRecDepth 100000
set_option maxHeartbeats 4000000
set_option autoImplicit false
/-! M: the law's patterns. -/
namespace G
open PySem L2 Lw
theorem in_t2 (i a b : Int) : oIn (.int i) (.tup [.int a, .int b]) = some (.shr (.bl ([a, b].contains i))) := rfl
theorem lpat_ok2 (ns : List Int) (v : Val) (hv : Tn v) (z : List Nat) (hz : 0 < z.length) (hz2 : z.length ≤ 1000) (hzl : lets z) :
    OX (fn__law_pattern [.shr (.scr ns), .io v, .shr (.str z)]) fun o ss => ∃ p v1, o = .ret (.shr (.str p)) ∧ (VP p ∧ ∀ c ∈ p, c = 46 ∨ c ∈ D5 ∨ c ∈ z) ∧ Tn v1 ∧ ss = [.un, .io v1, .un] := by
  unfold fn__law_pattern g__law_pattern
  refine FX_run rfl ?_
  simp -implicitDefEqProofs only [SX_seq, SX_if, SX_asg, SX_ret, SX_retN, SX_setL, SX_augL, SX_nil, SX_expr, SX_par, SX_unp, SX_raise, SX_brk, SX_ct, SX_for, EX_bin, EX_un, EX_var, EX_c, EX_and, EX_or, EX_not, EX_if, EX_lst, EX_tup, EX_callB, EX_call, EX_meth, EX_mut, EX_extend, EX_sl, EX_chain, EX_esh, EX_eun, EX_tru,
    IX_any, IX_range1, IX_range2, IX_zip, IX_enum, xArgs_nil, xArgs_cons, xP_none, xP_some, iO_int, List.map_nil, List.map_cons, rE_val, rS_val, rI_val, rF_items, rE_exc, rS_exc, rI_exc, rF_exc, nxS_nx, nxS_ret, nxS_exc, nxS_brk, nxS_ct, lpS_nx, lpS_ct, lpS_brk, lpS_ret, lpS_exc,
    OX_some, OB_some, OB_map, OB_ite, ifO_bl, notO_bl, ifR_bl, get_shr, get_new, get_var, opd_shr, opd_new, own_zero, own_succ, ow_own, ow_io, upd_own, upd_io, upd_succ, so_shr, so_own, so_io, unO_shr, unO_new, unO_var, shO_shr, shO_new, shO_var', frz_own, setOk_un, setOk_shr, setOk_own, set_shr, set_new,
    xOwn_own, ret_shr, ret_new, ret_var, shrs_nil, shrs_cons, Option.map_some, gets_nil, gets_cons, split_nil, split_shr, split_var, sets_nil, sets_cons, tg_one, tg_many, callS_none, callS_some, xIo_some, xLst_some, xInt_some, oE_ret, oE_exc, two?, one?,
    List.cons_append, List.nil_append, List.replicate, List.getElem?_cons_zero, List.getElem?_cons_succ, List.set_cons_zero, List.set_cons_succ, List.length_cons, List.length_nil, Nat.zero_add, Nat.reduceAdd, Nat.reduceSub, Nat.reduceLeDiff, true_and, if_true, ite_true,
    ev_add, ev_sub, ev_fdiv, ev_mod, ev_pow18, ev_pow60, ev_pow5, ev_mul60, ev_mulA, ev_mulB, ev_neg, ev_lt, ev_le, ev_gt, ev_ge, ev_ixL, ev_ixT, ev_ixC, ev_ixS, ev_lenS, ev_lenL, ev_lenT, ev_lenC, ev_addS, ev_addL, ev_addT, ev_mulL, ev_max2, ev_min2, ev_slS, ev_slL, ev_slT, eqv_ii, nev_ii, Int.zero_add, ev_scr0, atI_nat0, atI_nat1, atI_nat2, ix20, ix21,
    Int.reduceLT, Int.reduceLE, Bool.false_eq_true, Bool.true_eq_false, false_implies, true_implies, implies_true, and_true, fnR_nx, fnR_ret, fnR_exc, ioOut, decide_eq_true_eq, decide_eq_false_iff_not]
  refine OX_mono (pick_ok ns v hv (.lst [.int 1, .int 1, .int 2, .int 2, .int 3, .int 4]) _ rfl (by decide) (by decide)) fun o ss q => ?_
  obtain ⟨r, v1, rfl, hr, t1, rfl⟩ := q
  obtain ⟨m, rfl, m1, m4⟩ : ∃ m : Nat, r = .int (m : Nat) ∧ 1 ≤ m ∧ m ≤ 4 := by
    have : r = .int 1 ∨ r = .int 1 ∨ r = .int 2 ∨ r = .int 2 ∨ r = .int 3 ∨ r = .int 4 := by simpa using hr
    rcases this with rfl | rfl | rfl | rfl | rfl | rfl
    · exact ⟨1, rfl, by decide, by decide⟩
    · exact ⟨1, rfl, by decide, by decide⟩
    · exact ⟨2, rfl, by decide, by decide⟩
    · exact ⟨2, rfl, by decide, by decide⟩
    · exact ⟨3, rfl, by decide, by decide⟩
    · exact ⟨4, rfl, by decide, by decide⟩
  have em : ((m : Int) + 1).toNat = m + 1 := by omega
  simp -implicitDefEqProofs only [SX_seq, SX_if, SX_asg, SX_ret, SX_retN, SX_setL, SX_augL, SX_nil, SX_expr, SX_par, SX_unp, SX_raise, SX_brk, SX_ct, SX_for, EX_bin, EX_un, EX_var, EX_c, EX_and, EX_or, EX_not, EX_if, EX_lst, EX_tup, EX_callB, EX_call, EX_meth, EX_mut, EX_extend, EX_sl, EX_chain, EX_esh, EX_eun, EX_tru,
    IX_any, IX_range1, IX_range2, IX_zip, IX_enum, xArgs_nil, xArgs_cons, xP_none, xP_some, iO_int, List.map_nil, List.map_cons, rE_val, rS_val, rI_val, rF_items, rE_exc, rS_exc, rI_exc, rF_exc, nxS_nx, nxS_ret, nxS_exc, nxS_brk, nxS_ct, lpS_nx, lpS_ct, lpS_brk, lpS_ret, lpS_exc,
    OX_some, OB_some, OB_map, OB_ite, ifO_bl, notO_bl, ifR_bl, get_shr, get_new, get_var, opd_shr, opd_new, own_zero, own_succ, ow_own, ow_io, upd_own, upd_io, upd_succ, so_shr, so_own, so_io, unO_shr, unO_new, unO_var, shO_shr, shO_new, shO_var', frz_own, setOk_un, setOk_shr, setOk_own, set_shr, set_new,
    xOwn_own, ret_shr, ret_new, ret_var, shrs_nil, shrs_cons, Option.map_some, gets_nil, gets_cons, split_nil, split_shr, split_var, sets_nil, sets_cons, tg_one, tg_many, callS_none, callS_some, xIo_some, xLst_some, xInt_some, oE_ret, oE_exc, two?, one?,
    List.cons_append, List.nil_append, List.replicate, List.getElem?_cons_zero, List.getElem?_cons_succ, List.set_cons_zero, List.set_cons_succ, List.length_cons, List.length_nil, Nat.zero_add, Nat.reduceAdd, Nat.reduceSub, Nat.reduceLeDiff, true_and, if_true, ite_true,
    ev_add, ev_sub, ev_fdiv, ev_mod, ev_pow18, ev_pow60, ev_pow5, ev_mul60, ev_mulA, ev_mulB, ev_neg, ev_lt, ev_le, ev_gt, ev_ge, ev_ixL, ev_ixT, ev_ixC, ev_ixS, ev_lenS, ev_lenL, ev_lenT, ev_lenC, ev_addS, ev_addL, ev_addT, ev_mulL, ev_max2, ev_min2, ev_slS, ev_slL, ev_slT, eqv_ii, nev_ii, Int.zero_add, ev_scr0, atI_nat0, atI_nat1, atI_nat2, ix20, ix21,
    Int.reduceLT, Int.reduceLE, Bool.false_eq_true, Bool.true_eq_false, false_implies, true_implies, implies_true, and_true, fnR_nx, fnR_ret, fnR_exc, ioOut, decide_eq_true_eq, decide_eq_false_iff_not, smI (show (0 : Int) ≤ (m : Int) + 1 by omega) (by omega), em]
  refine FL_inv (fun i e => ∃ t v' s5, (i ≤ m → Way z t i) ∧ (i = m + 1 → Way1 z t m ∧ (charsM t).length < t.length) ∧ Tn v' ∧ setOk (some s5) = true ∧ e = [.shr (.scr ns), .io v', .shr (.str z), .shr (.str t), .shr (.int (m : Nat)), s5, .un, .un])
    ⟨[], v1, .un, fun _ => ⟨rfl, rfl, (fun c hc => by cases hc), fun c hc => by cases hc⟩, (fun q => by omega), t1, rfl, rfl⟩ (fun i x e hx hI => ?_) (fun e hI => ?_)
  · obtain ⟨t, v', s5, w1, _, tv, h5, rfl⟩ := hI
    have hi : i < m + 1 := by
      have := (List.getElem?_eq_some_iff.mp hx).1
      rwa [rangeV_len] at this
    rw [rangeV_get hi] at hx
    cases hx
    have w1 := w1 (by omega)
    have tl := w1.len
    simp -implicitDefEqProofs only [SX_seq, SX_if, SX_asg, SX_ret, SX_retN, SX_setL, SX_augL, SX_nil, SX_expr, SX_par, SX_unp, SX_raise, SX_brk, SX_ct, SX_for, EX_bin, EX_un, EX_var, EX_c, EX_and, EX_or, EX_not, EX_if, EX_lst, EX_tup, EX_callB, EX_call, EX_meth, EX_mut, EX_extend, EX_sl, EX_chain, EX_esh, EX_eun, EX_tru,
    IX_any, IX_range1, IX_range2, IX_zip, IX_enum, xArgs_nil, xArgs_cons, xP_none, xP_some, iO_int, List.map_nil, List.map_cons, rE_val, rS_val, rI_val, rF_items, rE_exc, rS_exc, rI_exc, rF_exc, nxS_nx, nxS_ret, nxS_exc, nxS_brk, nxS_ct, lpS_nx, lpS_ct, lpS_brk, lpS_ret, lpS_exc,
    OX_some, OB_some, OB_map, OB_ite, ifO_bl, notO_bl, ifR_bl, get_shr, get_new, get_var, opd_shr, opd_new, own_zero, own_succ, ow_own, ow_io, upd_own, upd_io, upd_succ, so_shr, so_own, so_io, unO_shr, unO_new, unO_var, shO_shr, shO_new, shO_var', frz_own, setOk_un, setOk_shr, setOk_own, set_shr, set_new,
    xOwn_own, ret_shr, ret_new, ret_var, shrs_nil, shrs_cons, Option.map_some, gets_nil, gets_cons, split_nil, split_shr, split_var, sets_nil, sets_cons, tg_one, tg_many, callS_none, callS_some, xIo_some, xLst_some, xInt_some, oE_ret, oE_exc, two?, one?,
    List.cons_append, List.nil_append, List.replicate, List.getElem?_cons_zero, List.getElem?_cons_succ, List.set_cons_zero, List.set_cons_succ, List.length_cons, List.length_nil, Nat.zero_add, Nat.reduceAdd, Nat.reduceSub, Nat.reduceLeDiff, true_and, if_true, ite_true,
    ev_add, ev_sub, ev_fdiv, ev_mod, ev_pow18, ev_pow60, ev_pow5, ev_mul60, ev_mulA, ev_mulB, ev_neg, ev_lt, ev_le, ev_gt, ev_ge, ev_ixL, ev_ixT, ev_ixC, ev_ixS, ev_lenS, ev_lenL, ev_lenT, ev_lenC, ev_addS, ev_addL, ev_addT, ev_mulL, ev_max2, ev_min2, ev_slS, ev_slL, ev_slT, eqv_ii, nev_ii, Int.zero_add, ev_scr0, atI_nat0, atI_nat1, atI_nat2, ix20, ix21,
    Int.reduceLT, Int.reduceLE, Bool.false_eq_true, Bool.true_eq_false, false_implies, true_implies, implies_true, and_true, fnR_nx, fnR_ret, fnR_exc, ioOut, decide_eq_true_eq, decide_eq_false_iff_not, h5]
    refine OX_mono (draw_ok ns v' tv 5 (by decide) (by decide)) fun o ss q => ?_
    obtain ⟨r, v2, rfl, r0, r1, t2, rfl⟩ := q
    -- what follows a digit or none
    have digit : ∀ (v : Val), Tn v → ∀ (Q : ORes → List Lw.Slot → Prop), (∀ c v3, c ∈ D5 → Tn v3 → Q (.ret (.shr (.str [c]))) [.un, .io v3, .un]) → OX (fn__law_pick [.shr (.scr ns), .io v, .shr (.str [49, 50, 49, 50, 51, 52, 53])]) Q := fun v hv Q hQ =>
      OX_mono (pick_ok ns v hv (.str [49, 50, 49, 50, 51, 52, 53]) _ rfl (by decide) (by decide)) fun o ss q => by
        obtain ⟨r, v3, rfl, hr, t3, rfl⟩ := q
        obtain ⟨c, hc, rfl⟩ := List.mem_map.mp hr
        exact hQ c v3 (by
          have : c = 49 ∨ c = 50 ∨ c = 49 ∨ c = 50 ∨ c = 51 ∨ c = 52 ∨ c = 53 := by simpa using hc
          have : c = 49 ∨ c = 50 ∨ c = 51 ∨ c = 52 ∨ c = 53 := by omega
          simpa [D5] using this) t3
    have letter : ∀ (v : Val), Tn v → ∀ (Q : ORes → List Lw.Slot → Prop), (∀ c v3, isLet c ∧ c ∈ z → Tn v3 → Q (.ret (.shr (.str [c]))) [.un, .io v3, .un]) → OX (fn__law_pick [.shr (.scr ns), .io v, .shr (.str z)]) Q := fun v hv Q hQ =>
      OX_mono (pick_ok ns v hv (.str z) _ rfl (by rw [List.length_map]; omega) (by rw [List.length_map]; omega)) fun o ss q => by
        obtain ⟨r, v3, rfl, hr, t3, rfl⟩ := q
        obtain ⟨c, hc, rfl⟩ := List.mem_map.mp hr
        exact hQ c v3 ⟨hzl c hc, hc⟩ t3
    simp -implicitDefEqProofs only [SX_seq, SX_if, SX_asg, SX_ret, SX_retN, SX_setL, SX_augL, SX_nil, SX_expr, SX_par, SX_unp, SX_raise, SX_brk, SX_ct, SX_for, EX_bin, EX_un, EX_var, EX_c, EX_and, EX_or, EX_not, EX_if, EX_lst, EX_tup, EX_callB, EX_call, EX_meth, EX_mut, EX_extend, EX_sl, EX_chain, EX_esh, EX_eun, EX_tru,
    IX_any, IX_range1, IX_range2, IX_zip, IX_enum, xArgs_nil, xArgs_cons, xP_none, xP_some, iO_int, List.map_nil, List.map_cons, rE_val, rS_val, rI_val, rF_items, rE_exc, rS_exc, rI_exc, rF_exc, nxS_nx, nxS_ret, nxS_exc, nxS_brk, nxS_ct, lpS_nx, lpS_ct, lpS_brk, lpS_ret, lpS_exc,
    OX_some, OB_some, OB_map, OB_ite, ifO_bl, notO_bl, ifR_bl, get_shr, get_new, get_var, opd_shr, opd_new, own_zero, own_succ, ow_own, ow_io, upd_own, upd_io, upd_succ, so_shr, so_own, so_io, unO_shr, unO_new, unO_var, shO_shr, shO_new, shO_var', frz_own, setOk_un, setOk_shr, setOk_own, set_shr, set_new,
    xOwn_own, ret_shr, ret_new, ret_var, shrs_nil, shrs_cons, Option.map_some, gets_nil, gets_cons, split_nil, split_shr, split_var, sets_nil, sets_cons, tg_one, tg_many, callS_none, callS_some, xIo_some, xLst_some, xInt_some, oE_ret, oE_exc, two?, one?,
    List.cons_append, List.nil_append, List.replicate, List.getElem?_cons_zero, List.getElem?_cons_succ, List.set_cons_zero, List.set_cons_succ, List.length_cons, List.length_nil, Nat.zero_add, Nat.reduceAdd, Nat.reduceSub, Nat.reduceLeDiff, true_and, if_true, ite_true,
    ev_add, ev_sub, ev_fdiv, ev_mod, ev_pow18, ev_pow60, ev_pow5, ev_mul60, ev_mulA, ev_mulB, ev_neg, ev_lt, ev_le, ev_gt, ev_ge, ev_ixL, ev_ixT, ev_ixC, ev_ixS, ev_lenS, ev_lenL, ev_lenT, ev_lenC, ev_addS, ev_addL, ev_addT, ev_mulL, ev_max2, ev_min2, ev_slS, ev_slL, ev_slT, eqv_ii, nev_ii, Int.zero_add, ev_scr0, atI_nat0, atI_nat1, atI_nat2, ix20, ix21,
    Int.reduceLT, Int.reduceLE, Bool.false_eq_true, Bool.true_eq_false, false_implies, true_implies, implies_true, and_true, fnR_nx, fnR_ret, fnR_exc, ioOut, decide_eq_true_eq, decide_eq_false_iff_not, EX_lc, itS, wipe?, plainAt, plainS, wipeE, List.all_cons, List.all_nil, Bool.and_self]
    refine ⟨fun h1 => ?_, fun h1 => ⟨fun h2 => ?_, fun h2 => ?_⟩⟩
    · refine digit v2 t2 _ fun c v3 hc t3 => ?_
      obtain ⟨F1, F2'⟩ := w1.digit hc
      have F2 : i = m → (charsM (t ++ [c])).length < (t ++ [c]).length := fun _ => F2'
      simp -implicitDefEqProofs only [SX_seq, SX_if, SX_asg, SX_ret, SX_retN, SX_setL, SX_augL, SX_nil, SX_expr, SX_par, SX_unp, SX_raise, SX_brk, SX_ct, SX_for, EX_bin, EX_un, EX_var, EX_c, EX_and, EX_or, EX_not, EX_if, EX_lst, EX_tup, EX_callB, EX_call, EX_meth, EX_mut, EX_extend, EX_sl, EX_chain, EX_esh, EX_eun, EX_tru,
    IX_any, IX_range1, IX_range2, IX_zip, IX_enum, xArgs_nil, xArgs_cons, xP_none, xP_some, iO_int, List.map_nil, List.map_cons, rE_val, rS_val, rI_val, rF_items, rE_exc, rS_exc, rI_exc, rF_exc, nxS_nx, nxS_ret, nxS_exc, nxS_brk, nxS_ct, lpS_nx, lpS_ct, lpS_brk, lpS_ret, lpS_exc,
    OX_some, OB_some, OB_map, OB_ite, ifO_bl, notO_bl, ifR_bl, get_shr, get_new, get_var, opd_shr, opd_new, own_zero, own_succ, ow_own, ow_io, upd_own, upd_io, upd_succ, so_shr, so_own, so_io, unO_shr, unO_new, unO_var, shO_shr, shO_new, shO_var', frz_own, setOk_un, setOk_shr, setOk_own, set_shr, set_new,
    xOwn_own, ret_shr, ret_new, ret_var, shrs_nil, shrs_cons, Option.map_some, gets_nil, gets_cons, split_nil, split_shr, split_var, sets_nil, sets_cons, tg_one, tg_many, callS_none, callS_some, xIo_some, xLst_some, xInt_some, oE_ret, oE_exc, two?, one?,
    List.cons_append, List.nil_append, List.replicate, List.getElem?_cons_zero, List.getElem?_cons_succ, List.set_cons_zero, List.set_cons_succ, List.length_cons, List.length_nil, Nat.zero_add, Nat.reduceAdd, Nat.reduceSub, Nat.reduceLeDiff, true_and, if_true, ite_true,
    ev_add, ev_sub, ev_fdiv, ev_mod, ev_pow18, ev_pow60, ev_pow5, ev_mul60, ev_mulA, ev_mulB, ev_neg, ev_lt, ev_le, ev_gt, ev_ge, ev_ixL, ev_ixT, ev_ixC, ev_ixS, ev_lenS, ev_lenL, ev_lenT, ev_lenC, ev_addS, ev_addL, ev_addT, ev_mulL, ev_max2, ev_min2, ev_slS, ev_slL, ev_slT, eqv_ii, nev_ii, Int.zero_add, ev_scr0, atI_nat0, atI_nat1, atI_nat2, ix20, ix21,
    Int.reduceLT, Int.reduceLE, Bool.false_eq_true, Bool.true_eq_false, false_implies, true_implies, implies_true, and_true, fnR_nx, fnR_ret, fnR_exc, ioOut, decide_eq_true_eq, decide_eq_false_iff_not]
      refine ⟨by omega, ?_⟩
      have tl2 : (t ++ [c]).length ≤ 100 := by rw [List.length_append]; simp only [List.length_cons, List.length_nil]; omega
      refine ⟨fun h3 => ?_, fun h3 => ?_⟩
      · refine letter v3 t3 _ fun c' v4 hc' t4 => ?_
        have W := Way.letter F1.na F1.cl F1.sg F1.sz hc'
        simp -implicitDefEqProofs only [SX_seq, SX_if, SX_asg, SX_ret, SX_retN, SX_setL, SX_augL, SX_nil, SX_expr, SX_par, SX_unp, SX_raise, SX_brk, SX_ct, SX_for, EX_bin, EX_un, EX_var, EX_c, EX_and, EX_or, EX_not, EX_if, EX_lst, EX_tup, EX_callB, EX_call, EX_meth, EX_mut, EX_extend, EX_sl, EX_chain, EX_esh, EX_eun, EX_tru,
    IX_any, IX_range1, IX_range2, IX_zip, IX_enum, xArgs_nil, xArgs_cons, xP_none, xP_some, iO_int, List.map_nil, List.map_cons, rE_val, rS_val, rI_val, rF_items, rE_exc, rS_exc, rI_exc, rF_exc, nxS_nx, nxS_ret, nxS_exc, nxS_brk, nxS_ct, lpS_nx, lpS_ct, lpS_brk, lpS_ret, lpS_exc,
    OX_some, OB_some, OB_map, OB_ite, ifO_bl, notO_bl, ifR_bl, get_shr, get_new, get_var, opd_shr, opd_new, own_zero, own_succ, ow_own, ow_io, upd_own, upd_io, upd_succ, so_shr, so_own, so_io, unO_shr, unO_new, unO_var, shO_shr, shO_new, shO_var', frz_own, setOk_un, setOk_shr, setOk_own, set_shr, set_new,
    xOwn_own, ret_shr, ret_new, ret_var, shrs_nil, shrs_cons, Option.map_some, gets_nil, gets_cons, split_nil, split_shr, split_var, sets_nil, sets_cons, tg_one, tg_many, callS_none, callS_some, xIo_some, xLst_some, xInt_some, oE_ret, oE_exc, two?, one?,
    List.cons_append, List.nil_append, List.replicate, List.getElem?_cons_zero, List.getElem?_cons_succ, List.set_cons_zero, List.set_cons_succ, List.length_cons, List.length_nil, Nat.zero_add, Nat.reduceAdd, Nat.reduceSub, Nat.reduceLeDiff, true_and, if_true, ite_true,
    ev_add, ev_sub, ev_fdiv, ev_mod, ev_pow18, ev_pow60, ev_pow5, ev_mul60, ev_mulA, ev_mulB, ev_neg, ev_lt, ev_le, ev_gt, ev_ge, ev_ixL, ev_ixT, ev_ixC, ev_ixS, ev_lenS, ev_lenL, ev_lenT, ev_lenC, ev_addS, ev_addL, ev_addT, ev_mulL, ev_max2, ev_min2, ev_slS, ev_slL, ev_slT, eqv_ii, nev_ii, Int.zero_add, ev_scr0, atI_nat0, atI_nat1, atI_nat2, ix20, ix21,
    Int.reduceLT, Int.reduceLE, Bool.false_eq_true, Bool.true_eq_false, false_implies, true_implies, implies_true, and_true, fnR_nx, fnR_ret, fnR_exc, ioOut, decide_eq_true_eq, decide_eq_false_iff_not]
        exact ⟨by omega, (t ++ [c]) ++ [c'], v4, .shr (.int (i : Nat)), fun _ => W, (fun q => by omega), t4, rfl, rfl⟩
      · have ei : i = m := by omega
        exact ⟨(t ++ [c]), v3, .shr (.int (i : Nat)), (fun q => by omega), fun _ => ⟨ei ▸ F1, F2 ei⟩, t3, rfl, rfl⟩
      
    · refine LC_pure (xs := t) (fun c => some (.bl (decide (c ∈ D9)))) (by omega) (fun c hc => ?_) ?_
      · simp -implicitDefEqProofs only [SX_seq, SX_if, SX_asg, SX_ret, SX_retN, SX_setL, SX_augL, SX_nil, SX_expr, SX_par, SX_unp, SX_raise, SX_brk, SX_ct, SX_for, EX_bin, EX_un, EX_var, EX_c, EX_and, EX_or, EX_not, EX_if, EX_lst, EX_tup, EX_callB, EX_call, EX_meth, EX_mut, EX_extend, EX_sl, EX_chain, EX_esh, EX_eun, EX_tru,
    IX_any, IX_range1, IX_range2, IX_zip, IX_enum, xArgs_nil, xArgs_cons, xP_none, xP_some, iO_int, List.map_nil, List.map_cons, rE_val, rS_val, rI_val, rF_items, rE_exc, rS_exc, rI_exc, rF_exc, nxS_nx, nxS_ret, nxS_exc, nxS_brk, nxS_ct, lpS_nx, lpS_ct, lpS_brk, lpS_ret, lpS_exc,
    OX_some, OB_some, OB_map, OB_ite, ifO_bl, notO_bl, ifR_bl, get_shr, get_new, get_var, opd_shr, opd_new, own_zero, own_succ, ow_own, ow_io, upd_own, upd_io, upd_succ, so_shr, so_own, so_io, unO_shr, unO_new, unO_var, shO_shr, shO_new, shO_var', frz_own, setOk_un, setOk_shr, setOk_own, set_shr, set_new,
    xOwn_own, ret_shr, ret_new, ret_var, shrs_nil, shrs_cons, Option.map_some, gets_nil, gets_cons, split_nil, split_shr, split_var, sets_nil, sets_cons, tg_one, tg_many, callS_none, callS_some, xIo_some, xLst_some, xInt_some, oE_ret, oE_exc, two?, one?,
    List.cons_append, List.nil_append, List.replicate, List.getElem?_cons_zero, List.getElem?_cons_succ, List.set_cons_zero, List.set_cons_succ, List.length_cons, List.length_nil, Nat.zero_add, Nat.reduceAdd, Nat.reduceSub, Nat.reduceLeDiff, true_and, if_true, ite_true,
    ev_add, ev_sub, ev_fdiv, ev_mod, ev_pow18, ev_pow60, ev_pow5, ev_mul60, ev_mulA, ev_mulB, ev_neg, ev_lt, ev_le, ev_gt, ev_ge, ev_ixL, ev_ixT, ev_ixC, ev_ixS, ev_lenS, ev_lenL, ev_lenT, ev_lenC, ev_addS, ev_addL, ev_addT, ev_mulL, ev_max2, ev_min2, ev_slS, ev_slL, ev_slT, eqv_ii, nev_ii, Int.zero_add, ev_scr0, atI_nat0, atI_nat1, atI_nat2, ix20, ix21,
    Int.reduceLT, Int.reduceLE, Bool.false_eq_true, Bool.true_eq_false, false_implies, true_implies, implies_true, and_true, fnR_nx, fnR_ret, fnR_exc, ioOut, decide_eq_true_eq, decide_eq_false_iff_not, EX_yes, inS]
        exact ⟨_, rfl, fun _ => ⟨_, rfl, rfl, rfl⟩, (fun q => by cases q)⟩
      rw [fm_some]
      refine ⟨rfl, ?_⟩
      simp -implicitDefEqProofs only [SX_seq, SX_if, SX_asg, SX_ret, SX_retN, SX_setL, SX_augL, SX_nil, SX_expr, SX_par, SX_unp, SX_raise, SX_brk, SX_ct, SX_for, EX_bin, EX_un, EX_var, EX_c, EX_and, EX_or, EX_not, EX_if, EX_lst, EX_tup, EX_callB, EX_call, EX_meth, EX_mut, EX_extend, EX_sl, EX_chain, EX_esh, EX_eun, EX_tru,
    IX_any, IX_range1, IX_range2, IX_zip, IX_enum, xArgs_nil, xArgs_cons, xP_none, xP_some, iO_int, List.map_nil, List.map_cons, rE_val, rS_val, rI_val, rF_items, rE_exc, rS_exc, rI_exc, rF_exc, nxS_nx, nxS_ret, nxS_exc, nxS_brk, nxS_ct, lpS_nx, lpS_ct, lpS_brk, lpS_ret, lpS_exc,
    OX_some, OB_some, OB_map, OB_ite, ifO_bl, notO_bl, ifR_bl, get_shr, get_new, get_var, opd_shr, opd_new, own_zero, own_succ, ow_own, ow_io, upd_own, upd_io, upd_succ, so_shr, so_own, so_io, unO_shr, unO_new, unO_var, shO_shr, shO_new, shO_var', frz_own, setOk_un, setOk_shr, setOk_own, set_shr, set_new,
    xOwn_own, ret_shr, ret_new, ret_var, shrs_nil, shrs_cons, Option.map_some, gets_nil, gets_cons, split_nil, split_shr, split_var, sets_nil, sets_cons, tg_one, tg_many, callS_none, callS_some, xIo_some, xLst_some, xInt_some, oE_ret, oE_exc, two?, one?,
    List.cons_append, List.nil_append, List.replicate, List.getElem?_cons_zero, List.getElem?_cons_succ, List.set_cons_zero, List.set_cons_succ, List.length_cons, List.length_nil, Nat.zero_add, Nat.reduceAdd, Nat.reduceSub, Nat.reduceLeDiff, true_and, if_true, ite_true,
    ev_add, ev_sub, ev_fdiv, ev_mod, ev_pow18, ev_pow60, ev_pow5, ev_mul60, ev_mulA, ev_mulB, ev_neg, ev_lt, ev_le, ev_gt, ev_ge, ev_ixL, ev_ixT, ev_ixC, ev_ixS, ev_lenS, ev_lenL, ev_lenT, ev_lenC, ev_addS, ev_addL, ev_addT, ev_mulL, ev_max2, ev_min2, ev_slS, ev_slL, ev_slT, eqv_ii, nev_ii, Int.zero_add, ev_scr0, atI_nat0, atI_nat1, atI_nat2, ix20, ix21,
    Int.reduceLT, Int.reduceLE, Bool.false_eq_true, Bool.true_eq_false, false_implies, true_implies, implies_true, and_true, fnR_nx, fnR_ret, fnR_exc, ioOut, decide_eq_true_eq, decide_eq_false_iff_not, restE, Option.getD_some, any_bls]
      refine ⟨fun h4 => ?_, fun h4 => ?_⟩
      · refine digit v2 t2 _ fun c v3 hc t3 => ?_
        obtain ⟨F1, F2'⟩ := w1.digit hc
        have F2 : i = m → (charsM (t ++ [c])).length < (t ++ [c]).length := fun _ => F2'
        simp -implicitDefEqProofs only [SX_seq, SX_if, SX_asg, SX_ret, SX_retN, SX_setL, SX_augL, SX_nil, SX_expr, SX_par, SX_unp, SX_raise, SX_brk, SX_ct, SX_for, EX_bin, EX_un, EX_var, EX_c, EX_and, EX_or, EX_not, EX_if, EX_lst, EX_tup, EX_callB, EX_call, EX_meth, EX_mut, EX_extend, EX_sl, EX_chain, EX_esh, EX_eun, EX_tru,
    IX_any, IX_range1, IX_range2, IX_zip, IX_enum, xArgs_nil, xArgs_cons, xP_none, xP_some, iO_int, List.map_nil, List.map_cons, rE_val, rS_val, rI_val, rF_items, rE_exc, rS_exc, rI_exc, rF_exc, nxS_nx, nxS_ret, nxS_exc, nxS_brk, nxS_ct, lpS_nx, lpS_ct, lpS_brk, lpS_ret, lpS_exc,
    OX_some, OB_some, OB_map, OB_ite, ifO_bl, notO_bl, ifR_bl, get_shr, get_new, get_var, opd_shr, opd_new, own_zero, own_succ, ow_own, ow_io, upd_own, upd_io, upd_succ, so_shr, so_own, so_io, unO_shr, unO_new, unO_var, shO_shr, shO_new, shO_var', frz_own, setOk_un, setOk_shr, setOk_own, set_shr, set_new,
    xOwn_own, ret_shr, ret_new, ret_var, shrs_nil, shrs_cons, Option.map_some, gets_nil, gets_cons, split_nil, split_shr, split_var, sets_nil, sets_cons, tg_one, tg_many, callS_none, callS_some, xIo_some, xLst_some, xInt_some, oE_ret, oE_exc, two?, one?,
    List.cons_append, List.nil_append, List.replicate, List.getElem?_cons_zero, List.getElem?_cons_succ, List.set_cons_zero, List.set_cons_succ, List.length_cons, List.length_nil, Nat.zero_add, Nat.reduceAdd, Nat.reduceSub, Nat.reduceLeDiff, true_and, if_true, ite_true,
    ev_add, ev_sub, ev_fdiv, ev_mod, ev_pow18, ev_pow60, ev_pow5, ev_mul60, ev_mulA, ev_mulB, ev_neg, ev_lt, ev_le, ev_gt, ev_ge, ev_ixL, ev_ixT, ev_ixC, ev_ixS, ev_lenS, ev_lenL, ev_lenT, ev_lenC, ev_addS, ev_addL, ev_addT, ev_mulL, ev_max2, ev_min2, ev_slS, ev_slL, ev_slT, eqv_ii, nev_ii, Int.zero_add, ev_scr0, atI_nat0, atI_nat1, atI_nat2, ix20, ix21,
    Int.reduceLT, Int.reduceLE, Bool.false_eq_true, Bool.true_eq_false, false_implies, true_implies, implies_true, and_true, fnR_nx, fnR_ret, fnR_exc, ioOut, decide_eq_true_eq, decide_eq_false_iff_not]
        refine ⟨by omega, ?_⟩
        have tl2 : (t ++ [c]).length ≤ 100 := by rw [List.length_append]; simp only [List.length_cons, List.length_nil]; omega
        refine ⟨fun h3 => ?_, fun h3 => ?_⟩
        · refine letter v3 t3 _ fun c' v4 hc' t4 => ?_
          have W := Way.letter F1.na F1.cl F1.sg F1.sz hc'
          simp -implicitDefEqProofs only [SX_seq, SX_if, SX_asg, SX_ret, SX_retN, SX_setL, SX_augL, SX_nil, SX_expr, SX_par, SX_unp, SX_raise, SX_brk, SX_ct, SX_for, EX_bin, EX_un, EX_var, EX_c, EX_and, EX_or, EX_not, EX_if, EX_lst, EX_tup, EX_callB, EX_call, EX_meth, EX_mut, EX_extend, EX_sl, EX_chain, EX_esh, EX_eun, EX_tru,
    IX_any, IX_range1, IX_range2, IX_zip, IX_enum, xArgs_nil, xArgs_cons, xP_none, xP_some, iO_int, List.map_nil, List.map_cons, rE_val, rS_val, rI_val, rF_items, rE_exc, rS_exc, rI_exc, rF_exc, nxS_nx, nxS_ret, nxS_exc, nxS_brk, nxS_ct, lpS_nx, lpS_ct, lpS_brk, lpS_ret, lpS_exc,
    OX_some, OB_some, OB_map, OB_ite, ifO_bl, notO_bl, ifR_bl, get_shr, get_new, get_var, opd_shr, opd_new, own_zero, own_succ, ow_own, ow_io, upd_own, upd_io, upd_succ, so_shr, so_own, so_io, unO_shr, unO_new, unO_var, shO_shr, shO_new, shO_var', frz_own, setOk_un, setOk_shr, setOk_own, set_shr, set_new,
    xOwn_own, ret_shr, ret_new, ret_var, shrs_nil, shrs_cons, Option.map_some, gets_nil, gets_cons, split_nil, split_shr, split_var, sets_nil, sets_cons, tg_one, tg_many, callS_none, callS_some, xIo_some, xLst_some, xInt_some, oE_ret, oE_exc, two?, one?,
    List.cons_append, List.nil_append, List.replicate, List.getElem?_cons_zero, List.getElem?_cons_succ, List.set_cons_zero, List.set_cons_succ, List.length_cons, List.length_nil, Nat.zero_add, Nat.reduceAdd, Nat.reduceSub, Nat.reduceLeDiff, true_and, if_true, ite_true,
    ev_add, ev_sub, ev_fdiv, ev_mod, ev_pow18, ev_pow60, ev_pow5, ev_mul60, ev_mulA, ev_mulB, ev_neg, ev_lt, ev_le, ev_gt, ev_ge, ev_ixL, ev_ixT, ev_ixC, ev_ixS, ev_lenS, ev_lenL, ev_lenT, ev_lenC, ev_addS, ev_addL, ev_addT, ev_mulL, ev_max2, ev_min2, ev_slS, ev_slL, ev_slT, eqv_ii, nev_ii, Int.zero_add, ev_scr0, atI_nat0, atI_nat1, atI_nat2, ix20, ix21,
    Int.reduceLT, Int.reduceLE, Bool.false_eq_true, Bool.true_eq_false, false_implies, true_implies, implies_true, and_true, fnR_nx, fnR_ret, fnR_exc, ioOut, decide_eq_true_eq, decide_eq_false_iff_not]
          exact ⟨by omega, (t ++ [c]) ++ [c'], v4, .shr (.int (i : Nat)), fun _ => W, (fun q => by omega), t4, rfl, rfl⟩
        · have ei : i = m := by omega
          exact ⟨(t ++ [c]), v3, .shr (.int (i : Nat)), (fun q => by omega), fun _ => ⟨ei ▸ F1, F2 ei⟩, t3, rfl, rfl⟩
        
      · have F1 := w1.one
        have F2 : i = m → (charsM t).length < t.length := fun _ => dig_lt (by simpa using h4)
        refine ⟨fun h3 => ?_, fun h3 => ?_⟩
        · refine letter v2 t2 _ fun c' v4 hc' t4 => ?_
          have W := Way.letter F1.na F1.cl F1.sg F1.sz hc'
          simp -implicitDefEqProofs only [SX_seq, SX_if, SX_asg, SX_ret, SX_retN, SX_setL, SX_augL, SX_nil, SX_expr, SX_par, SX_unp, SX_raise, SX_brk, SX_ct, SX_for, EX_bin, EX_un, EX_var, EX_c, EX_and, EX_or, EX_not, EX_if, EX_lst, EX_tup, EX_callB, EX_call, EX_meth, EX_mut, EX_extend, EX_sl, EX_chain, EX_esh, EX_eun, EX_tru,
    IX_any, IX_range1, IX_range2, IX_zip, IX_enum, xArgs_nil, xArgs_cons, xP_none, xP_some, iO_int, List.map_nil, List.map_cons, rE_val, rS_val, rI_val, rF_items, rE_exc, rS_exc, rI_exc, rF_exc, nxS_nx, nxS_ret, nxS_exc, nxS_brk, nxS_ct, lpS_nx, lpS_ct, lpS_brk, lpS_ret, lpS_exc,
    OX_some, OB_some, OB_map, OB_ite, ifO_bl, notO_bl, ifR_bl, get_shr, get_new, get_var, opd_shr, opd_new, own_zero, own_succ, ow_own, ow_io, upd_own, upd_io, upd_succ, so_shr, so_own, so_io, unO_shr, unO_new, unO_var, shO_shr, shO_new, shO_var', frz_own, setOk_un, setOk_shr, setOk_own, set_shr, set_new,
    xOwn_own, ret_shr, ret_new, ret_var, shrs_nil, shrs_cons, Option.map_some, gets_nil, gets_cons, split_nil, split_shr, split_var, sets_nil, sets_cons, tg_one, tg_many, callS_none, callS_some, xIo_some, xLst_some, xInt_some, oE_ret, oE_exc, two?, one?,
    List.cons_append, List.nil_append, List.replicate, List.getElem?_cons_zero, List.getElem?_cons_succ, List.set_cons_zero, List.set_cons_succ, List.length_cons, List.length_nil, Nat.zero_add, Nat.reduceAdd, Nat.reduceSub, Nat.reduceLeDiff, true_and, if_true, ite_true,
    ev_add, ev_sub, ev_fdiv, ev_mod, ev_pow18, ev_pow60, ev_pow5, ev_mul60, ev_mulA, ev_mulB, ev_neg, ev_lt, ev_le, ev_gt, ev_ge, ev_ixL, ev_ixT, ev_ixC, ev_ixS, ev_lenS, ev_lenL, ev_lenT, ev_lenC, ev_addS, ev_addL, ev_addT, ev_mulL, ev_max2, ev_min2, ev_slS, ev_slL, ev_slT, eqv_ii, nev_ii, Int.zero_add, ev_scr0, atI_nat0, atI_nat1, atI_nat2, ix20, ix21,
    Int.reduceLT, Int.reduceLE, Bool.false_eq_true, Bool.true_eq_false, false_implies, true_implies, implies_true, and_true, fnR_nx, fnR_ret, fnR_exc, ioOut, decide_eq_true_eq, decide_eq_false_iff_not]
          exact ⟨by omega, t ++ [c'], v4, .shr (.int (i : Nat)), fun _ => W, (fun q => by omega), t4, rfl, rfl⟩
        · have ei : i = m := by omega
          exact ⟨t, v2, .shr (.int (i : Nat)), (fun q => by omega), fun _ => ⟨ei ▸ F1, F2 ei⟩, t2, rfl, rfl⟩
        
    · have F1 := w1.one
      have F2 : i = m → (charsM t).length < t.length := fun q => absurd (by omega) h2
      refine ⟨fun h3 => ?_, fun h3 => ?_⟩
      · refine letter v2 t2 _ fun c' v4 hc' t4 => ?_
        have W := Way.letter F1.na F1.cl F1.sg F1.sz hc'
        simp -implicitDefEqProofs only [SX_seq, SX_if, SX_asg, SX_ret, SX_retN, SX_setL, SX_augL, SX_nil, SX_expr, SX_par, SX_unp, SX_raise, SX_brk, SX_ct, SX_for, EX_bin, EX_un, EX_var, EX_c, EX_and, EX_or, EX_not, EX_if, EX_lst, EX_tup, EX_callB, EX_call, EX_meth, EX_mut, EX_extend, EX_sl, EX_chain, EX_esh, EX_eun, EX_tru,
    IX_any, IX_range1, IX_range2, IX_zip, IX_enum, xArgs_nil, xArgs_cons, xP_none, xP_some, iO_int, List.map_nil, List.map_cons, rE_val, rS_val, rI_val, rF_items, rE_exc, rS_exc, rI_exc, rF_exc, nxS_nx, nxS_ret, nxS_exc, nxS_brk, nxS_ct, lpS_nx, lpS_ct, lpS_brk, lpS_ret, lpS_exc,
    OX_some, OB_some, OB_map, OB_ite, ifO_bl, notO_bl, ifR_bl, get_shr, get_new, get_var, opd_shr, opd_new, own_zero, own_succ, ow_own, ow_io, upd_own, upd_io, upd_succ, so_shr, so_own, so_io, unO_shr, unO_new, unO_var, shO_shr, shO_new, shO_var', frz_own, setOk_un, setOk_shr, setOk_own, set_shr, set_new,
    xOwn_own, ret_shr, ret_new, ret_var, shrs_nil, shrs_cons, Option.map_some, gets_nil, gets_cons, split_nil, split_shr, split_var, sets_nil, sets_cons, tg_one, tg_many, callS_none, callS_some, xIo_some, xLst_some, xInt_some, oE_ret, oE_exc, two?, one?,
    List.cons_append, List.nil_append, List.replicate, List.getElem?_cons_zero, List.getElem?_cons_succ, List.set_cons_zero, List.set_cons_succ, List.length_cons, List.length_nil, Nat.zero_add, Nat.reduceAdd, Nat.reduceSub, Nat.reduceLeDiff, true_and, if_true, ite_true,
    ev_add, ev_sub, ev_fdiv, ev_mod, ev_pow18, ev_pow60, ev_pow5, ev_mul60, ev_mulA, ev_mulB, ev_neg, ev_lt, ev_le, ev_gt, ev_ge, ev_ixL, ev_ixT, ev_ixC, ev_ixS, ev_lenS, ev_lenL, ev_lenT, ev_lenC, ev_addS, ev_addL, ev_addT, ev_mulL, ev_max2, ev_min2, ev_slS, ev_slL, ev_slT, eqv_ii, nev_ii, Int.zero_add, ev_scr0, atI_nat0, atI_nat1, atI_nat2, ix20, ix21,
    Int.reduceLT, Int.reduceLE, Bool.false_eq_true, Bool.true_eq_false, false_implies, true_implies, implies_true, and_true, fnR_nx, fnR_ret, fnR_exc, ioOut, decide_eq_true_eq, decide_eq_false_iff_not]
        exact ⟨by omega, t ++ [c'], v4, .shr (.int (i : Nat)), fun _ => W, (fun q => by omega), t4, rfl, rfl⟩
      · have ei : i = m := by omega
        exact ⟨t, v2, .shr (.int (i : Nat)), (fun q => by omega), fun _ => ⟨ei ▸ F1, F2 ei⟩, t2, rfl, rfl⟩
      
  · obtain ⟨t, v', s5, _, w2, tv, h5, rfl⟩ := hI
    rw [rangeV_len] at w2
    obtain ⟨w2, w3⟩ := w2 rfl
    have tl : t.length ≤ 20 := by
      have := na_len t false w2.na
      rw [w2.cl] at this
      simp at this
      omega
    simp -implicitDefEqProofs only [SX_seq, SX_if, SX_asg, SX_ret, SX_retN, SX_setL, SX_augL, SX_nil, SX_expr, SX_par, SX_unp, SX_raise, SX_brk, SX_ct, SX_for, EX_bin, EX_un, EX_var, EX_c, EX_and, EX_or, EX_not, EX_if, EX_lst, EX_tup, EX_callB, EX_call, EX_meth, EX_mut, EX_extend, EX_sl, EX_chain, EX_esh, EX_eun, EX_tru,
    IX_any, IX_range1, IX_range2, IX_zip, IX_enum, xArgs_nil, xArgs_cons, xP_none, xP_some, iO_int, List.map_nil, List.map_cons, rE_val, rS_val, rI_val, rF_items, rE_exc, rS_exc, rI_exc, rF_exc, nxS_nx, nxS_ret, nxS_exc, nxS_brk, nxS_ct, lpS_nx, lpS_ct, lpS_brk, lpS_ret, lpS_exc,
    OX_some, OB_some, OB_map, OB_ite, ifO_bl, notO_bl, ifR_bl, get_shr, get_new, get_var, opd_shr, opd_new, own_zero, own_succ, ow_own, ow_io, upd_own, upd_io, upd_succ, so_shr, so_own, so_io, unO_shr, unO_new, unO_var, shO_shr, shO_new, shO_var', frz_own, setOk_un, setOk_shr, setOk_own, set_shr, set_new,
    xOwn_own, ret_shr, ret_new, ret_var, shrs_nil, shrs_cons, Option.map_some, gets_nil, gets_cons, split_nil, split_shr, split_var, sets_nil, sets_cons, tg_one, tg_many, callS_none, callS_some, xIo_some, xLst_some, xInt_some, oE_ret, oE_exc, two?, one?,
    List.cons_append, List.nil_append, List.replicate, List.getElem?_cons_zero, List.getElem?_cons_succ, List.set_cons_zero, List.set_cons_succ, List.length_cons, List.length_nil, Nat.zero_add, Nat.reduceAdd, Nat.reduceSub, Nat.reduceLeDiff, true_and, if_true, ite_true,
    ev_add, ev_sub, ev_fdiv, ev_mod, ev_pow18, ev_pow60, ev_pow5, ev_mul60, ev_mulA, ev_mulB, ev_neg, ev_lt, ev_le, ev_gt, ev_ge, ev_ixL, ev_ixT, ev_ixC, ev_ixS, ev_lenS, ev_lenL, ev_lenT, ev_lenC, ev_addS, ev_addL, ev_addT, ev_mulL, ev_max2, ev_min2, ev_slS, ev_slL, ev_slT, eqv_ii, nev_ii, Int.zero_add, ev_scr0, atI_nat0, atI_nat1, atI_nat2, ix20, ix21,
    Int.reduceLT, Int.reduceLE, Bool.false_eq_true, Bool.true_eq_false, false_implies, true_implies, implies_true, and_true, fnR_nx, fnR_ret, fnR_exc, ioOut, decide_eq_true_eq, decide_eq_false_iff_not]
    refine OX_mono (draw_ok ns v' tv 8 (by decide) (by decide)) fun o ss q => ?_
    obtain ⟨r, v2, rfl, r0, r1, t2, rfl⟩ := q
    have mk : ∀ d1 d2 : List Nat, (d1 = [] ∨ d1 = [46]) → (d2 = [] ∨ d2 = [46]) → VP (d1 ++ t ++ d2) ∧ ∀ c ∈ d1 ++ t ++ d2, c = 46 ∨ c ∈ D5 ∨ c ∈ z := fun d1 d2 h1 h2 =>
      ⟨⟨d1, t, d2, rfl, h1, h2, w2.sg, w2.na, by rw [w2.cl]; exact m1, by rw [w2.cl]; exact m4, w3⟩, fun c hc => by
        have dot : ∀ d : List Nat, (d = [] ∨ d = [46]) → c ∈ d → c = 46 := fun d h hc => by
          rcases h with rfl | rfl
          · cases hc
          · exact List.mem_singleton.mp hc
        rcases List.mem_append.mp hc with hc | hc
        · rcases List.mem_append.mp hc with hc | hc
          · exact .inl (dot d1 h1 hc)
          · exact .inr (w2.sz c hc)
        · exact .inl (dot d2 h2 hc)⟩
    simp -implicitDefEqProofs only [SX_seq, SX_if, SX_asg, SX_ret, SX_retN, SX_setL, SX_augL, SX_nil, SX_expr, SX_par, SX_unp, SX_raise, SX_brk, SX_ct, SX_for, EX_bin, EX_un, EX_var, EX_c, EX_and, EX_or, EX_not, EX_if, EX_lst, EX_tup, EX_callB, EX_call, EX_meth, EX_mut, EX_extend, EX_sl, EX_chain, EX_esh, EX_eun, EX_tru,
    IX_any, IX_range1, IX_range2, IX_zip, IX_enum, xArgs_nil, xArgs_cons, xP_none, xP_some, iO_int, List.map_nil, List.map_cons, rE_val, rS_val, rI_val, rF_items, rE_exc, rS_exc, rI_exc, rF_exc, nxS_nx, nxS_ret, nxS_exc, nxS_brk, nxS_ct, lpS_nx, lpS_ct, lpS_brk, lpS_ret, lpS_exc,
    OX_some, OB_some, OB_map, OB_ite, ifO_bl, notO_bl, ifR_bl, get_shr, get_new, get_var, opd_shr, opd_new, own_zero, own_succ, ow_own, ow_io, upd_own, upd_io, upd_succ, so_shr, so_own, so_io, unO_shr, unO_new, unO_var, shO_shr, shO_new, shO_var', frz_own, setOk_un, setOk_shr, setOk_own, set_shr, set_new,
    xOwn_own, ret_shr, ret_new, ret_var, shrs_nil, shrs_cons, Option.map_some, gets_nil, gets_cons, split_nil, split_shr, split_var, sets_nil, sets_cons, tg_one, tg_many, callS_none, callS_some, xIo_some, xLst_some, xInt_some, oE_ret, oE_exc, two?, one?,
    List.cons_append, List.nil_append, List.replicate, List.getElem?_cons_zero, List.getElem?_cons_succ, List.set_cons_zero, List.set_cons_succ, List.length_cons, List.length_nil, Nat.zero_add, Nat.reduceAdd, Nat.reduceSub, Nat.reduceLeDiff, true_and, if_true, ite_true,
    ev_add, ev_sub, ev_fdiv, ev_mod, ev_pow18, ev_pow60, ev_pow5, ev_mul60, ev_mulA, ev_mulB, ev_neg, ev_lt, ev_le, ev_gt, ev_ge, ev_ixL, ev_ixT, ev_ixC, ev_ixS, ev_lenS, ev_lenL, ev_lenT, ev_lenC, ev_addS, ev_addL, ev_addT, ev_mulL, ev_max2, ev_min2, ev_slS, ev_slL, ev_slT, eqv_ii, nev_ii, Int.zero_add, ev_scr0, atI_nat0, atI_nat1, atI_nat2, ix20, ix21,
    Int.reduceLT, Int.reduceLE, Bool.false_eq_true, Bool.true_eq_false, false_implies, true_implies, implies_true, and_true, fnR_nx, fnR_ret, fnR_exc, ioOut, decide_eq_true_eq, decide_eq_false_iff_not, in_t2]
    exact ⟨fun _ => ⟨by omega, fun _ => ⟨by omega, _, v2, rfl, mk [46] [46] (.inr rfl) (.inr rfl), t2, rfl⟩, fun _ => ⟨by omega, _, v2, rfl, mk [46] [] (.inr rfl) (.inl rfl), t2, rfl⟩⟩,
      fun _ => ⟨by omega, fun _ => ⟨by omega, _, v2, rfl, mk [] [46] (.inl rfl) (.inr rfl), t2, rfl⟩, fun _ => ⟨by omega, _, v2, rfl, mk [] [] (.inl rfl) (.inl rfl), t2, rfl⟩⟩⟩
end G

end
section
set_option Elab.async false
set_option linter.all false
set_option maxRecDepth 100000
set_option maxHeartbeats 4000000
set_option autoImplicit false
/-! M: the law's rules. -/
namespace G
open PySem L2 Lw
theorem okS_charsV {p : List Nat} (h : VP p) : okS (charsM p) := okS_chars h.ok
theorem VP.bare {p : List Nat} (h : VP p) : fn__law_bare [.shr (.str p)] = some (.ret (.shr (.str (charsM p))), [.un]) := by
  have := bare_ok p (by have := h.len; omega)
  obtain ⟨_, _, _, h⟩ := h
  rwa [bare_chars h.no0] at this
/-- the bounds that a law picks -/
theorem bnd_ok (ns : List Int) (v : Val) (hv : Tn v) : OX (fn__law_pick [.shr (.scr ns), .io v, .shr (.lst [.int 1, .int 1, .int 2, .int 3])]) fun o ss => ∃ (i : Int) (v1 : Val), o = .ret (.shr (.int i)) ∧ 1 ≤ i ∧ i ≤ 3 ∧ Tn v1 ∧ ss = [.un, .io v1, .un] :=
  OX_mono (pick_ok ns v hv (.lst [.int 1, .int 1, .int 2, .int 3]) _ rfl (by decide) (by decide)) fun o ss q => by
    obtain ⟨r, v1, rfl, hr, t1, rfl⟩ := q
    have : r = .int 1 ∨ r = .int 1 ∨ r = .int 2 ∨ r = .int 3 := by simpa using hr
    rcases this with rfl | rfl | rfl | rfl
    · exact ⟨1, v1, rfl, by decide, by decide, t1, rfl⟩
    · exact ⟨1, v1, rfl, by decide, by decide, t1, rfl⟩
    · exact ⟨2, v1, rfl, by decide, by decide, t1, rfl⟩
    · exact ⟨3, v1, rfl, by decide, by decide, t1, rfl⟩
theorem lrules_ok2 (ns : List Int) (v : Val) (hv : Tn v) (m : Nat) (hm : m ≤ 6) (z : List Nat) (hz : 0 < z.length) (hz2 : z.length ≤ 1000) (hzl : lets z) :
    OX (fn__law_rules [.shr (.scr ns), .io v, .shr (.int (m : Nat)), .shr (.str z)]) fun o ss => ∃ ps l r v1, o = .ret (.shr (rulesV ps l r)) ∧ (VR ps l r ∧ ps.length ≤ m ∧ ∀ p ∈ ps, ∀ c ∈ p, c = 46 ∨ c ∈ D5 ∨ c ∈ z) ∧ l ≤ 3 ∧ r ≤ 3 ∧ Tn v1 ∧ ss = [.un, .io v1, .un, .un] := by
  unfold fn__law_rules g__law_rules
  refine FX_run rfl ?_
  simp -implicitDefEqProofs only [SX_seq, SX_if, SX_asg, SX_ret, SX_retN, SX_setL, SX_augL, SX_nil, SX_expr, SX_par, SX_unp, SX_raise, SX_brk, SX_ct, SX_for, EX_bin, EX_un, EX_var, EX_c, EX_and, EX_or, EX_not, EX_if, EX_lst, EX_tup, EX_callB, EX_call, EX_meth, EX_mut, EX_extend, EX_sl, EX_chain, EX_esh, EX_eun, EX_tru,
    IX_any, IX_range1, IX_range2, IX_zip, IX_enum, xArgs_nil, xArgs_cons, xP_none, xP_some, iO_int, List.map_nil, List.map_cons, rE_val, rS_val, rI_val, rF_items, rE_exc, rS_exc, rI_exc, rF_exc, nxS_nx, nxS_ret, nxS_exc, nxS_brk, nxS_ct, lpS_nx, lpS_ct, lpS_brk, lpS_ret, lpS_exc,
    OX_some, OB_some, OB_map, OB_ite, ifO_bl, notO_bl, ifR_bl, get_shr, get_new, get_var, opd_shr, opd_new, own_zero, own_succ, ow_own, ow_io, upd_own, upd_io, upd_succ, so_shr, so_own, so_io, unO_shr, unO_new, unO_var, shO_shr, shO_new, shO_var', frz_own, setOk_un, setOk_shr, setOk_own, set_shr, set_new,
    xOwn_own, ret_shr, ret_new, ret_var, shrs_nil, shrs_cons, Option.map_some, gets_nil, gets_cons, split_nil, split_shr, split_var, sets_nil, sets_cons, tg_one, tg_many, callS_none, callS_some, xIo_some, xLst_some, xInt_some, oE_ret, oE_exc, two?, one?,
    List.cons_append, List.nil_append, List.replicate, List.getElem?_cons_zero, List.getElem?_cons_succ, List.set_cons_zero, List.set_cons_succ, List.length_cons, List.length_nil, Nat.zero_add, Nat.reduceAdd, Nat.reduceSub, Nat.reduceLeDiff, true_and, if_true, ite_true,
    ev_add, ev_sub, ev_fdiv, ev_mod, ev_pow18, ev_pow60, ev_pow5, ev_mul60, ev_mulA, ev_mulB, ev_neg, ev_lt, ev_le, ev_gt, ev_ge, ev_ixL, ev_ixT, ev_ixC, ev_ixS, ev_lenS, ev_lenL, ev_lenT, ev_lenC, ev_addS, ev_addL, ev_addT, ev_mulL, ev_max2, ev_min2, ev_slS, ev_slL, ev_slT, eqv_ii, nev_ii, Int.zero_add, ev_scr0, atI_nat0, atI_nat1, atI_nat2, ix20, ix21,
    Int.reduceLT, Int.reduceLE, Bool.false_eq_true, Bool.true_eq_false, false_implies, true_implies, implies_true, and_true, fnR_nx, fnR_ret, fnR_exc, ioOut, decide_eq_true_eq, decide_eq_false_iff_not]
  refine OX_mono (draw_ok ns v hv ((m : Int) + 1) (by omega) (by omega)) fun o ss q => ?_
  obtain ⟨k, v1, rfl, k0, k1, t1, rfl⟩ := q
  simp -implicitDefEqProofs only [SX_seq, SX_if, SX_asg, SX_ret, SX_retN, SX_setL, SX_augL, SX_nil, SX_expr, SX_par, SX_unp, SX_raise, SX_brk, SX_ct, SX_for, EX_bin, EX_un, EX_var, EX_c, EX_and, EX_or, EX_not, EX_if, EX_lst, EX_tup, EX_callB, EX_call, EX_meth, EX_mut, EX_extend, EX_sl, EX_chain, EX_esh, EX_eun, EX_tru,
    IX_any, IX_range1, IX_range2, IX_zip, IX_enum, xArgs_nil, xArgs_cons, xP_none, xP_some, iO_int, List.map_nil, List.map_cons, rE_val, rS_val, rI_val, rF_items, rE_exc, rS_exc, rI_exc, rF_exc, nxS_nx, nxS_ret, nxS_exc, nxS_brk, nxS_ct, lpS_nx, lpS_ct, lpS_brk, lpS_ret, lpS_exc,
    OX_some, OB_some, OB_map, OB_ite, ifO_bl, notO_bl, ifR_bl, get_shr, get_new, get_var, opd_shr, opd_new, own_zero, own_succ, ow_own, ow_io, upd_own, upd_io, upd_succ, so_shr, so_own, so_io, unO_shr, unO_new, unO_var, shO_shr, shO_new, shO_var', frz_own, setOk_un, setOk_shr, setOk_own, set_shr, set_new,
    xOwn_own, ret_shr, ret_new, ret_var, shrs_nil, shrs_cons, Option.map_some, gets_nil, gets_cons, split_nil, split_shr, split_var, sets_nil, sets_cons, tg_one, tg_many, callS_none, callS_some, xIo_some, xLst_some, xInt_some, oE_ret, oE_exc, two?, one?,
    List.cons_append, List.nil_append, List.replicate, List.getElem?_cons_zero, List.getElem?_cons_succ, List.set_cons_zero, List.set_cons_succ, List.length_cons, List.length_nil, Nat.zero_add, Nat.reduceAdd, Nat.reduceSub, Nat.reduceLeDiff, true_and, if_true, ite_true,
    ev_add, ev_sub, ev_fdiv, ev_mod, ev_pow18, ev_pow60, ev_pow5, ev_mul60, ev_mulA, ev_mulB, ev_neg, ev_lt, ev_le, ev_gt, ev_ge, ev_ixL, ev_ixT, ev_ixC, ev_ixS, ev_lenS, ev_lenL, ev_lenT, ev_lenC, ev_addS, ev_addL, ev_addT, ev_mulL, ev_max2, ev_min2, ev_slS, ev_slL, ev_slT, eqv_ii, nev_ii, Int.zero_add, ev_scr0, atI_nat0, atI_nat1, atI_nat2, ix20, ix21,
    Int.reduceLT, Int.reduceLE, Bool.false_eq_true, Bool.true_eq_false, false_implies, true_implies, implies_true, and_true, fnR_nx, fnR_ret, fnR_exc, ioOut, decide_eq_true_eq, decide_eq_false_iff_not, smI k0 (by omega)]
  refine FL_inv (fun i e => ∃ ps v' s6 s7, (∀ p ∈ ps, VP p ∧ ∀ c ∈ p, c = 46 ∨ c ∈ D5 ∨ c ∈ z) ∧ (ps.map charsM).Nodup ∧ ps.length ≤ i ∧ Tn v' ∧ setOk (some s6) = true ∧ setOk (some s7) = true ∧ e = [.shr (.scr ns), .io v', .shr (.int (m : Nat)), .shr (.str z), .own (.lst (ps.map Val.str)), .own (.lst ((ps.map charsM).map Val.str)), s6, s7])
    ⟨[], v1, .un, .un, (fun p hp => nomatch hp), List.nodup_nil, Nat.le_refl _, t1, rfl, rfl, rfl⟩ (fun i x e hx hI => ?_) (fun e hI => ?_)
  · obtain ⟨ps, v', s6, s7, vp, nd, pl, tv, h6, h7, rfl⟩ := hI
    have hi : i < k.toNat := by
      have := (List.getElem?_eq_some_iff.mp hx).1
      rwa [rangeV_len] at this
    rw [rangeV_get hi] at hx
    cases hx
    simp -implicitDefEqProofs only [SX_seq, SX_if, SX_asg, SX_ret, SX_retN, SX_setL, SX_augL, SX_nil, SX_expr, SX_par, SX_unp, SX_raise, SX_brk, SX_ct, SX_for, EX_bin, EX_un, EX_var, EX_c, EX_and, EX_or, EX_not, EX_if, EX_lst, EX_tup, EX_callB, EX_call, EX_meth, EX_mut, EX_extend, EX_sl, EX_chain, EX_esh, EX_eun, EX_tru,
    IX_any, IX_range1, IX_range2, IX_zip, IX_enum, xArgs_nil, xArgs_cons, xP_none, xP_some, iO_int, List.map_nil, List.map_cons, rE_val, rS_val, rI_val, rF_items, rE_exc, rS_exc, rI_exc, rF_exc, nxS_nx, nxS_ret, nxS_exc, nxS_brk, nxS_ct, lpS_nx, lpS_ct, lpS_brk, lpS_ret, lpS_exc,
    OX_some, OB_some, OB_map, OB_ite, ifO_bl, notO_bl, ifR_bl, get_shr, get_new, get_var, opd_shr, opd_new, own_zero, own_succ, ow_own, ow_io, upd_own, upd_io, upd_succ, so_shr, so_own, so_io, unO_shr, unO_new, unO_var, shO_shr, shO_new, shO_var', frz_own, setOk_un, setOk_shr, setOk_own, set_shr, set_new,
    xOwn_own, ret_shr, ret_new, ret_var, shrs_nil, shrs_cons, Option.map_some, gets_nil, gets_cons, split_nil, split_shr, split_var, sets_nil, sets_cons, tg_one, tg_many, callS_none, callS_some, xIo_some, xLst_some, xInt_some, oE_ret, oE_exc, two?, one?,
    List.cons_append, List.nil_append, List.replicate, List.getElem?_cons_zero, List.getElem?_cons_succ, List.set_cons_zero, List.set_cons_succ, List.length_cons, List.length_nil, Nat.zero_add, Nat.reduceAdd, Nat.reduceSub, Nat.reduceLeDiff, true_and, if_true, ite_true,
    ev_add, ev_sub, ev_fdiv, ev_mod, ev_pow18, ev_pow60, ev_pow5, ev_mul60, ev_mulA, ev_mulB, ev_neg, ev_lt, ev_le, ev_gt, ev_ge, ev_ixL, ev_ixT, ev_ixC, ev_ixS, ev_lenS, ev_lenL, ev_lenT, ev_lenC, ev_addS, ev_addL, ev_addT, ev_mulL, ev_max2, ev_min2, ev_slS, ev_slL, ev_slT, eqv_ii, nev_ii, Int.zero_add, ev_scr0, atI_nat0, atI_nat1, atI_nat2, ix20, ix21,
    Int.reduceLT, Int.reduceLE, Bool.false_eq_true, Bool.true_eq_false, false_implies, true_implies, implies_true, and_true, fnR_nx, fnR_ret, fnR_exc, ioOut, decide_eq_true_eq, decide_eq_false_iff_not, h6, h7]
    refine OX_mono (lpat_ok2 ns v' tv z hz hz2 hzl) fun o ss q => ?_
    obtain ⟨p, v2, rfl, hp, t2, rfl⟩ := q
    have nin := notin_strs (okS_charsV hp.1) (ys := ps.map charsM) (fun y hy => by
      obtain ⟨q, hq, rfl⟩ := List.mem_map.mp hy
      exact okS_charsV (vp q hq).1)
    simp -implicitDefEqProofs only [SX_seq, SX_if, SX_asg, SX_ret, SX_retN, SX_setL, SX_augL, SX_nil, SX_expr, SX_par, SX_unp, SX_raise, SX_brk, SX_ct, SX_for, EX_bin, EX_un, EX_var, EX_c, EX_and, EX_or, EX_not, EX_if, EX_lst, EX_tup, EX_callB, EX_call, EX_meth, EX_mut, EX_extend, EX_sl, EX_chain, EX_esh, EX_eun, EX_tru,
    IX_any, IX_range1, IX_range2, IX_zip, IX_enum, xArgs_nil, xArgs_cons, xP_none, xP_some, iO_int, List.map_nil, List.map_cons, rE_val, rS_val, rI_val, rF_items, rE_exc, rS_exc, rI_exc, rF_exc, nxS_nx, nxS_ret, nxS_exc, nxS_brk, nxS_ct, lpS_nx, lpS_ct, lpS_brk, lpS_ret, lpS_exc,
    OX_some, OB_some, OB_map, OB_ite, ifO_bl, notO_bl, ifR_bl, get_shr, get_new, get_var, opd_shr, opd_new, own_zero, own_succ, ow_own, ow_io, upd_own, upd_io, upd_succ, so_shr, so_own, so_io, unO_shr, unO_new, unO_var, shO_shr, shO_new, shO_var', frz_own, setOk_un, setOk_shr, setOk_own, set_shr, set_new,
    xOwn_own, ret_shr, ret_new, ret_var, shrs_nil, shrs_cons, Option.map_some, gets_nil, gets_cons, split_nil, split_shr, split_var, sets_nil, sets_cons, tg_one, tg_many, callS_none, callS_some, xIo_some, xLst_some, xInt_some, oE_ret, oE_exc, two?, one?,
    List.cons_append, List.nil_append, List.replicate, List.getElem?_cons_zero, List.getElem?_cons_succ, List.set_cons_zero, List.set_cons_succ, List.length_cons, List.length_nil, Nat.zero_add, Nat.reduceAdd, Nat.reduceSub, Nat.reduceLeDiff, true_and, if_true, ite_true,
    ev_add, ev_sub, ev_fdiv, ev_mod, ev_pow18, ev_pow60, ev_pow5, ev_mul60, ev_mulA, ev_mulB, ev_neg, ev_lt, ev_le, ev_gt, ev_ge, ev_ixL, ev_ixT, ev_ixC, ev_ixS, ev_lenS, ev_lenL, ev_lenT, ev_lenC, ev_addS, ev_addL, ev_addT, ev_mulL, ev_max2, ev_min2, ev_slS, ev_slL, ev_slT, eqv_ii, nev_ii, Int.zero_add, ev_scr0, atI_nat0, atI_nat1, atI_nat2, ix20, ix21,
    Int.reduceLT, Int.reduceLE, Bool.false_eq_true, Bool.true_eq_false, false_implies, true_implies, implies_true, and_true, fnR_nx, fnR_ret, fnR_exc, ioOut, decide_eq_true_eq, decide_eq_false_iff_not, hp.1.bare, nin, h7]
    refine ⟨fun h1 => ?_, fun h1 => ?_⟩
    · simp -implicitDefEqProofs only [SX_seq, SX_if, SX_asg, SX_ret, SX_retN, SX_setL, SX_augL, SX_nil, SX_expr, SX_par, SX_unp, SX_raise, SX_brk, SX_ct, SX_for, EX_bin, EX_un, EX_var, EX_c, EX_and, EX_or, EX_not, EX_if, EX_lst, EX_tup, EX_callB, EX_call, EX_meth, EX_mut, EX_extend, EX_sl, EX_chain, EX_esh, EX_eun, EX_tru,
    IX_any, IX_range1, IX_range2, IX_zip, IX_enum, xArgs_nil, xArgs_cons, xP_none, xP_some, iO_int, List.map_nil, List.map_cons, rE_val, rS_val, rI_val, rF_items, rE_exc, rS_exc, rI_exc, rF_exc, nxS_nx, nxS_ret, nxS_exc, nxS_brk, nxS_ct, lpS_nx, lpS_ct, lpS_brk, lpS_ret, lpS_exc,
    OX_some, OB_some, OB_map, OB_ite, ifO_bl, notO_bl, ifR_bl, get_shr, get_new, get_var, opd_shr, opd_new, own_zero, own_succ, ow_own, ow_io, upd_own, upd_io, upd_succ, so_shr, so_own, so_io, unO_shr, unO_new, unO_var, shO_shr, shO_new, shO_var', frz_own, setOk_un, setOk_shr, setOk_own, set_shr, set_new,
    xOwn_own, ret_shr, ret_new, ret_var, shrs_nil, shrs_cons, Option.map_some, gets_nil, gets_cons, split_nil, split_shr, split_var, sets_nil, sets_cons, tg_one, tg_many, callS_none, callS_some, xIo_some, xLst_some, xInt_some, oE_ret, oE_exc, two?, one?,
    List.cons_append, List.nil_append, List.replicate, List.getElem?_cons_zero, List.getElem?_cons_succ, List.set_cons_zero, List.set_cons_succ, List.length_cons, List.length_nil, Nat.zero_add, Nat.reduceAdd, Nat.reduceSub, Nat.reduceLeDiff, true_and, if_true, ite_true,
    ev_add, ev_sub, ev_fdiv, ev_mod, ev_pow18, ev_pow60, ev_pow5, ev_mul60, ev_mulA, ev_mulB, ev_neg, ev_lt, ev_le, ev_gt, ev_ge, ev_ixL, ev_ixT, ev_ixC, ev_ixS, ev_lenS, ev_lenL, ev_lenT, ev_lenC, ev_addS, ev_addL, ev_addT, ev_mulL, ev_max2, ev_min2, ev_slS, ev_slL, ev_slT, eqv_ii, nev_ii, Int.zero_add, ev_scr0, atI_nat0, atI_nat1, atI_nat2, ix20, ix21,
    Int.reduceLT, Int.reduceLE, Bool.false_eq_true, Bool.true_eq_false, false_implies, true_implies, implies_true, and_true, fnR_nx, fnR_ret, fnR_exc, ioOut, decide_eq_true_eq, decide_eq_false_iff_not, hp.1.bare, app_ok, List.length_map]
      have h1 : charsM p ∉ ps.map charsM := by simpa using h1
      refine ⟨by omega, by omega, ps ++ [p], v2, .shr (.int (i : Nat)), .shr (.str p), fun q hq => ?_, ?_, by rw [List.length_append]; simp only [List.length_cons, List.length_nil]; omega, t2, rfl, rfl, ?_⟩
      · rcases List.mem_append.mp hq with hq | hq
        · exact vp q hq
        · rw [List.mem_singleton] at hq; subst hq; exact hp
      · rw [List.map_append, List.map_cons, List.map_nil]
        refine List.nodup_append.mpr ⟨nd, List.nodup_cons.mpr ⟨by simp, List.nodup_nil⟩, fun a ha b hb e => ?_⟩
        rw [List.mem_singleton] at hb
        subst hb e
        exact h1 ha
      · rw [List.map_append, List.map_append, List.map_append]; rfl
    · exact ⟨ps, v2, .shr (.int (i : Nat)), .shr (.str p), vp, nd, by omega, t2, rfl, rfl, rfl⟩
  · obtain ⟨ps, v', s6, s7, vp, nd, pl, tv, h6, h7, rfl⟩ := hI
    rw [rangeV_len] at pl
    simp -implicitDefEqProofs only [SX_seq, SX_if, SX_asg, SX_ret, SX_retN, SX_setL, SX_augL, SX_nil, SX_expr, SX_par, SX_unp, SX_raise, SX_brk, SX_ct, SX_for, EX_bin, EX_un, EX_var, EX_c, EX_and, EX_or, EX_not, EX_if, EX_lst, EX_tup, EX_callB, EX_call, EX_meth, EX_mut, EX_extend, EX_sl, EX_chain, EX_esh, EX_eun, EX_tru,
    IX_any, IX_range1, IX_range2, IX_zip, IX_enum, xArgs_nil, xArgs_cons, xP_none, xP_some, iO_int, List.map_nil, List.map_cons, rE_val, rS_val, rI_val, rF_items, rE_exc, rS_exc, rI_exc, rF_exc, nxS_nx, nxS_ret, nxS_exc, nxS_brk, nxS_ct, lpS_nx, lpS_ct, lpS_brk, lpS_ret, lpS_exc,
    OX_some, OB_some, OB_map, OB_ite, ifO_bl, notO_bl, ifR_bl, get_shr, get_new, get_var, opd_shr, opd_new, own_zero, own_succ, ow_own, ow_io, upd_own, upd_io, upd_succ, so_shr, so_own, so_io, unO_shr, unO_new, unO_var, shO_shr, shO_new, shO_var', frz_own, setOk_un, setOk_shr, setOk_own, set_shr, set_new,
    xOwn_own, ret_shr, ret_new, ret_var, shrs_nil, shrs_cons, Option.map_some, gets_nil, gets_cons, split_nil, split_shr, split_var, sets_nil, sets_cons, tg_one, tg_many, callS_none, callS_some, xIo_some, xLst_some, xInt_some, oE_ret, oE_exc, two?, one?,
    List.cons_append, List.nil_append, List.replicate, List.getElem?_cons_zero, List.getElem?_cons_succ, List.set_cons_zero, List.set_cons_succ, List.length_cons, List.length_nil, Nat.zero_add, Nat.reduceAdd, Nat.reduceSub, Nat.reduceLeDiff, true_and, if_true, ite_true,
    ev_add, ev_sub, ev_fdiv, ev_mod, ev_pow18, ev_pow60, ev_pow5, ev_mul60, ev_mulA, ev_mulB, ev_neg, ev_lt, ev_le, ev_gt, ev_ge, ev_ixL, ev_ixT, ev_ixC, ev_ixS, ev_lenS, ev_lenL, ev_lenT, ev_lenC, ev_addS, ev_addL, ev_addT, ev_mulL, ev_max2, ev_min2, ev_slS, ev_slL, ev_slT, eqv_ii, nev_ii, Int.zero_add, ev_scr0, atI_nat0, atI_nat1, atI_nat2, ix20, ix21,
    Int.reduceLT, Int.reduceLE, Bool.false_eq_true, Bool.true_eq_false, false_implies, true_implies, implies_true, and_true, fnR_nx, fnR_ret, fnR_exc, ioOut, decide_eq_true_eq, decide_eq_false_iff_not, tupleOf_l]
    refine OX_mono (bnd_ok ns v' tv) fun o ss q => ?_
    obtain ⟨l, v2, rfl, l1, l3, t2, rfl⟩ := q
    simp -implicitDefEqProofs only [SX_seq, SX_if, SX_asg, SX_ret, SX_retN, SX_setL, SX_augL, SX_nil, SX_expr, SX_par, SX_unp, SX_raise, SX_brk, SX_ct, SX_for, EX_bin, EX_un, EX_var, EX_c, EX_and, EX_or, EX_not, EX_if, EX_lst, EX_tup, EX_callB, EX_call, EX_meth, EX_mut, EX_extend, EX_sl, EX_chain, EX_esh, EX_eun, EX_tru,
    IX_any, IX_range1, IX_range2, IX_zip, IX_enum, xArgs_nil, xArgs_cons, xP_none, xP_some, iO_int, List.map_nil, List.map_cons, rE_val, rS_val, rI_val, rF_items, rE_exc, rS_exc, rI_exc, rF_exc, nxS_nx, nxS_ret, nxS_exc, nxS_brk, nxS_ct, lpS_nx, lpS_ct, lpS_brk, lpS_ret, lpS_exc,
    OX_some, OB_some, OB_map, OB_ite, ifO_bl, notO_bl, ifR_bl, get_shr, get_new, get_var, opd_shr, opd_new, own_zero, own_succ, ow_own, ow_io, upd_own, upd_io, upd_succ, so_shr, so_own, so_io, unO_shr, unO_new, unO_var, shO_shr, shO_new, shO_var', frz_own, setOk_un, setOk_shr, setOk_own, set_shr, set_new,
    xOwn_own, ret_shr, ret_new, ret_var, shrs_nil, shrs_cons, Option.map_some, gets_nil, gets_cons, split_nil, split_shr, split_var, sets_nil, sets_cons, tg_one, tg_many, callS_none, callS_some, xIo_some, xLst_some, xInt_some, oE_ret, oE_exc, two?, one?,
    List.cons_append, List.nil_append, List.replicate, List.getElem?_cons_zero, List.getElem?_cons_succ, List.set_cons_zero, List.set_cons_succ, List.length_cons, List.length_nil, Nat.zero_add, Nat.reduceAdd, Nat.reduceSub, Nat.reduceLeDiff, true_and, if_true, ite_true,
    ev_add, ev_sub, ev_fdiv, ev_mod, ev_pow18, ev_pow60, ev_pow5, ev_mul60, ev_mulA, ev_mulB, ev_neg, ev_lt, ev_le, ev_gt, ev_ge, ev_ixL, ev_ixT, ev_ixC, ev_ixS, ev_lenS, ev_lenL, ev_lenT, ev_lenC, ev_addS, ev_addL, ev_addT, ev_mulL, ev_max2, ev_min2, ev_slS, ev_slL, ev_slT, eqv_ii, nev_ii, Int.zero_add, ev_scr0, atI_nat0, atI_nat1, atI_nat2, ix20, ix21,
    Int.reduceLT, Int.reduceLE, Bool.false_eq_true, Bool.true_eq_false, false_implies, true_implies, implies_true, and_true, fnR_nx, fnR_ret, fnR_exc, ioOut, decide_eq_true_eq, decide_eq_false_iff_not]
    refine OX_mono (bnd_ok ns v2 t2) fun o ss q => ?_
    obtain ⟨r, v3, rfl, r1, r3, t3, rfl⟩ := q
    simp -implicitDefEqProofs only [SX_seq, SX_if, SX_asg, SX_ret, SX_retN, SX_setL, SX_augL, SX_nil, SX_expr, SX_par, SX_unp, SX_raise, SX_brk, SX_ct, SX_for, EX_bin, EX_un, EX_var, EX_c, EX_and, EX_or, EX_not, EX_if, EX_lst, EX_tup, EX_callB, EX_call, EX_meth, EX_mut, EX_extend, EX_sl, EX_chain, EX_esh, EX_eun, EX_tru,
    IX_any, IX_range1, IX_range2, IX_zip, IX_enum, xArgs_nil, xArgs_cons, xP_none, xP_some, iO_int, List.map_nil, List.map_cons, rE_val, rS_val, rI_val, rF_items, rE_exc, rS_exc, rI_exc, rF_exc, nxS_nx, nxS_ret, nxS_exc, nxS_brk, nxS_ct, lpS_nx, lpS_ct, lpS_brk, lpS_ret, lpS_exc,
    OX_some, OB_some, OB_map, OB_ite, ifO_bl, notO_bl, ifR_bl, get_shr, get_new, get_var, opd_shr, opd_new, own_zero, own_succ, ow_own, ow_io, upd_own, upd_io, upd_succ, so_shr, so_own, so_io, unO_shr, unO_new, unO_var, shO_shr, shO_new, shO_var', frz_own, setOk_un, setOk_shr, setOk_own, set_shr, set_new,
    xOwn_own, ret_shr, ret_new, ret_var, shrs_nil, shrs_cons, Option.map_some, gets_nil, gets_cons, split_nil, split_shr, split_var, sets_nil, sets_cons, tg_one, tg_many, callS_none, callS_some, xIo_some, xLst_some, xInt_some, oE_ret, oE_exc, two?, one?,
    List.cons_append, List.nil_append, List.replicate, List.getElem?_cons_zero, List.getElem?_cons_succ, List.set_cons_zero, List.set_cons_succ, List.length_cons, List.length_nil, Nat.zero_add, Nat.reduceAdd, Nat.reduceSub, Nat.reduceLeDiff, true_and, if_true, ite_true,
    ev_add, ev_sub, ev_fdiv, ev_mod, ev_pow18, ev_pow60, ev_pow5, ev_mul60, ev_mulA, ev_mulB, ev_neg, ev_lt, ev_le, ev_gt, ev_ge, ev_ixL, ev_ixT, ev_ixC, ev_ixS, ev_lenS, ev_lenL, ev_lenT, ev_lenC, ev_addS, ev_addL, ev_addT, ev_mulL, ev_max2, ev_min2, ev_slS, ev_slL, ev_slT, eqv_ii, nev_ii, Int.zero_add, ev_scr0, atI_nat0, atI_nat1, atI_nat2, ix20, ix21,
    Int.reduceLT, Int.reduceLE, Bool.false_eq_true, Bool.true_eq_false, false_implies, true_implies, implies_true, and_true, fnR_nx, fnR_ret, fnR_exc, ioOut, decide_eq_true_eq, decide_eq_false_iff_not]
    exact ⟨ps, l, r, v3, rfl, ⟨⟨fun p hp => (vp p hp).1, nd, by omega, l1, by omega, r1, by omega⟩, by omega, fun p hp => (vp p hp).2⟩, l3, r3, t3, rfl⟩
theorem lrules_ok (ns : List Int) (v : Val) (hv : Tn v) (m : Nat) (hm : m ≤ 6) (z : List Nat) (hz : 0 < z.length) (hz2 : z.length ≤ 1000) (hzl : lets z) :
    OX (fn__law_rules [.shr (.scr ns), .io v, .shr (.int (m : Nat)), .shr (.str z)]) fun o ss => ∃ ps l r v1, o = .ret (.shr (rulesV ps l r)) ∧ VR ps l r ∧ l ≤ 3 ∧ r ≤ 3 ∧ Tn v1 ∧ ss = [.un, .io v1, .un, .un] :=
  OX_mono (lrules_ok2 ns v hv m hm z hz hz2 hzl) fun o ss ⟨ps, l, r, v1, h1, h2, h3⟩ => ⟨ps, l, r, v1, h1, h2.1, h3⟩
end G

end
section
set_option Elab.async false
set_option linter.all false
set_option maxRecDepth 100000
set_option maxHeartbeats 4000000
set_option autoImplicit false
/-! M: the parts of count. -/
namespace G
open PySem L2 Lw
theorem SX_while1 {c : EF} {g : SF} {n : Nat} {env : Lw.Env} {QS : FRes → Lw.Env → Prop} : OX (whileN c g (n + 1) env) QS = OX (c env) (rS QS fun o e => ifO o (OX (g e) (lpS QS fun e => OX (whileN c g n e) QS)) (QS .nx e)) := by
  show OX (obind c (fun o => match o with
    | .shr (.bl true) => fun env => match g env with
      | some (.nx, env2) => whileN c g n env2
      | some (.ct, env2) => whileN c g n env2
      | some (.brk, env2) => some (.nx, env2)
      | z => z
    | .shr (.bl false) => fun env => some (.nx, env)
    | _ => fun _ => none) env) QS = _
  rw [SX_bind]
  congr; funext o e
  split
  · rw [ifO_bl]
    have e1 : OX (match g e with
      | some (.nx, env2) => whileN c g n env2
      | some (.ct, env2) => whileN c g n env2
      | some (.brk, env2) => some (.nx, env2)
      | z => z) QS = OX (g e) (lpS QS fun e => OX (whileN c g n e) QS) := by
      cases g e with
      | none => rfl
      | some z => obtain ⟨r, e⟩ := z; cases r <;> rfl
    rw [e1]
    exact propext ⟨fun q => ⟨fun _ => q, fun z => by cases z⟩, fun q => q.1 rfl⟩
  · exact propext ⟨fun q => ⟨(fun z => by cases z), fun _ => q⟩, fun q => q.2 rfl⟩
  · rename_i h1 h2
    unfold ifO
    split
    · rename_i b
      cases b
      · exact absurd rfl h2
      · exact absurd rfl h1
    · rfl
/-! texts as a dict's keys -/
def strD (bs : List (List Nat)) : Val := .dct (bs.map Val.str) (bs.map fun _ => .bl true)
theorem nk_str (z : List Nat) : nk (.str z) = some (.text ⟨z.toArray⟩) := rfl
theorem text_inj {a b : List Nat} (h : (NestedKey.text ⟨a.toArray⟩) = .text ⟨b.toArray⟩) : a = b := by
  injection h with h
  exact S_inj h
theorem find_str (z : List Nat) : ∀ bs : List (List Nat), (dfind (bs.map Val.str) (bs.map fun _ => .bl true) (.text ⟨z.toArray⟩)).isSome = decide (z ∈ bs)
  | [] => rfl
  | b :: bs => by
    have ih := find_str z bs
    unfold dfind at ih ⊢
    rw [List.map_cons, List.map_cons, List.zip_cons_cons]
    by_cases h : z = b
    · subst h
      rw [List.find?_cons_of_pos (by rw [nk_str]; simp)]
      simp
    · rw [List.find?_cons_of_neg (by
        rw [nk_str]
        simp only [decide_eq_true_eq]
        intro e
        exact h (text_inj (Option.some.inj e)).symm), ih]
      simp [h]
theorem isNs_str (bs : List (List Nat)) : isNs (bs.map Val.str) = false := by cases bs <;> rfl
theorem inK_str (n : Bool) (z : List Nat) (bs : List (List Nat)) : oInK n (.str z) (strD bs) = some (.shr (.bl (n ^^ decide (z ∈ bs)))) := by
  show (atK (bs.map Val.str) (bs.map fun _ => .bl true) (.str z)).map (fun o => RV.shr (.bl (n ^^ o.isSome))) = _
  unfold atK
  rw [if_pos (isNs_str bs)]
  show some (RV.shr (.bl (n ^^ (dfind (bs.map Val.str) (bs.map fun _ => .bl true) (.text ⟨z.toArray⟩)).isSome))) = _
  rw [find_str]
def addB (bs : List (List Nat)) (z : List Nat) : List (List Nat) := if z ∈ bs then bs else bs ++ [z]
theorem put_str (z : List Nat) (bs : List (List Nat)) (hl : bs.length < 16000000) : stK (strD bs) (.str z) (.bl true) = some (strD (addB bs z)) := by
  show (if isNs (bs.map Val.str) = false ∧ (bs.map Val.str).length < 16000000 then (kq (.str z)).map fun k => Val.dct (dput (bs.map Val.str) (bs.map fun _ => .bl true) (nkK k) (.str z) (.bl true)).1 (dput (bs.map Val.str) (bs.map fun _ => .bl true) (nkK k) (.str z) (.bl true)).2 else none) = _
  rw [if_pos ⟨isNs_str bs, by rw [List.length_map]; exact hl⟩]
  show some (Val.dct (dput (bs.map Val.str) (bs.map fun _ => .bl true) (.text ⟨z.toArray⟩) (.str z) (.bl true)).1 (dput (bs.map Val.str) (bs.map fun _ => .bl true) (.text ⟨z.toArray⟩) (.str z) (.bl true)).2) = _
  unfold dput addB strD
  rw [find_str]
  by_cases h : z ∈ bs
  · rw [if_pos (decide_eq_true h), if_pos h]
    have e : ∀ bs : List (List Nat), List.zipWith (fun a b => if nk a = some (.text ⟨z.toArray⟩) then (Val.bl true) else b) (bs.map Val.str) (bs.map fun _ => .bl true) = bs.map fun _ => .bl true := by
      intro bs
      induction bs with
      | nil => rfl
      | cons b bs ih => rw [List.map_cons, List.map_cons, List.zipWith_cons_cons, ih]; simp
    dsimp only
    rw [e bs]
  · rw [if_neg (by rw [decide_eq_false h]; decide), if_neg h, List.map_append, List.map_append]
    rfl
/-! the longest end with which a pattern begins -/
def ue (bs : List (List Nat)) : List Nat → List Nat
  | [] => []
  | c :: t => if c :: t ∈ bs then c :: t else ue bs t
theorem useful_ok (bs : List (List Nat)) (h0 : [] ∈ bs) (t : List Nat) (ht : t.length ≤ 1000000) : fn_useful_end [.shr (strD bs), .shr (.str t)] = some (.ret (.shr (.str (ue bs t))), [.un, .un]) := by
  apply OX_det
  unfold fn_useful_end g_useful_end
  refine FX_run rfl ?_
  have key : ∀ (t : List Nat) (n : Nat) (QS : FRes → Lw.Env → Prop), t.length < n → t.length ≤ 1000000 → QS .nx [.shr (strD bs), .shr (.str (ue bs t))] →
      OX (whileN (sBin (oInK true) (sVar 1) (sVar 0)) (sAsg 1 (sSl oSl (sVar 1) (some (sC (.int 1))) none)) n [.shr (strD bs), .shr (.str t)]) QS := by
    intro t
    induction t with
    | nil =>
      intro n QS hn _ hq
      obtain ⟨n, rfl⟩ : ∃ m, n = m + 1 := ⟨n - 1, by omega⟩
      rw [SX_while1]
      have d : decide ([] ∈ bs) = true := decide_eq_true h0
      simp -implicitDefEqProofs only [SX_seq, SX_if, SX_asg, SX_ret, SX_retN, SX_setL, SX_augL, SX_nil, SX_expr, SX_par, SX_unp, SX_raise, SX_brk, SX_ct, SX_for, EX_bin, EX_un, EX_var, EX_c, EX_and, EX_or, EX_not, EX_if, EX_lst, EX_tup, EX_callB, EX_call, EX_meth, EX_mut, EX_extend, EX_sl, EX_chain, EX_esh, EX_eun, EX_tru,
    IX_any, IX_range1, IX_range2, IX_zip, IX_enum, xArgs_nil, xArgs_cons, xP_none, xP_some, iO_int, List.map_nil, List.map_cons, rE_val, rS_val, rI_val, rF_items, rE_exc, rS_exc, rI_exc, rF_exc, nxS_nx, nxS_ret, nxS_exc, nxS_brk, nxS_ct, lpS_nx, lpS_ct, lpS_brk, lpS_ret, lpS_exc,
    OX_some, OB_some, OB_map, OB_ite, ifO_bl, notO_bl, ifR_bl, get_shr, get_new, get_var, opd_shr, opd_new, own_zero, own_succ, ow_own, ow_io, upd_own, upd_io, upd_succ, so_shr, so_own, so_io, unO_shr, unO_new, unO_var, shO_shr, shO_new, shO_var', frz_own, setOk_un, setOk_shr, setOk_own, set_shr, set_new,
    xOwn_own, ret_shr, ret_new, ret_var, shrs_nil, shrs_cons, Option.map_some, gets_nil, gets_cons, split_nil, split_shr, split_var, sets_nil, sets_cons, tg_one, tg_many, callS_none, callS_some, xIo_some, xLst_some, xInt_some, oE_ret, oE_exc, two?, one?,
    List.cons_append, List.nil_append, List.replicate, List.getElem?_cons_zero, List.getElem?_cons_succ, List.set_cons_zero, List.set_cons_succ, List.length_cons, List.length_nil, Nat.zero_add, Nat.reduceAdd, Nat.reduceSub, Nat.reduceLeDiff, true_and, if_true, ite_true,
    ev_add, ev_sub, ev_fdiv, ev_mod, ev_pow18, ev_pow60, ev_pow5, ev_mul60, ev_mulA, ev_mulB, ev_neg, ev_lt, ev_le, ev_gt, ev_ge, ev_ixL, ev_ixT, ev_ixC, ev_ixS, ev_lenS, ev_lenL, ev_lenT, ev_lenC, ev_addS, ev_addL, ev_addT, ev_mulL, ev_max2, ev_min2, ev_slS, ev_slL, ev_slT, eqv_ii, nev_ii, Int.zero_add, ev_scr0, atI_nat0, atI_nat1, atI_nat2, ix20, ix21,
    Int.reduceLT, Int.reduceLE, Bool.false_eq_true, Bool.true_eq_false, false_implies, true_implies, implies_true, and_true, fnR_nx, fnR_ret, fnR_exc, ioOut, decide_eq_true_eq, decide_eq_false_iff_not, inK_str, d, Bool.xor_self]
      exact hq
    | cons c t ih =>
      intro n QS hn hl hq
      obtain ⟨n, rfl⟩ : ∃ m, n = m + 1 := ⟨n - 1, by omega⟩
      rw [List.length_cons] at hn hl
      rw [SX_while1]
      have l16 : t.length + 1 ≤ 16000000 := by omega
      simp -implicitDefEqProofs only [SX_seq, SX_if, SX_asg, SX_ret, SX_retN, SX_setL, SX_augL, SX_nil, SX_expr, SX_par, SX_unp, SX_raise, SX_brk, SX_ct, SX_for, EX_bin, EX_un, EX_var, EX_c, EX_and, EX_or, EX_not, EX_if, EX_lst, EX_tup, EX_callB, EX_call, EX_meth, EX_mut, EX_extend, EX_sl, EX_chain, EX_esh, EX_eun, EX_tru,
    IX_any, IX_range1, IX_range2, IX_zip, IX_enum, xArgs_nil, xArgs_cons, xP_none, xP_some, iO_int, List.map_nil, List.map_cons, rE_val, rS_val, rI_val, rF_items, rE_exc, rS_exc, rI_exc, rF_exc, nxS_nx, nxS_ret, nxS_exc, nxS_brk, nxS_ct, lpS_nx, lpS_ct, lpS_brk, lpS_ret, lpS_exc,
    OX_some, OB_some, OB_map, OB_ite, ifO_bl, notO_bl, ifR_bl, get_shr, get_new, get_var, opd_shr, opd_new, own_zero, own_succ, ow_own, ow_io, upd_own, upd_io, upd_succ, so_shr, so_own, so_io, unO_shr, unO_new, unO_var, shO_shr, shO_new, shO_var', frz_own, setOk_un, setOk_shr, setOk_own, set_shr, set_new,
    xOwn_own, ret_shr, ret_new, ret_var, shrs_nil, shrs_cons, Option.map_some, gets_nil, gets_cons, split_nil, split_shr, split_var, sets_nil, sets_cons, tg_one, tg_many, callS_none, callS_some, xIo_some, xLst_some, xInt_some, oE_ret, oE_exc, two?, one?,
    List.cons_append, List.nil_append, List.replicate, List.getElem?_cons_zero, List.getElem?_cons_succ, List.set_cons_zero, List.set_cons_succ, List.length_cons, List.length_nil, Nat.zero_add, Nat.reduceAdd, Nat.reduceSub, Nat.reduceLeDiff, true_and, if_true, ite_true,
    ev_add, ev_sub, ev_fdiv, ev_mod, ev_pow18, ev_pow60, ev_pow5, ev_mul60, ev_mulA, ev_mulB, ev_neg, ev_lt, ev_le, ev_gt, ev_ge, ev_ixL, ev_ixT, ev_ixC, ev_ixS, ev_lenS, ev_lenL, ev_lenT, ev_lenC, ev_addS, ev_addL, ev_addT, ev_mulL, ev_max2, ev_min2, ev_slS, ev_slL, ev_slT, eqv_ii, nev_ii, Int.zero_add, ev_scr0, atI_nat0, atI_nat1, atI_nat2, ix20, ix21,
    Int.reduceLT, Int.reduceLE, Bool.false_eq_true, Bool.true_eq_false, false_implies, true_implies, implies_true, and_true, fnR_nx, fnR_ret, fnR_exc, ioOut, decide_eq_true_eq, decide_eq_false_iff_not, inK_str, l16, cut_tail]
      unfold ue at hq
      refine ⟨fun h => ?_, fun h => ?_⟩
      · rw [if_neg (by intro q; rw [decide_eq_true q] at h; cases h)] at hq
        exact ih n QS (by omega) (by omega) hq
      · rw [if_pos (by
          by_cases q : c :: t ∈ bs
          · exact q
          · rw [decide_eq_false q] at h; cases h)] at hq
        exact hq
  rw [SX_seq]
  refine key t 16000000 _ (by omega) ht ?_
  simp -implicitDefEqProofs only [SX_seq, SX_if, SX_asg, SX_ret, SX_retN, SX_setL, SX_augL, SX_nil, SX_expr, SX_par, SX_unp, SX_raise, SX_brk, SX_ct, SX_for, EX_bin, EX_un, EX_var, EX_c, EX_and, EX_or, EX_not, EX_if, EX_lst, EX_tup, EX_callB, EX_call, EX_meth, EX_mut, EX_extend, EX_sl, EX_chain, EX_esh, EX_eun, EX_tru,
    IX_any, IX_range1, IX_range2, IX_zip, IX_enum, xArgs_nil, xArgs_cons, xP_none, xP_some, iO_int, List.map_nil, List.map_cons, rE_val, rS_val, rI_val, rF_items, rE_exc, rS_exc, rI_exc, rF_exc, nxS_nx, nxS_ret, nxS_exc, nxS_brk, nxS_ct, lpS_nx, lpS_ct, lpS_brk, lpS_ret, lpS_exc,
    OX_some, OB_some, OB_map, OB_ite, ifO_bl, notO_bl, ifR_bl, get_shr, get_new, get_var, opd_shr, opd_new, own_zero, own_succ, ow_own, ow_io, upd_own, upd_io, upd_succ, so_shr, so_own, so_io, unO_shr, unO_new, unO_var, shO_shr, shO_new, shO_var', frz_own, setOk_un, setOk_shr, setOk_own, set_shr, set_new,
    xOwn_own, ret_shr, ret_new, ret_var, shrs_nil, shrs_cons, Option.map_some, gets_nil, gets_cons, split_nil, split_shr, split_var, sets_nil, sets_cons, tg_one, tg_many, callS_none, callS_some, xIo_some, xLst_some, xInt_some, oE_ret, oE_exc, two?, one?,
    List.cons_append, List.nil_append, List.replicate, List.getElem?_cons_zero, List.getElem?_cons_succ, List.set_cons_zero, List.set_cons_succ, List.length_cons, List.length_nil, Nat.zero_add, Nat.reduceAdd, Nat.reduceSub, Nat.reduceLeDiff, true_and, if_true, ite_true,
    ev_add, ev_sub, ev_fdiv, ev_mod, ev_pow18, ev_pow60, ev_pow5, ev_mul60, ev_mulA, ev_mulB, ev_neg, ev_lt, ev_le, ev_gt, ev_ge, ev_ixL, ev_ixT, ev_ixC, ev_ixS, ev_lenS, ev_lenL, ev_lenT, ev_lenC, ev_addS, ev_addL, ev_addT, ev_mulL, ev_max2, ev_min2, ev_slS, ev_slL, ev_slT, eqv_ii, nev_ii, Int.zero_add, ev_scr0, atI_nat0, atI_nat1, atI_nat2, ix20, ix21,
    Int.reduceLT, Int.reduceLE, Bool.false_eq_true, Bool.true_eq_false, false_implies, true_implies, implies_true, and_true, fnR_nx, fnR_ret, fnR_exc, ioOut, decide_eq_true_eq, decide_eq_false_iff_not, and_self]
/-! a break among the last gaps -/
def beh (fin : Bool) (at_ : Nat) : Int := if fin = true then (at_ : Int) - 1 else at_
def brkAt (l r n : Int) (fin : Bool) (z : Int × Nat) : Bool := decide (z.1 % 2 = 1) && (decide (l ≤ n - beh fin z.2) && decide (r ≤ beh fin z.2))
def brkM (l r : Int) (K : List Int) (n : Int) (fin : Bool) : Bool := K.zipIdx.any (brkAt l r n fin)
theorem broken_ok (pv : Val) (l r : Int) (K : List Int) (n : Int) (fin : Bool) : fn_is_broken [.shr (.tup [pv, .int l, .int r]), .shr (.lst (K.map Val.int)), .shr (.int n), .shr (.bl fin)] = some (.ret (.shr (.bl (brkM l r K n fin))), [.un, .un, .un, .un]) := by
  apply OX_det
  unfold fn_is_broken g_is_broken
  refine FX_run rfl ?_
  simp -implicitDefEqProofs only [SX_seq, SX_if, SX_asg, SX_ret, SX_retN, SX_setL, SX_augL, SX_nil, SX_expr, SX_par, SX_unp, SX_raise, SX_brk, SX_ct, SX_for, EX_bin, EX_un, EX_var, EX_c, EX_and, EX_or, EX_not, EX_if, EX_lst, EX_tup, EX_callB, EX_call, EX_meth, EX_mut, EX_extend, EX_sl, EX_chain, EX_esh, EX_eun, EX_tru,
    IX_any, IX_range1, IX_range2, IX_zip, IX_enum, xArgs_nil, xArgs_cons, xP_none, xP_some, iO_int, List.map_nil, List.map_cons, rE_val, rS_val, rI_val, rF_items, rE_exc, rS_exc, rI_exc, rF_exc, nxS_nx, nxS_ret, nxS_exc, nxS_brk, nxS_ct, lpS_nx, lpS_ct, lpS_brk, lpS_ret, lpS_exc,
    OX_some, OB_some, OB_map, OB_ite, ifO_bl, notO_bl, ifR_bl, get_shr, get_new, get_var, opd_shr, opd_new, own_zero, own_succ, ow_own, ow_io, upd_own, upd_io, upd_succ, so_shr, so_own, so_io, unO_shr, unO_new, unO_var, shO_shr, shO_new, shO_var', frz_own, setOk_un, setOk_shr, setOk_own, set_shr, set_new,
    xOwn_own, ret_shr, ret_new, ret_var, shrs_nil, shrs_cons, Option.map_some, gets_nil, gets_cons, split_nil, split_shr, split_var, sets_nil, sets_cons, tg_one, tg_many, callS_none, callS_some, xIo_some, xLst_some, xInt_some, oE_ret, oE_exc, two?, one?,
    List.cons_append, List.nil_append, List.replicate, List.getElem?_cons_zero, List.getElem?_cons_succ, List.set_cons_zero, List.set_cons_succ, List.length_cons, List.length_nil, Nat.zero_add, Nat.reduceAdd, Nat.reduceSub, Nat.reduceLeDiff, true_and, if_true, ite_true,
    ev_add, ev_sub, ev_fdiv, ev_mod, ev_pow18, ev_pow60, ev_pow5, ev_mul60, ev_mulA, ev_mulB, ev_neg, ev_lt, ev_le, ev_gt, ev_ge, ev_ixL, ev_ixT, ev_ixC, ev_ixS, ev_lenS, ev_lenL, ev_lenT, ev_lenC, ev_addS, ev_addL, ev_addT, ev_mulL, ev_max2, ev_min2, ev_slS, ev_slL, ev_slT, eqv_ii, nev_ii, Int.zero_add, ev_scr0, atI_nat0, atI_nat1, atI_nat2, ix20, ix21,
    Int.reduceLT, Int.reduceLE, Bool.false_eq_true, Bool.true_eq_false, false_implies, true_implies, implies_true, and_true, fnR_nx, fnR_ret, fnR_exc, ioOut, decide_eq_true_eq, decide_eq_false_iff_not, itL, enumI]
  refine FL_inv (fun i e => (∀ z ∈ K.zipIdx.take i, brkAt l r n fin z = false) ∧ ∃ s7 s8 s9, setOk (some s7) = true ∧ setOk (some s8) = true ∧ setOk (some s9) = true ∧ e = [.shr (.tup [pv, .int l, .int r]), .shr (.lst (K.map Val.int)), .shr (.int n), .shr (.bl fin), .shr pv, .shr (.int l), .shr (.int r), s7, s8, s9])
    ⟨(fun z hz => by rw [List.take_zero] at hz; cases hz), .un, .un, .un, rfl, rfl, rfl, rfl⟩ (fun i v e hv hI => ?_) fun e hI => ?_
  · obtain ⟨hb, s7, s8, s9, h7, h8, h9, rfl⟩ := hI
    rw [List.getElem?_map] at hv
    obtain ⟨z, hz, rfl⟩ := Option.map_eq_some_iff.mp hv
    obtain ⟨x, k⟩ := z
    have no : brkAt l r n fin (x, k) = false → ∀ z ∈ K.zipIdx.take (i + 1), brkAt l r n fin z = false := fun h z hz2 => by
      rw [List.take_succ, hz] at hz2
      rcases List.mem_append.mp hz2 with hz2 | hz2
      · exact hb z hz2
      · rw [show (some (x, k) : Option (Int × Nat)).toList = [(x, k)] from rfl, List.mem_singleton] at hz2
        subst hz2; exact h
    have yes : brkAt l r n fin (x, k) = true → brkM l r K n fin = true := fun h => List.any_eq_true.mpr ⟨_, List.mem_of_getElem? hz, h⟩
    cases fin
    all_goals
      simp -implicitDefEqProofs only [SX_seq, SX_if, SX_asg, SX_ret, SX_retN, SX_setL, SX_augL, SX_nil, SX_expr, SX_par, SX_unp, SX_raise, SX_brk, SX_ct, SX_for, EX_bin, EX_un, EX_var, EX_c, EX_and, EX_or, EX_not, EX_if, EX_lst, EX_tup, EX_callB, EX_call, EX_meth, EX_mut, EX_extend, EX_sl, EX_chain, EX_esh, EX_eun, EX_tru,
    IX_any, IX_range1, IX_range2, IX_zip, IX_enum, xArgs_nil, xArgs_cons, xP_none, xP_some, iO_int, List.map_nil, List.map_cons, rE_val, rS_val, rI_val, rF_items, rE_exc, rS_exc, rI_exc, rF_exc, nxS_nx, nxS_ret, nxS_exc, nxS_brk, nxS_ct, lpS_nx, lpS_ct, lpS_brk, lpS_ret, lpS_exc,
    OX_some, OB_some, OB_map, OB_ite, ifO_bl, notO_bl, ifR_bl, get_shr, get_new, get_var, opd_shr, opd_new, own_zero, own_succ, ow_own, ow_io, upd_own, upd_io, upd_succ, so_shr, so_own, so_io, unO_shr, unO_new, unO_var, shO_shr, shO_new, shO_var', frz_own, setOk_un, setOk_shr, setOk_own, set_shr, set_new,
    xOwn_own, ret_shr, ret_new, ret_var, shrs_nil, shrs_cons, Option.map_some, gets_nil, gets_cons, split_nil, split_shr, split_var, sets_nil, sets_cons, tg_one, tg_many, callS_none, callS_some, xIo_some, xLst_some, xInt_some, oE_ret, oE_exc, two?, one?,
    List.cons_append, List.nil_append, List.replicate, List.getElem?_cons_zero, List.getElem?_cons_succ, List.set_cons_zero, List.set_cons_succ, List.length_cons, List.length_nil, Nat.zero_add, Nat.reduceAdd, Nat.reduceSub, Nat.reduceLeDiff, true_and, if_true, ite_true,
    ev_add, ev_sub, ev_fdiv, ev_mod, ev_pow18, ev_pow60, ev_pow5, ev_mul60, ev_mulA, ev_mulB, ev_neg, ev_lt, ev_le, ev_gt, ev_ge, ev_ixL, ev_ixT, ev_ixC, ev_ixS, ev_lenS, ev_lenL, ev_lenT, ev_lenC, ev_addS, ev_addL, ev_addT, ev_mulL, ev_max2, ev_min2, ev_slS, ev_slL, ev_slT, eqv_ii, nev_ii, Int.zero_add, ev_scr0, atI_nat0, atI_nat1, atI_nat2, ix20, ix21,
    Int.reduceLT, Int.reduceLE, Bool.false_eq_true, Bool.true_eq_false, false_implies, true_implies, implies_true, and_true, fnR_nx, fnR_ret, fnR_exc, ioOut, decide_eq_true_eq, decide_eq_false_iff_not, List.map_cons, List.map_nil, h7, h8, h9]
      refine ⟨fun a1 => ⟨fun a2 => ⟨fun a3 => ?_, fun a3 => ?_⟩, fun a2 => ?_⟩, fun a1 => ?_⟩
      · rw [yes (by unfold brkAt beh; simp only [Bool.and_eq_true, decide_eq_true_eq]; exact ⟨a1, a2, a3⟩)]
      · refine ⟨no ?_, _, _, _, ?_, ?_, ?_, rfl⟩
        · unfold brkAt beh; simp only [Bool.and_eq_false_iff, decide_eq_false_iff_not]; exact .inr (.inr a3)
        all_goals rfl
      · refine ⟨no ?_, _, _, _, ?_, ?_, ?_, rfl⟩
        · unfold brkAt beh; simp only [Bool.and_eq_false_iff, decide_eq_false_iff_not]; exact .inr (.inl a2)
        all_goals rfl
      · refine ⟨no ?_, _, _, _, ?_, ?_, ?_, rfl⟩
        · unfold brkAt beh; simp only [Bool.and_eq_false_iff, decide_eq_false_iff_not]; exact .inl a1
        all_goals rfl
  · obtain ⟨hb, s7, s8, s9, h7, h8, h9, rfl⟩ := hI
    rw [List.length_map, List.take_length] at hb
    simp -implicitDefEqProofs only [SX_seq, SX_if, SX_asg, SX_ret, SX_retN, SX_setL, SX_augL, SX_nil, SX_expr, SX_par, SX_unp, SX_raise, SX_brk, SX_ct, SX_for, EX_bin, EX_un, EX_var, EX_c, EX_and, EX_or, EX_not, EX_if, EX_lst, EX_tup, EX_callB, EX_call, EX_meth, EX_mut, EX_extend, EX_sl, EX_chain, EX_esh, EX_eun, EX_tru,
    IX_any, IX_range1, IX_range2, IX_zip, IX_enum, xArgs_nil, xArgs_cons, xP_none, xP_some, iO_int, List.map_nil, List.map_cons, rE_val, rS_val, rI_val, rF_items, rE_exc, rS_exc, rI_exc, rF_exc, nxS_nx, nxS_ret, nxS_exc, nxS_brk, nxS_ct, lpS_nx, lpS_ct, lpS_brk, lpS_ret, lpS_exc,
    OX_some, OB_some, OB_map, OB_ite, ifO_bl, notO_bl, ifR_bl, get_shr, get_new, get_var, opd_shr, opd_new, own_zero, own_succ, ow_own, ow_io, upd_own, upd_io, upd_succ, so_shr, so_own, so_io, unO_shr, unO_new, unO_var, shO_shr, shO_new, shO_var', frz_own, setOk_un, setOk_shr, setOk_own, set_shr, set_new,
    xOwn_own, ret_shr, ret_new, ret_var, shrs_nil, shrs_cons, Option.map_some, gets_nil, gets_cons, split_nil, split_shr, split_var, sets_nil, sets_cons, tg_one, tg_many, callS_none, callS_some, xIo_some, xLst_some, xInt_some, oE_ret, oE_exc, two?, one?,
    List.cons_append, List.nil_append, List.replicate, List.getElem?_cons_zero, List.getElem?_cons_succ, List.set_cons_zero, List.set_cons_succ, List.length_cons, List.length_nil, Nat.zero_add, Nat.reduceAdd, Nat.reduceSub, Nat.reduceLeDiff, true_and, if_true, ite_true,
    ev_add, ev_sub, ev_fdiv, ev_mod, ev_pow18, ev_pow60, ev_pow5, ev_mul60, ev_mulA, ev_mulB, ev_neg, ev_lt, ev_le, ev_gt, ev_ge, ev_ixL, ev_ixT, ev_ixC, ev_ixS, ev_lenS, ev_lenL, ev_lenT, ev_lenC, ev_addS, ev_addL, ev_addT, ev_mulL, ev_max2, ev_min2, ev_slS, ev_slL, ev_slT, eqv_ii, nev_ii, Int.zero_add, ev_scr0, atI_nat0, atI_nat1, atI_nat2, ix20, ix21,
    Int.reduceLT, Int.reduceLE, Bool.false_eq_true, Bool.true_eq_false, false_implies, true_implies, implies_true, and_true, fnR_nx, fnR_ret, fnR_exc, ioOut, decide_eq_true_eq, decide_eq_false_iff_not]
    have : brkM l r K n fin = false := List.any_eq_false.mpr fun z hz => by rw [hb z hz]; decide
    rw [this]
end G

end
section
set_option Elab.async false
set_option linter.all false
set_option maxRecDepth 100000
set_option maxHeartbeats 4000000
set_option autoImplicit false
/-! M: the levels of the last gaps. -/
namespace G
open PySem L2 Lw
theorem EX_rev {f : EF} {env : Lw.Env} {Q : ERes → Lw.Env → Prop} : OX (sRev f env) Q = OX (f env) (rE Q fun o e => OB (o.get e) fun x => OB (oRev x) fun r => Q (.val r.opd) e) := EX_un
theorem rev_l (xs : List Val) : oRev (.lst xs) = some (.new (.lst xs.reverse)) := rfl
theorem list_t (xs : List Val) : oListOf [.tup xs] = some (.new (.lst xs)) := rfl
/-- raised by digits, gap by gap from the end -/
def upRev : List Int → List Int → List Int
  | [], _ => []
  | k :: ks, [] => k :: ks
  | k :: ks, d :: ds => max k d :: upRev ks ds
theorem upRev_nil (ks : List Int) : upRev ks [] = ks := by cases ks <;> rfl
theorem upRev_len : ∀ ks ds : List Int, (upRev ks ds).length = ks.length
  | [], _ => rfl
  | _ :: _, [] => rfl
  | _ :: ks, _ :: ds => by show (upRev ks ds).length + 1 = _; rw [upRev_len ks ds]; rfl
theorem upRev_get : ∀ (ks ds : List Int) (i : Nat), (upRev ks ds)[i]? = match ks[i]?, ds[i]? with
    | some k, some d => some (max k d)
    | some k, none => some k
    | none, _ => none
  | [], ds, i => by simp [upRev]
  | k :: ks, [], i => by
    show (k :: ks)[i]? = _
    rw [List.getElem?_nil]
    cases (k :: ks)[i]? <;> rfl
  | k :: ks, d :: ds, 0 => rfl
  | k :: ks, d :: ds, i + 1 => by
    show (upRev ks ds)[i]? = _
    rw [upRev_get ks ds i]
    rfl
theorem upRev_step (ks ds : List Int) (i : Nat) (d : Int) (hd : ds[i]? = some d) : upRev ks (ds.take (i + 1)) = if i < ks.length then (upRev ks (ds.take i)).set i (max (ks.getD i 0) d) else upRev ks (ds.take i) := by
  refine List.ext_getElem? fun j => ?_
  have il := (List.getElem?_eq_some_iff.mp hd).1
  by_cases hi : i < ks.length
  · rw [if_pos hi, List.getElem?_set, upRev_get, upRev_get, upRev_len, List.getElem?_take, List.getElem?_take]
    by_cases hj : i = j
    · subst hj
      rw [if_pos rfl, if_pos hi, if_pos (by omega), hd, List.getElem?_eq_getElem hi]
      show some _ = some _
      rw [List.getD_eq_getElem?_getD, List.getElem?_eq_getElem hi]; rfl
    · rw [if_neg hj]
      by_cases hj2 : j < i
      · rw [if_pos (by omega), if_pos hj2]
      · rw [if_neg (by omega), if_neg hj2]
  · rw [if_neg hi, upRev_get, upRev_get, List.getElem?_take, List.getElem?_take]
    by_cases hj : j < i
    · rw [if_pos (by omega), if_pos hj]
    · have : ks[j]? = none := List.getElem?_eq_none (by omega)
      rw [this]
theorem upRev_at (ks ds : List Int) (i : Nat) : (upRev ks (ds.take i)).getD i 0 = ks.getD i 0 := by
  rw [List.getD_eq_getElem?_getD, List.getD_eq_getElem?_getD, upRev_get, List.getElem?_take, if_neg (Nat.lt_irrefl i)]
  cases ks[i]? <;> rfl
def stepF (ps : List (List Nat)) (T : List Nat) (K : List Int) : List Int := ps.foldl (fun K p => if charsM p <:+ T then upRev K (digitsM p).reverse else K) K
theorem stepF_len (T : List Nat) : ∀ (ps : List (List Nat)) (K : List Int), (stepF ps T K).length = K.length
  | [], K => rfl
  | p :: ps, K => by
    show (stepF ps T (if charsM p <:+ T then upRev K (digitsM p).reverse else K)).length = _
    rw [stepF_len T ps]
    split
    · exact upRev_len _ _
    · rfl
theorem ends_suf (T b : List Nat) : Txt.endswith (S T) (S b) = decide (b <:+ T) := by
  unfold Txt.endswith
  rw [StrLaws.subAt_eq, S_len, S_len]
  show (decide (0 + b.length ≤ T.length) && ((T.drop (T.length - b.length)).take b.length == b)) = _
  by_cases h : b <:+ T
  · obtain ⟨u, rfl⟩ := h
    rw [decide_eq_true (show b <:+ u ++ b from ⟨u, rfl⟩), decide_eq_true (by rw [List.length_append]; omega), Bool.true_and, List.length_append, Nat.add_sub_cancel, List.drop_left, List.take_length]
    exact beq_self_eq_true _
  · rw [decide_eq_false h, Bool.and_eq_false_iff]
    by_cases hl : 0 + b.length ≤ T.length
    · refine .inr ?_
      rw [beq_eq_false_iff_ne]
      intro e
      refine h ⟨T.take (T.length - b.length), ?_⟩
      rw [List.take_of_length_le (by rw [List.length_drop]; omega)] at e
      conv => lhs; rw [← e]
      rw [e]
      conv => lhs; rhs; rw [← e]
      exact List.take_append_drop _ _
    · exact .inl (decide_eq_false hl)
theorem ev_ends (T b : List Nat) : oEnds (.str T) [.str b] = some (.shr (.bl (decide (b <:+ T)))) := by
  show some (RV.shr (.bl (Txt.endswith (S T) (S b)))) = _
  rw [ends_suf]
def partV (p : List Nat) : Val := .tup [.str (charsM p), .lst ((digitsM p).map Val.int)]
theorem updated_ok (ps : List (List Nat)) (T : List Nat) (c : Nat) (K : List Int) (hT : T.length ≤ 1000) (hK : K.length ≤ 1000) (hp : ps.length ≤ 1000) :
    fn_updated [.shr (.lst (ps.map partV)), .shr (.str T), .shr (.str [c]), .shr (.tup (K.map Val.int))] = some (.ret (.shr (.tup [.str (T ++ [c]), .lst ((stepF ps (T ++ [c]) (0 :: K)).map Val.int)])), [.un, .un, .un, .un]) := by
  apply OX_det
  unfold fn_updated g_updated
  refine FX_run rfl ?_
  have a1 : T.length + 1 ≤ 16000000 := by omega
  simp -implicitDefEqProofs only [SX_seq, SX_if, SX_asg, SX_ret, SX_retN, SX_setL, SX_augL, SX_nil, SX_expr, SX_par, SX_unp, SX_raise, SX_brk, SX_ct, SX_for, EX_bin, EX_un, EX_var, EX_c, EX_and, EX_or, EX_not, EX_if, EX_lst, EX_tup, EX_callB, EX_call, EX_meth, EX_mut, EX_extend, EX_sl, EX_chain, EX_esh, EX_eun, EX_tru,
    IX_any, IX_range1, IX_range2, IX_zip, IX_enum, xArgs_nil, xArgs_cons, xP_none, xP_some, iO_int, List.map_nil, List.map_cons, rE_val, rS_val, rI_val, rF_items, rE_exc, rS_exc, rI_exc, rF_exc, nxS_nx, nxS_ret, nxS_exc, nxS_brk, nxS_ct, lpS_nx, lpS_ct, lpS_brk, lpS_ret, lpS_exc,
    OX_some, OB_some, OB_map, OB_ite, ifO_bl, notO_bl, ifR_bl, get_shr, get_new, get_var, opd_shr, opd_new, own_zero, own_succ, ow_own, ow_io, upd_own, upd_io, upd_succ, so_shr, so_own, so_io, unO_shr, unO_new, unO_var, shO_shr, shO_new, shO_var', frz_own, setOk_un, setOk_shr, setOk_own, set_shr, set_new,
    xOwn_own, ret_shr, ret_new, ret_var, shrs_nil, shrs_cons, Option.map_some, gets_nil, gets_cons, split_nil, split_shr, split_var, sets_nil, sets_cons, tg_one, tg_many, callS_none, callS_some, xIo_some, xLst_some, xInt_some, oE_ret, oE_exc, two?, one?,
    List.cons_append, List.nil_append, List.replicate, List.getElem?_cons_zero, List.getElem?_cons_succ, List.set_cons_zero, List.set_cons_succ, List.length_cons, List.length_nil, Nat.zero_add, Nat.reduceAdd, Nat.reduceSub, Nat.reduceLeDiff, true_and, if_true, ite_true,
    ev_add, ev_sub, ev_fdiv, ev_mod, ev_pow18, ev_pow60, ev_pow5, ev_mul60, ev_mulA, ev_mulB, ev_neg, ev_lt, ev_le, ev_gt, ev_ge, ev_ixL, ev_ixT, ev_ixC, ev_ixS, ev_lenS, ev_lenL, ev_lenT, ev_lenC, ev_addS, ev_addL, ev_addT, ev_mulL, ev_max2, ev_min2, ev_slS, ev_slL, ev_slT, eqv_ii, nev_ii, Int.zero_add, ev_scr0, atI_nat0, atI_nat1, atI_nat2, ix20, ix21,
    Int.reduceLT, Int.reduceLE, Bool.false_eq_true, Bool.true_eq_false, false_implies, true_implies, implies_true, and_true, fnR_nx, fnR_ret, fnR_exc, ioOut, decide_eq_true_eq, decide_eq_false_iff_not, list_t, itL, List.length_map, a1]
  refine ⟨by omega, ?_⟩
  refine FL_inv (fun i e => ∃ s6 s7 s8 s9, setOk (some s6) = true ∧ setOk (some s7) = true ∧ setOk (some s8) = true ∧ setOk (some s9) = true ∧ e = [.shr (.lst (ps.map partV)), .shr (.str T), .shr (.str [c]), .shr (.tup (K.map Val.int)), .shr (.str (T ++ [c])), .own (.lst ((stepF (ps.take i) (T ++ [c]) (0 :: K)).map Val.int)), s6, s7, s8, s9])
    ⟨.un, .un, .un, .un, rfl, rfl, rfl, rfl, rfl⟩ (fun i v e hv hI => ?_) fun e hI => ?_
  · obtain ⟨s6, s7, s8, s9, h6, h7, h8, h9, rfl⟩ := hI
    rw [List.getElem?_map] at hv
    obtain ⟨p, hpi, rfl⟩ := Option.map_eq_some_iff.mp hv
    have ht : stepF (ps.take (i + 1)) (T ++ [c]) (0 :: K) = if charsM p <:+ T ++ [c] then upRev (stepF (ps.take i) (T ++ [c]) (0 :: K)) (digitsM p).reverse else stepF (ps.take i) (T ++ [c]) (0 :: K) := by
      unfold stepF
      rw [List.take_succ, hpi, List.foldl_append]; rfl
    generalize hS : stepF (ps.take i) (T ++ [c]) (0 :: K) = S0 at ht ⊢
    simp -implicitDefEqProofs only [SX_seq, SX_if, SX_asg, SX_ret, SX_retN, SX_setL, SX_augL, SX_nil, SX_expr, SX_par, SX_unp, SX_raise, SX_brk, SX_ct, SX_for, EX_bin, EX_un, EX_var, EX_c, EX_and, EX_or, EX_not, EX_if, EX_lst, EX_tup, EX_callB, EX_call, EX_meth, EX_mut, EX_extend, EX_sl, EX_chain, EX_esh, EX_eun, EX_tru,
    IX_any, IX_range1, IX_range2, IX_zip, IX_enum, xArgs_nil, xArgs_cons, xP_none, xP_some, iO_int, List.map_nil, List.map_cons, rE_val, rS_val, rI_val, rF_items, rE_exc, rS_exc, rI_exc, rF_exc, nxS_nx, nxS_ret, nxS_exc, nxS_brk, nxS_ct, lpS_nx, lpS_ct, lpS_brk, lpS_ret, lpS_exc,
    OX_some, OB_some, OB_map, OB_ite, ifO_bl, notO_bl, ifR_bl, get_shr, get_new, get_var, opd_shr, opd_new, own_zero, own_succ, ow_own, ow_io, upd_own, upd_io, upd_succ, so_shr, so_own, so_io, unO_shr, unO_new, unO_var, shO_shr, shO_new, shO_var', frz_own, setOk_un, setOk_shr, setOk_own, set_shr, set_new,
    xOwn_own, ret_shr, ret_new, ret_var, shrs_nil, shrs_cons, Option.map_some, gets_nil, gets_cons, split_nil, split_shr, split_var, sets_nil, sets_cons, tg_one, tg_many, callS_none, callS_some, xIo_some, xLst_some, xInt_some, oE_ret, oE_exc, two?, one?,
    List.cons_append, List.nil_append, List.replicate, List.getElem?_cons_zero, List.getElem?_cons_succ, List.set_cons_zero, List.set_cons_succ, List.length_cons, List.length_nil, Nat.zero_add, Nat.reduceAdd, Nat.reduceSub, Nat.reduceLeDiff, true_and, if_true, ite_true,
    ev_add, ev_sub, ev_fdiv, ev_mod, ev_pow18, ev_pow60, ev_pow5, ev_mul60, ev_mulA, ev_mulB, ev_neg, ev_lt, ev_le, ev_gt, ev_ge, ev_ixL, ev_ixT, ev_ixC, ev_ixS, ev_lenS, ev_lenL, ev_lenT, ev_lenC, ev_addS, ev_addL, ev_addT, ev_mulL, ev_max2, ev_min2, ev_slS, ev_slL, ev_slT, eqv_ii, nev_ii, Int.zero_add, ev_scr0, atI_nat0, atI_nat1, atI_nat2, ix20, ix21,
    Int.reduceLT, Int.reduceLE, Bool.false_eq_true, Bool.true_eq_false, false_implies, true_implies, implies_true, and_true, fnR_nx, fnR_ret, fnR_exc, ioOut, decide_eq_true_eq, decide_eq_false_iff_not, partV, h6, h7, tyOf, ev_ends, EX_rev, rev_l, itL]
    refine ⟨fun h1 => ?_, fun h1 => ?_⟩
    · rw [if_pos h1] at ht
      have er : (List.map Val.int (digitsM p)).reverse = (digitsM p).reverse.map Val.int := (List.map_reverse).symm
      simp -implicitDefEqProofs only [SX_seq, SX_if, SX_asg, SX_ret, SX_retN, SX_setL, SX_augL, SX_nil, SX_expr, SX_par, SX_unp, SX_raise, SX_brk, SX_ct, SX_for, EX_bin, EX_un, EX_var, EX_c, EX_and, EX_or, EX_not, EX_if, EX_lst, EX_tup, EX_callB, EX_call, EX_meth, EX_mut, EX_extend, EX_sl, EX_chain, EX_esh, EX_eun, EX_tru,
    IX_any, IX_range1, IX_range2, IX_zip, IX_enum, xArgs_nil, xArgs_cons, xP_none, xP_some, iO_int, List.map_nil, List.map_cons, rE_val, rS_val, rI_val, rF_items, rE_exc, rS_exc, rI_exc, rF_exc, nxS_nx, nxS_ret, nxS_exc, nxS_brk, nxS_ct, lpS_nx, lpS_ct, lpS_brk, lpS_ret, lpS_exc,
    OX_some, OB_some, OB_map, OB_ite, ifO_bl, notO_bl, ifR_bl, get_shr, get_new, get_var, opd_shr, opd_new, own_zero, own_succ, ow_own, ow_io, upd_own, upd_io, upd_succ, so_shr, so_own, so_io, unO_shr, unO_new, unO_var, shO_shr, shO_new, shO_var', frz_own, setOk_un, setOk_shr, setOk_own, set_shr, set_new,
    xOwn_own, ret_shr, ret_new, ret_var, shrs_nil, shrs_cons, Option.map_some, gets_nil, gets_cons, split_nil, split_shr, split_var, sets_nil, sets_cons, tg_one, tg_many, callS_none, callS_some, xIo_some, xLst_some, xInt_some, oE_ret, oE_exc, two?, one?,
    List.cons_append, List.nil_append, List.replicate, List.getElem?_cons_zero, List.getElem?_cons_succ, List.set_cons_zero, List.set_cons_succ, List.length_cons, List.length_nil, Nat.zero_add, Nat.reduceAdd, Nat.reduceSub, Nat.reduceLeDiff, true_and, if_true, ite_true,
    ev_add, ev_sub, ev_fdiv, ev_mod, ev_pow18, ev_pow60, ev_pow5, ev_mul60, ev_mulA, ev_mulB, ev_neg, ev_lt, ev_le, ev_gt, ev_ge, ev_ixL, ev_ixT, ev_ixC, ev_ixS, ev_lenS, ev_lenL, ev_lenT, ev_lenC, ev_addS, ev_addL, ev_addT, ev_mulL, ev_max2, ev_min2, ev_slS, ev_slL, ev_slT, eqv_ii, nev_ii, Int.zero_add, ev_scr0, atI_nat0, atI_nat1, atI_nat2, ix20, ix21,
    Int.reduceLT, Int.reduceLE, Bool.false_eq_true, Bool.true_eq_false, false_implies, true_implies, implies_true, and_true, fnR_nx, fnR_ret, fnR_exc, ioOut, decide_eq_true_eq, decide_eq_false_iff_not, er, enumI]
      generalize hD : (digitsM p).reverse = D at ht ⊢
      refine FL_inv (fun j e => ∃ s8 s9, setOk (some s8) = true ∧ setOk (some s9) = true ∧ e = [.shr (.lst (ps.map partV)), .shr (.str T), .shr (.str [c]), .shr (.tup (K.map Val.int)), .shr (.str (T ++ [c])), .own (.lst ((upRev S0 (D.take j)).map Val.int)), .shr (.str (charsM p)), .shr (.lst ((digitsM p).map Val.int)), s8, s9])
        ⟨s8, s9, h8, h9, by rw [List.take_zero, upRev_nil]⟩ (fun j v e hv hI => ?_) fun e hI => ?_
      · obtain ⟨s8, s9, h8, h9, rfl⟩ := hI
        rw [List.getElem?_map] at hv
        obtain ⟨z, hz, rfl⟩ := Option.map_eq_some_iff.mp hv
        obtain ⟨d, j'⟩ := z
        have hj := List.getElem?_zipIdx (l := D) (i := 0) (j := j)
        rw [hz] at hj
        obtain ⟨d', hd', e1⟩ := Option.map_eq_some_iff.mp hj.symm
        rw [Nat.zero_add] at e1
        cases e1
        have us := upRev_step S0 D j d hd'
        have l0 := upRev_len S0 (D.take j)
        simp -implicitDefEqProofs only [SX_seq, SX_if, SX_asg, SX_ret, SX_retN, SX_setL, SX_augL, SX_nil, SX_expr, SX_par, SX_unp, SX_raise, SX_brk, SX_ct, SX_for, EX_bin, EX_un, EX_var, EX_c, EX_and, EX_or, EX_not, EX_if, EX_lst, EX_tup, EX_callB, EX_call, EX_meth, EX_mut, EX_extend, EX_sl, EX_chain, EX_esh, EX_eun, EX_tru,
    IX_any, IX_range1, IX_range2, IX_zip, IX_enum, xArgs_nil, xArgs_cons, xP_none, xP_some, iO_int, List.map_nil, List.map_cons, rE_val, rS_val, rI_val, rF_items, rE_exc, rS_exc, rI_exc, rF_exc, nxS_nx, nxS_ret, nxS_exc, nxS_brk, nxS_ct, lpS_nx, lpS_ct, lpS_brk, lpS_ret, lpS_exc,
    OX_some, OB_some, OB_map, OB_ite, ifO_bl, notO_bl, ifR_bl, get_shr, get_new, get_var, opd_shr, opd_new, own_zero, own_succ, ow_own, ow_io, upd_own, upd_io, upd_succ, so_shr, so_own, so_io, unO_shr, unO_new, unO_var, shO_shr, shO_new, shO_var', frz_own, setOk_un, setOk_shr, setOk_own, set_shr, set_new,
    xOwn_own, ret_shr, ret_new, ret_var, shrs_nil, shrs_cons, Option.map_some, gets_nil, gets_cons, split_nil, split_shr, split_var, sets_nil, sets_cons, tg_one, tg_many, callS_none, callS_some, xIo_some, xLst_some, xInt_some, oE_ret, oE_exc, two?, one?,
    List.cons_append, List.nil_append, List.replicate, List.getElem?_cons_zero, List.getElem?_cons_succ, List.set_cons_zero, List.set_cons_succ, List.length_cons, List.length_nil, Nat.zero_add, Nat.reduceAdd, Nat.reduceSub, Nat.reduceLeDiff, true_and, if_true, ite_true,
    ev_add, ev_sub, ev_fdiv, ev_mod, ev_pow18, ev_pow60, ev_pow5, ev_mul60, ev_mulA, ev_mulB, ev_neg, ev_lt, ev_le, ev_gt, ev_ge, ev_ixL, ev_ixT, ev_ixC, ev_ixS, ev_lenS, ev_lenL, ev_lenT, ev_lenC, ev_addS, ev_addL, ev_addT, ev_mulL, ev_max2, ev_min2, ev_slS, ev_slL, ev_slT, eqv_ii, nev_ii, Int.zero_add, ev_scr0, atI_nat0, atI_nat1, atI_nat2, ix20, ix21,
    Int.reduceLT, Int.reduceLE, Bool.false_eq_true, Bool.true_eq_false, false_implies, true_implies, implies_true, and_true, fnR_nx, fnR_ret, fnR_exc, ioOut, decide_eq_true_eq, decide_eq_false_iff_not, List.map_cons, List.map_nil, h8, h9, List.length_map]
        refine ⟨fun h2 => ?_, fun h2 => ?_⟩
        · have hb : ((j : Nat) : Int) < ((upRev S0 (D.take j)).length : Int) := h2
          have ai := at_ints (ls := upRev S0 (D.take j)) (g := (j : Nat)) (by omega) hb
          have ej : ((j : Nat) : Int).toNat = j := rfl
          rw [ej, upRev_at] at ai
          simp -implicitDefEqProofs only [SX_seq, SX_if, SX_asg, SX_ret, SX_retN, SX_setL, SX_augL, SX_nil, SX_expr, SX_par, SX_unp, SX_raise, SX_brk, SX_ct, SX_for, EX_bin, EX_un, EX_var, EX_c, EX_and, EX_or, EX_not, EX_if, EX_lst, EX_tup, EX_callB, EX_call, EX_meth, EX_mut, EX_extend, EX_sl, EX_chain, EX_esh, EX_eun, EX_tru,
    IX_any, IX_range1, IX_range2, IX_zip, IX_enum, xArgs_nil, xArgs_cons, xP_none, xP_some, iO_int, List.map_nil, List.map_cons, rE_val, rS_val, rI_val, rF_items, rE_exc, rS_exc, rI_exc, rF_exc, nxS_nx, nxS_ret, nxS_exc, nxS_brk, nxS_ct, lpS_nx, lpS_ct, lpS_brk, lpS_ret, lpS_exc,
    OX_some, OB_some, OB_map, OB_ite, ifO_bl, notO_bl, ifR_bl, get_shr, get_new, get_var, opd_shr, opd_new, own_zero, own_succ, ow_own, ow_io, upd_own, upd_io, upd_succ, so_shr, so_own, so_io, unO_shr, unO_new, unO_var, shO_shr, shO_new, shO_var', frz_own, setOk_un, setOk_shr, setOk_own, set_shr, set_new,
    xOwn_own, ret_shr, ret_new, ret_var, shrs_nil, shrs_cons, Option.map_some, gets_nil, gets_cons, split_nil, split_shr, split_var, sets_nil, sets_cons, tg_one, tg_many, callS_none, callS_some, xIo_some, xLst_some, xInt_some, oE_ret, oE_exc, two?, one?,
    List.cons_append, List.nil_append, List.replicate, List.getElem?_cons_zero, List.getElem?_cons_succ, List.set_cons_zero, List.set_cons_succ, List.length_cons, List.length_nil, Nat.zero_add, Nat.reduceAdd, Nat.reduceSub, Nat.reduceLeDiff, true_and, if_true, ite_true,
    ev_add, ev_sub, ev_fdiv, ev_mod, ev_pow18, ev_pow60, ev_pow5, ev_mul60, ev_mulA, ev_mulB, ev_neg, ev_lt, ev_le, ev_gt, ev_ge, ev_ixL, ev_ixT, ev_ixC, ev_ixS, ev_lenS, ev_lenL, ev_lenT, ev_lenC, ev_addS, ev_addL, ev_addT, ev_mulL, ev_max2, ev_min2, ev_slS, ev_slL, ev_slT, eqv_ii, nev_ii, Int.zero_add, ev_scr0, atI_nat0, atI_nat1, atI_nat2, ix20, ix21,
    Int.reduceLT, Int.reduceLE, Bool.false_eq_true, Bool.true_eq_false, false_implies, true_implies, implies_true, and_true, fnR_nx, fnR_ret, fnR_exc, ioOut, decide_eq_true_eq, decide_eq_false_iff_not, ai, List.length_map, ixN_nat (show (0 : Int) ≤ (j : Nat) by omega) hb, ej]
          refine ⟨.shr (.int (j : Nat)), .shr (.int d), rfl, rfl, ?_⟩
          rw [us, if_pos (by omega), List.map_set]
        · refine ⟨.shr (.int (j : Nat)), .shr (.int d), rfl, rfl, ?_⟩
          rw [us, if_neg (by omega)]
      · obtain ⟨s8, s9, h8, h9, rfl⟩ := hI
        refine ⟨.shr (.str (charsM p)), .shr (.lst ((digitsM p).map Val.int)), s8, s9, rfl, rfl, h8, h9, ?_⟩
        rw [List.length_map, List.length_zipIdx, List.take_length, ht]
    · rw [if_neg h1] at ht
      exact ⟨.shr (.str (charsM p)), .shr (.lst ((digitsM p).map Val.int)), s8, s9, rfl, rfl, h8, h9, by rw [ht]⟩
  · obtain ⟨s6, s7, s8, s9, h6, h7, h8, h9, rfl⟩ := hI
    rw [List.length_map, List.take_length]
    simp -implicitDefEqProofs only [SX_seq, SX_if, SX_asg, SX_ret, SX_retN, SX_setL, SX_augL, SX_nil, SX_expr, SX_par, SX_unp, SX_raise, SX_brk, SX_ct, SX_for, EX_bin, EX_un, EX_var, EX_c, EX_and, EX_or, EX_not, EX_if, EX_lst, EX_tup, EX_callB, EX_call, EX_meth, EX_mut, EX_extend, EX_sl, EX_chain, EX_esh, EX_eun, EX_tru,
    IX_any, IX_range1, IX_range2, IX_zip, IX_enum, xArgs_nil, xArgs_cons, xP_none, xP_some, iO_int, List.map_nil, List.map_cons, rE_val, rS_val, rI_val, rF_items, rE_exc, rS_exc, rI_exc, rF_exc, nxS_nx, nxS_ret, nxS_exc, nxS_brk, nxS_ct, lpS_nx, lpS_ct, lpS_brk, lpS_ret, lpS_exc,
    OX_some, OB_some, OB_map, OB_ite, ifO_bl, notO_bl, ifR_bl, get_shr, get_new, get_var, opd_shr, opd_new, own_zero, own_succ, ow_own, ow_io, upd_own, upd_io, upd_succ, so_shr, so_own, so_io, unO_shr, unO_new, unO_var, shO_shr, shO_new, shO_var', frz_own, setOk_un, setOk_shr, setOk_own, set_shr, set_new,
    xOwn_own, ret_shr, ret_new, ret_var, shrs_nil, shrs_cons, Option.map_some, gets_nil, gets_cons, split_nil, split_shr, split_var, sets_nil, sets_cons, tg_one, tg_many, callS_none, callS_some, xIo_some, xLst_some, xInt_some, oE_ret, oE_exc, two?, one?,
    List.cons_append, List.nil_append, List.replicate, List.getElem?_cons_zero, List.getElem?_cons_succ, List.set_cons_zero, List.set_cons_succ, List.length_cons, List.length_nil, Nat.zero_add, Nat.reduceAdd, Nat.reduceSub, Nat.reduceLeDiff, true_and, if_true, ite_true,
    ev_add, ev_sub, ev_fdiv, ev_mod, ev_pow18, ev_pow60, ev_pow5, ev_mul60, ev_mulA, ev_mulB, ev_neg, ev_lt, ev_le, ev_gt, ev_ge, ev_ixL, ev_ixT, ev_ixC, ev_ixS, ev_lenS, ev_lenL, ev_lenT, ev_lenC, ev_addS, ev_addL, ev_addT, ev_mulL, ev_max2, ev_min2, ev_slS, ev_slL, ev_slT, eqv_ii, nev_ii, Int.zero_add, ev_scr0, atI_nat0, atI_nat1, atI_nat2, ix20, ix21,
    Int.reduceLT, Int.reduceLE, Bool.false_eq_true, Bool.true_eq_false, false_implies, true_implies, implies_true, and_true, fnR_nx, fnR_ret, fnR_exc, ioOut, decide_eq_true_eq, decide_eq_false_iff_not, and_self]
end G

end
section
set_option Elab.async false
set_option linter.all false
set_option maxRecDepth 100000
set_option maxHeartbeats 4000000
set_option autoImplicit false
/-! M: a dict of states. -/
namespace G
open PySem L2 Lw
section
variable {f fk fv fx : EF} {env : Lw.Env} {Q : ERes → Lw.Env → Prop} {QS : FRes → Lw.Env → Prop} {QI : IRes → Lw.Env → Prop}
theorem EX_dct0 {ks : List Val} : OX (sDct0 ks env) Q = Q (.val (.new (.dct ks []))) env := rfl
def xDN (o : Option Val) (k : Prop) : Prop := match o with
  | some (.dct (.non :: _) _) => k
  | _ => False
theorem xDN_some {ks vs : List Val} {k : Prop} : xDN (some (.dct (.non :: ks) vs)) k = k := rfl
def gN (Q : ERes → Lw.Env → Prop) (env : Lw.Env) (o : Option Val) (ok ox : Opd) : Prop := match o, ok, ox with
  | some (.dct (.non :: ks) vs), .shr (.tup q), .shr v => OB (atN ks vs q) fun o => Q (.val (.shr (o.getD v))) env
  | _, _, _ => False
theorem EX_getN : OX (sGetN f fk fx env) Q = OX (f env) (rE Q fun od e => xDN (od.get e) (OX (esh fk e) (rE Q fun ok e => OX (esh fx e) (rE Q fun ox e => gN Q e (od.get e) ok ox)))) := by
  unfold sGetN
  rw [EX_bind]
  congr; funext od e
  have inner : OX (ebind (esh fk) (fun ok => ebind (esh fx) fun ox env => match od.get env, ok, ox with
    | some (.dct (.non :: ks) vs), .shr (.tup q), .shr v => (match atN ks vs q with
      | some o => some (.val (.shr (o.getD v)), env)
      | none => none)
    | _, _, _ => none) e) Q = OX (esh fk e) (rE Q fun ok e => OX (esh fx e) (rE Q fun ox e => gN Q e (od.get e) ok ox)) := by
    rw [EX_bind]
    congr; funext ok e
    rw [EX_bind]
    congr; funext ox e
    cases od.get e with
    | none => rfl
    | some w =>
      cases w with
      | dct ks vs =>
        cases ks with
        | nil => rfl
        | cons a ks =>
          cases a with
          | non =>
            cases ok with
            | shr q =>
              cases q with
              | tup q =>
                cases ox with
                | shr v =>
                  unfold gN
                  dsimp only
                  cases atN ks vs q <;> rfl
                | _ => rfl
              | _ => rfl
            | _ => rfl
          | _ => rfl
      | _ => rfl
  cases h : od.get e with
  | none => rfl
  | some w =>
    cases w with
    | dct ks vs =>
      cases ks with
      | nil => rfl
      | cons a ks =>
        cases a with
        | non => exact inner
        | _ => rfl
    | _ => rfl
def xD (o : Option Val) (k : Prop) : Prop := match o with
  | some (.dct _ _) => k
  | _ => False
theorem xD_some {ks vs : List Val} {k : Prop} : xD (some (.dct ks vs)) k = k := rfl
def sD (st : Val → Val → Val → Option Val) (QS : FRes → Lw.Env → Prop) (i : Nat) (e : Lw.Env) (o : Option Val) (ov ok : Opd) : Prop := match o, ov, ok with
  | some (.dct ks vs), .shr v, .shr q => OB (st (.dct ks vs) q v) fun d1 => QS .nx (updOwn e i d1)
  | _, _, _ => False
theorem sD_some {st : Val → Val → Val → Option Val} {i : Nat} {e : Lw.Env} {ks vs : List Val} {v q : Val} : sD st QS i e (some (.dct ks vs)) (.shr v) (.shr q) = OB (st (.dct ks vs) q v) fun d1 => QS .nx (updOwn e i d1) := rfl
theorem SX_setD {st : Val → Val → Val → Option Val} {i : Nat} : OX (sSetD st i fk fv env) QS = OX (esh fv env) (rS QS fun ov e => xD (own? e i) (OX (esh fk e) (rS QS fun ok e => sD st QS i e (own? e i) ov ok))) := by
  unfold sSetD
  rw [SX_bind]
  congr; funext ov e
  have inner : OX (obind (esh fk) (fun ok env => match own? env i, ov, ok with
    | some (.dct ks vs), .shr v, .shr q => (match st (.dct ks vs) q v with
      | some d1 => some (.nx, updOwn env i d1)
      | none => none)
    | _, _, _ => none) e) QS = OX (esh fk e) (rS QS fun ok e => sD st QS i e (own? e i) ov ok) := by
    rw [SX_bind]
    congr; funext ok e
    cases own? e i with
    | none => rfl
    | some w =>
      cases w with
      | dct ks vs =>
        cases ov with
        | shr v =>
          cases ok with
          | shr q =>
            unfold sD
            dsimp only
            cases st (.dct ks vs) q v <;> rfl
          | _ => rfl
        | _ => rfl
      | _ => rfl
  cases h : own? e i with
  | none => rfl
  | some w =>
    cases w with
    | dct ks vs => exact inner
    | _ => rfl
theorem IX_keysN : OX (sKeysN f env) QI = OX (f env) (rI QI fun o e => shO o e fun v e => OB (itemsN v) fun vs => QI (.items vs) e) := by
  unfold sKeysN ibind
  have h := EX_esh (f := f) (env := env) (Q := fun r e => rI QI (fun o e => match o with | .shr v => OB (itemsN v) fun vs => QI (.items vs) e | _ => False) r e)
  have l : OX (match esh f env with
      | some (.val (.shr v), env1) => (match itemsN v with | some vs => some (.items vs, env1) | none => none)
      | some (.exc c, env1) => some (.exc c, env1)
      | _ => none) QI = OX (esh f env) fun r e => rI QI (fun o e => match o with | .shr v => OB (itemsN v) fun vs => QI (.items vs) e | _ => False) r e := by
    cases esh f env with
    | none => rfl
    | some z =>
      obtain ⟨r, e⟩ := z
      cases r with
      | exc c => rfl
      | val o =>
        cases o with
        | shr v => dsimp only; rw [OX_some, rI_val]; dsimp only; cases itemsN v <;> rfl
        | new v => rfl
        | var i => rfl
  refine l.trans (h.trans ?_)
  refine congrArg (OX (f env)) ?_
  funext r e
  cases r with
  | exc c => rfl
  | val o => rfl
def dk1 (Q : ERes → Lw.Env → Prop) (e : Lw.Env) (ok ov : Opd) : Prop := match ok, ov with
  | .shr (.tup qs), .shr v => OB (nk (.tup qs)) fun k => k.depth ≤ 8 ∧ Q (.val (.new (.dct [.non, .tup qs] [v]))) e
  | _, _ => False
theorem EX_dct1 : OX (sDct1 fk fv env) Q = OX (esh fk env) (rE Q fun ok e => OX (esh fv e) (rE Q fun ov e => dk1 Q e ok ov)) := by
  unfold sDct1
  rw [EX_bind]
  congr; funext ok e
  rw [EX_bind]
  congr; funext ov e
  cases ok with
  | shr q =>
    cases q with
    | tup qs =>
      cases ov with
      | shr v =>
        unfold dk1
        dsimp only
        cases nk (.tup qs) with
        | none => rfl
        | some k =>
          rw [OB_some]
          dsimp only
          by_cases hd : k.depth ≤ 8
          · rw [if_pos hd]; exact propext ⟨fun q => ⟨hd, q⟩, fun q => q.2⟩
          · rw [if_neg hd]; exact propext ⟨fun q => q.elim, fun q => hd q.1⟩
      | _ => rfl
    | _ => rfl
  | _ => rfl
def dk2 (Q : ERes → Lw.Env → Prop) (e : Lw.Env) (ok ov : Opd) : Prop := match ok, ov with
  | .shr q, .shr v => OB (kq q) fun _ => Q (.val (.new (.dct [q] [v]))) e
  | _, _ => False
theorem dk2_str {e : Lw.Env} {z : List Nat} {v : Val} : dk2 Q e (.shr (.str z)) (.shr v) = Q (.val (.new (.dct [.str z] [v]))) e := rfl
theorem EX_dct1K : OX (sDct1K fk fv env) Q = OX (esh fk env) (rE Q fun ok e => OX (esh fv e) (rE Q fun ov e => dk2 Q e ok ov)) := by
  unfold sDct1K
  rw [EX_bind]
  congr; funext ok e
  rw [EX_bind]
  congr; funext ov e
  cases ok with
  | shr q =>
    cases ov with
    | shr v =>
      unfold dk2
      dsimp only
      cases kq q <;> rfl
    | _ => rfl
  | _ => rfl
end
abbrev Sta := List Nat × List Int
def kv (s : Sta) : Val := .tup [.str s.1, .tup (s.2.map Val.int)]
def code (s : Sta) : NestedKey := .tup [.text ⟨s.1.toArray⟩, .tup (s.2.map NestedKey.num)]
theorem nks_ints : ∀ K : List Int, nks (K.map Val.int) = some (K.map NestedKey.num)
  | [] => rfl
  | k :: K => by
    show (match nk (.int k), nks (K.map Val.int) with
      | some k, some ks => some (k :: ks)
      | _, _ => none) = _
    rw [nks_ints K]; rfl
theorem nk_kv (s : Sta) : nk (kv s) = some (code s) := by
  show (nks [.str s.1, .tup (s.2.map Val.int)]).map NestedKey.tup = _
  have e : nk (.tup (s.2.map Val.int)) = some (.tup (s.2.map NestedKey.num)) := by
    show (nks (s.2.map Val.int)).map NestedKey.tup = _
    rw [nks_ints]; rfl
  show (match nk (.str s.1), (match nk (.tup (s.2.map Val.int)), nks [] with
      | some k, some ks => some (k :: ks)
      | _, _ => none) with
      | some k, some ks => some (k :: ks)
      | _, _ => none).map NestedKey.tup = _
  rw [e]; rfl
theorem nums_inj : ∀ {a b : List Int}, a.map NestedKey.num = b.map NestedKey.num → a = b
  | [], [], _ => rfl
  | [], _ :: _, h => by cases h
  | _ :: _, [], h => by cases h
  | x :: a, y :: b, h => by
    rw [List.map_cons, List.map_cons] at h
    injection h with h1 h2
    injection h1 with h1
    rw [h1, nums_inj h2]
theorem code_inj {a b : Sta} (h : code a = code b) : a = b := by
  unfold code at h
  injection h with h
  injection h with h1 h2
  injection h2 with h2 _
  injection h2 with h2
  injection h1 with h1
  obtain ⟨x, y⟩ := a
  obtain ⟨x', y'⟩ := b
  have e1 : x = x' := S_inj h1
  have e2 : y = y' := nums_inj h2
  rw [e1, e2]
theorem nums_depth : ∀ K : List Int, NestedKey.depthAll (K.map NestedKey.num) = 0
  | [] => rfl
  | k :: K => by
    show max 0 (NestedKey.depthAll (K.map NestedKey.num)) = 0
    rw [nums_depth K]; rfl
theorem code_depth (s : Sta) : (code s).depth ≤ 8 := by
  show max 0 (max (NestedKey.depthAll (s.2.map NestedKey.num) + 1) 0) + 1 ≤ 8
  rw [nums_depth]; decide
abbrev Dic := List (Sta × Int)
def stD (D : Dic) : Val := .dct (.non :: D.map fun d => kv d.1) (D.map fun d => .int d.2)
def lookD (D : Dic) (s : Sta) : Option Int := (D.find? fun d => decide (d.1 = s)).map (·.2)
theorem find_st (s : Sta) : ∀ D : Dic, dfind (D.map fun d => kv d.1) (D.map fun d => .int d.2) (code s) = (lookD D s).map Val.int
  | [] => rfl
  | d :: D => by
    have ih := find_st s D
    unfold dfind lookD at ih ⊢
    rw [List.map_cons, List.map_cons, List.zip_cons_cons]
    by_cases h : d.1 = s
    · rw [List.find?_cons_of_pos (by rw [nk_kv, h]; simp), List.find?_cons_of_pos (by simp [h])]
      rfl
    · rw [List.find?_cons_of_neg (by
        rw [nk_kv]
        simp only [decide_eq_true_eq]
        exact fun e => h (code_inj (Option.some.inj e))), List.find?_cons_of_neg (by simp [h]), ih]
theorem atN_st (D : Dic) (s : Sta) : atN (D.map fun d => kv d.1) (D.map fun d => .int d.2) [.str s.1, .tup (s.2.map Val.int)] = some ((lookD D s).map Val.int) := by
  unfold atN
  have e : nk (.tup [.str s.1, .tup (s.2.map Val.int)]) = some (code s) := nk_kv s
  rw [e]
  dsimp only
  rw [if_pos (code_depth s), find_st]
theorem ixN_st (D : Dic) (s : Sta) {c : Int} (h : lookD D s = some c) : oIxN (stD D) (kv s) = some (.shr (.int c)) := by
  show ((atN (D.map fun d => kv d.1) (D.map fun d => .int d.2) [.str s.1, .tup (s.2.map Val.int)]).bind id).map RV.shr = _
  rw [atN_st, h]; rfl
theorem gN_st {Q : ERes → Lw.Env → Prop} {e : Lw.Env} (D : Dic) (s : Sta) (v : Int) : gN Q e (some (stD D)) (.shr (kv s)) (.shr (.int v)) = Q (.val (.shr (.int ((lookD D s).getD v)))) e := by
  show OB (atN (D.map fun d => kv d.1) (D.map fun d => .int d.2) [.str s.1, .tup (s.2.map Val.int)]) _ = _
  rw [atN_st, OB_some]
  cases lookD D s <;> rfl
def putD (D : Dic) (s : Sta) (v : Int) : Dic := if (lookD D s).isSome = true then D.map (fun d => if d.1 = s then (d.1, v) else d) else D ++ [(s, v)]
theorem put_st (D : Dic) (s : Sta) (v : Int) (hl : D.length < 16777216) : stN (stD D) (kv s) (.int v) = some (stD (putD D s v)) := by
  show (match nk (.tup [.str s.1, .tup (s.2.map Val.int)]) with
    | some k => if k.depth ≤ 8 ∧ (D.map fun d : Sta × Int => kv d.1).length < 16777216 then some (Val.dct (.non :: (dput (D.map fun d : Sta × Int => kv d.1) (D.map fun d : Sta × Int => Val.int d.2) k (.tup [.str s.1, .tup (s.2.map Val.int)]) (.int v)).1) (dput (D.map fun d : Sta × Int => kv d.1) (D.map fun d : Sta × Int => Val.int d.2) k (.tup [.str s.1, .tup (s.2.map Val.int)]) (.int v)).2) else none
    | none => none) = _
  have e : nk (.tup [.str s.1, .tup (s.2.map Val.int)]) = some (code s) := nk_kv s
  rw [e]
  dsimp only
  rw [if_pos ⟨code_depth s, by rw [List.length_map]; exact hl⟩]
  unfold dput stD putD
  rw [find_st, Option.isSome_map]
  by_cases h : (lookD D s).isSome = true
  · rw [if_pos h, if_pos h]
    have e2 : ∀ D : Dic, List.zipWith (fun a b => if nk a = some (code s) then (Val.int v) else b) (D.map fun d : Sta × Int => kv d.1) (D.map fun d : Sta × Int => Val.int d.2) = (D.map fun d => if d.1 = s then (d.1, v) else d).map (fun d => Val.int d.2) := by
      intro D
      induction D with
      | nil => rfl
      | cons d D ih =>
        rw [List.map_cons, List.map_cons, List.zipWith_cons_cons, ih, List.map_cons, List.map_cons, nk_kv]
        congr 1
        by_cases q : d.1 = s
        · rw [if_pos q, if_pos (by rw [q])]
        · rw [if_neg q, if_neg fun z => q (code_inj (Option.some.inj z))]
    have e3 : (D.map fun d => if d.1 = s then (d.1, v) else d).map (fun d => kv d.1) = D.map fun d => kv d.1 := by
      rw [List.map_map]
      apply List.map_congr_left
      intro d _
      show kv (if d.1 = s then (d.1, v) else d).1 = _
      split <;> rfl
    dsimp only
    rw [e2, e3]
  · rw [if_neg h, if_neg h, List.map_append, List.map_append]
    rfl
def sumD (D : Dic) (F : Sta → Int) : Int := (D.map fun d => d.2 * F d.1).sum
theorem look_none {s : Sta} : ∀ {D : Dic}, lookD D s = none → s ∉ D.map (·.1)
  | [], _ => by simp
  | d :: D, h => by
    unfold lookD at h
    by_cases q : d.1 = s
    · rw [List.find?_cons_of_pos (by simp [q])] at h; cases h
    · rw [List.find?_cons_of_neg (by simp [q])] at h
      have := look_none (D := D) (s := s) h
      rw [List.map_cons, List.mem_cons]
      rintro (z | z)
      · exact q z.symm
      · exact this z
theorem look_mem {s : Sta} {c : Int} : ∀ {D : Dic}, (D.map (·.1)).Nodup → (s, c) ∈ D → lookD D s = some c
  | [], _, h => by cases h
  | d :: D, nd, h => by
    obtain ⟨n1, n2⟩ := List.nodup_cons.mp nd
    unfold lookD
    rcases List.mem_cons.mp h with rfl | h
    · rw [List.find?_cons_of_pos (by simp)]; rfl
    · have q : d.1 ≠ s := fun z => n1 (by
        show d.1 ∈ _
        rw [z]
        exact List.mem_map.mpr ⟨(s, c), h, rfl⟩)
      rw [List.find?_cons_of_neg (by simp [q])]
      exact look_mem n2 h
theorem put_keys (D : Dic) (s : Sta) (v : Int) (h : (lookD D s).isSome = true) : (putD D s v).map (·.1) = D.map (·.1) := by
  unfold putD
  rw [if_pos h, List.map_map]
  apply List.map_congr_left
  intro d _
  show (if d.1 = s then (d.1, v) else d).1 = _
  split <;> rfl
theorem put_nodup {D : Dic} (nd : (D.map (·.1)).Nodup) (s : Sta) (v : Int) : ((putD D s v).map (·.1)).Nodup := by
  by_cases h : (lookD D s).isSome = true
  · rw [put_keys D s v h]; exact nd
  · unfold putD
    rw [if_neg h, List.map_append]
    have hn : lookD D s = none := by
      cases q : lookD D s with
      | none => rfl
      | some c => rw [q] at h; exact absurd rfl h
    have hm := look_none hn
    refine List.nodup_append.mpr ⟨nd, List.nodup_cons.mpr ⟨by simp, List.nodup_nil⟩, fun a ha b hb e => ?_⟩
    have hb : b ∈ [s] := hb
    rw [List.mem_singleton] at hb
    subst hb e
    exact hm ha
theorem put_len (D : Dic) (s : Sta) (v : Int) : (putD D s v).length ≤ D.length + 1 := by
  unfold putD
  split
  · rw [List.length_map]; omega
  · rw [List.length_append]; exact Nat.le_refl _
theorem put_mem {D : Dic} {s : Sta} {v : Int} {d : Sta × Int} (h : d ∈ putD D s v) : d.1 = s ∨ ∃ d' ∈ D, d'.1 = d.1 := by
  unfold putD at h
  split at h
  · obtain ⟨d', hd, rfl⟩ := List.mem_map.mp h
    refine .inr ⟨d', hd, ?_⟩
    split <;> rfl
  · rcases List.mem_append.mp h with h | h
    · exact .inr ⟨d, h, rfl⟩
    · rw [List.mem_singleton] at h; subst h; exact .inl rfl
theorem sum_repl (s : Sta) (v : Int) (F : Sta → Int) : ∀ D : Dic, (D.map (·.1)).Nodup → s ∉ D.map (·.1) → sumD (D.map fun d : Sta × Int => if d.1 = s then (d.1, v) else d) F = sumD D F
  | [], _, _ => rfl
  | d :: D, nd, h => by
    obtain ⟨n1, n2⟩ := List.nodup_cons.mp nd
    rw [List.map_cons, List.mem_cons] at h
    have h1 : ¬d.1 = s := fun z => h (.inl z.symm)
    have ih := sum_repl s v F D n2 fun z => h (.inr z)
    unfold sumD at ih ⊢
    rw [List.map_cons, List.map_cons, List.sum_cons, if_neg h1, ih, List.map_cons, List.sum_cons]
theorem sum_put (F : Sta → Int) (s : Sta) (v : Int) : ∀ D : Dic, (D.map (·.1)).Nodup → sumD (putD D s ((lookD D s).getD 0 + v)) F = sumD D F + v * F s
  | [], _ => by
    show sumD [(s, 0 + v)] F = sumD [] F + v * F s
    unfold sumD
    simp
  | d :: D, nd => by
    obtain ⟨n1, n2⟩ := List.nodup_cons.mp nd
    have ih := sum_put F s v D n2
    by_cases h : d.1 = s
    · have l : lookD (d :: D) s = some d.2 := by unfold lookD; rw [List.find?_cons_of_pos (by simp [h])]; rfl
      have hm : s ∉ D.map (·.1) := h ▸ n1
      unfold putD
      rw [l, if_pos (show (some d.2).isSome = true from rfl), List.map_cons, if_pos h]
      have := sum_repl s ((some d.2).getD 0 + v) F D n2 hm
      unfold sumD at this ⊢
      rw [List.map_cons, List.sum_cons, this, List.map_cons, List.sum_cons]
      dsimp only [Option.getD_some]
      rw [h, Int.add_mul]
      omega
    · have l : lookD (d :: D) s = lookD D s := by unfold lookD; rw [List.find?_cons_of_neg (by simp [h])]
      unfold putD at ih ⊢
      rw [l]
      by_cases q : (lookD D s).isSome = true
      · rw [if_pos q] at ih ⊢
        rw [List.map_cons, if_neg h]
        unfold sumD at ih ⊢
        rw [List.map_cons, List.sum_cons, ih, List.map_cons, List.sum_cons]
        omega
      · rw [if_neg q] at ih ⊢
        unfold sumD at ih ⊢
        rw [List.cons_append, List.map_cons, List.sum_cons, ih, List.map_cons, List.sum_cons]
        omega
end G

end
section
set_option Elab.async false
set_option linter.all false
set_option maxRecDepth 100000
set_option maxHeartbeats 4000000
set_option autoImplicit false
/-! M: one letter more. -/
namespace G
open PySem L2 Lw
section
variable {Q : ERes → Lw.Env → Prop} {QS : FRes → Lw.Env → Prop} {e : Lw.Env}
theorem ixN_st' (D : Dic) (E : List Nat) (K : List Int) {c : Int} (h : lookD D (E, K) = some c) : oIxN (stD D) (.tup [.str E, .tup (K.map Val.int)]) = some (.shr (.int c)) := ixN_st D (E, K) h
theorem gN_st' (D : Dic) (E : List Nat) (K : List Int) (v : Int) : gN Q e (some (stD D)) (.shr (.tup [.str E, .tup (K.map Val.int)])) (.shr (.int v)) = Q (.val (.shr (.int ((lookD D (E, K)).getD v)))) e := gN_st D (E, K) v
theorem put_st' (D : Dic) (E : List Nat) (K : List Int) (v : Int) (hl : D.length < 16777216) : stN (stD D) (.tup [.str E, .tup (K.map Val.int)]) (.int v) = some (stD (putD D (E, K) v)) := put_st D (E, K) v hl
theorem xDN_st {D : Dic} {k : Prop} : xDN (some (stD D)) k = k := rfl
theorem xD_st {D : Dic} {k : Prop} : xD (some (stD D)) k = k := rfl
theorem sD_st {st : Val → Val → Val → Option Val} {i : Nat} {D : Dic} {v q : Val} : sD st QS i e (some (stD D)) (.shr v) (.shr q) = OB (st (stD D) q v) fun d1 => QS .nx (updOwn e i d1) := rfl
theorem items_st (D : Dic) : itemsN (stD D) = some (D.map fun d : Sta × Int => kv d.1) := rfl
end
theorem cut_to {α : Type} (xs : List α) (k : Nat) : cutG xs none (some (k : Int)) = xs.take k := by
  unfold cutG
  rw [HT.sIx_nat]
  show (xs.drop 0).take (min k xs.length - 0) = _
  rw [List.drop_zero, Nat.sub_zero]
  rcases Nat.le_total k xs.length with h | h
  · rw [Nat.min_eq_left h]
  · rw [Nat.min_eq_right h, List.take_length, List.take_of_length_le h]
theorem ue_mem {bs : List (List Nat)} (h0 : [] ∈ bs) : ∀ t : List Nat, ue bs t ∈ bs
  | [] => h0
  | c :: t => by
    unfold ue
    split
    · assumption
    · exact ue_mem h0 t
def settle (reach : Nat) (K : List Int) : List Int := K.zipIdx.map fun z => if (reach : Int) ≤ (z.2 : Nat) then z.1 else 0
def newK (ps : List (List Nat)) (s : Sta) (c : Nat) : List Int := stepF ps (s.1 ++ [c]) (0 :: s.2)
def runOk (l r : Int) (ps : List (List Nat)) (reach : Nat) (m : Int) (s : Sta) (c : Nat) : Bool := !brkM l r (settle reach (newK ps s c)) m false
def nextS (ps bs : List (List Nat)) (reach : Nat) (s : Sta) (c : Nat) : Sta := (ue bs (s.1 ++ [c]), (newK ps s c).take reach)
/-- what a state brings with one letter -/
def oneF (l r : Int) (ps bs : List (List Nat)) (reach : Nat) (m : Int) (F : Sta → Int) (d : Sta × Int) (c : Nat) : Int := if runOk l r ps reach m d.1 c = true then d.2 * F (nextS ps bs reach d.1 c) else 0
def allF (l r : Int) (ps bs : List (List Nat)) (reach : Nat) (m : Int) (z : List Nat) (F : Sta → Int) (d : Sta × Int) : Int := (z.map (oneF l r ps bs reach m F d)).sum
structure DOk (reach : Nat) (D : Dic) : Prop where
  nd : (D.map (·.1)).Nodup
  b : ∀ d ∈ D, d.1.1.length ≤ 20 ∧ d.1.2.length ≤ reach
theorem DOk.put {reach : Nat} {D : Dic} (h : DOk reach D) {s : Sta} (hs : s.1.length ≤ 20 ∧ s.2.length ≤ reach) (v : Int) : DOk reach (putD D s v) where
  nd := put_nodup h.nd s v
  b := fun d hd => by
    rcases put_mem hd with e | ⟨d', hd', e⟩
    · rw [e]; exact hs
    · rw [← e]; exact h.b d' hd'
theorem sum_take {α : Type} (f : α → Int) (xs : List α) (i : Nat) (x : α) (h : xs[i]? = some x) : ((xs.take (i + 1)).map f).sum = ((xs.take i).map f).sum + f x := by
  rw [List.take_succ, h, List.map_append, List.sum_append]
  simp
theorem followed_ok (pv : Val) (l r : Int) (ps bs : List (List Nat)) (z : List Nat) (reach : Nat) (m : Int) (D : Dic) (h0 : [] ∈ bs) (hb : ∀ q ∈ bs, q.length ≤ 20) (hps : ps.length ≤ 6) (hr : reach ≤ 100) (hD : DOk reach D) (hz : z.length ≤ 4) (hl : D.length * z.length ≤ 16777216) :
    OX (fn_followed [.shr (.tup [pv, .int l, .int r]), .shr (.lst (ps.map partV)), .shr (.tup [strD bs, .int (reach : Nat)]), .shr (stD D), .shr (.str z), .shr (.int m)]) fun a b => ∃ D', a = .ret (.new (stD D')) ∧ b = [.un, .un, .un, .un, .un, .un] ∧ DOk reach D' ∧ D'.length ≤ D.length * z.length ∧ ∀ F, sumD D' F = (D.map (allF l r ps bs reach m z F)).sum := by
  unfold fn_followed g_followed
  refine FX_run rfl ?_
  simp -implicitDefEqProofs only [SX_seq, SX_if, SX_asg, SX_ret, SX_retN, SX_setL, SX_augL, SX_nil, SX_expr, SX_par, SX_unp, SX_raise, SX_brk, SX_ct, SX_for, EX_bin, EX_un, EX_var, EX_c, EX_and, EX_or, EX_not, EX_if, EX_lst, EX_tup, EX_callB, EX_call, EX_meth, EX_mut, EX_extend, EX_sl, EX_chain, EX_esh, EX_eun, EX_tru,
    IX_any, IX_range1, IX_range2, IX_zip, IX_enum, xArgs_nil, xArgs_cons, xP_none, xP_some, iO_int, List.map_nil, List.map_cons, rE_val, rS_val, rI_val, rF_items, rE_exc, rS_exc, rI_exc, rF_exc, nxS_nx, nxS_ret, nxS_exc, nxS_brk, nxS_ct, lpS_nx, lpS_ct, lpS_brk, lpS_ret, lpS_exc,
    OX_some, OB_some, OB_map, OB_ite, ifO_bl, notO_bl, ifR_bl, get_shr, get_new, get_var, opd_shr, opd_new, own_zero, own_succ, ow_own, ow_io, upd_own, upd_io, upd_succ, so_shr, so_own, so_io, unO_shr, unO_new, unO_var, shO_shr, shO_new, shO_var', frz_own, setOk_un, setOk_shr, setOk_own, set_shr, set_new,
    xOwn_own, ret_shr, ret_new, ret_var, shrs_nil, shrs_cons, Option.map_some, gets_nil, gets_cons, split_nil, split_shr, split_var, sets_nil, sets_cons, tg_one, tg_many, callS_none, callS_some, xIo_some, xLst_some, xInt_some, oE_ret, oE_exc, two?, one?,
    List.cons_append, List.nil_append, List.replicate, List.getElem?_cons_zero, List.getElem?_cons_succ, List.set_cons_zero, List.set_cons_succ, List.length_cons, List.length_nil, Nat.zero_add, Nat.reduceAdd, Nat.reduceSub, Nat.reduceLeDiff, true_and, if_true, ite_true,
    ev_add, ev_sub, ev_fdiv, ev_mod, ev_pow18, ev_pow60, ev_pow5, ev_mul60, ev_mulA, ev_mulB, ev_neg, ev_lt, ev_le, ev_gt, ev_ge, ev_ixL, ev_ixT, ev_ixC, ev_ixS, ev_lenS, ev_lenL, ev_lenT, ev_lenC, ev_addS, ev_addL, ev_addT, ev_mulL, ev_max2, ev_min2, ev_slS, ev_slL, ev_slT, eqv_ii, nev_ii, Int.zero_add, ev_scr0, atI_nat0, atI_nat1, atI_nat2, ix20, ix21,
    Int.reduceLT, Int.reduceLE, Bool.false_eq_true, Bool.true_eq_false, false_implies, true_implies, implies_true, and_true, fnR_nx, fnR_ret, fnR_exc, ioOut, decide_eq_true_eq, decide_eq_false_iff_not, EX_dct0, IX_keysN, items_st]
  refine FL_inv (fun i e => ∃ D1 s9 s10 s11 s12 s13 s14 s15, e = [.shr (.tup [pv, .int l, .int r]), .shr (.lst (ps.map partV)), .shr (.tup [strD bs, .int (reach : Nat)]), .shr (stD D), .shr (.str z), .shr (.int m), .shr (strD bs), .shr (.int (reach : Nat)), .own (stD D1), s9, s10, s11, s12, s13, s14, s15, .un, .un] ∧
      DOk reach D1 ∧ D1.length ≤ i * z.length ∧ (∀ F, sumD D1 F = ((D.take i).map (allF l r ps bs reach m z F)).sum) ∧ setOk (some s9) = true ∧ setOk (some s10) = true ∧ setOk (some s11) = true ∧ setOk (some s12) = true ∧ setOk (some s13) = true ∧ setOk (some s14) = true ∧ setOk (some s15) = true)
    ⟨[], .un, .un, .un, .un, .un, .un, .un, rfl, ⟨List.nodup_nil, fun d hd => nomatch hd⟩, Nat.zero_le _, fun F => rfl, rfl, rfl, rfl, rfl, rfl, rfl, rfl⟩ (fun i v e hv hI => ?_) fun e hI => ?_
  · obtain ⟨D1, s9, s10, s11, s12, s13, s14, s15, rfl, hD1, hl1, hs1, h9, h10, h11, h12, h13, h14, h15⟩ := hI
    rw [List.getElem?_map] at hv
    obtain ⟨d, hd, rfl⟩ := Option.map_eq_some_iff.mp hv
    obtain ⟨⟨E, K⟩, cnt⟩ := d
    have hi := (List.getElem?_eq_some_iff.mp hd).1
    have hm := List.mem_of_getElem? hd
    obtain ⟨bE, bK⟩ := hD.b _ hm
    dsimp only at bE bK
    have lk := look_mem hD.nd hm
    have hmul : i * z.length + z.length ≤ D.length * z.length := by rw [← Nat.succ_mul]; exact Nat.mul_le_mul_right _ hi
    simp -implicitDefEqProofs only [SX_seq, SX_if, SX_asg, SX_ret, SX_retN, SX_setL, SX_augL, SX_nil, SX_expr, SX_par, SX_unp, SX_raise, SX_brk, SX_ct, SX_for, EX_bin, EX_un, EX_var, EX_c, EX_and, EX_or, EX_not, EX_if, EX_lst, EX_tup, EX_callB, EX_call, EX_meth, EX_mut, EX_extend, EX_sl, EX_chain, EX_esh, EX_eun, EX_tru,
    IX_any, IX_range1, IX_range2, IX_zip, IX_enum, xArgs_nil, xArgs_cons, xP_none, xP_some, iO_int, List.map_nil, List.map_cons, rE_val, rS_val, rI_val, rF_items, rE_exc, rS_exc, rI_exc, rF_exc, nxS_nx, nxS_ret, nxS_exc, nxS_brk, nxS_ct, lpS_nx, lpS_ct, lpS_brk, lpS_ret, lpS_exc,
    OX_some, OB_some, OB_map, OB_ite, ifO_bl, notO_bl, ifR_bl, get_shr, get_new, get_var, opd_shr, opd_new, own_zero, own_succ, ow_own, ow_io, upd_own, upd_io, upd_succ, so_shr, so_own, so_io, unO_shr, unO_new, unO_var, shO_shr, shO_new, shO_var', frz_own, setOk_un, setOk_shr, setOk_own, set_shr, set_new,
    xOwn_own, ret_shr, ret_new, ret_var, shrs_nil, shrs_cons, Option.map_some, gets_nil, gets_cons, split_nil, split_shr, split_var, sets_nil, sets_cons, tg_one, tg_many, callS_none, callS_some, xIo_some, xLst_some, xInt_some, oE_ret, oE_exc, two?, one?,
    List.cons_append, List.nil_append, List.replicate, List.getElem?_cons_zero, List.getElem?_cons_succ, List.set_cons_zero, List.set_cons_succ, List.length_cons, List.length_nil, Nat.zero_add, Nat.reduceAdd, Nat.reduceSub, Nat.reduceLeDiff, true_and, if_true, ite_true,
    ev_add, ev_sub, ev_fdiv, ev_mod, ev_pow18, ev_pow60, ev_pow5, ev_mul60, ev_mulA, ev_mulB, ev_neg, ev_lt, ev_le, ev_gt, ev_ge, ev_ixL, ev_ixT, ev_ixC, ev_ixS, ev_lenS, ev_lenL, ev_lenT, ev_lenC, ev_addS, ev_addL, ev_addT, ev_mulL, ev_max2, ev_min2, ev_slS, ev_slL, ev_slT, eqv_ii, nev_ii, Int.zero_add, ev_scr0, atI_nat0, atI_nat1, atI_nat2, ix20, ix21,
    Int.reduceLT, Int.reduceLE, Bool.false_eq_true, Bool.true_eq_false, false_implies, true_implies, implies_true, and_true, fnR_nx, fnR_ret, fnR_exc, ioOut, decide_eq_true_eq, decide_eq_false_iff_not, kv, h9, h10, itS]
    refine FL_inv (fun j e => ∃ D2 s11 s12 s13 s14 s15, e = [.shr (.tup [pv, .int l, .int r]), .shr (.lst (ps.map partV)), .shr (.tup [strD bs, .int (reach : Nat)]), .shr (stD D), .shr (.str z), .shr (.int m), .shr (strD bs), .shr (.int (reach : Nat)), .own (stD D2), .shr (.str E), .shr (.tup (K.map Val.int)), s11, s12, s13, s14, s15, .un, .un] ∧
        DOk reach D2 ∧ D2.length ≤ i * z.length + j ∧ (∀ F, sumD D2 F = sumD D1 F + ((z.take j).map (oneF l r ps bs reach m F ((E, K), cnt))).sum) ∧ setOk (some s11) = true ∧ setOk (some s12) = true ∧ setOk (some s13) = true ∧ setOk (some s14) = true ∧ setOk (some s15) = true)
      ⟨D1, s11, s12, s13, s14, s15, rfl, hD1, hl1, fun F => by rw [List.take_zero]; simp, h11, h12, h13, h14, h15⟩ (fun j v e hv hI => ?_) fun e hI => ?_
    · obtain ⟨D2, s11, s12, s13, s14, s15, rfl, hD2, hl2, hs2, h11, h12, h13, h14, h15⟩ := hI
      rw [List.getElem?_map] at hv
      obtain ⟨c, hc, rfl⟩ := Option.map_eq_some_iff.mp hv
      have hj := (List.getElem?_eq_some_iff.mp hc).1
      have up := updated_ok ps E c K (by omega) (by omega) (by omega)
      have nl : (newK ps (E, K) c).length = K.length + 1 := by unfold newK; rw [stepF_len]; rfl
      have up' : fn_updated [.shr (.lst (ps.map partV)), .shr (.str E), .shr (.str [c]), .shr (.tup (K.map Val.int))] = some (.ret (.shr (.tup [.str (E ++ [c]), .lst ((newK ps (E, K) c).map Val.int)])), [.un, .un, .un, .un]) := up
      simp -implicitDefEqProofs only [SX_seq, SX_if, SX_asg, SX_ret, SX_retN, SX_setL, SX_augL, SX_nil, SX_expr, SX_par, SX_unp, SX_raise, SX_brk, SX_ct, SX_for, EX_bin, EX_un, EX_var, EX_c, EX_and, EX_or, EX_not, EX_if, EX_lst, EX_tup, EX_callB, EX_call, EX_meth, EX_mut, EX_extend, EX_sl, EX_chain, EX_esh, EX_eun, EX_tru,
    IX_any, IX_range1, IX_range2, IX_zip, IX_enum, xArgs_nil, xArgs_cons, xP_none, xP_some, iO_int, List.map_nil, List.map_cons, rE_val, rS_val, rI_val, rF_items, rE_exc, rS_exc, rI_exc, rF_exc, nxS_nx, nxS_ret, nxS_exc, nxS_brk, nxS_ct, lpS_nx, lpS_ct, lpS_brk, lpS_ret, lpS_exc,
    OX_some, OB_some, OB_map, OB_ite, ifO_bl, notO_bl, ifR_bl, get_shr, get_new, get_var, opd_shr, opd_new, own_zero, own_succ, ow_own, ow_io, upd_own, upd_io, upd_succ, so_shr, so_own, so_io, unO_shr, unO_new, unO_var, shO_shr, shO_new, shO_var', frz_own, setOk_un, setOk_shr, setOk_own, set_shr, set_new,
    xOwn_own, ret_shr, ret_new, ret_var, shrs_nil, shrs_cons, Option.map_some, gets_nil, gets_cons, split_nil, split_shr, split_var, sets_nil, sets_cons, tg_one, tg_many, callS_none, callS_some, xIo_some, xLst_some, xInt_some, oE_ret, oE_exc, two?, one?,
    List.cons_append, List.nil_append, List.replicate, List.getElem?_cons_zero, List.getElem?_cons_succ, List.set_cons_zero, List.set_cons_succ, List.length_cons, List.length_nil, Nat.zero_add, Nat.reduceAdd, Nat.reduceSub, Nat.reduceLeDiff, true_and, if_true, ite_true,
    ev_add, ev_sub, ev_fdiv, ev_mod, ev_pow18, ev_pow60, ev_pow5, ev_mul60, ev_mulA, ev_mulB, ev_neg, ev_lt, ev_le, ev_gt, ev_ge, ev_ixL, ev_ixT, ev_ixC, ev_ixS, ev_lenS, ev_lenL, ev_lenT, ev_lenC, ev_addS, ev_addL, ev_addT, ev_mulL, ev_max2, ev_min2, ev_slS, ev_slL, ev_slT, eqv_ii, nev_ii, Int.zero_add, ev_scr0, atI_nat0, atI_nat1, atI_nat2, ix20, ix21,
    Int.reduceLT, Int.reduceLE, Bool.false_eq_true, Bool.true_eq_false, false_implies, true_implies, implies_true, and_true, fnR_nx, fnR_ret, fnR_exc, ioOut, decide_eq_true_eq, decide_eq_false_iff_not, up', h11, h12, h13, EX_lc, itL, enumI, wipe?, plainAt, plainS, wipeE, List.all_cons, List.all_nil, Bool.and_self]
      refine LC_pure (xs := (newK ps (E, K) c).zipIdx) (fun z => some (.int (if (reach : Int) ≤ (z.2 : Nat) then z.1 else 0))) (by rw [List.length_zipIdx]; omega) (fun y hy => ?_) ?_
      · simp -implicitDefEqProofs only [SX_seq, SX_if, SX_asg, SX_ret, SX_retN, SX_setL, SX_augL, SX_nil, SX_expr, SX_par, SX_unp, SX_raise, SX_brk, SX_ct, SX_for, EX_bin, EX_un, EX_var, EX_c, EX_and, EX_or, EX_not, EX_if, EX_lst, EX_tup, EX_callB, EX_call, EX_meth, EX_mut, EX_extend, EX_sl, EX_chain, EX_esh, EX_eun, EX_tru,
    IX_any, IX_range1, IX_range2, IX_zip, IX_enum, xArgs_nil, xArgs_cons, xP_none, xP_some, iO_int, List.map_nil, List.map_cons, rE_val, rS_val, rI_val, rF_items, rE_exc, rS_exc, rI_exc, rF_exc, nxS_nx, nxS_ret, nxS_exc, nxS_brk, nxS_ct, lpS_nx, lpS_ct, lpS_brk, lpS_ret, lpS_exc,
    OX_some, OB_some, OB_map, OB_ite, ifO_bl, notO_bl, ifR_bl, get_shr, get_new, get_var, opd_shr, opd_new, own_zero, own_succ, ow_own, ow_io, upd_own, upd_io, upd_succ, so_shr, so_own, so_io, unO_shr, unO_new, unO_var, shO_shr, shO_new, shO_var', frz_own, setOk_un, setOk_shr, setOk_own, set_shr, set_new,
    xOwn_own, ret_shr, ret_new, ret_var, shrs_nil, shrs_cons, Option.map_some, gets_nil, gets_cons, split_nil, split_shr, split_var, sets_nil, sets_cons, tg_one, tg_many, callS_none, callS_some, xIo_some, xLst_some, xInt_some, oE_ret, oE_exc, two?, one?,
    List.cons_append, List.nil_append, List.replicate, List.getElem?_cons_zero, List.getElem?_cons_succ, List.set_cons_zero, List.set_cons_succ, List.length_cons, List.length_nil, Nat.zero_add, Nat.reduceAdd, Nat.reduceSub, Nat.reduceLeDiff, true_and, if_true, ite_true,
    ev_add, ev_sub, ev_fdiv, ev_mod, ev_pow18, ev_pow60, ev_pow5, ev_mul60, ev_mulA, ev_mulB, ev_neg, ev_lt, ev_le, ev_gt, ev_ge, ev_ixL, ev_ixT, ev_ixC, ev_ixS, ev_lenS, ev_lenL, ev_lenT, ev_lenC, ev_addS, ev_addL, ev_addT, ev_mulL, ev_max2, ev_min2, ev_slS, ev_slL, ev_slT, eqv_ii, nev_ii, Int.zero_add, ev_scr0, atI_nat0, atI_nat1, atI_nat2, ix20, ix21,
    Int.reduceLT, Int.reduceLE, Bool.false_eq_true, Bool.true_eq_false, false_implies, true_implies, implies_true, and_true, fnR_nx, fnR_ret, fnR_exc, ioOut, decide_eq_true_eq, decide_eq_false_iff_not, EX_yes, List.map_cons, List.map_nil]
        exact ⟨_, rfl, fun _ => ⟨fun h => ⟨_, rfl, by rw [if_pos h], rfl⟩, fun h => ⟨_, rfl, by rw [if_neg h], rfl⟩⟩, (fun q => by cases q)⟩
      rw [fm_some]
      refine ⟨rfl, ?_⟩
      have es : ((newK ps (E, K) c).zipIdx.map fun z => Val.int (if (reach : Int) ≤ (z.2 : Nat) then z.1 else 0)) = (settle reach (newK ps (E, K) c)).map Val.int := by
        unfold settle
        rw [List.map_map]; rfl
      have br := broken_ok pv l r (settle reach (newK ps (E, K) c)) m false
      have ul : (E ++ [c]).length ≤ 1000000 := by rw [List.length_append]; simp only [List.length_cons, List.length_nil]; omega
      have uo := useful_ok bs h0 (E ++ [c]) ul
      have ct := cut_to ((newK ps (E, K) c).map Val.int) reach
      rw [← List.map_take] at ct
      simp -implicitDefEqProofs only [SX_seq, SX_if, SX_asg, SX_ret, SX_retN, SX_setL, SX_augL, SX_nil, SX_expr, SX_par, SX_unp, SX_raise, SX_brk, SX_ct, SX_for, EX_bin, EX_un, EX_var, EX_c, EX_and, EX_or, EX_not, EX_if, EX_lst, EX_tup, EX_callB, EX_call, EX_meth, EX_mut, EX_extend, EX_sl, EX_chain, EX_esh, EX_eun, EX_tru,
    IX_any, IX_range1, IX_range2, IX_zip, IX_enum, xArgs_nil, xArgs_cons, xP_none, xP_some, iO_int, List.map_nil, List.map_cons, rE_val, rS_val, rI_val, rF_items, rE_exc, rS_exc, rI_exc, rF_exc, nxS_nx, nxS_ret, nxS_exc, nxS_brk, nxS_ct, lpS_nx, lpS_ct, lpS_brk, lpS_ret, lpS_exc,
    OX_some, OB_some, OB_map, OB_ite, ifO_bl, notO_bl, ifR_bl, get_shr, get_new, get_var, opd_shr, opd_new, own_zero, own_succ, ow_own, ow_io, upd_own, upd_io, upd_succ, so_shr, so_own, so_io, unO_shr, unO_new, unO_var, shO_shr, shO_new, shO_var', frz_own, setOk_un, setOk_shr, setOk_own, set_shr, set_new,
    xOwn_own, ret_shr, ret_new, ret_var, shrs_nil, shrs_cons, Option.map_some, gets_nil, gets_cons, split_nil, split_shr, split_var, sets_nil, sets_cons, tg_one, tg_many, callS_none, callS_some, xIo_some, xLst_some, xInt_some, oE_ret, oE_exc, two?, one?,
    List.cons_append, List.nil_append, List.replicate, List.getElem?_cons_zero, List.getElem?_cons_succ, List.set_cons_zero, List.set_cons_succ, List.length_cons, List.length_nil, Nat.zero_add, Nat.reduceAdd, Nat.reduceSub, Nat.reduceLeDiff, true_and, if_true, ite_true,
    ev_add, ev_sub, ev_fdiv, ev_mod, ev_pow18, ev_pow60, ev_pow5, ev_mul60, ev_mulA, ev_mulB, ev_neg, ev_lt, ev_le, ev_gt, ev_ge, ev_ixL, ev_ixT, ev_ixC, ev_ixS, ev_lenS, ev_lenL, ev_lenT, ev_lenC, ev_addS, ev_addL, ev_addT, ev_mulL, ev_max2, ev_min2, ev_slS, ev_slL, ev_slT, eqv_ii, nev_ii, Int.zero_add, ev_scr0, atI_nat0, atI_nat1, atI_nat2, ix20, ix21,
    Int.reduceLT, Int.reduceLE, Bool.false_eq_true, Bool.true_eq_false, false_implies, true_implies, implies_true, and_true, fnR_nx, fnR_ret, fnR_exc, ioOut, decide_eq_true_eq, decide_eq_false_iff_not, es, restE, Option.getD_some, h14, br]
      have hone : ∀ F, ((z.take (j + 1)).map (oneF l r ps bs reach m F ((E, K), cnt))).sum = ((z.take j).map (oneF l r ps bs reach m F ((E, K), cnt))).sum + oneF l r ps bs reach m F ((E, K), cnt) c := fun F => sum_take _ z j c hc
      refine ⟨fun hk => ?_, fun hk => ?_⟩
      · have hok : runOk l r ps reach m (E, K) c = true := hk
        have pl := put_len D2 (nextS ps bs reach (E, K) c) ((lookD D2 (nextS ps bs reach (E, K) c)).getD 0 + cnt)
        have ps' := put_st' D2 (ue bs (E ++ [c])) ((newK ps (E, K) c).take reach) ((lookD D2 (ue bs (E ++ [c]), (newK ps (E, K) c).take reach)).getD 0 + cnt) (by omega)
        simp -implicitDefEqProofs only [SX_seq, SX_if, SX_asg, SX_ret, SX_retN, SX_setL, SX_augL, SX_nil, SX_expr, SX_par, SX_unp, SX_raise, SX_brk, SX_ct, SX_for, EX_bin, EX_un, EX_var, EX_c, EX_and, EX_or, EX_not, EX_if, EX_lst, EX_tup, EX_callB, EX_call, EX_meth, EX_mut, EX_extend, EX_sl, EX_chain, EX_esh, EX_eun, EX_tru,
    IX_any, IX_range1, IX_range2, IX_zip, IX_enum, xArgs_nil, xArgs_cons, xP_none, xP_some, iO_int, List.map_nil, List.map_cons, rE_val, rS_val, rI_val, rF_items, rE_exc, rS_exc, rI_exc, rF_exc, nxS_nx, nxS_ret, nxS_exc, nxS_brk, nxS_ct, lpS_nx, lpS_ct, lpS_brk, lpS_ret, lpS_exc,
    OX_some, OB_some, OB_map, OB_ite, ifO_bl, notO_bl, ifR_bl, get_shr, get_new, get_var, opd_shr, opd_new, own_zero, own_succ, ow_own, ow_io, upd_own, upd_io, upd_succ, so_shr, so_own, so_io, unO_shr, unO_new, unO_var, shO_shr, shO_new, shO_var', frz_own, setOk_un, setOk_shr, setOk_own, set_shr, set_new,
    xOwn_own, ret_shr, ret_new, ret_var, shrs_nil, shrs_cons, Option.map_some, gets_nil, gets_cons, split_nil, split_shr, split_var, sets_nil, sets_cons, tg_one, tg_many, callS_none, callS_some, xIo_some, xLst_some, xInt_some, oE_ret, oE_exc, two?, one?,
    List.cons_append, List.nil_append, List.replicate, List.getElem?_cons_zero, List.getElem?_cons_succ, List.set_cons_zero, List.set_cons_succ, List.length_cons, List.length_nil, Nat.zero_add, Nat.reduceAdd, Nat.reduceSub, Nat.reduceLeDiff, true_and, if_true, ite_true,
    ev_add, ev_sub, ev_fdiv, ev_mod, ev_pow18, ev_pow60, ev_pow5, ev_mul60, ev_mulA, ev_mulB, ev_neg, ev_lt, ev_le, ev_gt, ev_ge, ev_ixL, ev_ixT, ev_ixC, ev_ixS, ev_lenS, ev_lenL, ev_lenT, ev_lenC, ev_addS, ev_addL, ev_addT, ev_mulL, ev_max2, ev_min2, ev_slS, ev_slL, ev_slT, eqv_ii, nev_ii, Int.zero_add, ev_scr0, atI_nat0, atI_nat1, atI_nat2, ix20, ix21,
    Int.reduceLT, Int.reduceLE, Bool.false_eq_true, Bool.true_eq_false, false_implies, true_implies, implies_true, and_true, fnR_nx, fnR_ret, fnR_exc, ioOut, decide_eq_true_eq, decide_eq_false_iff_not, uo, ct, tupleOf_l, h15, SX_setD, xD_st, sD_st, EX_getN, xDN_st, gN_st', ixN_st' D E K lk, ps']
        refine ⟨_, _, _, _, _, _, rfl, hD2.put ⟨hb _ (ue_mem h0 _), by rw [List.length_take]; omega⟩ _, Nat.le_trans pl (by omega), fun F => ?_, rfl, rfl, rfl, rfl, rfl⟩
        rw [hone F, ← Int.add_assoc, ← hs2 F]
        unfold oneF
        rw [if_pos hok]
        exact sum_put F (nextS ps bs reach (E, K) c) cnt D2 hD2.nd
      · have hok : ¬runOk l r ps reach m (E, K) c = true := by
          intro q
          have q : (!brkM l r (settle reach (newK ps (E, K) c)) m false) = true := q
          rw [hk] at q; cases q
        refine ⟨D2, _, _, _, _, s15, rfl, hD2, by omega, fun F => ?_, rfl, rfl, rfl, rfl, h15⟩
        rw [hone F, ← Int.add_assoc, ← hs2 F]
        unfold oneF
        rw [if_neg hok, Int.add_zero]
    · obtain ⟨D2, s11, s12, s13, s14, s15, rfl, hD2, hl2, hs2, h11, h12, h13, h14, h15⟩ := hI
      rw [List.length_map] at hl2 hs2
      refine ⟨D2, _, _, s11, s12, s13, s14, s15, rfl, hD2, by rw [Nat.succ_mul]; exact hl2, fun F => ?_, rfl, rfl, h11, h12, h13, h14, h15⟩
      rw [hs2 F, hs1 F, sum_take _ D i _ hd, List.take_length]
      rfl
  · obtain ⟨D1, s9, s10, s11, s12, s13, s14, s15, rfl, hD1, hl1, hs1, h9, h10, h11, h12, h13, h14, h15⟩ := hI
    rw [List.length_map] at hl1 hs1
    rw [List.take_length] at hs1
    simp -implicitDefEqProofs only [SX_seq, SX_if, SX_asg, SX_ret, SX_retN, SX_setL, SX_augL, SX_nil, SX_expr, SX_par, SX_unp, SX_raise, SX_brk, SX_ct, SX_for, EX_bin, EX_un, EX_var, EX_c, EX_and, EX_or, EX_not, EX_if, EX_lst, EX_tup, EX_callB, EX_call, EX_meth, EX_mut, EX_extend, EX_sl, EX_chain, EX_esh, EX_eun, EX_tru,
    IX_any, IX_range1, IX_range2, IX_zip, IX_enum, xArgs_nil, xArgs_cons, xP_none, xP_some, iO_int, List.map_nil, List.map_cons, rE_val, rS_val, rI_val, rF_items, rE_exc, rS_exc, rI_exc, rF_exc, nxS_nx, nxS_ret, nxS_exc, nxS_brk, nxS_ct, lpS_nx, lpS_ct, lpS_brk, lpS_ret, lpS_exc,
    OX_some, OB_some, OB_map, OB_ite, ifO_bl, notO_bl, ifR_bl, get_shr, get_new, get_var, opd_shr, opd_new, own_zero, own_succ, ow_own, ow_io, upd_own, upd_io, upd_succ, so_shr, so_own, so_io, unO_shr, unO_new, unO_var, shO_shr, shO_new, shO_var', frz_own, setOk_un, setOk_shr, setOk_own, set_shr, set_new,
    xOwn_own, ret_shr, ret_new, ret_var, shrs_nil, shrs_cons, Option.map_some, gets_nil, gets_cons, split_nil, split_shr, split_var, sets_nil, sets_cons, tg_one, tg_many, callS_none, callS_some, xIo_some, xLst_some, xInt_some, oE_ret, oE_exc, two?, one?,
    List.cons_append, List.nil_append, List.replicate, List.getElem?_cons_zero, List.getElem?_cons_succ, List.set_cons_zero, List.set_cons_succ, List.length_cons, List.length_nil, Nat.zero_add, Nat.reduceAdd, Nat.reduceSub, Nat.reduceLeDiff, true_and, if_true, ite_true,
    ev_add, ev_sub, ev_fdiv, ev_mod, ev_pow18, ev_pow60, ev_pow5, ev_mul60, ev_mulA, ev_mulB, ev_neg, ev_lt, ev_le, ev_gt, ev_ge, ev_ixL, ev_ixT, ev_ixC, ev_ixS, ev_lenS, ev_lenL, ev_lenT, ev_lenC, ev_addS, ev_addL, ev_addT, ev_mulL, ev_max2, ev_min2, ev_slS, ev_slL, ev_slT, eqv_ii, nev_ii, Int.zero_add, ev_scr0, atI_nat0, atI_nat1, atI_nat2, ix20, ix21,
    Int.reduceLT, Int.reduceLE, Bool.false_eq_true, Bool.true_eq_false, false_implies, true_implies, implies_true, and_true, fnR_nx, fnR_ret, fnR_exc, ioOut, decide_eq_true_eq, decide_eq_false_iff_not]
    exact ⟨D1, rfl, hD1, hl1, hs1⟩
end G

end
section
set_option Elab.async false
set_option linter.all false
set_option maxRecDepth 100000
set_option maxHeartbeats 4000000
set_option autoImplicit false
/-! M: count. -/
namespace G
open PySem L2 Lw
section
variable {f : EF} {env : Lw.Env} {QS : FRes → Lw.Env → Prop}
def augI (s : Option Slot) (k : Int → Prop) : Prop := match s with
  | some (.shr (.int a)) => k a
  | _ => False
theorem augI_some {a : Int} {k : Int → Prop} : augI (some (.shr (.int a))) k = k a := rfl
theorem SX_aug {i : Nat} {g : Int → Int → Int} : OX (sAug i g f env) QS = augI env[i]? fun a => OX (f env) (rS QS fun o e => xInt (o.get e) fun b => OB (setSlot e i (.shr (.int (g a b)))) fun e => QS .nx e) := by
  unfold sAug augI
  cases env[i]? with
  | none => rfl
  | some s =>
    cases s with
    | shr v =>
      cases v with
      | int a =>
        dsimp only
        rw [SX_bind]
        congr; funext o e
        cases o.get e with
        | none => rfl
        | some v =>
          cases v with
          | int b => dsimp only; rw [OX_mapnx, xInt_some]
          | _ => rfl
      | _ => rfl
    | _ => rfl
end
/-! letters -/
structure LT (z : List Nat) : Prop where
  nd : z.Nodup
  lt : lets z
  n1 : 1 ≤ z.length
  n4 : z.length ≤ 4
theorem single_nodup : ∀ {z : List Nat}, z.Nodup → (z.map fun c => [c]).Nodup
  | [], _ => List.nodup_nil
  | c :: z, h => by
    obtain ⟨h1, h2⟩ := List.nodup_cons.mp h
    rw [List.map_cons]
    refine List.nodup_cons.mpr ⟨fun hm => ?_, single_nodup h2⟩
    obtain ⟨d, hd, e⟩ := List.mem_map.mp hm
    injection e with e _
    exact h1 (e ▸ hd)
theorem lenSet_str {z : List Nat} (h : LT z) : oLenSet (.str z) = some (.shr (.int (z.length : Nat))) := by
  show (if z.all (fun c => decide (c < 128)) = true ∧ z.length ≤ 4000 then some (RV.shr (.int (uniqN (z.map fun c => [c])))) else none) = _
  rw [if_pos ⟨List.all_eq_true.mpr fun c hc => decide_eq_true (by have := h.lt c hc; unfold isLet at this; omega), by have := h.n4; omega⟩]
  have := puts_nodup (z.map fun c => [c]) [] (fun _ _ h => by cases h) (single_nodup h.nd)
  unfold uniqN
  rw [this, List.length_map]; simp
theorem letters_ok {z : List Nat} (h : LT z) : fn_is_letters [.shr (.str z)] = some (.ret (.shr (.bl true)), [.un]) := by
  apply OX_det
  unfold fn_is_letters g_is_letters
  refine FX_run rfl ?_
  have h4 := h.n4
  have h1 := h.n1
  have l16 : z.length ≤ 16000000 := by omega
  have d1 : decide ((1 : Int) ≤ (z.length : Int)) = true := decide_eq_true (by omega)
  have d2 : decide ((z.length : Int) ≤ 4) = true := decide_eq_true (by omega)
  have al : oAll [.lst (z.map fun _ => .bl true)] = some (.shr (.bl true)) := by rw [all_bls z fun _ => true]; simp
  have ls := lenSet_str h
  simp -implicitDefEqProofs only [SX_seq, SX_if, SX_asg, SX_ret, SX_retN, SX_setL, SX_augL, SX_nil, SX_expr, SX_par, SX_unp, SX_raise, SX_brk, SX_ct, SX_for, EX_bin, EX_un, EX_var, EX_c, EX_and, EX_or, EX_not, EX_if, EX_lst, EX_tup, EX_callB, EX_call, EX_meth, EX_mut, EX_extend, EX_sl, EX_chain, EX_esh, EX_eun, EX_tru,
    IX_any, IX_range1, IX_range2, IX_zip, IX_enum, xArgs_nil, xArgs_cons, xP_none, xP_some, iO_int, List.map_nil, List.map_cons, rE_val, rS_val, rI_val, rF_items, rE_exc, rS_exc, rI_exc, rF_exc, nxS_nx, nxS_ret, nxS_exc, nxS_brk, nxS_ct, lpS_nx, lpS_ct, lpS_brk, lpS_ret, lpS_exc,
    OX_some, OB_some, OB_map, OB_ite, ifO_bl, notO_bl, ifR_bl, get_shr, get_new, get_var, opd_shr, opd_new, own_zero, own_succ, ow_own, ow_io, upd_own, upd_io, upd_succ, so_shr, so_own, so_io, unO_shr, unO_new, unO_var, shO_shr, shO_new, shO_var', frz_own, setOk_un, setOk_shr, setOk_own, set_shr, set_new,
    xOwn_own, ret_shr, ret_new, ret_var, shrs_nil, shrs_cons, Option.map_some, gets_nil, gets_cons, split_nil, split_shr, split_var, sets_nil, sets_cons, tg_one, tg_many, callS_none, callS_some, xIo_some, xLst_some, xInt_some, oE_ret, oE_exc, two?, one?,
    List.cons_append, List.nil_append, List.replicate, List.getElem?_cons_zero, List.getElem?_cons_succ, List.set_cons_zero, List.set_cons_succ, List.length_cons, List.length_nil, Nat.zero_add, Nat.reduceAdd, Nat.reduceSub, Nat.reduceLeDiff, true_and, if_true, ite_true,
    ev_add, ev_sub, ev_fdiv, ev_mod, ev_pow18, ev_pow60, ev_pow5, ev_mul60, ev_mulA, ev_mulB, ev_neg, ev_lt, ev_le, ev_gt, ev_ge, ev_ixL, ev_ixT, ev_ixC, ev_ixS, ev_lenS, ev_lenL, ev_lenT, ev_lenC, ev_addS, ev_addL, ev_addT, ev_mulL, ev_max2, ev_min2, ev_slS, ev_slL, ev_slT, eqv_ii, nev_ii, Int.zero_add, ev_scr0, atI_nat0, atI_nat1, atI_nat2, ix20, ix21,
    Int.reduceLT, Int.reduceLE, Bool.false_eq_true, Bool.true_eq_false, false_implies, true_implies, implies_true, and_true, fnR_nx, fnR_ret, fnR_exc, ioOut, decide_eq_true_eq, decide_eq_false_iff_not, isi_ss, EX_lc, itS, wipe?, plainAt, plainS, wipeE, List.all_cons, List.all_nil, Bool.and_self, tyOf, EX_yes, restE, Option.getD_some, l16, d1, d2, Bool.true_eq_false, Bool.not_true]
  refine LC_pure (xs := z) (fun c => some (.bl true)) l16 (fun c hc => ?_) ?_
  · have hl : decide (c ∈ ([97, 98, 99, 100, 101, 102, 103, 104, 105, 106, 107, 108, 109, 110, 111, 112, 113, 114, 115, 116, 117, 118, 119, 120, 121, 122] : List Nat)) = true := decide_eq_true (let_LL (h.lt c hc)).1
    simp -implicitDefEqProofs only [SX_seq, SX_if, SX_asg, SX_ret, SX_retN, SX_setL, SX_augL, SX_nil, SX_expr, SX_par, SX_unp, SX_raise, SX_brk, SX_ct, SX_for, EX_bin, EX_un, EX_var, EX_c, EX_and, EX_or, EX_not, EX_if, EX_lst, EX_tup, EX_callB, EX_call, EX_meth, EX_mut, EX_extend, EX_sl, EX_chain, EX_esh, EX_eun, EX_tru,
    IX_any, IX_range1, IX_range2, IX_zip, IX_enum, xArgs_nil, xArgs_cons, xP_none, xP_some, iO_int, List.map_nil, List.map_cons, rE_val, rS_val, rI_val, rF_items, rE_exc, rS_exc, rI_exc, rF_exc, nxS_nx, nxS_ret, nxS_exc, nxS_brk, nxS_ct, lpS_nx, lpS_ct, lpS_brk, lpS_ret, lpS_exc,
    OX_some, OB_some, OB_map, OB_ite, ifO_bl, notO_bl, ifR_bl, get_shr, get_new, get_var, opd_shr, opd_new, own_zero, own_succ, ow_own, ow_io, upd_own, upd_io, upd_succ, so_shr, so_own, so_io, unO_shr, unO_new, unO_var, shO_shr, shO_new, shO_var', frz_own, setOk_un, setOk_shr, setOk_own, set_shr, set_new,
    xOwn_own, ret_shr, ret_new, ret_var, shrs_nil, shrs_cons, Option.map_some, gets_nil, gets_cons, split_nil, split_shr, split_var, sets_nil, sets_cons, tg_one, tg_many, callS_none, callS_some, xIo_some, xLst_some, xInt_some, oE_ret, oE_exc, two?, one?,
    List.cons_append, List.nil_append, List.replicate, List.getElem?_cons_zero, List.getElem?_cons_succ, List.set_cons_zero, List.set_cons_succ, List.length_cons, List.length_nil, Nat.zero_add, Nat.reduceAdd, Nat.reduceSub, Nat.reduceLeDiff, true_and, if_true, ite_true,
    ev_add, ev_sub, ev_fdiv, ev_mod, ev_pow18, ev_pow60, ev_pow5, ev_mul60, ev_mulA, ev_mulB, ev_neg, ev_lt, ev_le, ev_gt, ev_ge, ev_ixL, ev_ixT, ev_ixC, ev_ixS, ev_lenS, ev_lenL, ev_lenT, ev_lenC, ev_addS, ev_addL, ev_addT, ev_mulL, ev_max2, ev_min2, ev_slS, ev_slL, ev_slT, eqv_ii, nev_ii, Int.zero_add, ev_scr0, atI_nat0, atI_nat1, atI_nat2, ix20, ix21,
    Int.reduceLT, Int.reduceLE, Bool.false_eq_true, Bool.true_eq_false, false_implies, true_implies, implies_true, and_true, fnR_nx, fnR_ret, fnR_exc, ioOut, decide_eq_true_eq, decide_eq_false_iff_not, EX_yes, inS, hl]
    exact ⟨_, rfl, fun _ => ⟨_, rfl, rfl, rfl⟩, (fun q => by cases q)⟩
  rw [fm_some]
  refine ⟨rfl, ?_⟩
  simp -implicitDefEqProofs only [SX_seq, SX_if, SX_asg, SX_ret, SX_retN, SX_setL, SX_augL, SX_nil, SX_expr, SX_par, SX_unp, SX_raise, SX_brk, SX_ct, SX_for, EX_bin, EX_un, EX_var, EX_c, EX_and, EX_or, EX_not, EX_if, EX_lst, EX_tup, EX_callB, EX_call, EX_meth, EX_mut, EX_extend, EX_sl, EX_chain, EX_esh, EX_eun, EX_tru,
    IX_any, IX_range1, IX_range2, IX_zip, IX_enum, xArgs_nil, xArgs_cons, xP_none, xP_some, iO_int, List.map_nil, List.map_cons, rE_val, rS_val, rI_val, rF_items, rE_exc, rS_exc, rI_exc, rF_exc, nxS_nx, nxS_ret, nxS_exc, nxS_brk, nxS_ct, lpS_nx, lpS_ct, lpS_brk, lpS_ret, lpS_exc,
    OX_some, OB_some, OB_map, OB_ite, ifO_bl, notO_bl, ifR_bl, get_shr, get_new, get_var, opd_shr, opd_new, own_zero, own_succ, ow_own, ow_io, upd_own, upd_io, upd_succ, so_shr, so_own, so_io, unO_shr, unO_new, unO_var, shO_shr, shO_new, shO_var', frz_own, setOk_un, setOk_shr, setOk_own, set_shr, set_new,
    xOwn_own, ret_shr, ret_new, ret_var, shrs_nil, shrs_cons, Option.map_some, gets_nil, gets_cons, split_nil, split_shr, split_var, sets_nil, sets_cons, tg_one, tg_many, callS_none, callS_some, xIo_some, xLst_some, xInt_some, oE_ret, oE_exc, two?, one?,
    List.cons_append, List.nil_append, List.replicate, List.getElem?_cons_zero, List.getElem?_cons_succ, List.set_cons_zero, List.set_cons_succ, List.length_cons, List.length_nil, Nat.zero_add, Nat.reduceAdd, Nat.reduceSub, Nat.reduceLeDiff, true_and, if_true, ite_true,
    ev_add, ev_sub, ev_fdiv, ev_mod, ev_pow18, ev_pow60, ev_pow5, ev_mul60, ev_mulA, ev_mulB, ev_neg, ev_lt, ev_le, ev_gt, ev_ge, ev_ixL, ev_ixT, ev_ixC, ev_ixS, ev_lenS, ev_lenL, ev_lenT, ev_lenC, ev_addS, ev_addL, ev_addT, ev_mulL, ev_max2, ev_min2, ev_slS, ev_slL, ev_slT, eqv_ii, nev_ii, Int.zero_add, ev_scr0, atI_nat0, atI_nat1, atI_nat2, ix20, ix21,
    Int.reduceLT, Int.reduceLE, Bool.false_eq_true, Bool.true_eq_false, false_implies, true_implies, implies_true, and_true, fnR_nx, fnR_ret, fnR_exc, ioOut, decide_eq_true_eq, decide_eq_false_iff_not, al, EX_lenSet, ls, l16, Bool.not_true, Bool.true_eq_false, decide_true, and_self]
/-! what patterns begin with; how far they reach -/
def addAll (q : List Nat) (bs : List (List Nat)) (n : Nat) : List (List Nat) := (List.range n).foldl (fun bs i => addB bs (q.take i)) bs
def begM (ps : List (List Nat)) : List (List Nat) := ps.foldl (fun bs p => addAll (charsM p) bs ((charsM p).length + 1)) [[]]
theorem mem_addB {bs : List (List Nat)} {z x : List Nat} : x ∈ addB bs z ↔ x ∈ bs ∨ x = z := by
  unfold addB
  split
  · rename_i h
    exact ⟨.inl, fun q => q.elim id fun e => e ▸ h⟩
  · rw [List.mem_append, List.mem_singleton]
theorem addB_len (bs : List (List Nat)) (z : List Nat) : (addB bs z).length ≤ bs.length + 1 := by
  unfold addB
  split
  · omega
  · rw [List.length_append]; exact Nat.le_refl _
theorem addAll_succ (q : List Nat) (bs : List (List Nat)) (n : Nat) : addAll q bs (n + 1) = addB (addAll q bs n) (q.take n) := by
  unfold addAll
  rw [List.range_succ, List.foldl_append]; rfl
theorem mem_addAll {q x : List Nat} {bs : List (List Nat)} : ∀ {n : Nat}, x ∈ addAll q bs n ↔ x ∈ bs ∨ ∃ i, i < n ∧ x = q.take i
  | 0 => ⟨.inl, fun h => h.elim id fun ⟨i, h, _⟩ => absurd h (Nat.not_lt_zero _)⟩
  | n + 1 => by
    rw [addAll_succ, mem_addB, mem_addAll (n := n)]
    constructor
    · rintro ((h | ⟨i, h, e⟩) | e)
      · exact .inl h
      · exact .inr ⟨i, by omega, e⟩
      · exact .inr ⟨n, by omega, e⟩
    · rintro (h | ⟨i, h, e⟩)
      · exact .inl (.inl h)
      · by_cases q : i = n
        · subst q; exact .inr e
        · exact .inl (.inr ⟨i, by omega, e⟩)
theorem addAll_len (q : List Nat) (bs : List (List Nat)) : ∀ n, (addAll q bs n).length ≤ bs.length + n
  | 0 => Nat.le_refl _
  | n + 1 => by
    rw [addAll_succ]
    have := addB_len (addAll q bs n) (q.take n)
    have := addAll_len q bs n
    omega
theorem beg_go {x : List Nat} : ∀ (ps bs : List (List Nat)), x ∈ ps.foldl (fun bs p => addAll (charsM p) bs ((charsM p).length + 1)) bs ↔ x ∈ bs ∨ ∃ p ∈ ps, x <+: charsM p
  | [], bs => ⟨.inl, fun h => h.elim id fun ⟨p, h, _⟩ => nomatch h⟩
  | p :: ps, bs => by
    rw [List.foldl_cons, beg_go ps, mem_addAll]
    have e : (∃ i, i < (charsM p).length + 1 ∧ x = (charsM p).take i) ↔ x <+: charsM p := by
      constructor
      · rintro ⟨i, _, rfl⟩
        exact List.take_prefix _ _
      · intro h
        exact ⟨x.length, by have := h.length_le; omega, List.prefix_iff_eq_take.mp h⟩
    rw [e]
    constructor
    · rintro ((h | h) | ⟨p', h, h'⟩)
      · exact .inl h
      · exact .inr ⟨p, List.mem_cons_self .., h⟩
      · exact .inr ⟨p', List.mem_cons_of_mem _ h, h'⟩
    · rintro (h | ⟨p', h, h'⟩)
      · exact .inl (.inl h)
      · rcases List.mem_cons.mp h with rfl | h
        · exact .inl (.inr h')
        · exact .inr ⟨p', h, h'⟩
theorem mem_beg {ps : List (List Nat)} {x : List Nat} : x ∈ begM ps ↔ x = [] ∨ ∃ p ∈ ps, x <+: charsM p := by
  unfold begM
  rw [beg_go, List.mem_singleton]
def reachM (ps : List (List Nat)) (r : Int) : Nat := (ps.map fun p => (charsM p).length).foldr max r.toNat + 1
theorem reach_max (r : Int) (h : 0 ≤ r) : ∀ ps : List (List Nat), maxL ((ps.map fun p => ((charsM p).length : Int)) ++ [r]) = some ((reachM ps r : Nat) - 1 : Int)
  | [] => by
    show some r = some _
    unfold reachM
    congr 1
    show r = ((r.toNat + 1 : Nat) : Int) - 1
    omega
  | p :: ps => by
    have ih := reach_max r h ps
    have e : maxL (((p :: ps).map fun p => ((charsM p).length : Int)) ++ [r]) = (maxL ((ps.map fun p => ((charsM p).length : Int)) ++ [r])).map fun y => max ((charsM p).length : Int) y := by
      rw [List.map_cons, List.cons_append]
      cases ps with
      | nil => rfl
      | cons a b => rfl
    rw [e, ih]
    unfold reachM
    rw [List.map_cons, List.foldr_cons]
    show some (max _ _) = some _
    congr 1
    omega
theorem reach_ge {ps : List (List Nat)} {r : Int} : (∀ p ∈ ps, (charsM p).length + 1 ≤ reachM ps r) ∧ r + 1 ≤ (reachM ps r : Nat) := by
  unfold reachM
  induction ps with
  | nil => exact ⟨(fun p h => nomatch h), by show r + 1 ≤ ((r.toNat + 1 : Nat) : Int); omega⟩
  | cons p ps ih =>
    obtain ⟨h1, h2⟩ := ih
    rw [List.map_cons, List.foldr_cons]
    refine ⟨fun q hq => ?_, by omega⟩
    rcases List.mem_cons.mp hq with rfl | hq
    · omega
    · have := h1 q hq; omega
theorem reach_le {ps : List (List Nat)} {r : Int} {k : Nat} (hr : r ≤ k) (hp : ∀ p ∈ ps, (charsM p).length ≤ k) : reachM ps r ≤ k + 1 := by
  unfold reachM
  induction ps with
  | nil => show r.toNat + 1 ≤ k + 1; omega
  | cons p ps ih =>
    rw [List.map_cons, List.foldr_cons]
    have := ih fun q hq => hp q (List.mem_cons_of_mem _ hq)
    have := hp p (List.mem_cons_self ..)
    omega
/-! what the loop over the letters adds up -/
def opF (l r : Int) (ps bs : List (List Nat)) (reach : Nat) (z : List Nat) (m : Int) (F : Sta → Int) (s : Sta) : Int := (z.map fun c => if runOk l r ps reach m s c = true then F (nextS ps bs reach s c) else 0).sum
def itF (l r : Int) (ps bs : List (List Nat)) (reach : Nat) (z : List Nat) : Nat → (Sta → Int) → Sta → Int
  | 0, F => F
  | n + 1, F => itF l r ps bs reach z n (opF l r ps bs reach z ((n + 1 : Nat) : Int) F)
theorem mul_sum {α : Type} (k : Int) (f : α → Int) : ∀ xs : List α, (xs.map fun x => k * f x).sum = k * (xs.map f).sum
  | [] => by simp
  | x :: xs => by rw [List.map_cons, List.sum_cons, mul_sum k f xs, List.map_cons, List.sum_cons, Int.mul_add]
theorem all_op (l r : Int) (ps bs : List (List Nat)) (reach : Nat) (m : Int) (z : List Nat) (F : Sta → Int) (d : Sta × Int) : allF l r ps bs reach m z F d = d.2 * opF l r ps bs reach z m F d.1 := by
  unfold allF opF
  rw [← mul_sum]
  congr 1
  apply List.map_congr_left
  intro c _
  unfold oneF
  split
  · rfl
  · rw [Int.mul_zero]
def finF (l r : Int) (ps : List (List Nat)) (reach : Nat) (n : Int) (s : Sta) : Int := if brkM l r (newK ps s 46) n true = true then 0 else 1
def s0M (bs : List (List Nat)) : Sta := (ue bs [46], [0])
def cntM (ps : List (List Nat)) (l r : Int) (z : List Nat) (n : Nat) : Int := itF l r ps (begM ps) (reachM ps r) z n (finF l r ps (reachM ps r) n) (s0M (begM ps))
theorem xD_str {bs : List (List Nat)} {k : Prop} : xD (some (strD bs)) k = k := rfl
theorem sD_str {QS : FRes → Lw.Env → Prop} {e : Lw.Env} {st : Val → Val → Val → Option Val} {i : Nat} {bs : List (List Nat)} {v q : Val} : sD st QS i e (some (strD bs)) (.shr v) (.shr q) = OB (st (strD bs) q v) fun d1 => QS .nx (updOwn e i d1) := rfl
theorem VP.c16 {p : List Nat} (h : VP p) : 1 ≤ (charsM p).length ∧ (charsM p).length ≤ 6 := by
  obtain ⟨_, _, _, h⟩ := h
  have := h.clen
  have := h.c1
  have := h.c4
  have := h.l1
  have := h.l2
  omega
theorem cnt_ok {ps : List (List Nat)} {l r : Int} (h : VR ps l r) {z : List Nat} (hz : LT z) {n : Nat} (n1 : 1 ≤ n) (n12 : n ≤ 12) : fn_count [.shr (rulesV ps l r), .shr (.str z), .shr (.int (n : Nat))] = some (.ret (.shr (.int (cntM ps l r z n))), [.un, .un, .un]) := by
  apply OX_det
  unfold fn_count g_count
  refine FX_run rfl ?_
  have nr := need_rules_ok h
  have n6 := h.n6
  have d1 : decide ((1 : Int) ≤ (n : Int)) = true := decide_eq_true (by omega)
  have d2 : decide ((n : Int) ≤ 12) = true := decide_eq_true (by omega)
  unfold rulesV at nr ⊢
  simp -implicitDefEqProofs only [SX_seq, SX_if, SX_asg, SX_ret, SX_retN, SX_setL, SX_augL, SX_nil, SX_expr, SX_par, SX_unp, SX_raise, SX_brk, SX_ct, SX_for, EX_bin, EX_un, EX_var, EX_c, EX_and, EX_or, EX_not, EX_if, EX_lst, EX_tup, EX_callB, EX_call, EX_meth, EX_mut, EX_extend, EX_sl, EX_chain, EX_esh, EX_eun, EX_tru,
    IX_any, IX_range1, IX_range2, IX_zip, IX_enum, xArgs_nil, xArgs_cons, xP_none, xP_some, iO_int, List.map_nil, List.map_cons, rE_val, rS_val, rI_val, rF_items, rE_exc, rS_exc, rI_exc, rF_exc, nxS_nx, nxS_ret, nxS_exc, nxS_brk, nxS_ct, lpS_nx, lpS_ct, lpS_brk, lpS_ret, lpS_exc,
    OX_some, OB_some, OB_map, OB_ite, ifO_bl, notO_bl, ifR_bl, get_shr, get_new, get_var, opd_shr, opd_new, own_zero, own_succ, ow_own, ow_io, upd_own, upd_io, upd_succ, so_shr, so_own, so_io, unO_shr, unO_new, unO_var, shO_shr, shO_new, shO_var', frz_own, setOk_un, setOk_shr, setOk_own, set_shr, set_new,
    xOwn_own, ret_shr, ret_new, ret_var, shrs_nil, shrs_cons, Option.map_some, gets_nil, gets_cons, split_nil, split_shr, split_var, sets_nil, sets_cons, tg_one, tg_many, callS_none, callS_some, xIo_some, xLst_some, xInt_some, oE_ret, oE_exc, two?, one?,
    List.cons_append, List.nil_append, List.replicate, List.getElem?_cons_zero, List.getElem?_cons_succ, List.set_cons_zero, List.set_cons_succ, List.length_cons, List.length_nil, Nat.zero_add, Nat.reduceAdd, Nat.reduceSub, Nat.reduceLeDiff, true_and, if_true, ite_true,
    ev_add, ev_sub, ev_fdiv, ev_mod, ev_pow18, ev_pow60, ev_pow5, ev_mul60, ev_mulA, ev_mulB, ev_neg, ev_lt, ev_le, ev_gt, ev_ge, ev_ixL, ev_ixT, ev_ixC, ev_ixS, ev_lenS, ev_lenL, ev_lenT, ev_lenC, ev_addS, ev_addL, ev_addT, ev_mulL, ev_max2, ev_min2, ev_slS, ev_slL, ev_slT, eqv_ii, nev_ii, Int.zero_add, ev_scr0, atI_nat0, atI_nat1, atI_nat2, ix20, ix21,
    Int.reduceLT, Int.reduceLE, Bool.false_eq_true, Bool.true_eq_false, false_implies, true_implies, implies_true, and_true, fnR_nx, fnR_ret, fnR_exc, ioOut, decide_eq_true_eq, decide_eq_false_iff_not, nr, letters_ok hz, count_ok, d1, d2, Bool.and_self, Bool.not_true, Bool.true_eq_false, EX_lc, itT, wipe?, plainAt, plainS, wipeE, List.all_cons, List.all_nil]
  refine LC_pure (xs := ps) (fun p => some (partV p)) (by omega) (fun p hp => ?_) ?_
  · have hl := (h.vp p hp).len
    simp -implicitDefEqProofs only [SX_seq, SX_if, SX_asg, SX_ret, SX_retN, SX_setL, SX_augL, SX_nil, SX_expr, SX_par, SX_unp, SX_raise, SX_brk, SX_ct, SX_for, EX_bin, EX_un, EX_var, EX_c, EX_and, EX_or, EX_not, EX_if, EX_lst, EX_tup, EX_callB, EX_call, EX_meth, EX_mut, EX_extend, EX_sl, EX_chain, EX_esh, EX_eun, EX_tru,
    IX_any, IX_range1, IX_range2, IX_zip, IX_enum, xArgs_nil, xArgs_cons, xP_none, xP_some, iO_int, List.map_nil, List.map_cons, rE_val, rS_val, rI_val, rF_items, rE_exc, rS_exc, rI_exc, rF_exc, nxS_nx, nxS_ret, nxS_exc, nxS_brk, nxS_ct, lpS_nx, lpS_ct, lpS_brk, lpS_ret, lpS_exc,
    OX_some, OB_some, OB_map, OB_ite, ifO_bl, notO_bl, ifR_bl, get_shr, get_new, get_var, opd_shr, opd_new, own_zero, own_succ, ow_own, ow_io, upd_own, upd_io, upd_succ, so_shr, so_own, so_io, unO_shr, unO_new, unO_var, shO_shr, shO_new, shO_var', frz_own, setOk_un, setOk_shr, setOk_own, set_shr, set_new,
    xOwn_own, ret_shr, ret_new, ret_var, shrs_nil, shrs_cons, Option.map_some, gets_nil, gets_cons, split_nil, split_shr, split_var, sets_nil, sets_cons, tg_one, tg_many, callS_none, callS_some, xIo_some, xLst_some, xInt_some, oE_ret, oE_exc, two?, one?,
    List.cons_append, List.nil_append, List.replicate, List.getElem?_cons_zero, List.getElem?_cons_succ, List.set_cons_zero, List.set_cons_succ, List.length_cons, List.length_nil, Nat.zero_add, Nat.reduceAdd, Nat.reduceSub, Nat.reduceLeDiff, true_and, if_true, ite_true,
    ev_add, ev_sub, ev_fdiv, ev_mod, ev_pow18, ev_pow60, ev_pow5, ev_mul60, ev_mulA, ev_mulB, ev_neg, ev_lt, ev_le, ev_gt, ev_ge, ev_ixL, ev_ixT, ev_ixC, ev_ixS, ev_lenS, ev_lenL, ev_lenT, ev_lenC, ev_addS, ev_addL, ev_addT, ev_mulL, ev_max2, ev_min2, ev_slS, ev_slL, ev_slT, eqv_ii, nev_ii, Int.zero_add, ev_scr0, atI_nat0, atI_nat1, atI_nat2, ix20, ix21,
    Int.reduceLT, Int.reduceLE, Bool.false_eq_true, Bool.true_eq_false, false_implies, true_implies, implies_true, and_true, fnR_nx, fnR_ret, fnR_exc, ioOut, decide_eq_true_eq, decide_eq_false_iff_not, EX_yes, chars_ok p (by omega), digits_ok p (by omega)]
    exact ⟨_, rfl, fun _ => ⟨_, rfl, rfl, rfl⟩, (fun q => by cases q)⟩
  rw [fm_some]
  refine ⟨rfl, ?_⟩
  simp -implicitDefEqProofs only [SX_seq, SX_if, SX_asg, SX_ret, SX_retN, SX_setL, SX_augL, SX_nil, SX_expr, SX_par, SX_unp, SX_raise, SX_brk, SX_ct, SX_for, EX_bin, EX_un, EX_var, EX_c, EX_and, EX_or, EX_not, EX_if, EX_lst, EX_tup, EX_callB, EX_call, EX_meth, EX_mut, EX_extend, EX_sl, EX_chain, EX_esh, EX_eun, EX_tru,
    IX_any, IX_range1, IX_range2, IX_zip, IX_enum, xArgs_nil, xArgs_cons, xP_none, xP_some, iO_int, List.map_nil, List.map_cons, rE_val, rS_val, rI_val, rF_items, rE_exc, rS_exc, rI_exc, rF_exc, nxS_nx, nxS_ret, nxS_exc, nxS_brk, nxS_ct, lpS_nx, lpS_ct, lpS_brk, lpS_ret, lpS_exc,
    OX_some, OB_some, OB_map, OB_ite, ifO_bl, notO_bl, ifR_bl, get_shr, get_new, get_var, opd_shr, opd_new, own_zero, own_succ, ow_own, ow_io, upd_own, upd_io, upd_succ, so_shr, so_own, so_io, unO_shr, unO_new, unO_var, shO_shr, shO_new, shO_var', frz_own, setOk_un, setOk_shr, setOk_own, set_shr, set_new,
    xOwn_own, ret_shr, ret_new, ret_var, shrs_nil, shrs_cons, Option.map_some, gets_nil, gets_cons, split_nil, split_shr, split_var, sets_nil, sets_cons, tg_one, tg_many, callS_none, callS_some, xIo_some, xLst_some, xInt_some, oE_ret, oE_exc, two?, one?,
    List.cons_append, List.nil_append, List.replicate, List.getElem?_cons_zero, List.getElem?_cons_succ, List.set_cons_zero, List.set_cons_succ, List.length_cons, List.length_nil, Nat.zero_add, Nat.reduceAdd, Nat.reduceSub, Nat.reduceLeDiff, true_and, if_true, ite_true,
    ev_add, ev_sub, ev_fdiv, ev_mod, ev_pow18, ev_pow60, ev_pow5, ev_mul60, ev_mulA, ev_mulB, ev_neg, ev_lt, ev_le, ev_gt, ev_ge, ev_ixL, ev_ixT, ev_ixC, ev_ixS, ev_lenS, ev_lenL, ev_lenT, ev_lenC, ev_addS, ev_addL, ev_addT, ev_mulL, ev_max2, ev_min2, ev_slS, ev_slL, ev_slT, eqv_ii, nev_ii, Int.zero_add, ev_scr0, atI_nat0, atI_nat1, atI_nat2, ix20, ix21,
    Int.reduceLT, Int.reduceLE, Bool.false_eq_true, Bool.true_eq_false, false_implies, true_implies, implies_true, and_true, fnR_nx, fnR_ret, fnR_exc, ioOut, decide_eq_true_eq, decide_eq_false_iff_not, restE, Option.getD_some, EX_lc, itL, wipe?, plainAt, plainS, wipeE, List.all_cons, List.all_nil, Bool.and_self]
  refine LC_pure (xs := ps) (fun p => some (.int ((charsM p).length : Nat))) (by omega) (fun p hp => ?_) ?_
  · have hl := (h.vp p hp).c16
    have l16 : (charsM p).length ≤ 16000000 := by omega
    simp -implicitDefEqProofs only [SX_seq, SX_if, SX_asg, SX_ret, SX_retN, SX_setL, SX_augL, SX_nil, SX_expr, SX_par, SX_unp, SX_raise, SX_brk, SX_ct, SX_for, EX_bin, EX_un, EX_var, EX_c, EX_and, EX_or, EX_not, EX_if, EX_lst, EX_tup, EX_callB, EX_call, EX_meth, EX_mut, EX_extend, EX_sl, EX_chain, EX_esh, EX_eun, EX_tru,
    IX_any, IX_range1, IX_range2, IX_zip, IX_enum, xArgs_nil, xArgs_cons, xP_none, xP_some, iO_int, List.map_nil, List.map_cons, rE_val, rS_val, rI_val, rF_items, rE_exc, rS_exc, rI_exc, rF_exc, nxS_nx, nxS_ret, nxS_exc, nxS_brk, nxS_ct, lpS_nx, lpS_ct, lpS_brk, lpS_ret, lpS_exc,
    OX_some, OB_some, OB_map, OB_ite, ifO_bl, notO_bl, ifR_bl, get_shr, get_new, get_var, opd_shr, opd_new, own_zero, own_succ, ow_own, ow_io, upd_own, upd_io, upd_succ, so_shr, so_own, so_io, unO_shr, unO_new, unO_var, shO_shr, shO_new, shO_var', frz_own, setOk_un, setOk_shr, setOk_own, set_shr, set_new,
    xOwn_own, ret_shr, ret_new, ret_var, shrs_nil, shrs_cons, Option.map_some, gets_nil, gets_cons, split_nil, split_shr, split_var, sets_nil, sets_cons, tg_one, tg_many, callS_none, callS_some, xIo_some, xLst_some, xInt_some, oE_ret, oE_exc, two?, one?,
    List.cons_append, List.nil_append, List.replicate, List.getElem?_cons_zero, List.getElem?_cons_succ, List.set_cons_zero, List.set_cons_succ, List.length_cons, List.length_nil, Nat.zero_add, Nat.reduceAdd, Nat.reduceSub, Nat.reduceLeDiff, true_and, if_true, ite_true,
    ev_add, ev_sub, ev_fdiv, ev_mod, ev_pow18, ev_pow60, ev_pow5, ev_mul60, ev_mulA, ev_mulB, ev_neg, ev_lt, ev_le, ev_gt, ev_ge, ev_ixL, ev_ixT, ev_ixC, ev_ixS, ev_lenS, ev_lenL, ev_lenT, ev_lenC, ev_addS, ev_addL, ev_addT, ev_mulL, ev_max2, ev_min2, ev_slS, ev_slL, ev_slT, eqv_ii, nev_ii, Int.zero_add, ev_scr0, atI_nat0, atI_nat1, atI_nat2, ix20, ix21,
    Int.reduceLT, Int.reduceLE, Bool.false_eq_true, Bool.true_eq_false, false_implies, true_implies, implies_true, and_true, fnR_nx, fnR_ret, fnR_exc, ioOut, decide_eq_true_eq, decide_eq_false_iff_not, EX_yes, partV, l16]
    exact ⟨_, rfl, fun _ => ⟨_, rfl, rfl, rfl⟩, (fun q => by cases q)⟩
  rw [fm_some]
  refine ⟨rfl, ?_⟩
  have rm := reach_max r (by have := h.r1; omega) ps
  have om : oMax [.lst ((ps.map fun p => Val.int ((charsM p).length : Nat)) ++ [.int r])] = some (.shr (.int ((reachM ps r : Nat) - 1 : Int))) := by
    have e : ((ps.map fun p => Val.int ((charsM p).length : Nat)) ++ [.int r]) = ((ps.map fun p => ((charsM p).length : Int)) ++ [r]).map Val.int := by
      rw [List.map_append, List.map_map]; rfl
    rw [e]
    show (match ints? _ with
      | some ns => (maxL ns).map fun m => RV.shr (.int m)
      | none => none) = _
    rw [ints_map]
    dsimp only
    rw [rm]; rfl
  have l16 : ps.length + 1 ≤ 16000000 := by omega
  simp -implicitDefEqProofs only [SX_seq, SX_if, SX_asg, SX_ret, SX_retN, SX_setL, SX_augL, SX_nil, SX_expr, SX_par, SX_unp, SX_raise, SX_brk, SX_ct, SX_for, EX_bin, EX_un, EX_var, EX_c, EX_and, EX_or, EX_not, EX_if, EX_lst, EX_tup, EX_callB, EX_call, EX_meth, EX_mut, EX_extend, EX_sl, EX_chain, EX_esh, EX_eun, EX_tru,
    IX_any, IX_range1, IX_range2, IX_zip, IX_enum, xArgs_nil, xArgs_cons, xP_none, xP_some, iO_int, List.map_nil, List.map_cons, rE_val, rS_val, rI_val, rF_items, rE_exc, rS_exc, rI_exc, rF_exc, nxS_nx, nxS_ret, nxS_exc, nxS_brk, nxS_ct, lpS_nx, lpS_ct, lpS_brk, lpS_ret, lpS_exc,
    OX_some, OB_some, OB_map, OB_ite, ifO_bl, notO_bl, ifR_bl, get_shr, get_new, get_var, opd_shr, opd_new, own_zero, own_succ, ow_own, ow_io, upd_own, upd_io, upd_succ, so_shr, so_own, so_io, unO_shr, unO_new, unO_var, shO_shr, shO_new, shO_var', frz_own, setOk_un, setOk_shr, setOk_own, set_shr, set_new,
    xOwn_own, ret_shr, ret_new, ret_var, shrs_nil, shrs_cons, Option.map_some, gets_nil, gets_cons, split_nil, split_shr, split_var, sets_nil, sets_cons, tg_one, tg_many, callS_none, callS_some, xIo_some, xLst_some, xInt_some, oE_ret, oE_exc, two?, one?,
    List.cons_append, List.nil_append, List.replicate, List.getElem?_cons_zero, List.getElem?_cons_succ, List.set_cons_zero, List.set_cons_succ, List.length_cons, List.length_nil, Nat.zero_add, Nat.reduceAdd, Nat.reduceSub, Nat.reduceLeDiff, true_and, if_true, ite_true,
    ev_add, ev_sub, ev_fdiv, ev_mod, ev_pow18, ev_pow60, ev_pow5, ev_mul60, ev_mulA, ev_mulB, ev_neg, ev_lt, ev_le, ev_gt, ev_ge, ev_ixL, ev_ixT, ev_ixC, ev_ixS, ev_lenS, ev_lenL, ev_lenT, ev_lenC, ev_addS, ev_addL, ev_addT, ev_mulL, ev_max2, ev_min2, ev_slS, ev_slL, ev_slT, eqv_ii, nev_ii, Int.zero_add, ev_scr0, atI_nat0, atI_nat1, atI_nat2, ix20, ix21,
    Int.reduceLT, Int.reduceLE, Bool.false_eq_true, Bool.true_eq_false, false_implies, true_implies, implies_true, and_true, fnR_nx, fnR_ret, fnR_exc, ioOut, decide_eq_true_eq, decide_eq_false_iff_not, om, restE, Option.getD_some, List.length_map, l16, EX_dct1K, dk2_str, itL]
  refine ⟨by omega, ?_⟩
  have er : ((reachM ps r : Nat) - 1 + 1 : Int) = (reachM ps r : Nat) := by omega
  have e0 : Slot.own (Val.dct [Val.str []] [Val.bl true]) = .own (strD [[]]) := rfl
  rw [er, e0]
  generalize hpv : Val.tup (ps.map Val.str) = pv
  have bl : ∀ i, i ≤ ps.length → (begM (ps.take i)).length ≤ 1 + i * 7 := fun i => by
    induction i with
    | zero => intro _; exact Nat.le_refl _
    | succ i ih =>
      intro hi
      have hx : ps[i]? = some ps[i] := List.getElem?_eq_getElem (by omega)
      have e : begM (ps.take (i + 1)) = addAll (charsM ps[i]) (begM (ps.take i)) ((charsM ps[i]).length + 1) := by
        unfold begM
        rw [List.take_succ, hx, List.foldl_append]; rfl
      have := addAll_len (charsM ps[i]) (begM (ps.take i)) ((charsM ps[i]).length + 1)
      have := (h.vp _ (List.getElem_mem (by omega : i < ps.length))).c16
      have := ih (by omega)
      rw [e]
      omega
  refine FL_inv (fun i e => ∃ s6 s7 s8, setOk (some s6) = true ∧ setOk (some s7) = true ∧ setOk (some s8) = true ∧ e = [.shr (.tup [pv, .int l, .int r]), .shr (.str z), .shr (.int n), .shr (.lst (ps.map partV)), .shr (.int (reachM ps r : Nat)), .own (strD (begM (ps.take i))), s6, s7, s8, .un, .un, .un, .un, .un, .un, .un, .un])
    ⟨.un, .un, .un, rfl, rfl, rfl, rfl⟩ (fun i v e hv hI => ?_) fun e hI => ?_
  · obtain ⟨s6, s7, s8, h6, h7, h8, rfl⟩ := hI
    rw [List.getElem?_map] at hv
    obtain ⟨p, hpi, rfl⟩ := Option.map_eq_some_iff.mp hv
    have hi := (List.getElem?_eq_some_iff.mp hpi).1
    have hc := (h.vp p (List.mem_of_getElem? hpi)).c16
    have b0 := bl i (by omega)
    have c16 : (charsM p).length ≤ 16000000 := by omega
    have sm : smallI ((charsM p).length + 1) = true := by unfold smallI; exact decide_eq_true (by omega)
    have tn : (((charsM p).length : Int) + 1).toNat = (charsM p).length + 1 := by omega
    simp -implicitDefEqProofs only [SX_seq, SX_if, SX_asg, SX_ret, SX_retN, SX_setL, SX_augL, SX_nil, SX_expr, SX_par, SX_unp, SX_raise, SX_brk, SX_ct, SX_for, EX_bin, EX_un, EX_var, EX_c, EX_and, EX_or, EX_not, EX_if, EX_lst, EX_tup, EX_callB, EX_call, EX_meth, EX_mut, EX_extend, EX_sl, EX_chain, EX_esh, EX_eun, EX_tru,
    IX_any, IX_range1, IX_range2, IX_zip, IX_enum, xArgs_nil, xArgs_cons, xP_none, xP_some, iO_int, List.map_nil, List.map_cons, rE_val, rS_val, rI_val, rF_items, rE_exc, rS_exc, rI_exc, rF_exc, nxS_nx, nxS_ret, nxS_exc, nxS_brk, nxS_ct, lpS_nx, lpS_ct, lpS_brk, lpS_ret, lpS_exc,
    OX_some, OB_some, OB_map, OB_ite, ifO_bl, notO_bl, ifR_bl, get_shr, get_new, get_var, opd_shr, opd_new, own_zero, own_succ, ow_own, ow_io, upd_own, upd_io, upd_succ, so_shr, so_own, so_io, unO_shr, unO_new, unO_var, shO_shr, shO_new, shO_var', frz_own, setOk_un, setOk_shr, setOk_own, set_shr, set_new,
    xOwn_own, ret_shr, ret_new, ret_var, shrs_nil, shrs_cons, Option.map_some, gets_nil, gets_cons, split_nil, split_shr, split_var, sets_nil, sets_cons, tg_one, tg_many, callS_none, callS_some, xIo_some, xLst_some, xInt_some, oE_ret, oE_exc, two?, one?,
    List.cons_append, List.nil_append, List.replicate, List.getElem?_cons_zero, List.getElem?_cons_succ, List.set_cons_zero, List.set_cons_succ, List.length_cons, List.length_nil, Nat.zero_add, Nat.reduceAdd, Nat.reduceSub, Nat.reduceLeDiff, true_and, if_true, ite_true,
    ev_add, ev_sub, ev_fdiv, ev_mod, ev_pow18, ev_pow60, ev_pow5, ev_mul60, ev_mulA, ev_mulB, ev_neg, ev_lt, ev_le, ev_gt, ev_ge, ev_ixL, ev_ixT, ev_ixC, ev_ixS, ev_lenS, ev_lenL, ev_lenT, ev_lenC, ev_addS, ev_addL, ev_addT, ev_mulL, ev_max2, ev_min2, ev_slS, ev_slL, ev_slT, eqv_ii, nev_ii, Int.zero_add, ev_scr0, atI_nat0, atI_nat1, atI_nat2, ix20, ix21,
    Int.reduceLT, Int.reduceLE, Bool.false_eq_true, Bool.true_eq_false, false_implies, true_implies, implies_true, and_true, fnR_nx, fnR_ret, fnR_exc, ioOut, decide_eq_true_eq, decide_eq_false_iff_not, partV, h6, h7, c16, sm, tn]
    have ht : begM (ps.take (i + 1)) = addAll (charsM p) (begM (ps.take i)) ((charsM p).length + 1) := by
      unfold begM
      rw [List.take_succ, hpi, List.foldl_append]; rfl
    generalize hB : begM (ps.take i) = B at b0 ht ⊢
    refine FL_inv (fun j e => ∃ s8, setOk (some s8) = true ∧ e = [.shr (.tup [pv, .int l, .int r]), .shr (.str z), .shr (.int n), .shr (.lst (ps.map partV)), .shr (.int (reachM ps r : Nat)), .own (strD (addAll (charsM p) B j)), .shr (.str (charsM p)), .shr (.lst ((digitsM p).map Val.int)), s8, .un, .un, .un, .un, .un, .un, .un, .un])
      ⟨s8, h8, rfl⟩ (fun j v e hv hI => ?_) fun e hI => ?_
    · obtain ⟨s8, h8, rfl⟩ := hI
      have hj : j < (charsM p).length + 1 := by
        have := (List.getElem?_eq_some_iff.mp hv).1
        rwa [rangeV_len] at this
      rw [rangeV_get hj, Option.some.injEq] at hv
      subst hv
      have al := addAll_len (charsM p) B j
      have pt := put_str ((charsM p).take j) (addAll (charsM p) B j) (by omega)
      simp -implicitDefEqProofs only [SX_seq, SX_if, SX_asg, SX_ret, SX_retN, SX_setL, SX_augL, SX_nil, SX_expr, SX_par, SX_unp, SX_raise, SX_brk, SX_ct, SX_for, EX_bin, EX_un, EX_var, EX_c, EX_and, EX_or, EX_not, EX_if, EX_lst, EX_tup, EX_callB, EX_call, EX_meth, EX_mut, EX_extend, EX_sl, EX_chain, EX_esh, EX_eun, EX_tru,
    IX_any, IX_range1, IX_range2, IX_zip, IX_enum, xArgs_nil, xArgs_cons, xP_none, xP_some, iO_int, List.map_nil, List.map_cons, rE_val, rS_val, rI_val, rF_items, rE_exc, rS_exc, rI_exc, rF_exc, nxS_nx, nxS_ret, nxS_exc, nxS_brk, nxS_ct, lpS_nx, lpS_ct, lpS_brk, lpS_ret, lpS_exc,
    OX_some, OB_some, OB_map, OB_ite, ifO_bl, notO_bl, ifR_bl, get_shr, get_new, get_var, opd_shr, opd_new, own_zero, own_succ, ow_own, ow_io, upd_own, upd_io, upd_succ, so_shr, so_own, so_io, unO_shr, unO_new, unO_var, shO_shr, shO_new, shO_var', frz_own, setOk_un, setOk_shr, setOk_own, set_shr, set_new,
    xOwn_own, ret_shr, ret_new, ret_var, shrs_nil, shrs_cons, Option.map_some, gets_nil, gets_cons, split_nil, split_shr, split_var, sets_nil, sets_cons, tg_one, tg_many, callS_none, callS_some, xIo_some, xLst_some, xInt_some, oE_ret, oE_exc, two?, one?,
    List.cons_append, List.nil_append, List.replicate, List.getElem?_cons_zero, List.getElem?_cons_succ, List.set_cons_zero, List.set_cons_succ, List.length_cons, List.length_nil, Nat.zero_add, Nat.reduceAdd, Nat.reduceSub, Nat.reduceLeDiff, true_and, if_true, ite_true,
    ev_add, ev_sub, ev_fdiv, ev_mod, ev_pow18, ev_pow60, ev_pow5, ev_mul60, ev_mulA, ev_mulB, ev_neg, ev_lt, ev_le, ev_gt, ev_ge, ev_ixL, ev_ixT, ev_ixC, ev_ixS, ev_lenS, ev_lenL, ev_lenT, ev_lenC, ev_addS, ev_addL, ev_addT, ev_mulL, ev_max2, ev_min2, ev_slS, ev_slL, ev_slT, eqv_ii, nev_ii, Int.zero_add, ev_scr0, atI_nat0, atI_nat1, atI_nat2, ix20, ix21,
    Int.reduceLT, Int.reduceLE, Bool.false_eq_true, Bool.true_eq_false, false_implies, true_implies, implies_true, and_true, fnR_nx, fnR_ret, fnR_exc, ioOut, decide_eq_true_eq, decide_eq_false_iff_not, h8, c16, cut_to, SX_setD, xD_str, sD_str, pt]
      refine ⟨.shr (.int (j : Nat)), rfl, ?_⟩
      rw [addAll_succ]
    · obtain ⟨s8, h8, rfl⟩ := hI
      refine ⟨.shr (.str (charsM p)), .shr (.lst ((digitsM p).map Val.int)), s8, rfl, rfl, h8, ?_⟩
      rw [rangeV_len, ht]
  · obtain ⟨s6, s7, s8, h6, h7, h8, rfl⟩ := hI
    rw [List.length_map, List.take_length]
    have h0 : [] ∈ begM ps := mem_beg.mpr (.inl rfl)
    have hb : ∀ q ∈ begM ps, q.length ≤ 20 := fun q hq => by
      rcases mem_beg.mp hq with rfl | ⟨p, hp, hq⟩
      · exact Nat.zero_le _
      · have := hq.length_le
        have := (h.vp p hp).c16
        omega
    have uo := useful_ok (begM ps) h0 [46] (by decide)
    have rg := @reach_ge ps r
    have rl : reachM ps r ≤ 7 := reach_le (k := 6) (by have := h.r4; omega) fun p hp => (h.vp p hp).c16.2
    have nk0 : nk (.tup [.str (ue (begM ps) [46]), .tup [.int 0]]) = some (code (s0M (begM ps))) := nk_kv (s0M (begM ps))
    have cd := code_depth (s0M (begM ps))
    have sm : (smallI 1 && smallI ((n : Int) + 1)) = true := by unfold smallI; rw [decide_eq_true (by decide), decide_eq_true (by omega)]; rfl
    have tn : ((n : Int) + 1 - 1).toNat = n := by omega
    simp -implicitDefEqProofs only [SX_seq, SX_if, SX_asg, SX_ret, SX_retN, SX_setL, SX_augL, SX_nil, SX_expr, SX_par, SX_unp, SX_raise, SX_brk, SX_ct, SX_for, EX_bin, EX_un, EX_var, EX_c, EX_and, EX_or, EX_not, EX_if, EX_lst, EX_tup, EX_callB, EX_call, EX_meth, EX_mut, EX_extend, EX_sl, EX_chain, EX_esh, EX_eun, EX_tru,
    IX_any, IX_range1, IX_range2, IX_zip, IX_enum, xArgs_nil, xArgs_cons, xP_none, xP_some, iO_int, List.map_nil, List.map_cons, rE_val, rS_val, rI_val, rF_items, rE_exc, rS_exc, rI_exc, rF_exc, nxS_nx, nxS_ret, nxS_exc, nxS_brk, nxS_ct, lpS_nx, lpS_ct, lpS_brk, lpS_ret, lpS_exc,
    OX_some, OB_some, OB_map, OB_ite, ifO_bl, notO_bl, ifR_bl, get_shr, get_new, get_var, opd_shr, opd_new, own_zero, own_succ, ow_own, ow_io, upd_own, upd_io, upd_succ, so_shr, so_own, so_io, unO_shr, unO_new, unO_var, shO_shr, shO_new, shO_var', frz_own, setOk_un, setOk_shr, setOk_own, set_shr, set_new,
    xOwn_own, ret_shr, ret_new, ret_var, shrs_nil, shrs_cons, Option.map_some, gets_nil, gets_cons, split_nil, split_shr, split_var, sets_nil, sets_cons, tg_one, tg_many, callS_none, callS_some, xIo_some, xLst_some, xInt_some, oE_ret, oE_exc, two?, one?,
    List.cons_append, List.nil_append, List.replicate, List.getElem?_cons_zero, List.getElem?_cons_succ, List.set_cons_zero, List.set_cons_succ, List.length_cons, List.length_nil, Nat.zero_add, Nat.reduceAdd, Nat.reduceSub, Nat.reduceLeDiff, true_and, if_true, ite_true,
    ev_add, ev_sub, ev_fdiv, ev_mod, ev_pow18, ev_pow60, ev_pow5, ev_mul60, ev_mulA, ev_mulB, ev_neg, ev_lt, ev_le, ev_gt, ev_ge, ev_ixL, ev_ixT, ev_ixC, ev_ixS, ev_lenS, ev_lenL, ev_lenT, ev_lenC, ev_addS, ev_addL, ev_addT, ev_mulL, ev_max2, ev_min2, ev_slS, ev_slL, ev_slT, eqv_ii, nev_ii, Int.zero_add, ev_scr0, atI_nat0, atI_nat1, atI_nat2, ix20, ix21,
    Int.reduceLT, Int.reduceLE, Bool.false_eq_true, Bool.true_eq_false, false_implies, true_implies, implies_true, and_true, fnR_nx, fnR_ret, fnR_exc, ioOut, decide_eq_true_eq, decide_eq_false_iff_not, EX_dct1, dk1, uo, nk0, cd, sm, tn]
    have hz4 := hz.n4
    have hz1 := hz.n1
    refine FL_inv (fun i e => ∃ D s10, setOk (some s10) = true ∧ DOk (reachM ps r) D ∧ D.length ≤ z.length ^ i ∧ (∀ F, sumD D F = itF l r ps (begM ps) (reachM ps r) z i F (s0M (begM ps))) ∧ e = [.shr (.tup [pv, .int l, .int r]), .shr (.str z), .shr (.int n), .shr (.lst (ps.map partV)), .shr (.int (reachM ps r : Nat)), .shr (strD (begM ps)), s6, s7, s8, .own (stD D), s10, .un, .un, .un, .un, .un, .un])
      ⟨[(s0M (begM ps), 1)], .un, rfl, ⟨List.nodup_cons.mpr ⟨by simp, List.nodup_nil⟩, fun d hd => by
        rw [List.mem_singleton] at hd; subst hd
        refine ⟨hb _ (ue_mem h0 _), ?_⟩
        show 1 ≤ _
        have := rg.2; have := h.r1; omega⟩, Nat.le_refl _, (fun F => by
        show (1 * F (s0M (begM ps)) + 0) = F (s0M (begM ps))
        omega), rfl⟩ (fun i v e hv hI => ?_) fun e hI => ?_
    · obtain ⟨D, s10, h10, hD, hl, hs, rfl⟩ := hI
      have hi : i < n := by
        have := (List.getElem?_eq_some_iff.mp hv).1
        rwa [rangeV_len] at this
      rw [rangeV_get hi, Option.some.injEq] at hv
      subst hv
      have pl : D.length * z.length ≤ z.length ^ (i + 1) := by rw [Nat.pow_succ]; exact Nat.mul_le_mul_right _ hl
      have pl2 : z.length ^ (i + 1) ≤ 16777216 := Nat.le_trans (Nat.pow_le_pow_left hz4 _) (Nat.le_trans (Nat.pow_le_pow_right (by decide) (by omega : i + 1 ≤ 12)) (by decide))
      have fo := followed_ok pv l r ps (begM ps) z (reachM ps r) (1 + (i : Nat)) D h0 hb n6 (by omega) hD hz4 (by omega)
      simp -implicitDefEqProofs only [SX_seq, SX_if, SX_asg, SX_ret, SX_retN, SX_setL, SX_augL, SX_nil, SX_expr, SX_par, SX_unp, SX_raise, SX_brk, SX_ct, SX_for, EX_bin, EX_un, EX_var, EX_c, EX_and, EX_or, EX_not, EX_if, EX_lst, EX_tup, EX_callB, EX_call, EX_meth, EX_mut, EX_extend, EX_sl, EX_chain, EX_esh, EX_eun, EX_tru,
    IX_any, IX_range1, IX_range2, IX_zip, IX_enum, xArgs_nil, xArgs_cons, xP_none, xP_some, iO_int, List.map_nil, List.map_cons, rE_val, rS_val, rI_val, rF_items, rE_exc, rS_exc, rI_exc, rF_exc, nxS_nx, nxS_ret, nxS_exc, nxS_brk, nxS_ct, lpS_nx, lpS_ct, lpS_brk, lpS_ret, lpS_exc,
    OX_some, OB_some, OB_map, OB_ite, ifO_bl, notO_bl, ifR_bl, get_shr, get_new, get_var, opd_shr, opd_new, own_zero, own_succ, ow_own, ow_io, upd_own, upd_io, upd_succ, so_shr, so_own, so_io, unO_shr, unO_new, unO_var, shO_shr, shO_new, shO_var', frz_own, setOk_un, setOk_shr, setOk_own, set_shr, set_new,
    xOwn_own, ret_shr, ret_new, ret_var, shrs_nil, shrs_cons, Option.map_some, gets_nil, gets_cons, split_nil, split_shr, split_var, sets_nil, sets_cons, tg_one, tg_many, callS_none, callS_some, xIo_some, xLst_some, xInt_some, oE_ret, oE_exc, two?, one?,
    List.cons_append, List.nil_append, List.replicate, List.getElem?_cons_zero, List.getElem?_cons_succ, List.set_cons_zero, List.set_cons_succ, List.length_cons, List.length_nil, Nat.zero_add, Nat.reduceAdd, Nat.reduceSub, Nat.reduceLeDiff, true_and, if_true, ite_true,
    ev_add, ev_sub, ev_fdiv, ev_mod, ev_pow18, ev_pow60, ev_pow5, ev_mul60, ev_mulA, ev_mulB, ev_neg, ev_lt, ev_le, ev_gt, ev_ge, ev_ixL, ev_ixT, ev_ixC, ev_ixS, ev_lenS, ev_lenL, ev_lenT, ev_lenC, ev_addS, ev_addL, ev_addT, ev_mulL, ev_max2, ev_min2, ev_slS, ev_slL, ev_slT, eqv_ii, nev_ii, Int.zero_add, ev_scr0, atI_nat0, atI_nat1, atI_nat2, ix20, ix21,
    Int.reduceLT, Int.reduceLE, Bool.false_eq_true, Bool.true_eq_false, false_implies, true_implies, implies_true, and_true, fnR_nx, fnR_ret, fnR_exc, ioOut, decide_eq_true_eq, decide_eq_false_iff_not, h10]
      refine OX_mono fo fun a b hab => ?_
      obtain ⟨D', rfl, _, hD', hl', hs'⟩ := hab
      simp -implicitDefEqProofs only [SX_seq, SX_if, SX_asg, SX_ret, SX_retN, SX_setL, SX_augL, SX_nil, SX_expr, SX_par, SX_unp, SX_raise, SX_brk, SX_ct, SX_for, EX_bin, EX_un, EX_var, EX_c, EX_and, EX_or, EX_not, EX_if, EX_lst, EX_tup, EX_callB, EX_call, EX_meth, EX_mut, EX_extend, EX_sl, EX_chain, EX_esh, EX_eun, EX_tru,
    IX_any, IX_range1, IX_range2, IX_zip, IX_enum, xArgs_nil, xArgs_cons, xP_none, xP_some, iO_int, List.map_nil, List.map_cons, rE_val, rS_val, rI_val, rF_items, rE_exc, rS_exc, rI_exc, rF_exc, nxS_nx, nxS_ret, nxS_exc, nxS_brk, nxS_ct, lpS_nx, lpS_ct, lpS_brk, lpS_ret, lpS_exc,
    OX_some, OB_some, OB_map, OB_ite, ifO_bl, notO_bl, ifR_bl, get_shr, get_new, get_var, opd_shr, opd_new, own_zero, own_succ, ow_own, ow_io, upd_own, upd_io, upd_succ, so_shr, so_own, so_io, unO_shr, unO_new, unO_var, shO_shr, shO_new, shO_var', frz_own, setOk_un, setOk_shr, setOk_own, set_shr, set_new,
    xOwn_own, ret_shr, ret_new, ret_var, shrs_nil, shrs_cons, Option.map_some, gets_nil, gets_cons, split_nil, split_shr, split_var, sets_nil, sets_cons, tg_one, tg_many, callS_none, callS_some, xIo_some, xLst_some, xInt_some, oE_ret, oE_exc, two?, one?,
    List.cons_append, List.nil_append, List.replicate, List.getElem?_cons_zero, List.getElem?_cons_succ, List.set_cons_zero, List.set_cons_succ, List.length_cons, List.length_nil, Nat.zero_add, Nat.reduceAdd, Nat.reduceSub, Nat.reduceLeDiff, true_and, if_true, ite_true,
    ev_add, ev_sub, ev_fdiv, ev_mod, ev_pow18, ev_pow60, ev_pow5, ev_mul60, ev_mulA, ev_mulB, ev_neg, ev_lt, ev_le, ev_gt, ev_ge, ev_ixL, ev_ixT, ev_ixC, ev_ixS, ev_lenS, ev_lenL, ev_lenT, ev_lenC, ev_addS, ev_addL, ev_addT, ev_mulL, ev_max2, ev_min2, ev_slS, ev_slL, ev_slT, eqv_ii, nev_ii, Int.zero_add, ev_scr0, atI_nat0, atI_nat1, atI_nat2, ix20, ix21,
    Int.reduceLT, Int.reduceLE, Bool.false_eq_true, Bool.true_eq_false, false_implies, true_implies, implies_true, and_true, fnR_nx, fnR_ret, fnR_exc, ioOut, decide_eq_true_eq, decide_eq_false_iff_not]
      refine ⟨D', .shr (.int (1 + (i : Nat))), rfl, hD', by omega, fun F => ?_, rfl⟩
      rw [hs' F]
      show _ = itF l r ps (begM ps) (reachM ps r) z i (opF l r ps (begM ps) (reachM ps r) z ((i + 1 : Nat) : Int) F) (s0M (begM ps))
      rw [← hs]
      unfold sumD
      refine congrArg List.sum (List.map_congr_left fun d _ => ?_)
      rw [all_op, show ((i + 1 : Nat) : Int) = 1 + (i : Nat) by omega]
    · obtain ⟨D, s10, h10, hD, hl, hs, rfl⟩ := hI
      rw [rangeV_len] at hl hs
      simp -implicitDefEqProofs only [SX_seq, SX_if, SX_asg, SX_ret, SX_retN, SX_setL, SX_augL, SX_nil, SX_expr, SX_par, SX_unp, SX_raise, SX_brk, SX_ct, SX_for, EX_bin, EX_un, EX_var, EX_c, EX_and, EX_or, EX_not, EX_if, EX_lst, EX_tup, EX_callB, EX_call, EX_meth, EX_mut, EX_extend, EX_sl, EX_chain, EX_esh, EX_eun, EX_tru,
    IX_any, IX_range1, IX_range2, IX_zip, IX_enum, xArgs_nil, xArgs_cons, xP_none, xP_some, iO_int, List.map_nil, List.map_cons, rE_val, rS_val, rI_val, rF_items, rE_exc, rS_exc, rI_exc, rF_exc, nxS_nx, nxS_ret, nxS_exc, nxS_brk, nxS_ct, lpS_nx, lpS_ct, lpS_brk, lpS_ret, lpS_exc,
    OX_some, OB_some, OB_map, OB_ite, ifO_bl, notO_bl, ifR_bl, get_shr, get_new, get_var, opd_shr, opd_new, own_zero, own_succ, ow_own, ow_io, upd_own, upd_io, upd_succ, so_shr, so_own, so_io, unO_shr, unO_new, unO_var, shO_shr, shO_new, shO_var', frz_own, setOk_un, setOk_shr, setOk_own, set_shr, set_new,
    xOwn_own, ret_shr, ret_new, ret_var, shrs_nil, shrs_cons, Option.map_some, gets_nil, gets_cons, split_nil, split_shr, split_var, sets_nil, sets_cons, tg_one, tg_many, callS_none, callS_some, xIo_some, xLst_some, xInt_some, oE_ret, oE_exc, two?, one?,
    List.cons_append, List.nil_append, List.replicate, List.getElem?_cons_zero, List.getElem?_cons_succ, List.set_cons_zero, List.set_cons_succ, List.length_cons, List.length_nil, Nat.zero_add, Nat.reduceAdd, Nat.reduceSub, Nat.reduceLeDiff, true_and, if_true, ite_true,
    ev_add, ev_sub, ev_fdiv, ev_mod, ev_pow18, ev_pow60, ev_pow5, ev_mul60, ev_mulA, ev_mulB, ev_neg, ev_lt, ev_le, ev_gt, ev_ge, ev_ixL, ev_ixT, ev_ixC, ev_ixS, ev_lenS, ev_lenL, ev_lenT, ev_lenC, ev_addS, ev_addL, ev_addT, ev_mulL, ev_max2, ev_min2, ev_slS, ev_slL, ev_slT, eqv_ii, nev_ii, Int.zero_add, ev_scr0, atI_nat0, atI_nat1, atI_nat2, ix20, ix21,
    Int.reduceLT, Int.reduceLE, Bool.false_eq_true, Bool.true_eq_false, false_implies, true_implies, implies_true, and_true, fnR_nx, fnR_ret, fnR_exc, ioOut, decide_eq_true_eq, decide_eq_false_iff_not, IX_keysN, items_st]
      refine FL_inv (fun i e => ∃ s12 s13 s14 s15, setOk (some s12) = true ∧ setOk (some s13) = true ∧ setOk (some s14) = true ∧ setOk (some s15) = true ∧ e = [.shr (.tup [pv, .int l, .int r]), .shr (.str z), .shr (.int n), .shr (.lst (ps.map partV)), .shr (.int (reachM ps r : Nat)), .shr (strD (begM ps)), s6, s7, s8, .shr (stD D), s10, .shr (.int (sumD (D.take i) (finF l r ps (reachM ps r) n))), s12, s13, s14, s15, .un])
        ⟨.un, .un, .un, .un, rfl, rfl, rfl, rfl, rfl⟩ (fun i v e hv hI => ?_) fun e hI => ?_
      · obtain ⟨s12, s13, s14, s15, h12, h13, h14, h15, rfl⟩ := hI
        rw [List.getElem?_map] at hv
        obtain ⟨d, hd, rfl⟩ := Option.map_eq_some_iff.mp hv
        obtain ⟨⟨E, K⟩, cnt⟩ := d
        have hm := List.mem_of_getElem? hd
        obtain ⟨bE, bK⟩ := hD.b _ hm
        dsimp only at bE bK
        have lk := look_mem hD.nd hm
        have up := updated_ok ps E 46 K (by omega) (by omega) (by omega)
        have up' : fn_updated [.shr (.lst (ps.map partV)), .shr (.str E), .shr (.str [46]), .shr (.tup (K.map Val.int))] = some (.ret (.shr (.tup [.str (E ++ [46]), .lst ((newK ps (E, K) 46).map Val.int)])), [.un, .un, .un, .un]) := up
        have br := broken_ok pv l r (newK ps (E, K) 46) n true
        have st : sumD (D.take (i + 1)) (finF l r ps (reachM ps r) n) = sumD (D.take i) (finF l r ps (reachM ps r) n) + cnt * finF l r ps (reachM ps r) n (E, K) := sum_take (fun d : Sta × Int => d.2 * finF l r ps (reachM ps r) n d.1) D i ((E, K), cnt) hd
        simp -implicitDefEqProofs only [SX_seq, SX_if, SX_asg, SX_ret, SX_retN, SX_setL, SX_augL, SX_nil, SX_expr, SX_par, SX_unp, SX_raise, SX_brk, SX_ct, SX_for, EX_bin, EX_un, EX_var, EX_c, EX_and, EX_or, EX_not, EX_if, EX_lst, EX_tup, EX_callB, EX_call, EX_meth, EX_mut, EX_extend, EX_sl, EX_chain, EX_esh, EX_eun, EX_tru,
    IX_any, IX_range1, IX_range2, IX_zip, IX_enum, xArgs_nil, xArgs_cons, xP_none, xP_some, iO_int, List.map_nil, List.map_cons, rE_val, rS_val, rI_val, rF_items, rE_exc, rS_exc, rI_exc, rF_exc, nxS_nx, nxS_ret, nxS_exc, nxS_brk, nxS_ct, lpS_nx, lpS_ct, lpS_brk, lpS_ret, lpS_exc,
    OX_some, OB_some, OB_map, OB_ite, ifO_bl, notO_bl, ifR_bl, get_shr, get_new, get_var, opd_shr, opd_new, own_zero, own_succ, ow_own, ow_io, upd_own, upd_io, upd_succ, so_shr, so_own, so_io, unO_shr, unO_new, unO_var, shO_shr, shO_new, shO_var', frz_own, setOk_un, setOk_shr, setOk_own, set_shr, set_new,
    xOwn_own, ret_shr, ret_new, ret_var, shrs_nil, shrs_cons, Option.map_some, gets_nil, gets_cons, split_nil, split_shr, split_var, sets_nil, sets_cons, tg_one, tg_many, callS_none, callS_some, xIo_some, xLst_some, xInt_some, oE_ret, oE_exc, two?, one?,
    List.cons_append, List.nil_append, List.replicate, List.getElem?_cons_zero, List.getElem?_cons_succ, List.set_cons_zero, List.set_cons_succ, List.length_cons, List.length_nil, Nat.zero_add, Nat.reduceAdd, Nat.reduceSub, Nat.reduceLeDiff, true_and, if_true, ite_true,
    ev_add, ev_sub, ev_fdiv, ev_mod, ev_pow18, ev_pow60, ev_pow5, ev_mul60, ev_mulA, ev_mulB, ev_neg, ev_lt, ev_le, ev_gt, ev_ge, ev_ixL, ev_ixT, ev_ixC, ev_ixS, ev_lenS, ev_lenL, ev_lenT, ev_lenC, ev_addS, ev_addL, ev_addT, ev_mulL, ev_max2, ev_min2, ev_slS, ev_slL, ev_slT, eqv_ii, nev_ii, Int.zero_add, ev_scr0, atI_nat0, atI_nat1, atI_nat2, ix20, ix21,
    Int.reduceLT, Int.reduceLE, Bool.false_eq_true, Bool.true_eq_false, false_implies, true_implies, implies_true, and_true, fnR_nx, fnR_ret, fnR_exc, ioOut, decide_eq_true_eq, decide_eq_false_iff_not, kv, h12, h13, h14, h15, up', br, SX_unp, SX_aug, augI_some, ixN_st' D E K lk]
        refine ⟨fun hk => ?_, fun hk => ?_⟩
        · have hf : brkM l r (newK ps (E, K) 46) n true = false := by
            cases q : brkM l r (newK ps (E, K) 46) n true with
            | false => rfl
            | true => rw [q] at hk; cases hk
          refine ⟨.shr (.str E), .shr (.tup (K.map Val.int)), .shr (.str (E ++ [46])), .shr (.lst ((newK ps (E, K) 46).map Val.int)), rfl, rfl, rfl, rfl, ?_⟩
          rw [st]
          unfold finF
          rw [hf, if_neg (by decide), Int.mul_one]
        · have hf : brkM l r (newK ps (E, K) 46) n true = true := by
            cases q : brkM l r (newK ps (E, K) 46) n true with
            | false => rw [q] at hk; cases hk
            | true => rfl
          refine ⟨.shr (.str E), .shr (.tup (K.map Val.int)), .shr (.str (E ++ [46])), .shr (.lst ((newK ps (E, K) 46).map Val.int)), rfl, rfl, rfl, rfl, ?_⟩
          rw [st]
          unfold finF
          rw [hf, if_pos rfl, Int.mul_zero, Int.add_zero]
      · obtain ⟨s12, s13, s14, s15, h12, h13, h14, h15, rfl⟩ := hI
        rw [List.length_map, List.take_length, hs]
        simp -implicitDefEqProofs only [SX_seq, SX_if, SX_asg, SX_ret, SX_retN, SX_setL, SX_augL, SX_nil, SX_expr, SX_par, SX_unp, SX_raise, SX_brk, SX_ct, SX_for, EX_bin, EX_un, EX_var, EX_c, EX_and, EX_or, EX_not, EX_if, EX_lst, EX_tup, EX_callB, EX_call, EX_meth, EX_mut, EX_extend, EX_sl, EX_chain, EX_esh, EX_eun, EX_tru,
    IX_any, IX_range1, IX_range2, IX_zip, IX_enum, xArgs_nil, xArgs_cons, xP_none, xP_some, iO_int, List.map_nil, List.map_cons, rE_val, rS_val, rI_val, rF_items, rE_exc, rS_exc, rI_exc, rF_exc, nxS_nx, nxS_ret, nxS_exc, nxS_brk, nxS_ct, lpS_nx, lpS_ct, lpS_brk, lpS_ret, lpS_exc,
    OX_some, OB_some, OB_map, OB_ite, ifO_bl, notO_bl, ifR_bl, get_shr, get_new, get_var, opd_shr, opd_new, own_zero, own_succ, ow_own, ow_io, upd_own, upd_io, upd_succ, so_shr, so_own, so_io, unO_shr, unO_new, unO_var, shO_shr, shO_new, shO_var', frz_own, setOk_un, setOk_shr, setOk_own, set_shr, set_new,
    xOwn_own, ret_shr, ret_new, ret_var, shrs_nil, shrs_cons, Option.map_some, gets_nil, gets_cons, split_nil, split_shr, split_var, sets_nil, sets_cons, tg_one, tg_many, callS_none, callS_some, xIo_some, xLst_some, xInt_some, oE_ret, oE_exc, two?, one?,
    List.cons_append, List.nil_append, List.replicate, List.getElem?_cons_zero, List.getElem?_cons_succ, List.set_cons_zero, List.set_cons_succ, List.length_cons, List.length_nil, Nat.zero_add, Nat.reduceAdd, Nat.reduceSub, Nat.reduceLeDiff, true_and, if_true, ite_true,
    ev_add, ev_sub, ev_fdiv, ev_mod, ev_pow18, ev_pow60, ev_pow5, ev_mul60, ev_mulA, ev_mulB, ev_neg, ev_lt, ev_le, ev_gt, ev_ge, ev_ixL, ev_ixT, ev_ixC, ev_ixS, ev_lenS, ev_lenL, ev_lenT, ev_lenC, ev_addS, ev_addL, ev_addT, ev_mulL, ev_max2, ev_min2, ev_slS, ev_slL, ev_slT, eqv_ii, nev_ii, Int.zero_add, ev_scr0, atI_nat0, atI_nat1, atI_nat2, ix20, ix21,
    Int.reduceLT, Int.reduceLE, Bool.false_eq_true, Bool.true_eq_false, false_implies, true_implies, implies_true, and_true, fnR_nx, fnR_ret, fnR_exc, ioOut, decide_eq_true_eq, decide_eq_false_iff_not]
        first | exact rfl | exact ⟨rfl, rfl⟩
end G

end
section
set_option Elab.async false
set_option linter.all false
set_option maxRecDepth 100000
set_option maxHeartbeats 4000000
set_option autoImplicit false
/-! M: the states count the words without breaks. -/
namespace G
open PySem L2 Lw
theorem dgo_len : ∀ (p : List Nat) (d : Int), (dgo d p).length = (charsM p).length + 1
  | [], d => rfl
  | c :: p, d => by
    unfold dgo charsM
    by_cases h : c ∈ D9
    · rw [if_pos h, dgo_len p, List.filter_cons_of_neg (by rw [decide_eq_true h]; decide)]; rfl
    · rw [if_neg h, List.filter_cons_of_pos (by rw [decide_eq_false h]; decide), List.length_cons, List.length_cons, dgo_len p]; rfl
theorem digits_len (p : List Nat) : (digitsM p).length = (charsM p).length + 1 := by rw [digits_dgo, dgo_len]
/-! the longest end -/
theorem ue_suf (bs : List (List Nat)) : ∀ t : List Nat, ue bs t <:+ t
  | [] => List.suffix_refl _
  | c :: t => by
    unfold ue
    split
    · exact List.suffix_refl _
    · exact (ue_suf bs t).trans (List.suffix_cons c t)
theorem ue_max {bs : List (List Nat)} {q : List Nat} (hq : q ∈ bs) : ∀ t : List Nat, q <:+ t → q <:+ ue bs t
  | [], h => h
  | c :: t, h => by
    unfold ue
    split
    · exact h
    · rename_i hn
      rcases List.suffix_cons_iff.mp h with e | h
      · exact absurd (e ▸ hq) hn
      · exact ue_max hq t h
theorem suf_snoc {q t : List Nat} {c : Nat} : q <:+ t ++ [c] ↔ q = [] ∨ ∃ q', q = q' ++ [c] ∧ q' <:+ t := by
  constructor
  · rintro ⟨u, e⟩
    rcases List.eq_nil_or_concat q with rfl | ⟨q', d, rfl⟩
    · exact .inl rfl
    · refine .inr ⟨q', ?_⟩
      rw [List.concat_eq_append] at e
      rw [← List.append_assoc] at e
      obtain ⟨e1, e2⟩ := List.append_inj' e rfl
      injection e2 with e2 _
      subst e2
      exact ⟨List.concat_eq_append, u, e1⟩
  · rintro (rfl | ⟨q', rfl, u, rfl⟩)
    · exact List.nil_suffix
    · exact ⟨u, by rw [List.append_assoc]⟩
/-- closed under what begins -/
def Pcl (bs : List (List Nat)) : Prop := ∀ q c, q ++ [c] ∈ bs → q ∈ bs
theorem beg_pcl (ps : List (List Nat)) : Pcl (begM ps) := fun q c h => by
  rcases mem_beg.mp h with h | ⟨p, hp, h⟩
  · simp at h
  · exact mem_beg.mpr (.inr ⟨p, hp, (List.prefix_append q [c]).trans h⟩)
theorem suf_anti {a b : List Nat} (h1 : a <:+ b) (h2 : b <:+ a) : a = b := h1.eq_of_length (Nat.le_antisymm h1.length_le h2.length_le)
theorem ue_step {bs : List (List Nat)} (h0 : [] ∈ bs) (hp : Pcl bs) (T : List Nat) (c : Nat) : ue bs (ue bs T ++ [c]) = ue bs (T ++ [c]) := by
  refine suf_anti ?_ ?_
  · refine ue_max (ue_mem h0 _) _ ((ue_suf bs _).trans ?_)
    obtain ⟨u, hu⟩ := ue_suf bs T
    exact ⟨u, by rw [← List.append_assoc, hu]⟩
  · refine ue_max (ue_mem h0 _) _ ?_
    rcases suf_snoc.mp (ue_suf bs (T ++ [c])) with e | ⟨q, e, hq⟩
    · rw [e]; exact List.nil_suffix
    · have hm : q ∈ bs := hp q c (e ▸ ue_mem h0 _)
      rw [e]
      obtain ⟨u, hu⟩ := ue_max hm T hq
      exact ⟨u, by rw [← List.append_assoc, hu]⟩
theorem ends_ue {ps : List (List Nat)} {p : List Nat} (hp : p ∈ ps) (T : List Nat) (c : Nat) : charsM p <:+ ue (begM ps) T ++ [c] ↔ charsM p <:+ T ++ [c] := by
  constructor
  · intro h
    refine h.trans ?_
    obtain ⟨u, hu⟩ := ue_suf (begM ps) T
    exact ⟨u, by rw [← List.append_assoc, hu]⟩
  · intro h
    rcases suf_snoc.mp h with e | ⟨q, e, hq⟩
    · rw [e]; exact List.nil_suffix
    · have hm : q ∈ begM ps := mem_beg.mpr (.inr ⟨p, hp, e ▸ List.prefix_append q [c]⟩)
      rw [e]
      obtain ⟨u, hu⟩ := ue_max hm T hq
      exact ⟨u, by rw [← List.append_assoc, hu]⟩
/-! the levels of all gaps so far, the last first -/
theorem step_cong {T T' : List Nat} : ∀ (ps : List (List Nat)) (K : List Int), (∀ p ∈ ps, charsM p <:+ T ↔ charsM p <:+ T') → stepF ps T K = stepF ps T' K
  | [], K, _ => rfl
  | p :: ps, K, h => by
    show stepF ps T (if charsM p <:+ T then upRev K (digitsM p).reverse else K) = stepF ps T' (if charsM p <:+ T' then upRev K (digitsM p).reverse else K)
    rw [step_cong ps _ fun q hq => h q (List.mem_cons_of_mem _ hq)]
    congr 1
    by_cases q : charsM p <:+ T
    · rw [if_pos q, if_pos ((h p (List.mem_cons_self ..)).mp q)]
    · rw [if_neg q, if_neg fun z => q ((h p (List.mem_cons_self ..)).mpr z)]
theorem upRev_take : ∀ (K D : List Int) (m : Nat), upRev (K.take m) D = (upRev K D).take m
  | [], D, m => by
    have e : upRev [] D = [] := by cases D <;> rfl
    rw [List.take_nil, e, List.take_nil]
  | k :: K, [], m => by rw [upRev_nil, upRev_nil]
  | k :: K, d :: D, 0 => rfl
  | k :: K, d :: D, m + 1 => by
    show max k d :: upRev (K.take m) D = max k d :: (upRev K D).take m
    rw [upRev_take K D m]
theorem step_take (T : List Nat) (m : Nat) : ∀ (ps : List (List Nat)) (K : List Int), stepF ps T (K.take m) = (stepF ps T K).take m
  | [], K => rfl
  | p :: ps, K => by
    show stepF ps T (if charsM p <:+ T then upRev (K.take m) (digitsM p).reverse else K.take m) = (stepF ps T (if charsM p <:+ T then upRev K (digitsM p).reverse else K)).take m
    rw [← step_take T m ps]
    congr 1
    split
    · exact upRev_take _ _ _
    · rfl
/-- by the letters so far, the last first -/
def fullR (ps : List (List Nat)) : List Nat → List Int
  | [] => [0]
  | c :: u => stepF ps (46 :: u.reverse ++ [c]) (0 :: fullR ps u)
theorem full_len (ps : List (List Nat)) : ∀ u, (fullR ps u).length = u.length + 1
  | [] => rfl
  | c :: u => by unfold fullR; rw [stepF_len, List.length_cons, full_len ps u]; rfl
def goR (l r : Int) (ps : List (List Nat)) : List Nat → Option Sta
  | [] => some (s0M (begM ps))
  | c :: u => (goR l r ps u).bind fun s => if runOk l r ps (reachM ps r) ((u.length + 1 : Nat) : Int) s c = true then some (nextS ps (begM ps) (reachM ps r) s c) else none
theorem newK_full {ps : List (List Nat)} {reach : Nat} (u : List Nat) (c : Nat) : newK ps (ue (begM ps) (46 :: u.reverse), (fullR ps u).take reach) c = (fullR ps (c :: u)).take (reach + 1) := by
  unfold newK
  dsimp only
  have e : (0 : Int) :: (fullR ps u).take reach = ((0 : Int) :: fullR ps u).take (reach + 1) := rfl
  rw [e, step_take, step_cong ps _ fun p hp => ends_ue hp (46 :: u.reverse) c]
  rfl
theorem go_is {l r : Int} {ps : List (List Nat)} (hr : 1 ≤ reachM ps r) : ∀ (u : List Nat) (s : Sta), goR l r ps u = some s → s = (ue (begM ps) (46 :: u.reverse), (fullR ps u).take (reachM ps r))
  | [], s, h => by
    have h : some (s0M (begM ps)) = some s := h
    cases h
    show (ue (begM ps) [46], [0]) = (ue (begM ps) [46], [0].take (reachM ps r))
    rw [List.take_of_length_le (by simpa using hr)]
  | c :: u, s, h => by
    unfold goR at h
    cases hg : goR l r ps u with
    | none => rw [hg] at h; cases h
    | some s1 =>
      have e1 := go_is hr u s1 hg
      rw [hg] at h
      have h : (if runOk l r ps (reachM ps r) ((u.length + 1 : Nat) : Int) s1 c = true then some (nextS ps (begM ps) (reachM ps r) s1 c) else none) = some s := h
      split at h
      · cases h
        subst e1
        unfold nextS
        rw [newK_full, ue_step (mem_beg.mpr (.inl rfl)) (beg_pcl ps), List.take_take, Nat.min_eq_left (Nat.le_succ _), List.reverse_cons]
        rfl
      · cases h
/-! the meaning of the levels so far -/
theorem upRev_is (K D : List Int) (j : Nat) (hj : j < K.length) : K.getD j 0 ≤ (upRev K D).getD j 0 ∧ (∀ d, D[j]? = some d → d ≤ (upRev K D).getD j 0) ∧ ((upRev K D).getD j 0 = K.getD j 0 ∨ D[j]? = some ((upRev K D).getD j 0)) := by
  rw [List.getD_eq_getElem?_getD, List.getD_eq_getElem?_getD, upRev_get, List.getElem?_eq_getElem hj]
  cases hd : D[j]? with
  | none => exact ⟨Int.le_refl _, (fun d h => by cases h), .inl rfl⟩
  | some d =>
    show K[j] ≤ max K[j] d ∧ (∀ d', some d = some d' → d' ≤ max K[j] d) ∧ (max K[j] d = K[j] ∨ some d = some (max K[j] d))
    refine ⟨by omega, (fun d' h => by cases h; omega), ?_⟩
    rcases Int.le_total d K[j] with q | q
    · exact .inl (by omega)
    · exact .inr (by congr 1; omega)
theorem step_is (T : List Nat) (j : Nat) : ∀ (ps : List (List Nat)) (K : List Int), j < K.length → K.getD j 0 ≤ (stepF ps T K).getD j 0 ∧ (∀ p ∈ ps, charsM p <:+ T → ∀ d, (digitsM p).reverse[j]? = some d → d ≤ (stepF ps T K).getD j 0) ∧ ((stepF ps T K).getD j 0 = K.getD j 0 ∨ ∃ p ∈ ps, charsM p <:+ T ∧ (digitsM p).reverse[j]? = some ((stepF ps T K).getD j 0))
  | [], K, _ => ⟨Int.le_refl _, (fun p h => nomatch h), .inl rfl⟩
  | p :: ps, K, hj => by
    have e : stepF (p :: ps) T K = stepF ps T (if charsM p <:+ T then upRev K (digitsM p).reverse else K) := rfl
    rw [e]
    have hj' : j < (if charsM p <:+ T then upRev K (digitsM p).reverse else K).length := by
      split
      · rw [upRev_len]; exact hj
      · exact hj
    obtain ⟨i1, i2, i3⟩ := step_is T j ps _ hj'
    by_cases q : charsM p <:+ T
    · rw [if_pos q] at i1 i2 i3 ⊢
      obtain ⟨u1, u2, u3⟩ := upRev_is K (digitsM p).reverse j hj
      refine ⟨Int.le_trans u1 i1, fun p' hp' hs d hd => ?_, ?_⟩
      · rcases List.mem_cons.mp hp' with rfl | hp'
        · exact Int.le_trans (u2 d hd) i1
        · exact i2 p' hp' hs d hd
      · rcases i3 with i3 | ⟨p', hp', i3⟩
        · rw [i3]
          rcases u3 with u3 | u3
          · exact .inl u3
          · exact .inr ⟨p, List.mem_cons_self .., q, u3⟩
        · exact .inr ⟨p', List.mem_cons_of_mem _ hp', i3⟩
    · rw [if_neg q] at i1 i2 i3 ⊢
      refine ⟨i1, fun p' hp' hs d hd => ?_, ?_⟩
      · rcases List.mem_cons.mp hp' with rfl | hp'
        · exact absurd hs q
        · exact i2 p' hp' hs d hd
      · rcases i3 with i3 | ⟨p', hp', i3⟩
        · exact .inl i3
        · exact .inr ⟨p', List.mem_cons_of_mem _ hp', i3⟩
theorem dig_rev {p : List Nat} {j : Nat} {d : Int} (h : (digitsM p).reverse[j]? = some d) : j ≤ (charsM p).length ∧ (digitsM p)[(charsM p).length - j]? = some d := by
  have hl := (List.getElem?_eq_some_iff.mp h).1
  rw [List.length_reverse, digits_len] at hl
  rw [List.getElem?_reverse (by rw [digits_len]; omega), digits_len] at h
  refine ⟨by omega, ?_⟩
  rw [← h]
  congr 1
  try omega
theorem dig_rev' {p : List Nat} {i : Nat} {d : Int} (h : (digitsM p)[i]? = some d) : i ≤ (charsM p).length ∧ (digitsM p).reverse[(charsM p).length - i]? = some d := by
  have hl := (List.getElem?_eq_some_iff.mp h).1
  rw [digits_len] at hl
  refine ⟨by omega, ?_⟩
  rw [List.getElem?_reverse (by rw [digits_len]; omega), digits_len, ← h]
  congr 1
  try omega
theorem VP.no46 {p : List Nat} (h : VP p) : charsM p ≠ [46] ∧ charsM p ≠ [] := by
  obtain ⟨d1, t, d2, h⟩ := h
  have hc := h.chars
  have h1 := h.c1
  have hl := h.clet
  constructor
  · intro e
    have hx : ∃ x, x ∈ charsM t := by
      cases q : charsM t with
      | nil => rw [q] at h1; cases h1
      | cons a b => exact ⟨a, List.mem_cons_self ..⟩
    obtain ⟨x, hx⟩ := hx
    have hm : x ∈ charsM p := by rw [hc]; simp [hx]
    rw [e, List.mem_singleton] at hm
    have := hl x hx
    unfold isLet at this
    omega
  · intro e
    have := h.clen
    rw [e] at this
    simp at this
    omega
theorem full_is {ps : List (List Nat)} (hv : ∀ p ∈ ps, VP p) : ∀ (u : List Nat) (j : Nat), j ≤ u.length →
    0 ≤ (fullR ps u).getD j 0 ∧ (∀ p ∈ ps, ∀ A B, 46 :: u.reverse = A ++ charsM p ++ B → ∀ (i : Nat) d, (digitsM p)[i]? = some d → A.length + i + j = u.length + 1 → d ≤ (fullR ps u).getD j 0) ∧
      ((fullR ps u).getD j 0 = 0 ∨ ∃ p ∈ ps, ∃ A B, 46 :: u.reverse = A ++ charsM p ++ B ∧ ∃ i : Nat, (digitsM p)[i]? = some ((fullR ps u).getD j 0) ∧ A.length + i + j = u.length + 1)
  | [], j, hj => by
    have hj : j = 0 := Nat.le_zero.mp hj
    subst hj
    refine ⟨Int.le_refl _, fun p hp A B e => ?_, .inl rfl⟩
    exfalso
    have hn := (hv p hp).no46
    have e : [46] = A ++ charsM p ++ B := e
    cases A with
    | nil =>
      cases q : charsM p with
      | nil => exact hn.2 q
      | cons a b =>
        rw [q] at e
        injection e with e1 e2
        have e2 : [] = b ++ B := e2
        have : b = [] := (List.append_eq_nil_iff.mp e2.symm).1
        exact hn.1 (by rw [q, this, ← e1])
    | cons a b =>
      injection e with e1 e2
      have e2 := (List.append_eq_nil_iff.mp e2.symm).1
      exact hn.2 (List.append_eq_nil_iff.mp e2).2
  | c :: u, j, hj => by
    have fl := full_len ps u
    rw [List.length_cons] at hj
    have st := step_is (46 :: u.reverse ++ [c]) j ps (0 :: fullR ps u) (by rw [List.length_cons, fl]; omega)
    have eT : 46 :: (c :: u).reverse = 46 :: u.reverse ++ [c] := by rw [List.reverse_cons]; rfl
    have lT : (46 :: u.reverse : List Nat).length = u.length + 1 := by rw [List.length_cons, List.length_reverse]
    rw [eT]
    show 0 ≤ (stepF ps (46 :: u.reverse ++ [c]) (0 :: fullR ps u)).getD j 0 ∧ _
    have eF : fullR ps (c :: u) = stepF ps (46 :: u.reverse ++ [c]) (0 :: fullR ps u) := rfl
    rw [eF]
    generalize (stepF ps (46 :: u.reverse ++ [c]) (0 :: fullR ps u)).getD j 0 = V at st ⊢
    obtain ⟨s1, s2, s3⟩ := st
    have old : ∀ j', j = j' + 1 → ((0 : Int) :: fullR ps u).getD j 0 = (fullR ps u).getD j' 0 := fun j' e => by subst e; rfl
    refine ⟨?_, fun p hp A B e i d hd ha => ?_, ?_⟩
    · cases j with
      | zero => exact s1
      | succ j => rw [old j rfl] at s1; have := (full_is hv u j (by omega)).1; omega
    · rcases List.eq_nil_or_concat B with rfl | ⟨B', b, rfl⟩
      · rw [List.append_nil] at e
        have le := congrArg List.length e
        rw [List.length_append, List.length_append, lT, List.length_singleton] at le
        rw [List.length_cons] at ha
        obtain ⟨k1, k2⟩ := dig_rev' hd
        exact s2 p hp ⟨A, e.symm⟩ d (by rw [← k2]; congr 1; omega)
      · rw [List.concat_eq_append, ← List.append_assoc] at e
        obtain ⟨e1, _⟩ := List.append_inj' e rfl
        have le := congrArg List.length e1
        rw [List.length_append, List.length_append, lT] at le
        rw [List.length_cons] at ha
        obtain ⟨k1, _⟩ := dig_rev' hd
        cases j with
        | zero => omega
        | succ j =>
          rw [old j rfl] at s1
          exact Int.le_trans ((full_is hv u j (by omega)).2.1 p hp A B' e1 i d hd (by omega)) s1
    · rcases s3 with s3 | ⟨p, hp, hs, hd⟩
      · cases j with
        | zero => exact .inl s3
        | succ j =>
          rw [old j rfl] at s3
          rcases (full_is hv u j (by omega)).2.2 with q | ⟨p, hp, A, B, e, i, hd, ha⟩
          · exact .inl (by rw [s3, q])
          · exact .inr ⟨p, hp, A, B ++ [c], by rw [e, List.append_assoc], i, by rw [s3]; exact hd, by rw [List.length_cons]; omega⟩
      · obtain ⟨A, e⟩ := hs
        have le := congrArg List.length e
        rw [List.length_append, List.length_append, lT, List.length_singleton] at le
        obtain ⟨k1, k2⟩ := dig_rev hd
        exact .inr ⟨p, hp, A, [], by rw [List.append_nil, e], _, k2, by rw [List.length_cons]; omega⟩
theorem found_get {p w : List Nat} {g d : Int} : (g, d) ∈ foundM p w ↔ ∃ s i : Nat, s < w.length + 3 - (charsM p).length ∧ occ p w s = true ∧ (digitsM p)[i]? = some d ∧ 0 < d ∧ g = (s : Int) + i - 1 := by
  unfold foundM
  rw [List.mem_flatMap]
  constructor
  · rintro ⟨s, hs, h⟩
    split at h
    · rename_i ho
      unfold hits at h
      obtain ⟨z, hz, e⟩ := List.mem_filterMap.mp h
      split at e
      · rename_i h0
        cases e
        obtain ⟨x, i⟩ := z
        exact ⟨s, i, List.mem_range.mp hs, ho, List.mk_mem_zipIdx_iff_getElem?.mp hz, of_decide_eq_true h0, rfl⟩
      · cases e
    · cases h
  · rintro ⟨s, i, hs, ho, hd, h0, rfl⟩
    refine ⟨s, List.mem_range.mpr hs, ?_⟩
    rw [if_pos ho]
    unfold hits
    exact List.mem_filterMap.mpr ⟨(d, i), List.mk_mem_zipIdx_iff_getElem?.mpr hd, by rw [if_pos (decide_eq_true h0)]⟩
theorem full_lev {ps : List (List Nat)} (hv : ∀ p ∈ ps, VP p) {w : List Nat} (hw : lets w) {g : Nat} (hg : g ≤ w.length) : (fullR ps (46 :: w.reverse)).getD (w.length + 1 - g) 0 = (levM ps w).getD g 0 := by
  obtain ⟨l1, l2, l3⟩ := lev_is (ps := ps) (w := w) (fun p hp => vp_in (hv p hp) hw) hg
  have fi := full_is hv (46 :: w.reverse) (w.length + 1 - g) (by rw [List.length_cons, List.length_reverse]; omega)
  have eT : 46 :: (46 :: w.reverse).reverse = txt w := by rw [List.reverse_cons, List.reverse_reverse]; rfl
  have lT : (txt w).length = w.length + 2 := by simp [txt]
  rw [eT, List.length_cons, List.length_reverse] at fi
  obtain ⟨f1, f2, f3⟩ := fi
  refine Int.le_antisymm ?_ ?_
  · rcases f3 with f3 | ⟨p, hp, A, B, e, i, hd, ha⟩
    · rw [f3]; exact l1
    · by_cases h0 : 0 < (fullR ps (46 :: w.reverse)).getD (w.length + 1 - g) 0
      · refine l2 p hp _ (found_get.mpr ⟨A.length, i, ?_, ?_, hd, h0, by omega⟩)
        · have := congrArg List.length e
          rw [List.length_append, List.length_append, lT] at this
          omega
        · unfold occ
          rw [e, List.append_assoc, List.drop_left, List.take_left]
          exact decide_eq_true rfl
      · omega
  · rcases l3 with l3 | ⟨p, hp, hf⟩
    · rw [l3]; exact f1
    · obtain ⟨s, i, hs, ho, hd, h0, hgs⟩ := found_get.mp hf
      refine f2 p hp ((txt w).take s) ((txt w).drop (s + (charsM p).length)) ?_ i _ hd ?_
      · have ho := of_decide_eq_true ho
        conv => lhs; rw [← List.take_append_drop s (txt w), ← List.take_append_drop (charsM p).length ((txt w).drop s)]
        rw [ho, List.drop_drop, List.append_assoc]
      · rw [List.length_take, lT]
        omega
/-! settled levels stay -/
theorem full_stay {ps : List (List Nat)} {reach : Nat} (hr : ∀ p ∈ ps, (charsM p).length + 1 ≤ reach) (c : Nat) (u : List Nat) {j : Nat} (h1 : reach ≤ j + 1) (h2 : j ≤ u.length) : (fullR ps (c :: u)).getD (j + 1) 0 = (fullR ps u).getD j 0 := by
  have st := (step_is (46 :: u.reverse ++ [c]) (j + 1) ps (0 :: fullR ps u) (by rw [List.length_cons, full_len]; omega)).2.2
  rcases st with e | ⟨p, hp, _, hd⟩
  · exact e
  · have := (dig_rev hd).1
    have := hr p hp
    omega
theorem full_stays {ps : List (List Nat)} {reach : Nat} (hr : ∀ p ∈ ps, (charsM p).length + 1 ≤ reach) (u : List Nat) {j : Nat} (h1 : reach ≤ j) (h2 : j ≤ u.length) : ∀ v : List Nat, (fullR ps (v ++ u)).getD (j + v.length) 0 = (fullR ps u).getD j 0
  | [] => rfl
  | c :: v => by
    rw [List.cons_append, List.length_cons, ← Nat.add_assoc, full_stay hr c (v ++ u) (by omega) (by rw [List.length_append]; omega), full_stays hr u h1 h2 v]
/-! broken -/
theorem brk_iff {l r : Int} {K : List Int} {m : Int} {fin : Bool} : brkM l r K m fin = true ↔ ∃ (i : Nat) (x : Int), K[i]? = some x ∧ x % 2 = 1 ∧ l ≤ m - beh fin i ∧ r ≤ beh fin i := by
  unfold brkM
  rw [List.any_eq_true]
  constructor
  · rintro ⟨⟨x, i⟩, hm, hb⟩
    unfold brkAt at hb
    simp only [Bool.and_eq_true, decide_eq_true_eq] at hb
    exact ⟨i, x, List.mk_mem_zipIdx_iff_getElem?.mp hm, hb⟩
  · rintro ⟨i, x, hx, hb⟩
    refine ⟨(x, i), List.mk_mem_zipIdx_iff_getElem?.mpr hx, ?_⟩
    unfold brkAt
    simp only [Bool.and_eq_true, decide_eq_true_eq]
    exact hb
theorem settle_get (reach : Nat) (K : List Int) (i : Nat) : (settle reach K)[i]? = K[i]?.map fun x => if (reach : Int) ≤ (i : Nat) then x else 0 := by
  unfold settle
  rw [List.getElem?_map, List.getElem?_zipIdx, Option.map_map]
  cases K[i]? with
  | none => rfl
  | some x => simp
theorem getD_of {xs : List Int} {i : Nat} {x : Int} (h : xs[i]? = some x) : xs.getD i 0 = x := by rw [List.getD_eq_getElem?_getD, h]; rfl
theorem odd_get {xs : List Int} {i : Nat} (h : xs.getD i 0 % 2 = 1) : ∃ x, xs[i]? = some x ∧ x % 2 = 1 := by
  rw [List.getD_eq_getElem?_getD] at h
  cases q : xs[i]? with
  | none => rw [q] at h; exact absurd h (by decide)
  | some x => rw [q] at h; exact ⟨x, rfl, h⟩
theorem run_iff {l r : Int} {ps : List (List Nat)} {reach : Nat} (hr : r + 1 ≤ (reach : Nat)) {u : List Nat} {c : Nat} {m : Int} : runOk l r ps reach m (ue (begM ps) (46 :: u.reverse), (fullR ps u).take reach) c = true ↔ ¬((fullR ps (c :: u)).getD reach 0 % 2 = 1 ∧ l ≤ m - (reach : Nat)) := by
  unfold runOk
  rw [newK_full]
  constructor
  · rintro h ⟨h1, h2⟩
    obtain ⟨x, hx, hx2⟩ := odd_get h1
    have : brkM l r (settle reach ((fullR ps (c :: u)).take (reach + 1))) m false = true := brk_iff.mpr ⟨reach, x, by
      rw [settle_get, List.getElem?_take, if_pos (Nat.lt_succ_self _), hx]
      show some (if (reach : Int) ≤ (reach : Nat) then x else 0) = _
      rw [if_pos (Int.le_refl _)], hx2, h2, by show r ≤ (reach : Nat); omega⟩
    rw [this] at h; cases h
  · intro h
    cases q : brkM l r (settle reach ((fullR ps (c :: u)).take (reach + 1))) m false with
    | false => rfl
    | true =>
      exfalso
      obtain ⟨i, x, hx, h2, h3, h4⟩ := brk_iff.mp q
      rw [settle_get, List.getElem?_take] at hx
      by_cases hi : i < reach + 1
      · rw [if_pos hi] at hx
        obtain ⟨y, hy, e⟩ := Option.map_eq_some_iff.mp hx
        by_cases hi2 : (reach : Int) ≤ (i : Nat)
        · rw [if_pos hi2] at e
          have : i = reach := by omega
          subst this
          subst e
          exact h ⟨by rw [getD_of hy]; exact h2, h3⟩
        · rw [if_neg hi2] at e
          subst e
          exact absurd h2 (by decide)
      · rw [if_neg hi] at hx; cases hx
theorem go_some {l r : Int} {ps : List (List Nat)} : ∀ u : List Nat, (∀ v c u0, u = v ++ c :: u0 → ∀ s, goR l r ps u0 = some s → runOk l r ps (reachM ps r) ((u0.length + 1 : Nat) : Int) s c = true) → ∃ s, goR l r ps u = some s
  | [], _ => ⟨_, rfl⟩
  | c :: u, h => by
    obtain ⟨s, hs⟩ := go_some u fun v c' u0 e => h (c :: v) c' u0 (by rw [e]; rfl)
    have hr := h [] c u rfl s hs
    refine ⟨nextS ps (begM ps) (reachM ps r) s c, ?_⟩
    unfold goR
    rw [hs]
    exact if_pos hr
theorem go_run {l r : Int} {ps : List (List Nat)} {c : Nat} {u0 : List Nat} : ∀ (v : List Nat) (s' : Sta), goR l r ps (v ++ c :: u0) = some s' → ∃ s, goR l r ps u0 = some s ∧ runOk l r ps (reachM ps r) ((u0.length + 1 : Nat) : Int) s c = true
  | [], s', h => by
    have h : (goR l r ps u0).bind (fun s => if runOk l r ps (reachM ps r) ((u0.length + 1 : Nat) : Int) s c = true then some (nextS ps (begM ps) (reachM ps r) s c) else none) = some s' := h
    obtain ⟨s, hs, h⟩ := Option.bind_eq_some_iff.mp h
    split at h
    · rename_i q; exact ⟨s, hs, q⟩
    · cases h
  | d :: v, s', h => by
    have h : (goR l r ps (v ++ c :: u0)).bind (fun s => if runOk l r ps (reachM ps r) (((v ++ c :: u0).length + 1 : Nat) : Int) s d = true then some (nextS ps (begM ps) (reachM ps r) s d) else none) = some s' := h
    obtain ⟨s, hs, _⟩ := Option.bind_eq_some_iff.mp h
    exact go_run v s hs
def noBrk (ps : List (List Nat)) (l r : Int) (w : List Nat) : Bool := decide (breaksM ps l r w = [])
theorem no_iff {ps : List (List Nat)} {l r : Int} {w : List Nat} (hl : 0 ≤ l) : noBrk ps l r w = true ↔ ∀ g : Nat, l ≤ g → (g : Int) ≤ (w.length : Int) - r → ¬(levM ps w).getD g 0 % 2 = 1 := by
  unfold noBrk
  rw [decide_eq_true_eq]
  constructor
  · intro h g h1 h2 h3
    have : (g : Int) ∈ breaksM ps l r w := breaks_mem.mpr ⟨⟨h1, h2⟩, decide_eq_true h3⟩
    rw [h] at this; cases this
  · intro h
    cases q : breaksM ps l r w with
    | nil => rfl
    | cons g gs =>
      exfalso
      have hm : g ∈ breaksM ps l r w := by rw [q]; exact List.mem_cons_self ..
      obtain ⟨⟨h1, h2⟩, h3⟩ := breaks_mem.mp hm
      have h3 := of_decide_eq_true h3
      exact h g.toNat (by omega) (by omega) h3
def oneW (ps : List (List Nat)) (l r : Int) (n : Nat) (w : List Nat) : Int := match goR l r ps w.reverse with
  | some s => finF l r ps (reachM ps r) n s
  | none => 0
theorem one_is {ps : List (List Nat)} {l r : Int} (h : VR ps l r) {w : List Nat} (hw : lets w) : oneW ps l r w.length w = if noBrk ps l r w = true then 1 else 0 := by
  obtain ⟨rg1, rg2⟩ := @reach_ge ps r
  have hv := h.vp
  have hl1 := h.l1
  have hr1 := h.r1
  have rpos : 1 ≤ reachM ps r := by omega
  have lR : w.reverse.length = w.length := List.length_reverse
  generalize hre : reachM ps r = reach at *
  have early : ∀ v c u0, w.reverse = v ++ c :: u0 → ∀ g : Nat, g + reach = u0.length + 1 → (fullR ps (c :: u0)).getD reach 0 = (levM ps w).getD g 0 := fun v c u0 e g hg => by
    have le := congrArg List.length e
    rw [List.length_append, lR, List.length_cons] at le
    have fs := full_stays rg1 (c :: u0) (Nat.le_refl reach) (by rw [List.length_cons]; omega) (46 :: v)
    rw [← fs, ← full_lev hv hw (by omega : g ≤ w.length), e]
    show _ = (fullR ps ((46 :: v) ++ c :: u0)).getD _ 0
    congr 1
    rw [List.length_cons]
    omega
  have bk : ∀ s, goR l r ps w.reverse = some s → (brkM l r (newK ps s 46) w.length true = true ↔ ∃ g : Nat, l ≤ g ∧ (g : Int) ≤ (w.length : Int) - r ∧ w.length + 1 - g ≤ reach ∧ (levM ps w).getD g 0 % 2 = 1) := fun s hs => by
    have e := go_is (hre ▸ rpos) w.reverse s hs
    rw [hre] at e
    rw [e, newK_full, brk_iff]
    constructor
    · rintro ⟨i, x, hx, h2, h3, h4⟩
      rw [List.getElem?_take] at hx
      have h3 : l ≤ (w.length : Int) - ((i : Int) - 1) := h3
      have h4 : r ≤ (i : Int) - 1 := h4
      by_cases hi : i < reach + 1
      · rw [if_pos hi] at hx
        have hg := full_lev hv hw (by omega : w.length + 1 - i ≤ w.length)
        have ei : w.length + 1 - (w.length + 1 - i) = i := by omega
        rw [ei, getD_of hx] at hg
        exact ⟨w.length + 1 - i, by omega, by omega, by omega, by rw [← hg]; exact h2⟩
      · rw [if_neg hi] at hx; cases hx
    · rintro ⟨g, h1, h2, h3, h4⟩
      have hg := full_lev hv hw (by omega : g ≤ w.length)
      rw [← hg] at h4
      obtain ⟨x, hx, hx2⟩ := odd_get h4
      refine ⟨w.length + 1 - g, x, ?_, hx2, ?_, ?_⟩
      · rw [List.getElem?_take, if_pos (by omega), hx]
      · show l ≤ (w.length : Int) - (((w.length + 1 - g : Nat) : Int) - 1)
        omega
      · show r ≤ ((w.length + 1 - g : Nat) : Int) - 1
        omega
  unfold oneW finF
  cases hg : goR l r ps w.reverse with
  | none =>
    by_cases q : noBrk ps l r w = true
    · exfalso
      have q := (no_iff (by omega)).mp q
      obtain ⟨s, hs⟩ := go_some (l := l) (r := r) (ps := ps) w.reverse fun v c u0 e s hs => by
        have e1 := go_is (hre ▸ rpos) u0 s hs
        rw [hre] at e1
        rw [e1, hre]
        refine (run_iff rg2).mpr fun ⟨h1, h2⟩ => ?_
        have le := congrArg List.length e
        rw [List.length_append, lR, List.length_cons] at le
        have ea := early v c u0 e (u0.length + 1 - reach) (by omega)
        rw [ea] at h1
        exact q _ (by omega) (by omega) h1
      rw [hg] at hs; cases hs
    · rw [if_neg q]
  | some s =>
    dsimp only
    by_cases q : noBrk ps l r w = true
    · rw [if_pos q, if_neg]
      intro hb
      rw [hre] at *
      obtain ⟨g, h1, h2, _, h4⟩ := (bk s hg).mp hb
      exact (no_iff (by omega)).mp q g h1 h2 h4
    · rw [if_neg q, if_pos]
      refine (bk s hg).mpr ?_
      refine Classical.byContradiction fun hn => q ((no_iff (by omega)).mpr fun g h1 h2 h3 => ?_)
      by_cases hgr : w.length + 1 - g ≤ reach
      · exact hn ⟨g, h1, h2, hgr, h3⟩
      · -- settled on the way
        have hd : ∃ v c u0, w.reverse = v ++ c :: u0 ∧ u0.length + 1 = g + reach := by
          have e1 := List.take_append_drop (w.length - (g + reach)) w.reverse
          cases hdr : w.reverse.drop (w.length - (g + reach)) with
          | nil =>
            have := congrArg List.length hdr
            rw [List.length_drop, lR, List.length_nil] at this
            omega
          | cons c u0 =>
            have := congrArg List.length hdr
            rw [List.length_drop, lR, List.length_cons] at this
            exact ⟨_, c, u0, by rw [← hdr]; exact e1.symm, by omega⟩
        obtain ⟨v, c, u0, e, hu⟩ := hd
        obtain ⟨s1, hs1, ho⟩ := go_run v s (e ▸ hg)
        have e1 := go_is (hre ▸ rpos) u0 s1 hs1
        rw [hre] at e1 ho
        rw [e1] at ho
        exact (run_iff rg2).mp ho ⟨by rw [early v c u0 e g hu.symm]; exact h3, by omega⟩
/-! all words of a length -/
def wordsN (z : List Nat) : Nat → List (List Nat)
  | 0 => [[]]
  | n + 1 => (wordsN z n).flatMap fun w => z.map fun c => w ++ [c]
theorem wordsN_mem {z : List Nat} : ∀ {n : Nat} {w : List Nat}, w ∈ wordsN z n → w.length = n ∧ ∀ c ∈ w, c ∈ z
  | 0, w, h => by
    rw [show wordsN z 0 = [[]] from rfl, List.mem_singleton] at h
    subst h
    exact ⟨rfl, fun c h => nomatch h⟩
  | n + 1, w, h => by
    obtain ⟨w', hw', h⟩ := List.mem_flatMap.mp h
    obtain ⟨c, hc, rfl⟩ := List.mem_map.mp h
    obtain ⟨i1, i2⟩ := wordsN_mem hw'
    refine ⟨by rw [List.length_append, i1]; rfl, fun d hd => ?_⟩
    rcases List.mem_append.mp hd with hd | hd
    · exact i2 d hd
    · rw [List.mem_singleton] at hd; subst hd; exact hc
theorem sum_flat {α β : Type} (f : α → List β) (F : β → Int) : ∀ xs : List α, ((xs.flatMap f).map F).sum = (xs.map fun x => ((f x).map F).sum).sum
  | [] => rfl
  | x :: xs => by rw [List.flatMap_cons, List.map_append, List.sum_append, sum_flat f F xs, List.map_cons, List.sum_cons]
theorem sum_zero {α : Type} : ∀ xs : List α, (xs.map fun _ => (0 : Int)).sum = 0
  | [] => rfl
  | x :: xs => by rw [List.map_cons, List.sum_cons, sum_zero xs]; rfl
theorem it_words (ps : List (List Nat)) (l r : Int) (z : List Nat) : ∀ (n : Nat) (F : Sta → Int), itF l r ps (begM ps) (reachM ps r) z n F (s0M (begM ps)) = ((wordsN z n).map fun w => match goR l r ps w.reverse with
    | some s => F s
    | none => 0).sum
  | 0, F => by
    show F (s0M (begM ps)) = F (s0M (begM ps)) + 0
    omega
  | n + 1, F => by
    show itF l r ps (begM ps) (reachM ps r) z n (opF l r ps (begM ps) (reachM ps r) z ((n + 1 : Nat) : Int) F) (s0M (begM ps)) = _
    rw [it_words ps l r z n]
    show _ = (((wordsN z n).flatMap fun w => z.map fun c => w ++ [c]).map _).sum
    rw [sum_flat]
    refine congrArg List.sum (List.map_congr_left fun w hw => ?_)
    have hl := (wordsN_mem hw).1
    rw [List.map_map]
    cases hg : goR l r ps w.reverse with
    | none =>
      dsimp only
      have e : (z.map ((fun w => match goR l r ps w.reverse with
          | some s => F s
          | none => 0) ∘ fun c => w ++ [c])) = z.map fun _ => (0 : Int) := by
        apply List.map_congr_left
        intro c _
        show (match goR l r ps (w ++ [c]).reverse with | some s => F s | none => 0) = 0
        have : goR l r ps (w ++ [c]).reverse = none := by
          rw [List.reverse_append]
          show goR l r ps (c :: w.reverse) = none
          unfold goR
          rw [hg]; rfl
        rw [this]
      rw [e]
      exact (sum_zero z).symm
    | some s =>
      dsimp only
      unfold opF
      refine congrArg List.sum (List.map_congr_left fun c _ => ?_)
      show _ = (match goR l r ps (w ++ [c]).reverse with | some s => F s | none => 0)
      have : goR l r ps (w ++ [c]).reverse = if runOk l r ps (reachM ps r) ((n + 1 : Nat) : Int) s c = true then some (nextS ps (begM ps) (reachM ps r) s c) else none := by
        rw [List.reverse_append]
        show goR l r ps (c :: w.reverse) = _
        unfold goR
        rw [hg, List.length_reverse, hl]; rfl
      rw [this]
      split <;> rfl
theorem cnt_is {ps : List (List Nat)} {l r : Int} (h : VR ps l r) {z : List Nat} (hz : lets z) (n : Nat) : cntM ps l r z n = (((wordsN z n).filter (noBrk ps l r)).length : Int) := by
  unfold cntM
  rw [it_words]
  have e : ((wordsN z n).map fun w => match goR l r ps w.reverse with
      | some s => finF l r ps (reachM ps r) n s
      | none => 0) = (wordsN z n).map fun w => if noBrk ps l r w = true then (1 : Int) else 0 := by
    apply List.map_congr_left
    intro w hw
    obtain ⟨h1, h2⟩ := wordsN_mem hw
    have := one_is h (w := w) fun c hc => hz c (h2 c hc)
    rw [h1] at this
    exact this
  rw [e]
  clear e
  induction wordsN z n with
  | nil => rfl
  | cons w ws ih =>
    rw [List.map_cons, List.sum_cons, ih]
    by_cases q : noBrk ps l r w = true
    · rw [if_pos q, List.filter_cons_of_pos q, List.length_cons]; omega
    · rw [if_neg q, List.filter_cons_of_neg q]; omega
end G

end
section
set_option Elab.async false
set_option linter.all false
set_option maxRecDepth 100000
set_option maxHeartbeats 4000000
set_option autoImplicit false
/-! M: numbers of words. -/
namespace G
open PySem L2 Lw
/-! words by place -/
def okN (ok : Nat → Nat → Bool) (w : List Nat) : Bool := w.zipIdx.all fun x => ok x.2 x.1
theorem okN_iff {ok : Nat → Nat → Bool} {w : List Nat} : okN ok w = true ↔ ∀ i c, w[i]? = some c → ok i c = true := by
  unfold okN
  rw [List.all_eq_true]
  constructor
  · intro h i c hc
    exact h (c, i) (List.mk_mem_zipIdx_iff_getElem?.mpr hc)
  · rintro h ⟨c, i⟩ hm
    exact h i c (List.mk_mem_zipIdx_iff_getElem?.mp hm)
theorem okN_snoc (ok : Nat → Nat → Bool) (w : List Nat) (c : Nat) : okN ok (w ++ [c]) = (okN ok w && ok w.length c) := by
  unfold okN
  rw [List.zipIdx_append, List.all_append]
  simp
def prodN (z : List Nat) (ok : Nat → Nat → Bool) : Nat → Nat
  | 0 => 1
  | n + 1 => prodN z ok n * (z.filter (ok n)).length
theorem filt_flat {α β : Type} (p : α → Bool) (f : α → List β) (q : β → Bool) (k : Nat) : ∀ ws : List α, (∀ w ∈ ws, ((f w).filter q).length = if p w = true then k else 0) → ((ws.flatMap f).filter q).length = (ws.filter p).length * k
  | [], _ => by simp
  | w :: ws, h => by
    have h1 := h w (List.mem_cons_self ..)
    have ih := filt_flat p f q k ws fun x hx => h x (List.mem_cons_of_mem _ hx)
    rw [List.flatMap_cons, List.filter_append, List.length_append, ih, h1]
    by_cases hp : p w = true
    · rw [if_pos hp, List.filter_cons_of_pos hp, List.length_cons, Nat.succ_mul]; omega
    · rw [if_neg hp, List.filter_cons_of_neg hp]; omega
theorem cnt_prod (z : List Nat) (ok : Nat → Nat → Bool) : ∀ n, ((wordsN z n).filter (okN ok)).length = prodN z ok n
  | 0 => rfl
  | n + 1 => by
    show (((wordsN z n).flatMap fun w => z.map fun c => w ++ [c]).filter (okN ok)).length = _
    rw [filt_flat (okN ok) _ _ ((z.filter (ok n)).length) (wordsN z n) fun w hw => ?_, cnt_prod z ok n]
    · rfl
    · have hl := (wordsN_mem hw).1
      rw [List.filter_map, List.length_map]
      have e : (okN ok ∘ fun c => w ++ [c]) = fun c => okN ok w && ok n c := by
        funext c
        show okN ok (w ++ [c]) = _
        rw [okN_snoc, hl]
      rw [e]
      by_cases h : okN ok w = true
      · rw [if_pos h]; simp [h]
      · rw [if_neg h]
        have : okN ok w = false := by simpa using h
        simp [this]
theorem words_len (z : List Nat) : ∀ n, (wordsN z n).length = z.length ^ n
  | 0 => rfl
  | n + 1 => by
    show ((wordsN z n).flatMap fun w => z.map fun c => w ++ [c]).length = _
    rw [List.length_flatMap, Nat.pow_succ, ← words_len z n]
    have e : ((wordsN z n).map fun w => (z.map fun c => w ++ [c]).length) = (wordsN z n).map fun _ => z.length := by
      apply List.map_congr_left
      intro w _
      rw [List.length_map]
    rw [e]
    generalize wordsN z n = ws
    induction ws with
    | nil => simp
    | cons a b ih => rw [List.map_cons, List.sum_cons, ih, List.length_cons, Nat.succ_mul]; omega
theorem pow_two (a b lo hi : Nat) (z : List Nat) (ok : Nat → Nat → Bool) (h : ∀ i, (z.filter (ok i)).length = if lo ≤ i ∧ i < hi then a else b) : ∀ n, prodN z ok n = b ^ (n - (min n hi - lo)) * a ^ (min n hi - lo)
  | 0 => by
    have e1 : 0 - (min 0 hi - lo) = 0 := by omega
    have e2 : min 0 hi - lo = 0 := by omega
    rw [e1, e2]; rfl
  | n + 1 => by
    show prodN z ok n * (z.filter (ok n)).length = _
    rw [pow_two a b lo hi z ok h n, h n]
    by_cases q : lo ≤ n ∧ n < hi
    · have e1 : n + 1 - (min (n + 1) hi - lo) = n - (min n hi - lo) := by omega
      have e2 : min (n + 1) hi - lo = (min n hi - lo) + 1 := by omega
      rw [if_pos q, e1, e2, Nat.pow_succ, Nat.mul_assoc]
    · have e1 : n + 1 - (min (n + 1) hi - lo) = (n - (min n hi - lo)) + 1 := by omega
      have e2 : min (n + 1) hi - lo = min n hi - lo := by omega
      rw [if_neg q, e1, e2, Nat.pow_succ, Nat.mul_assoc, Nat.mul_assoc, Nat.mul_comm b]
/-! what patterns of one letter find -/
theorem txt_get {w : List Nat} {s x : Nat} (hx : x ≠ 46) : (txt w)[s]? = some x ↔ ∃ k, s = k + 1 ∧ w[k]? = some x := by
  unfold txt
  cases s with
  | zero =>
    rw [List.getElem?_cons_zero]
    exact ⟨fun h => absurd (Option.some.inj h).symm hx, fun ⟨k, h, _⟩ => by omega⟩
  | succ k =>
    rw [List.getElem?_cons_succ]
    constructor
    · intro h
      refine ⟨k, rfl, ?_⟩
      by_cases hk : k < w.length
      · rwa [List.getElem?_append_left hk] at h
      · rw [List.getElem?_append_right (by omega)] at h
        have hm := List.mem_of_getElem? h
        rw [List.mem_singleton] at hm
        exact absurd hm hx
    · rintro ⟨k', e, h⟩
      have : k' = k := by omega
      subst this
      rw [List.getElem?_append_left (List.getElem?_eq_some_iff.mp h).1]
      exact h
theorem found_one {p : List Nat} {x : Nat} {off : Nat} (hc : charsM p = [x]) (hd : ∀ i d, (digitsM p)[i]? = some d ∧ 0 < d ↔ i = off ∧ d = 1) (hx : x ≠ 46) {w : List Nat} {g d : Int} : (g, d) ∈ foundM p w ↔ d = 1 ∧ ∃ k : Nat, g = k + (off : Nat) ∧ w[k]? = some x := by
  rw [found_get]
  constructor
  · rintro ⟨s, i, hs, ho, h1, h2, hg⟩
    obtain ⟨rfl, rfl⟩ := (hd i d).mp ⟨h1, h2⟩
    have := occ_get.mp ho 0 (by rw [hc]; exact Nat.zero_lt_one)
    rw [hc] at this
    obtain ⟨k, rfl, hk⟩ := (txt_get hx).mp this
    exact ⟨rfl, k, by omega, hk⟩
  · rintro ⟨rfl, k, rfl, hk⟩
    obtain ⟨h1, h2⟩ := (hd off 1).mpr ⟨rfl, rfl⟩
    have kl := (List.getElem?_eq_some_iff.mp hk).1
    refine ⟨k + 1, off, by rw [hc]; show _ < w.length + 3 - 1; omega, occ_get.mpr fun i hi => ?_, h1, h2, by omega⟩
    rw [hc] at hi ⊢
    have : i = 0 := by simpa using hi
    subst this
    exact (txt_get hx).mpr ⟨k, rfl, hk⟩
theorem pre_chars {x : Nat} (hx : isLet x) (d : Nat) (hd : d ∈ D9) : charsM [d, x] = [x] ∧ charsM [x, d] = [x] := by
  have hn := let_nd hx
  unfold charsM
  constructor <;> simp [hn, hd]
theorem pre_digits {x : Nat} (hx : isLet x) (d : Nat) (hd : d ∈ D9) : digitsM [d, x] = [(d : Int) - 48, 0] ∧ digitsM [x, d] = [0, (d : Int) - 48] := by
  have hn := let_nd hx
  rw [digits_dgo, digits_dgo]
  constructor <;> simp [dgo, hn, hd]
theorem vp_one {x : Nat} (hx : isLet x) (d : Nat) (hd : d ∈ D9) : VP [d, x] ∧ VP [x, d] := by
  have hn := let_nd hx
  obtain ⟨c1, c2⟩ := pre_chars hx d hd
  constructor
  · refine ⟨[], [d, x], [], rfl, .inl rfl, .inl rfl, fun c hc => ?_, ?_, ?_, ?_, ?_⟩
    · have : c = d ∨ c = x := by simpa using hc
      rcases this with rfl | rfl
      · exact .inl hd
      · exact .inr hx
    · unfold noAdj; simp [hd, hn, noAdj]
    all_goals (rw [c1]; simp)
  · refine ⟨[], [x, d], [], rfl, .inl rfl, .inl rfl, fun c hc => ?_, ?_, ?_, ?_, ?_⟩
    · have : c = x ∨ c = d := by simpa using hc
      rcases this with rfl | rfl
      · exact .inr hx
      · exact .inl hd
    · unfold noAdj; simp [hd, hn, noAdj]
    all_goals (rw [c2]; simp)
theorem dig_10 (i : Nat) (d : Int) : (([1, 0] : List Int)[i]? = some d ∧ 0 < d) ↔ i = 0 ∧ d = 1 := by
  match i with
  | 0 => simp; omega
  | 1 => simp; omega
  | i + 2 => simp
theorem dig_01 (i : Nat) (d : Int) : (([0, 1] : List Int)[i]? = some d ∧ 0 < d) ↔ i = 1 ∧ d = 1 := by
  match i with
  | 0 => simp; omega
  | 1 => simp; omega
  | i + 2 => simp
theorem found_pre {x : Nat} (hx : isLet x) {w : List Nat} {g d : Int} : (g, d) ∈ foundM [49, x] w ↔ d = 1 ∧ ∃ k : Nat, g = k + (0 : Nat) ∧ w[k]? = some x :=
  found_one (pre_chars hx 49 (by decide)).1 (fun i d => by rw [(pre_digits hx 49 (by decide)).1]; exact dig_10 i d) (by unfold isLet at hx; omega)
theorem found_suf {x : Nat} (hx : isLet x) {w : List Nat} {g d : Int} : (g, d) ∈ foundM [x, 49] w ↔ d = 1 ∧ ∃ k : Nat, g = k + (1 : Nat) ∧ w[k]? = some x :=
  found_one (pre_chars hx 49 (by decide)).2 (fun i d => by rw [(pre_digits hx 49 (by decide)).2]; exact dig_01 i d) (by unfold isLet at hx; omega)
/-- where all digits found are 1 -/
theorem odd_iff {ps : List (List Nat)} {w : List Nat} (hp : ∀ p ∈ ps, Inw p w) (h1 : ∀ p ∈ ps, ∀ g d, (g, d) ∈ foundM p w → d = 1) {g : Nat} (hg : g ≤ w.length) : (levM ps w).getD g 0 % 2 = 1 ↔ ∃ p ∈ ps, ((g : Int), (1 : Int)) ∈ foundM p w := by
  obtain ⟨a1, a2, a3⟩ := lev_is hp hg
  constructor
  · intro h
    rcases a3 with a3 | ⟨p, hpp, a3⟩
    · rw [a3] at h; exact absurd h (by decide)
    · have := h1 p hpp _ _ a3
      rw [this] at a3
      exact ⟨p, hpp, a3⟩
  · rintro ⟨p, hpp, h⟩
    have := a2 p hpp _ h
    rcases a3 with a3 | ⟨q, hqq, a3⟩
    · omega
    · rw [h1 q hqq _ _ a3]; rfl
theorem odd_no {ps : List (List Nat)} {w : List Nat} (hp : ∀ p ∈ ps, Inw p w) (h1 : ∀ p ∈ ps, ∀ g d, (g, d) ∈ foundM p w → d % 2 = 0) {g : Nat} (hg : g ≤ w.length) : ¬(levM ps w).getD g 0 % 2 = 1 := by
  obtain ⟨a1, a2, a3⟩ := lev_is hp hg
  rcases a3 with a3 | ⟨p, hpp, a3⟩
  · rw [a3]; decide
  · have := h1 p hpp _ _ a3
    omega
theorem found_dig {p w : List Nat} {g d : Int} (h : (g, d) ∈ foundM p w) : d ∈ digitsM p := by
  obtain ⟨s, i, _, _, h, _⟩ := found_get.mp h
  exact List.mem_of_getElem? h
theorem found_in {p w : List Nat} {g d : Int} (h : (g, d) ∈ foundM p w) : ∀ c ∈ charsM p, c = 46 ∨ c ∈ w := by
  obtain ⟨s, i, _, ho, _⟩ := found_get.mp h
  intro c hc
  have ho := of_decide_eq_true ho
  rw [← ho] at hc
  have := List.mem_of_mem_drop (List.mem_of_mem_take hc)
  unfold txt at this
  simp at this
  rcases this with h | h | h
  · exact .inl h
  · exact .inr h
  · exact .inl h
/-- no word is broken -/
theorem cnt_all {ps : List (List Nat)} {l r : Int} (h : VR ps l r) {z : List Nat} (hz : lets z) (n : Nat) (hb : ∀ w ∈ wordsN z n, noBrk ps l r w = true) : cntM ps l r z n = ((z.length ^ n : Nat) : Int) := by
  rw [cnt_is h hz, List.filter_eq_self.mpr hb, words_len]
theorem cnt_le {ps : List (List Nat)} {l r : Int} (h : VR ps l r) {z : List Nat} (hz : lets z) (n : Nat) : 0 ≤ cntM ps l r z n ∧ cntM ps l r z n ≤ ((z.length ^ n : Nat) : Int) := by
  rw [cnt_is h hz, ← words_len]
  have := List.length_filter_le (noBrk ps l r) (wordsN z n)
  omega
theorem no_all {ps : List (List Nat)} {l r : Int} {z : List Nat} {n : Nat} (hl : 0 ≤ l) (hr : 0 ≤ r) (h : ∀ w ∈ wordsN z n, ∀ g : Nat, g ≤ w.length → ¬(levM ps w).getD g 0 % 2 = 1) : ∀ w ∈ wordsN z n, noBrk ps l r w = true := fun w hw =>
  (no_iff hl).mpr fun g _ h2 => h w hw g (by omega)
theorem words_lets {z : List Nat} (hz : lets z) {n : Nat} {w : List Nat} (hw : w ∈ wordsN z n) : lets w := fun c hc => hz c ((wordsN_mem hw).2 c hc)
/-- patterns of one letter with a 1 ahead of it (off 0) or behind it (off 1) -/
theorem cnt_ones {ps : List (List Nat)} {l r : Int} (h : VR ps l r) {z : List Nat} (hz : lets z) (n : Nat) (off : Nat) (xs : List Nat) (ho : off ≤ 1)
    (hf : ∀ w, ∀ g d : Int, (∃ p ∈ ps, (g, d) ∈ foundM p w) ↔ d = 1 ∧ ∃ k : Nat, g = k + (off : Nat) ∧ ∃ x ∈ xs, w[k]? = some x) :
    cntM ps l r z n = ((z.length ^ (n - ((n : Int) - r - l + 1).toNat) * (z.filter fun c => !decide (c ∈ xs)).length ^ ((n : Int) - r - l + 1).toNat : Nat) : Int) := by
  have l1 := h.l1
  have r1 := h.r1
  rw [cnt_is h hz]
  have e : (wordsN z n).filter (noBrk ps l r) = (wordsN z n).filter (okN fun i c => !(decide (l ≤ (i : Nat) + (off : Nat)) && decide ((i : Int) + (off : Nat) ≤ n - r) && decide (c ∈ xs))) := by
    refine List.filter_congr fun w hw => ?_
    have hlen := (wordsN_mem hw).1
    have inw : ∀ p ∈ ps, Inw p w := fun p hp => vp_in (h.vp p hp) (words_lets hz hw)
    have h1 : ∀ p ∈ ps, ∀ g d, (g, d) ∈ foundM p w → d = 1 := fun p hp g d hm => ((hf w g d).mp ⟨p, hp, hm⟩).1
    refine Bool.eq_iff_iff.mpr ?_
    rw [no_iff (by omega), okN_iff]
    constructor
    · intro hn i c hc
      have il := (List.getElem?_eq_some_iff.mp hc).1
      rw [Bool.not_eq_true', Bool.and_eq_false_iff, Bool.and_eq_false_iff, decide_eq_false_iff_not, decide_eq_false_iff_not, decide_eq_false_iff_not]
      by_cases q1 : l ≤ (i : Int) + (off : Nat)
      · by_cases q2 : (i : Int) + (off : Nat) ≤ n - r
        · refine .inr fun hx => hn (i + off) (by omega) (by omega) ((odd_iff inw h1 (by omega)).mpr ?_)
          exact (hf w _ _).mpr ⟨rfl, i, by omega, c, hx, hc⟩
        · exact .inl (.inr q2)
      · exact .inl (.inl q1)
    · intro hn g g1 g2 hodd
      obtain ⟨_, k, hk, x, hx, hw2⟩ := (hf w _ _).mp ((odd_iff inw h1 (by omega)).mp hodd)
      have := hn k x hw2
      rw [Bool.not_eq_true', Bool.and_eq_false_iff, Bool.and_eq_false_iff, decide_eq_false_iff_not, decide_eq_false_iff_not, decide_eq_false_iff_not] at this
      rcases this with (h | h) | h
      · omega
      · omega
      · exact h hx
  rw [e, cnt_prod, pow_two ((z.filter fun c => !decide (c ∈ xs)).length) z.length (l - off).toNat ((n : Int) - r - off + 1).toNat]
  · have e1 : min n ((n : Int) - r - off + 1).toNat - (l - off).toNat = ((n : Int) - r - l + 1).toNat := by omega
    rw [e1]
  · intro i
    by_cases q : (l - off).toNat ≤ i ∧ i < ((n : Int) - r - off + 1).toNat
    · rw [if_pos q]
      have d1 : decide (l ≤ (i : Nat) + (off : Nat)) = true := decide_eq_true (by omega)
      have d2 : decide ((i : Int) + (off : Nat) ≤ n - r) = true := decide_eq_true (by omega)
      rw [d1, d2]; rfl
    · rw [if_neg q]
      have : (decide (l ≤ (i : Nat) + (off : Nat)) && decide ((i : Int) + (off : Nat) ≤ n - r)) = false := by
        rw [Bool.and_eq_false_iff, decide_eq_false_iff_not, decide_eq_false_iff_not]
        omega
      rw [this]
      simp
end G

end
section
set_option Elab.async false
set_option linter.all false
set_option maxRecDepth 100000
set_option maxHeartbeats 8000000
set_option autoImplicit false
set_option pp.maxSteps 500
/-! L20: the law that counts add. -/
namespace G
open PySem L2 Lw
theorem power_ok (b m : Nat) (hb : b ≤ 1000) (hm : m ≤ 1000) : fn__law_power [.shr (.int (b : Nat)), .shr (.int (m : Nat))] = some (.ret (.shr (.int ((b ^ m : Nat) : Int))), [.un, .un]) := by
  apply OX_det
  unfold fn__law_power g__law_power
  refine FX_run rfl ?_
  have em : ((m : Nat) : Int).toNat = m := rfl
  simp -implicitDefEqProofs only [SX_seq, SX_if, SX_asg, SX_ret, SX_retN, SX_setL, SX_augL, SX_nil, SX_expr, SX_par, SX_unp, SX_raise, SX_brk, SX_ct, SX_for, EX_bin, EX_un, EX_var, EX_c, EX_and, EX_or, EX_not, EX_if, EX_lst, EX_tup, EX_callB, EX_call, EX_meth, EX_mut, EX_extend, EX_sl, EX_chain, EX_esh, EX_eun, EX_tru,
    IX_any, IX_range1, IX_range2, IX_zip, IX_enum, xArgs_nil, xArgs_cons, xP_none, xP_some, iO_int, List.map_nil, List.map_cons, rE_val, rS_val, rI_val, rF_items, rE_exc, rS_exc, rI_exc, rF_exc, nxS_nx, nxS_ret, nxS_exc, nxS_brk, nxS_ct, lpS_nx, lpS_ct, lpS_brk, lpS_ret, lpS_exc,
    OX_some, OB_some, OB_map, OB_ite, ifO_bl, notO_bl, ifR_bl, get_shr, get_new, get_var, opd_shr, opd_new, own_zero, own_succ, ow_own, ow_io, upd_own, upd_io, upd_succ, so_shr, so_own, so_io, unO_shr, unO_new, unO_var, shO_shr, shO_new, shO_var', frz_own, setOk_un, setOk_shr, setOk_own, set_shr, set_new,
    xOwn_own, ret_shr, ret_new, ret_var, shrs_nil, shrs_cons, Option.map_some, gets_nil, gets_cons, split_nil, split_shr, split_var, sets_nil, sets_cons, tg_one, tg_many, callS_none, callS_some, xIo_some, xLst_some, xInt_some, oE_ret, oE_exc, two?, one?,
    List.cons_append, List.nil_append, List.replicate, List.getElem?_cons_zero, List.getElem?_cons_succ, List.set_cons_zero, List.set_cons_succ, List.length_cons, List.length_nil, Nat.zero_add, Nat.reduceAdd, Nat.reduceSub, Nat.reduceLeDiff, true_and, if_true, ite_true,
    ev_add, ev_sub, ev_fdiv, ev_mod, ev_pow18, ev_pow60, ev_pow5, ev_mul60, ev_mulA, ev_mulB, ev_neg, ev_lt, ev_le, ev_gt, ev_ge, ev_ixL, ev_ixT, ev_ixC, ev_ixS, ev_lenS, ev_lenL, ev_lenT, ev_lenC, ev_addS, ev_addL, ev_addT, ev_mulL, ev_max2, ev_min2, ev_slS, ev_slL, ev_slT, eqv_ii, nev_ii, Int.zero_add, ev_scr0, atI_nat0, atI_nat1, atI_nat2, ix20, ix21,
    Int.reduceLT, Int.reduceLE, Bool.false_eq_true, Bool.true_eq_false, false_implies, true_implies, implies_true, and_true, fnR_nx, fnR_ret, fnR_exc, ioOut, decide_eq_true_eq, decide_eq_false_iff_not, smI (show (0 : Int) ≤ (m : Int) by omega) (by omega), em]
  refine FL_inv (fun i e => ∃ s3, setOk (some s3) = true ∧ e = [.shr (.int (b : Nat)), .shr (.int (m : Nat)), .shr (.int ((b ^ i : Nat) : Int)), s3])
    ⟨.un, rfl, rfl⟩ (fun i v e hv hI => ?_) fun e hI => ?_
  · obtain ⟨s3, h3, rfl⟩ := hI
    have mk : mulOk ((b ^ i : Nat) : Int) (b : Nat) = true := mulOk_r (by omega)
    simp -implicitDefEqProofs only [SX_seq, SX_if, SX_asg, SX_ret, SX_retN, SX_setL, SX_augL, SX_nil, SX_expr, SX_par, SX_unp, SX_raise, SX_brk, SX_ct, SX_for, EX_bin, EX_un, EX_var, EX_c, EX_and, EX_or, EX_not, EX_if, EX_lst, EX_tup, EX_callB, EX_call, EX_meth, EX_mut, EX_extend, EX_sl, EX_chain, EX_esh, EX_eun, EX_tru,
    IX_any, IX_range1, IX_range2, IX_zip, IX_enum, xArgs_nil, xArgs_cons, xP_none, xP_some, iO_int, List.map_nil, List.map_cons, rE_val, rS_val, rI_val, rF_items, rE_exc, rS_exc, rI_exc, rF_exc, nxS_nx, nxS_ret, nxS_exc, nxS_brk, nxS_ct, lpS_nx, lpS_ct, lpS_brk, lpS_ret, lpS_exc,
    OX_some, OB_some, OB_map, OB_ite, ifO_bl, notO_bl, ifR_bl, get_shr, get_new, get_var, opd_shr, opd_new, own_zero, own_succ, ow_own, ow_io, upd_own, upd_io, upd_succ, so_shr, so_own, so_io, unO_shr, unO_new, unO_var, shO_shr, shO_new, shO_var', frz_own, setOk_un, setOk_shr, setOk_own, set_shr, set_new,
    xOwn_own, ret_shr, ret_new, ret_var, shrs_nil, shrs_cons, Option.map_some, gets_nil, gets_cons, split_nil, split_shr, split_var, sets_nil, sets_cons, tg_one, tg_many, callS_none, callS_some, xIo_some, xLst_some, xInt_some, oE_ret, oE_exc, two?, one?,
    List.cons_append, List.nil_append, List.replicate, List.getElem?_cons_zero, List.getElem?_cons_succ, List.set_cons_zero, List.set_cons_succ, List.length_cons, List.length_nil, Nat.zero_add, Nat.reduceAdd, Nat.reduceSub, Nat.reduceLeDiff, true_and, if_true, ite_true,
    ev_add, ev_sub, ev_fdiv, ev_mod, ev_pow18, ev_pow60, ev_pow5, ev_mul60, ev_mulA, ev_mulB, ev_neg, ev_lt, ev_le, ev_gt, ev_ge, ev_ixL, ev_ixT, ev_ixC, ev_ixS, ev_lenS, ev_lenL, ev_lenT, ev_lenC, ev_addS, ev_addL, ev_addT, ev_mulL, ev_max2, ev_min2, ev_slS, ev_slL, ev_slT, eqv_ii, nev_ii, Int.zero_add, ev_scr0, atI_nat0, atI_nat1, atI_nat2, ix20, ix21,
    Int.reduceLT, Int.reduceLE, Bool.false_eq_true, Bool.true_eq_false, false_implies, true_implies, implies_true, and_true, fnR_nx, fnR_ret, fnR_exc, ioOut, decide_eq_true_eq, decide_eq_false_iff_not, h3, ev_mul, mk]
    refine ⟨.shr v, rfl, ?_⟩
    rw [Nat.pow_succ, Int.natCast_mul]
  · obtain ⟨s3, h3, rfl⟩ := hI
    rw [rangeV_len]
    simp -implicitDefEqProofs only [SX_seq, SX_if, SX_asg, SX_ret, SX_retN, SX_setL, SX_augL, SX_nil, SX_expr, SX_par, SX_unp, SX_raise, SX_brk, SX_ct, SX_for, EX_bin, EX_un, EX_var, EX_c, EX_and, EX_or, EX_not, EX_if, EX_lst, EX_tup, EX_callB, EX_call, EX_meth, EX_mut, EX_extend, EX_sl, EX_chain, EX_esh, EX_eun, EX_tru,
    IX_any, IX_range1, IX_range2, IX_zip, IX_enum, xArgs_nil, xArgs_cons, xP_none, xP_some, iO_int, List.map_nil, List.map_cons, rE_val, rS_val, rI_val, rF_items, rE_exc, rS_exc, rI_exc, rF_exc, nxS_nx, nxS_ret, nxS_exc, nxS_brk, nxS_ct, lpS_nx, lpS_ct, lpS_brk, lpS_ret, lpS_exc,
    OX_some, OB_some, OB_map, OB_ite, ifO_bl, notO_bl, ifR_bl, get_shr, get_new, get_var, opd_shr, opd_new, own_zero, own_succ, ow_own, ow_io, upd_own, upd_io, upd_succ, so_shr, so_own, so_io, unO_shr, unO_new, unO_var, shO_shr, shO_new, shO_var', frz_own, setOk_un, setOk_shr, setOk_own, set_shr, set_new,
    xOwn_own, ret_shr, ret_new, ret_var, shrs_nil, shrs_cons, Option.map_some, gets_nil, gets_cons, split_nil, split_shr, split_var, sets_nil, sets_cons, tg_one, tg_many, callS_none, callS_some, xIo_some, xLst_some, xInt_some, oE_ret, oE_exc, two?, one?,
    List.cons_append, List.nil_append, List.replicate, List.getElem?_cons_zero, List.getElem?_cons_succ, List.set_cons_zero, List.set_cons_succ, List.length_cons, List.length_nil, Nat.zero_add, Nat.reduceAdd, Nat.reduceSub, Nat.reduceLeDiff, true_and, if_true, ite_true,
    ev_add, ev_sub, ev_fdiv, ev_mod, ev_pow18, ev_pow60, ev_pow5, ev_mul60, ev_mulA, ev_mulB, ev_neg, ev_lt, ev_le, ev_gt, ev_ge, ev_ixL, ev_ixT, ev_ixC, ev_ixS, ev_lenS, ev_lenL, ev_lenT, ev_lenC, ev_addS, ev_addL, ev_addT, ev_mulL, ev_max2, ev_min2, ev_slS, ev_slL, ev_slT, eqv_ii, nev_ii, Int.zero_add, ev_scr0, atI_nat0, atI_nat1, atI_nat2, ix20, ix21,
    Int.reduceLT, Int.reduceLE, Bool.false_eq_true, Bool.true_eq_false, false_implies, true_implies, implies_true, and_true, fnR_nx, fnR_ret, fnR_exc, ioOut, decide_eq_true_eq, decide_eq_false_iff_not]
    try first | exact rfl | exact ⟨rfl, rfl⟩
theorem vr_one {p : List Nat} (hp : VP p) {l r : Int} (h1 : 1 ≤ l) (h2 : l ≤ 4) (h3 : 1 ≤ r) (h4 : r ≤ 4) : VR [p] l r where
  vp := fun q hq => by rw [List.mem_singleton] at hq; subst hq; exact hp
  nd := List.nodup_cons.mpr ⟨by simp, List.nodup_nil⟩
  n6 := by show 1 ≤ 6; decide
  l1 := h1
  l4 := h2
  r1 := h3
  r4 := h4
theorem vr_two {p q : List Nat} (hp : VP p) (hq : VP q) (hn : charsM p ≠ charsM q) {l r : Int} (h1 : 1 ≤ l) (h2 : l ≤ 4) (h3 : 1 ≤ r) (h4 : r ≤ 4) : VR [p, q] l r where
  vp := fun x hx => by
    rcases List.mem_cons.mp hx with rfl | hx
    · exact hp
    · rw [List.mem_singleton] at hx; subst hx; exact hq
  nd := by
    show [charsM p, charsM q].Nodup
    exact List.nodup_cons.mpr ⟨by simpa using hn, List.nodup_cons.mpr ⟨by simp, List.nodup_nil⟩⟩
  n6 := by show 2 ≤ 6; decide
  l1 := h1
  l4 := h2
  r1 := h3
  r4 := h4
theorem isL {c : Nat} (h1 : 97 ≤ c) (h2 : c ≤ 122) : isLet c := ⟨h1, h2⟩
theorem vp_y1z : VP [121, 49, 122] := by
  refine ⟨[], [121, 49, 122], [], rfl, .inl rfl, .inl rfl, fun c hc => ?_, by decide, by decide, by decide, by decide⟩
  have : c = 121 ∨ c = 49 ∨ c = 122 := by simpa using hc
  rcases this with rfl | rfl | rfl
  · exact .inr (isL (by decide) (by decide))
  · exact .inl (by decide)
  · exact .inr (isL (by decide) (by decide))
def abcd (k : Nat) : List Nat := ([97, 98, 99, 100] : List Nat).take k
theorem abcd_ok {k : Nat} (k1 : 1 ≤ k) (k4 : k ≤ 4) : LT (abcd k) ∧ (abcd k).length = k ∧ ((abcd k).filter fun c => !decide (c ∈ ([97] : List Nat))).length = k - 1 ∧ ((abcd k).filter fun c => !decide (c ∈ ([97, 98] : List Nat))).length = k - 2 ∧ ∀ c ∈ abcd k, c ≤ 100 := by
  have hk : k = 1 ∨ k = 2 ∨ k = 3 ∨ k = 4 := by omega
  have hl : ∀ c ∈ abcd k, c = 97 ∨ c = 98 ∨ c = 99 ∨ c = 100 := fun c hc => by simpa using List.mem_of_mem_take hc
  have le : (abcd k).length = k := by unfold abcd; rw [List.length_take]; show min k 4 = k; omega
  have nd : (abcd k).Nodup := List.Nodup.sublist (List.take_sublist _ _) (by decide)
  refine ⟨⟨nd, fun c hc => ?_, by omega, by omega⟩, le, ?_, ?_, fun c hc => by have := hl c hc; omega⟩
  · have := hl c hc
    unfold isLet; omega
  · rcases hk with rfl | rfl | rfl | rfl <;> decide
  · rcases hk with rfl | rfl | rfl | rfl <;> decide
def ab (k : Nat) : List Nat := ([97, 98] : List Nat).take k
theorem ab_ok {k : Nat} (k1 : 1 ≤ k) (k4 : k ≤ 4) : LT (ab k) ∧ (ab k).Sublist (abcd k) := by
  have hk : k = 1 ∨ k = 2 ∨ k = 3 ∨ k = 4 := by omega
  have hl : ∀ c ∈ ab k, c = 97 ∨ c = 98 := fun c hc => by simpa using List.mem_of_mem_take hc
  have le : (ab k).length = min k 2 := by unfold ab; rw [List.length_take]; rfl
  have nd : (ab k).Nodup := List.Nodup.sublist (List.take_sublist _ _) (by decide)
  refine ⟨⟨nd, fun c hc => ?_, by omega, by omega⟩, ?_⟩
  · have := hl c hc
    unfold isLet; omega
  · rcases hk with rfl | rfl | rfl | rfl
    · exact List.Sublist.refl _
    · exact List.Sublist.refl _
    · exact List.take_sublist 2 [97, 98, 99]
    · exact List.take_sublist 2 [97, 98, 99, 100]
theorem sub_flat {α β : Type} {f g : α → List β} (h : ∀ x, (f x).Sublist (g x)) {xs ys : List α} (hs : xs.Sublist ys) : (xs.flatMap f).Sublist (ys.flatMap g) := by
  induction hs with
  | slnil => exact List.Sublist.refl _
  | cons a _ ih => rw [List.flatMap_cons]; exact ih.trans (List.sublist_append_right _ _)
  | cons_cons a _ ih => rw [List.flatMap_cons, List.flatMap_cons]; exact (h a).append ih
theorem words_sub {y z : List Nat} (h : y.Sublist z) : ∀ n, (wordsN y n).Sublist (wordsN z n)
  | 0 => List.Sublist.refl _
  | n + 1 => sub_flat (fun w => h.map _) (words_sub h n)
theorem cnt_sub {ps : List (List Nat)} {l r : Int} (h : VR ps l r) {y z : List Nat} (hy : lets y) (hz : lets z) (hs : y.Sublist z) (n : Nat) : cntM ps l r y n ≤ cntM ps l r z n := by
  rw [cnt_is h hy, cnt_is h hz]
  have := ((words_sub hs n).filter (noBrk ps l r)).length_le
  omega
theorem len_filt {α : Type} {p q : α → Bool} (h : ∀ x, p x = true → q x = true) : ∀ xs : List α, (xs.filter p).length ≤ (xs.filter q).length
  | [] => Nat.le_refl _
  | x :: xs => by
    have ih := len_filt h xs
    by_cases hp : p x = true
    · rw [List.filter_cons_of_pos hp, List.filter_cons_of_pos (h x hp)]
      exact Nat.succ_le_succ ih
    · rw [List.filter_cons_of_neg hp]
      by_cases hq : q x = true
      · rw [List.filter_cons_of_pos hq]
        exact Nat.le_succ_of_le ih
      · rw [List.filter_cons_of_neg hq]; exact ih
theorem cnt_more {ps : List (List Nat)} {l l' r : Int} (h : VR ps l r) (h' : VR ps l' r) (hl : l ≤ l') {z : List Nat} (hz : lets z) (n : Nat) : cntM ps l r z n ≤ cntM ps l' r z n := by
  rw [cnt_is h hz, cnt_is h' hz]
  have l1 := h.l1
  have := len_filt (p := noBrk ps l r) (q := noBrk ps l' r) (fun w hw => (no_iff (by omega)).mpr fun g h1 h2 => (no_iff (by omega)).mp hw g (by omega) h2) (wordsN z n)
  omega
theorem cnt_1a {l r : Int} (h1 : 1 ≤ l) (h2 : l ≤ 4) (h3 : 1 ≤ r) (h4 : r ≤ 4) {k : Nat} (k1 : 1 ≤ k) (k4 : k ≤ 4) (n : Nat) :
    cntM [[49, 97]] l r (abcd k) n = ((k ^ (n - ((n : Int) - r - l + 1).toNat) * (k - 1) ^ ((n : Int) - r - l + 1).toNat : Nat) : Int) := by
  have hx : isLet 97 := isL (by decide) (by decide)
  obtain ⟨a1, a2, a3, _⟩ := abcd_ok k1 k4
  rw [cnt_ones (vr_one (vp_one hx 49 (by decide)).1 h1 h2 h3 h4) a1.lt n 0 [97] (by decide) fun w g d => by
    constructor
    · rintro ⟨p, hp, h⟩
      rw [List.mem_singleton] at hp; subst hp
      obtain ⟨e, k, hk, hw⟩ := (found_pre hx).mp h
      exact ⟨e, k, hk, 97, List.mem_singleton.mpr rfl, hw⟩
    · rintro ⟨e, k, hk, x, hx', hw⟩
      rw [List.mem_singleton] at hx'; subst hx'
      exact ⟨_, List.mem_singleton.mpr rfl, (found_pre hx).mpr ⟨e, k, hk, hw⟩⟩]
  rw [a2, a3]
theorem cnt_a1 {l r : Int} (h1 : 1 ≤ l) (h2 : l ≤ 4) (h3 : 1 ≤ r) (h4 : r ≤ 4) {k : Nat} (k1 : 1 ≤ k) (k4 : k ≤ 4) (n : Nat) :
    cntM [[97, 49]] l r (abcd k) n = ((k ^ (n - ((n : Int) - r - l + 1).toNat) * (k - 1) ^ ((n : Int) - r - l + 1).toNat : Nat) : Int) := by
  have hx : isLet 97 := isL (by decide) (by decide)
  obtain ⟨a1, a2, a3, _⟩ := abcd_ok k1 k4
  rw [cnt_ones (vr_one (vp_one hx 49 (by decide)).2 h1 h2 h3 h4) a1.lt n 1 [97] (by decide) fun w g d => by
    constructor
    · rintro ⟨p, hp, h⟩
      rw [List.mem_singleton] at hp; subst hp
      obtain ⟨e, k, hk, hw⟩ := (found_suf hx).mp h
      exact ⟨e, k, hk, 97, List.mem_singleton.mpr rfl, hw⟩
    · rintro ⟨e, k, hk, x, hx', hw⟩
      rw [List.mem_singleton] at hx'; subst hx'
      exact ⟨_, List.mem_singleton.mpr rfl, (found_suf hx).mpr ⟨e, k, hk, hw⟩⟩]
  rw [a2, a3]
theorem vr_ab {l r : Int} (h1 : 1 ≤ l) (h2 : l ≤ 4) (h3 : 1 ≤ r) (h4 : r ≤ 4) : VR [[49, 97], [49, 98]] l r :=
  vr_two (vp_one (isL (by decide) (by decide)) 49 (by decide)).1 (vp_one (isL (by decide) (by decide)) 49 (by decide)).1 (by decide) h1 h2 h3 h4
theorem cnt_ab {l r : Int} (h1 : 1 ≤ l) (h2 : l ≤ 4) (h3 : 1 ≤ r) (h4 : r ≤ 4) {k : Nat} (k1 : 1 ≤ k) (k4 : k ≤ 4) (n : Nat) :
    cntM [[49, 97], [49, 98]] l r (abcd k) n = ((k ^ (n - ((n : Int) - r - l + 1).toNat) * (k - 2) ^ ((n : Int) - r - l + 1).toNat : Nat) : Int) := by
  have hx : isLet 97 := isL (by decide) (by decide)
  have hy : isLet 98 := isL (by decide) (by decide)
  obtain ⟨a1, a2, _, a3, _⟩ := abcd_ok k1 k4
  rw [cnt_ones (vr_ab h1 h2 h3 h4) a1.lt n 0 [97, 98] (by decide) fun w g d => by
    constructor
    · rintro ⟨p, hp, h⟩
      rcases List.mem_cons.mp hp with rfl | hp
      · obtain ⟨e, k, hk, hw⟩ := (found_pre hx).mp h
        exact ⟨e, k, hk, 97, by simp, hw⟩
      · rw [List.mem_singleton] at hp; subst hp
        obtain ⟨e, k, hk, hw⟩ := (found_pre hy).mp h
        exact ⟨e, k, hk, 98, by simp, hw⟩
    · rintro ⟨e, k, hk, x, hx', hw⟩
      rcases List.mem_cons.mp hx' with rfl | hx'
      · exact ⟨_, List.mem_cons_self .., (found_pre hx).mpr ⟨e, k, hk, hw⟩⟩
      · rw [List.mem_singleton] at hx'; subst hx'
        exact ⟨[49, 98], by simp, (found_pre hy).mpr ⟨e, k, hk, hw⟩⟩]
  rw [a2, a3]
theorem vr_even {l r : Int} (h1 : 1 ≤ l) (h2 : l ≤ 4) (h3 : 1 ≤ r) (h4 : r ≤ 4) : VR [[50, 97], [98, 52]] l r :=
  vr_two (vp_one (isL (by decide) (by decide)) 50 (by decide)).1 (vp_one (isL (by decide) (by decide)) 52 (by decide)).2 (by decide) h1 h2 h3 h4
theorem cnt_even {l r : Int} (h1 : 1 ≤ l) (h2 : l ≤ 4) (h3 : 1 ≤ r) (h4 : r ≤ 4) {k : Nat} (k1 : 1 ≤ k) (k4 : k ≤ 4) (n : Nat) : cntM [[50, 97], [98, 52]] l r (abcd k) n = ((k ^ n : Nat) : Int) := by
  obtain ⟨a1, a2, _⟩ := abcd_ok k1 k4
  have hV := vr_even h1 h2 h3 h4
  rw [cnt_all hV a1.lt n (no_all (by omega) (by omega) fun w hw g hg => odd_no (fun p hp => vp_in (hV.vp p hp) (words_lets a1.lt hw)) (fun p hp g d hf => ?_) hg), a2]
  have hd := found_dig hf
  rcases List.mem_cons.mp hp with rfl | hp
  · have : d = 2 ∨ d = 0 := by simpa using (show d ∈ ([2, 0] : List Int) from hd)
    omega
  · rw [List.mem_singleton] at hp; subst hp
    have : d = 0 ∨ d = 4 := by simpa using (show d ∈ ([0, 4] : List Int) from hd)
    omega
theorem vr_far {l r : Int} (h1 : 1 ≤ l) (h2 : l ≤ 4) (h3 : 1 ≤ r) (h4 : r ≤ 4) : VR [[49, 120], [121, 49, 122]] l r :=
  vr_two (vp_one (isL (by decide) (by decide)) 49 (by decide)).1 vp_y1z (by decide) h1 h2 h3 h4
theorem cnt_far {l r : Int} (h1 : 1 ≤ l) (h2 : l ≤ 4) (h3 : 1 ≤ r) (h4 : r ≤ 4) {k : Nat} (k1 : 1 ≤ k) (k4 : k ≤ 4) (n : Nat) : cntM [[49, 120], [121, 49, 122]] l r (abcd k) n = ((k ^ n : Nat) : Int) := by
  obtain ⟨a1, a2, _, _, a5⟩ := abcd_ok k1 k4
  have hV := vr_far h1 h2 h3 h4
  rw [cnt_all hV a1.lt n (no_all (by omega) (by omega) fun w hw g hg => odd_no (fun p hp => vp_in (hV.vp p hp) (words_lets a1.lt hw)) (fun p hp g d hf => ?_) hg), a2]
  exfalso
  have hi := found_in hf
  have key : ∀ c, c ∈ charsM p → 101 ≤ c → False := fun c hc h => by
    rcases hi c hc with e | e
    · omega
    · have := a5 c ((wordsN_mem hw).2 c e)
      omega
  rcases List.mem_cons.mp hp with rfl | hp
  · exact key 120 (by decide) (by decide)
  · rw [List.mem_singleton] at hp; subst hp
    exact key 121 (by decide) (by decide)
theorem lab : lets [97, 98] := fun c hc => by
  have : c = 97 ∨ c = 98 := by simpa using hc
  unfold isLet; omega
theorem SX_cut {g1 g2 : SF} {env : Lw.Env} {QS : FRes → Lw.Env → Prop} (I : Lw.Env → Prop) (h1 : OX (g1 env) fun r e => r = .nx ∧ I e) (h2 : ∀ e, I e → OX (g2 e) QS) : OX (sSeq g1 g2 env) QS := by
  rw [SX_seq]
  refine OX_mono h1 fun r e h => ?_
  obtain ⟨rfl, he⟩ := h
  exact h2 e he
theorem law_ok (ns : List Int) (hl : ns.length ≤ 63) : ∃ ss, fn_law [.shr (.scr ns)] = some (.ret (.shr (.bl true)), ss) := by
  suffices h : OX (fn_law [.shr (.scr ns)]) fun o ss => o = .ret (.shr (.bl true)) by
    obtain ⟨a, b, e, rfl⟩ := OX_eq h
    exact ⟨b, e⟩
  unfold fn_law g_law
  refine FX_run rfl ?_
  have t0 : Tn (.lst [.int 0, .int 0]) := ⟨0, 0, Int.le_refl _, Int.le_refl _, rfl⟩
  refine SX_cut (fun e => e = [.shr (.scr ns), .own (.lst [.int 0, .int 0]), .un, .un, .un, .un, .un, .un, .un, .un, .un, .un]) ?_ fun e he => ?_
  · simp -implicitDefEqProofs only [SX_seq, SX_if, SX_asg, SX_ret, SX_retN, SX_setL, SX_augL, SX_nil, SX_expr, SX_par, SX_unp, SX_raise, SX_brk, SX_ct, SX_for, EX_bin, EX_un, EX_var, EX_c, EX_and, EX_or, EX_not, EX_if, EX_lst, EX_tup, EX_callB, EX_call, EX_meth, EX_mut, EX_extend, EX_sl, EX_chain, EX_esh, EX_eun, EX_tru,
    IX_any, IX_range1, IX_range2, IX_zip, IX_enum, xArgs_nil, xArgs_cons, xP_none, xP_some, iO_int, List.map_nil, List.map_cons, rE_val, rS_val, rI_val, rF_items, rE_exc, rS_exc, rI_exc, rF_exc, nxS_nx, nxS_ret, nxS_exc, nxS_brk, nxS_ct, lpS_nx, lpS_ct, lpS_brk, lpS_ret, lpS_exc,
    OX_some, OB_some, OB_map, OB_ite, ifO_bl, notO_bl, ifR_bl, get_shr, get_new, get_var, opd_shr, opd_new, own_zero, own_succ, ow_own, ow_io, upd_own, upd_io, upd_succ, so_shr, so_own, so_io, unO_shr, unO_new, unO_var, shO_shr, shO_new, shO_var', frz_own, setOk_un, setOk_shr, setOk_own, set_shr, set_new,
    xOwn_own, ret_shr, ret_new, ret_var, shrs_nil, shrs_cons, Option.map_some, gets_nil, gets_cons, split_nil, split_shr, split_var, sets_nil, sets_cons, tg_one, tg_many, callS_none, callS_some, xIo_some, xLst_some, xInt_some, oE_ret, oE_exc, two?, one?,
    List.cons_append, List.nil_append, List.replicate, List.getElem?_cons_zero, List.getElem?_cons_succ, List.set_cons_zero, List.set_cons_succ, List.length_cons, List.length_nil, Nat.zero_add, Nat.reduceAdd, Nat.reduceSub, Nat.reduceLeDiff, true_and, if_true, ite_true,
    ev_add, ev_sub, ev_fdiv, ev_mod, ev_pow18, ev_pow60, ev_pow5, ev_mul60, ev_mulA, ev_mulB, ev_neg, ev_lt, ev_le, ev_gt, ev_ge, ev_ixL, ev_ixT, ev_ixC, ev_ixS, ev_lenS, ev_lenL, ev_lenT, ev_lenC, ev_addS, ev_addL, ev_addT, ev_mulL, ev_max2, ev_min2, ev_slS, ev_slL, ev_slT, eqv_ii, nev_ii, Int.zero_add, ev_scr0, atI_nat0, atI_nat1, atI_nat2, ix20, ix21,
    Int.reduceLT, Int.reduceLE, Bool.false_eq_true, Bool.true_eq_false, false_implies, true_implies, implies_true, and_true, fnR_nx, fnR_ret, fnR_exc, ioOut, decide_eq_true_eq, decide_eq_false_iff_not]
  subst he
  refine SX_cut (fun e => ∃ (k : Nat) (v : Val), 1 ≤ k ∧ k ≤ 4 ∧ Tn v ∧ e = [.shr (.scr ns), .own v, .shr (.str (abcd k)), .un, .un, .un, .un, .un, .un, .un, .un, .un]) ?_ fun e he => ?_
  · simp -implicitDefEqProofs only [SX_seq, SX_if, SX_asg, SX_ret, SX_retN, SX_setL, SX_augL, SX_nil, SX_expr, SX_par, SX_unp, SX_raise, SX_brk, SX_ct, SX_for, EX_bin, EX_un, EX_var, EX_c, EX_and, EX_or, EX_not, EX_if, EX_lst, EX_tup, EX_callB, EX_call, EX_meth, EX_mut, EX_extend, EX_sl, EX_chain, EX_esh, EX_eun, EX_tru,
    IX_any, IX_range1, IX_range2, IX_zip, IX_enum, xArgs_nil, xArgs_cons, xP_none, xP_some, iO_int, List.map_nil, List.map_cons, rE_val, rS_val, rI_val, rF_items, rE_exc, rS_exc, rI_exc, rF_exc, nxS_nx, nxS_ret, nxS_exc, nxS_brk, nxS_ct, lpS_nx, lpS_ct, lpS_brk, lpS_ret, lpS_exc,
    OX_some, OB_some, OB_map, OB_ite, ifO_bl, notO_bl, ifR_bl, get_shr, get_new, get_var, opd_shr, opd_new, own_zero, own_succ, ow_own, ow_io, upd_own, upd_io, upd_succ, so_shr, so_own, so_io, unO_shr, unO_new, unO_var, shO_shr, shO_new, shO_var', frz_own, setOk_un, setOk_shr, setOk_own, set_shr, set_new,
    xOwn_own, ret_shr, ret_new, ret_var, shrs_nil, shrs_cons, Option.map_some, gets_nil, gets_cons, split_nil, split_shr, split_var, sets_nil, sets_cons, tg_one, tg_many, callS_none, callS_some, xIo_some, xLst_some, xInt_some, oE_ret, oE_exc, two?, one?,
    List.cons_append, List.nil_append, List.replicate, List.getElem?_cons_zero, List.getElem?_cons_succ, List.set_cons_zero, List.set_cons_succ, List.length_cons, List.length_nil, Nat.zero_add, Nat.reduceAdd, Nat.reduceSub, Nat.reduceLeDiff, true_and, if_true, ite_true,
    ev_add, ev_sub, ev_fdiv, ev_mod, ev_pow18, ev_pow60, ev_pow5, ev_mul60, ev_mulA, ev_mulB, ev_neg, ev_lt, ev_le, ev_gt, ev_ge, ev_ixL, ev_ixT, ev_ixC, ev_ixS, ev_lenS, ev_lenL, ev_lenT, ev_lenC, ev_addS, ev_addL, ev_addT, ev_mulL, ev_max2, ev_min2, ev_slS, ev_slL, ev_slT, eqv_ii, nev_ii, Int.zero_add, ev_scr0, atI_nat0, atI_nat1, atI_nat2, ix20, ix21,
    Int.reduceLT, Int.reduceLE, Bool.false_eq_true, Bool.true_eq_false, false_implies, true_implies, implies_true, and_true, fnR_nx, fnR_ret, fnR_exc, ioOut, decide_eq_true_eq, decide_eq_false_iff_not]
    refine OX_mono (draw_ok ns _ t0 4 (by decide) (by decide)) fun o ss q => ?_
    obtain ⟨d, v1, rfl, d0, d4, t1, rfl⟩ := q
    obtain ⟨k, ek⟩ : ∃ k : Nat, 1 + d = (k : Nat) := ⟨(1 + d).toNat, by omega⟩
    have ct : cutG ([97, 98, 99, 100] : List Nat) none (some ((k : Nat) : Int)) = abcd k := cut_to _ _
    simp -implicitDefEqProofs only [SX_seq, SX_if, SX_asg, SX_ret, SX_retN, SX_setL, SX_augL, SX_nil, SX_expr, SX_par, SX_unp, SX_raise, SX_brk, SX_ct, SX_for, EX_bin, EX_un, EX_var, EX_c, EX_and, EX_or, EX_not, EX_if, EX_lst, EX_tup, EX_callB, EX_call, EX_meth, EX_mut, EX_extend, EX_sl, EX_chain, EX_esh, EX_eun, EX_tru,
    IX_any, IX_range1, IX_range2, IX_zip, IX_enum, xArgs_nil, xArgs_cons, xP_none, xP_some, iO_int, List.map_nil, List.map_cons, rE_val, rS_val, rI_val, rF_items, rE_exc, rS_exc, rI_exc, rF_exc, nxS_nx, nxS_ret, nxS_exc, nxS_brk, nxS_ct, lpS_nx, lpS_ct, lpS_brk, lpS_ret, lpS_exc,
    OX_some, OB_some, OB_map, OB_ite, ifO_bl, notO_bl, ifR_bl, get_shr, get_new, get_var, opd_shr, opd_new, own_zero, own_succ, ow_own, ow_io, upd_own, upd_io, upd_succ, so_shr, so_own, so_io, unO_shr, unO_new, unO_var, shO_shr, shO_new, shO_var', frz_own, setOk_un, setOk_shr, setOk_own, set_shr, set_new,
    xOwn_own, ret_shr, ret_new, ret_var, shrs_nil, shrs_cons, Option.map_some, gets_nil, gets_cons, split_nil, split_shr, split_var, sets_nil, sets_cons, tg_one, tg_many, callS_none, callS_some, xIo_some, xLst_some, xInt_some, oE_ret, oE_exc, two?, one?,
    List.cons_append, List.nil_append, List.replicate, List.getElem?_cons_zero, List.getElem?_cons_succ, List.set_cons_zero, List.set_cons_succ, List.length_cons, List.length_nil, Nat.zero_add, Nat.reduceAdd, Nat.reduceSub, Nat.reduceLeDiff, true_and, if_true, ite_true,
    ev_add, ev_sub, ev_fdiv, ev_mod, ev_pow18, ev_pow60, ev_pow5, ev_mul60, ev_mulA, ev_mulB, ev_neg, ev_lt, ev_le, ev_gt, ev_ge, ev_ixL, ev_ixT, ev_ixC, ev_ixS, ev_lenS, ev_lenL, ev_lenT, ev_lenC, ev_addS, ev_addL, ev_addT, ev_mulL, ev_max2, ev_min2, ev_slS, ev_slL, ev_slT, eqv_ii, nev_ii, Int.zero_add, ev_scr0, atI_nat0, atI_nat1, atI_nat2, ix20, ix21,
    Int.reduceLT, Int.reduceLE, Bool.false_eq_true, Bool.true_eq_false, false_implies, true_implies, implies_true, and_true, fnR_nx, fnR_ret, fnR_exc, ioOut, decide_eq_true_eq, decide_eq_false_iff_not, ek, ct]
    exact ⟨k, v1, by omega, by omega, t1, rfl⟩
  obtain ⟨k, v1, k1, k4, t1, rfl⟩ := he
  obtain ⟨a1, a2, _, _, a5⟩ := abcd_ok k1 k4
  have k16 : (abcd k).length ≤ 16000000 := by omega
  refine SX_cut (fun e => ∃ (l r : Int) (n : Nat) (v : Val), 1 ≤ l ∧ l ≤ 4 ∧ 1 ≤ r ∧ r ≤ 4 ∧ 1 ≤ n ∧ n ≤ 12 ∧ Tn v ∧ e = [.shr (.scr ns), .own v, .shr (.str (abcd k)), .shr (.int l), .shr (.int r), .shr (.int (n : Nat)), .un, .un, .un, .un, .un, .un]) ?_ fun e he => ?_
  · simp -implicitDefEqProofs only [SX_seq, SX_if, SX_asg, SX_ret, SX_retN, SX_setL, SX_augL, SX_nil, SX_expr, SX_par, SX_unp, SX_raise, SX_brk, SX_ct, SX_for, EX_bin, EX_un, EX_var, EX_c, EX_and, EX_or, EX_not, EX_if, EX_lst, EX_tup, EX_callB, EX_call, EX_meth, EX_mut, EX_extend, EX_sl, EX_chain, EX_esh, EX_eun, EX_tru,
    IX_any, IX_range1, IX_range2, IX_zip, IX_enum, xArgs_nil, xArgs_cons, xP_none, xP_some, iO_int, List.map_nil, List.map_cons, rE_val, rS_val, rI_val, rF_items, rE_exc, rS_exc, rI_exc, rF_exc, nxS_nx, nxS_ret, nxS_exc, nxS_brk, nxS_ct, lpS_nx, lpS_ct, lpS_brk, lpS_ret, lpS_exc,
    OX_some, OB_some, OB_map, OB_ite, ifO_bl, notO_bl, ifR_bl, get_shr, get_new, get_var, opd_shr, opd_new, own_zero, own_succ, ow_own, ow_io, upd_own, upd_io, upd_succ, so_shr, so_own, so_io, unO_shr, unO_new, unO_var, shO_shr, shO_new, shO_var', frz_own, setOk_un, setOk_shr, setOk_own, set_shr, set_new,
    xOwn_own, ret_shr, ret_new, ret_var, shrs_nil, shrs_cons, Option.map_some, gets_nil, gets_cons, split_nil, split_shr, split_var, sets_nil, sets_cons, tg_one, tg_many, callS_none, callS_some, xIo_some, xLst_some, xInt_some, oE_ret, oE_exc, two?, one?,
    List.cons_append, List.nil_append, List.replicate, List.getElem?_cons_zero, List.getElem?_cons_succ, List.set_cons_zero, List.set_cons_succ, List.length_cons, List.length_nil, Nat.zero_add, Nat.reduceAdd, Nat.reduceSub, Nat.reduceLeDiff, true_and, if_true, ite_true,
    ev_add, ev_sub, ev_fdiv, ev_mod, ev_pow18, ev_pow60, ev_pow5, ev_mul60, ev_mulA, ev_mulB, ev_neg, ev_lt, ev_le, ev_gt, ev_ge, ev_ixL, ev_ixT, ev_ixC, ev_ixS, ev_lenS, ev_lenL, ev_lenT, ev_lenC, ev_addS, ev_addL, ev_addT, ev_mulL, ev_max2, ev_min2, ev_slS, ev_slL, ev_slT, eqv_ii, nev_ii, Int.zero_add, ev_scr0, atI_nat0, atI_nat1, atI_nat2, ix20, ix21,
    Int.reduceLT, Int.reduceLE, Bool.false_eq_true, Bool.true_eq_false, false_implies, true_implies, implies_true, and_true, fnR_nx, fnR_ret, fnR_exc, ioOut, decide_eq_true_eq, decide_eq_false_iff_not]
    refine OX_mono (draw_ok ns v1 t1 4 (by decide) (by decide)) fun o ss q => ?_
    obtain ⟨d1, v2, rfl, e0, e4, t2, rfl⟩ := q
    simp -implicitDefEqProofs only [SX_seq, SX_if, SX_asg, SX_ret, SX_retN, SX_setL, SX_augL, SX_nil, SX_expr, SX_par, SX_unp, SX_raise, SX_brk, SX_ct, SX_for, EX_bin, EX_un, EX_var, EX_c, EX_and, EX_or, EX_not, EX_if, EX_lst, EX_tup, EX_callB, EX_call, EX_meth, EX_mut, EX_extend, EX_sl, EX_chain, EX_esh, EX_eun, EX_tru,
    IX_any, IX_range1, IX_range2, IX_zip, IX_enum, xArgs_nil, xArgs_cons, xP_none, xP_some, iO_int, List.map_nil, List.map_cons, rE_val, rS_val, rI_val, rF_items, rE_exc, rS_exc, rI_exc, rF_exc, nxS_nx, nxS_ret, nxS_exc, nxS_brk, nxS_ct, lpS_nx, lpS_ct, lpS_brk, lpS_ret, lpS_exc,
    OX_some, OB_some, OB_map, OB_ite, ifO_bl, notO_bl, ifR_bl, get_shr, get_new, get_var, opd_shr, opd_new, own_zero, own_succ, ow_own, ow_io, upd_own, upd_io, upd_succ, so_shr, so_own, so_io, unO_shr, unO_new, unO_var, shO_shr, shO_new, shO_var', frz_own, setOk_un, setOk_shr, setOk_own, set_shr, set_new,
    xOwn_own, ret_shr, ret_new, ret_var, shrs_nil, shrs_cons, Option.map_some, gets_nil, gets_cons, split_nil, split_shr, split_var, sets_nil, sets_cons, tg_one, tg_many, callS_none, callS_some, xIo_some, xLst_some, xInt_some, oE_ret, oE_exc, two?, one?,
    List.cons_append, List.nil_append, List.replicate, List.getElem?_cons_zero, List.getElem?_cons_succ, List.set_cons_zero, List.set_cons_succ, List.length_cons, List.length_nil, Nat.zero_add, Nat.reduceAdd, Nat.reduceSub, Nat.reduceLeDiff, true_and, if_true, ite_true,
    ev_add, ev_sub, ev_fdiv, ev_mod, ev_pow18, ev_pow60, ev_pow5, ev_mul60, ev_mulA, ev_mulB, ev_neg, ev_lt, ev_le, ev_gt, ev_ge, ev_ixL, ev_ixT, ev_ixC, ev_ixS, ev_lenS, ev_lenL, ev_lenT, ev_lenC, ev_addS, ev_addL, ev_addT, ev_mulL, ev_max2, ev_min2, ev_slS, ev_slL, ev_slT, eqv_ii, nev_ii, Int.zero_add, ev_scr0, atI_nat0, atI_nat1, atI_nat2, ix20, ix21,
    Int.reduceLT, Int.reduceLE, Bool.false_eq_true, Bool.true_eq_false, false_implies, true_implies, implies_true, and_true, fnR_nx, fnR_ret, fnR_exc, ioOut, decide_eq_true_eq, decide_eq_false_iff_not]
    refine OX_mono (draw_ok ns v2 t2 4 (by decide) (by decide)) fun o ss q => ?_
    obtain ⟨d2, v3, rfl, f0, f4, t3, rfl⟩ := q
    simp -implicitDefEqProofs only [SX_seq, SX_if, SX_asg, SX_ret, SX_retN, SX_setL, SX_augL, SX_nil, SX_expr, SX_par, SX_unp, SX_raise, SX_brk, SX_ct, SX_for, EX_bin, EX_un, EX_var, EX_c, EX_and, EX_or, EX_not, EX_if, EX_lst, EX_tup, EX_callB, EX_call, EX_meth, EX_mut, EX_extend, EX_sl, EX_chain, EX_esh, EX_eun, EX_tru,
    IX_any, IX_range1, IX_range2, IX_zip, IX_enum, xArgs_nil, xArgs_cons, xP_none, xP_some, iO_int, List.map_nil, List.map_cons, rE_val, rS_val, rI_val, rF_items, rE_exc, rS_exc, rI_exc, rF_exc, nxS_nx, nxS_ret, nxS_exc, nxS_brk, nxS_ct, lpS_nx, lpS_ct, lpS_brk, lpS_ret, lpS_exc,
    OX_some, OB_some, OB_map, OB_ite, ifO_bl, notO_bl, ifR_bl, get_shr, get_new, get_var, opd_shr, opd_new, own_zero, own_succ, ow_own, ow_io, upd_own, upd_io, upd_succ, so_shr, so_own, so_io, unO_shr, unO_new, unO_var, shO_shr, shO_new, shO_var', frz_own, setOk_un, setOk_shr, setOk_own, set_shr, set_new,
    xOwn_own, ret_shr, ret_new, ret_var, shrs_nil, shrs_cons, Option.map_some, gets_nil, gets_cons, split_nil, split_shr, split_var, sets_nil, sets_cons, tg_one, tg_many, callS_none, callS_some, xIo_some, xLst_some, xInt_some, oE_ret, oE_exc, two?, one?,
    List.cons_append, List.nil_append, List.replicate, List.getElem?_cons_zero, List.getElem?_cons_succ, List.set_cons_zero, List.set_cons_succ, List.length_cons, List.length_nil, Nat.zero_add, Nat.reduceAdd, Nat.reduceSub, Nat.reduceLeDiff, true_and, if_true, ite_true,
    ev_add, ev_sub, ev_fdiv, ev_mod, ev_pow18, ev_pow60, ev_pow5, ev_mul60, ev_mulA, ev_mulB, ev_neg, ev_lt, ev_le, ev_gt, ev_ge, ev_ixL, ev_ixT, ev_ixC, ev_ixS, ev_lenS, ev_lenL, ev_lenT, ev_lenC, ev_addS, ev_addL, ev_addT, ev_mulL, ev_max2, ev_min2, ev_slS, ev_slL, ev_slT, eqv_ii, nev_ii, Int.zero_add, ev_scr0, atI_nat0, atI_nat1, atI_nat2, ix20, ix21,
    Int.reduceLT, Int.reduceLE, Bool.false_eq_true, Bool.true_eq_false, false_implies, true_implies, implies_true, and_true, fnR_nx, fnR_ret, fnR_exc, ioOut, decide_eq_true_eq, decide_eq_false_iff_not]
    refine OX_mono (draw_ok ns v3 t3 12 (by decide) (by decide)) fun o ss q => ?_
    obtain ⟨d3, v4, rfl, g0, g4, t4, rfl⟩ := q
    obtain ⟨n, en⟩ : ∃ n : Nat, 1 + d3 = (n : Nat) := ⟨(1 + d3).toNat, by omega⟩
    simp -implicitDefEqProofs only [SX_seq, SX_if, SX_asg, SX_ret, SX_retN, SX_setL, SX_augL, SX_nil, SX_expr, SX_par, SX_unp, SX_raise, SX_brk, SX_ct, SX_for, EX_bin, EX_un, EX_var, EX_c, EX_and, EX_or, EX_not, EX_if, EX_lst, EX_tup, EX_callB, EX_call, EX_meth, EX_mut, EX_extend, EX_sl, EX_chain, EX_esh, EX_eun, EX_tru,
    IX_any, IX_range1, IX_range2, IX_zip, IX_enum, xArgs_nil, xArgs_cons, xP_none, xP_some, iO_int, List.map_nil, List.map_cons, rE_val, rS_val, rI_val, rF_items, rE_exc, rS_exc, rI_exc, rF_exc, nxS_nx, nxS_ret, nxS_exc, nxS_brk, nxS_ct, lpS_nx, lpS_ct, lpS_brk, lpS_ret, lpS_exc,
    OX_some, OB_some, OB_map, OB_ite, ifO_bl, notO_bl, ifR_bl, get_shr, get_new, get_var, opd_shr, opd_new, own_zero, own_succ, ow_own, ow_io, upd_own, upd_io, upd_succ, so_shr, so_own, so_io, unO_shr, unO_new, unO_var, shO_shr, shO_new, shO_var', frz_own, setOk_un, setOk_shr, setOk_own, set_shr, set_new,
    xOwn_own, ret_shr, ret_new, ret_var, shrs_nil, shrs_cons, Option.map_some, gets_nil, gets_cons, split_nil, split_shr, split_var, sets_nil, sets_cons, tg_one, tg_many, callS_none, callS_some, xIo_some, xLst_some, xInt_some, oE_ret, oE_exc, two?, one?,
    List.cons_append, List.nil_append, List.replicate, List.getElem?_cons_zero, List.getElem?_cons_succ, List.set_cons_zero, List.set_cons_succ, List.length_cons, List.length_nil, Nat.zero_add, Nat.reduceAdd, Nat.reduceSub, Nat.reduceLeDiff, true_and, if_true, ite_true,
    ev_add, ev_sub, ev_fdiv, ev_mod, ev_pow18, ev_pow60, ev_pow5, ev_mul60, ev_mulA, ev_mulB, ev_neg, ev_lt, ev_le, ev_gt, ev_ge, ev_ixL, ev_ixT, ev_ixC, ev_ixS, ev_lenS, ev_lenL, ev_lenT, ev_lenC, ev_addS, ev_addL, ev_addT, ev_mulL, ev_max2, ev_min2, ev_slS, ev_slL, ev_slT, eqv_ii, nev_ii, Int.zero_add, ev_scr0, atI_nat0, atI_nat1, atI_nat2, ix20, ix21,
    Int.reduceLT, Int.reduceLE, Bool.false_eq_true, Bool.true_eq_false, false_implies, true_implies, implies_true, and_true, fnR_nx, fnR_ret, fnR_exc, ioOut, decide_eq_true_eq, decide_eq_false_iff_not, en]
    exact ⟨1 + d1, 1 + d2, n, v4, by omega, by omega, by omega, by omega, by omega, by omega, t4, rfl⟩
  obtain ⟨l, r, n, v2, l1, l4, r1, r4, n1, n12, t2, rfl⟩ := he
  obtain ⟨inn, hin⟩ : ∃ inn : Nat, ((n : Int) - r - l + 1).toNat = inn := ⟨_, rfl⟩
  have em : max (0 : Int) ((n : Int) - r - l + 1) = (inn : Nat) := by omega
  have inle : inn ≤ n := by omega
  have ef : ((n : Int) - (inn : Nat)) = ((n - inn : Nat) : Int) := by omega
  have ek1 : ((k : Int) - 1) = ((k - 1 : Nat) : Int) := by omega
  refine SX_cut (fun e => e = [.shr (.scr ns), .own v2, .shr (.str (abcd k)), .shr (.int l), .shr (.int r), .shr (.int (n : Nat)), .shr (.int (k : Nat)), .shr (.int (inn : Nat)), .un, .un, .un, .un]) ?_ fun e he => ?_
  · simp -implicitDefEqProofs only [SX_seq, SX_if, SX_asg, SX_ret, SX_retN, SX_setL, SX_augL, SX_nil, SX_expr, SX_par, SX_unp, SX_raise, SX_brk, SX_ct, SX_for, EX_bin, EX_un, EX_var, EX_c, EX_and, EX_or, EX_not, EX_if, EX_lst, EX_tup, EX_callB, EX_call, EX_meth, EX_mut, EX_extend, EX_sl, EX_chain, EX_esh, EX_eun, EX_tru,
    IX_any, IX_range1, IX_range2, IX_zip, IX_enum, xArgs_nil, xArgs_cons, xP_none, xP_some, iO_int, List.map_nil, List.map_cons, rE_val, rS_val, rI_val, rF_items, rE_exc, rS_exc, rI_exc, rF_exc, nxS_nx, nxS_ret, nxS_exc, nxS_brk, nxS_ct, lpS_nx, lpS_ct, lpS_brk, lpS_ret, lpS_exc,
    OX_some, OB_some, OB_map, OB_ite, ifO_bl, notO_bl, ifR_bl, get_shr, get_new, get_var, opd_shr, opd_new, own_zero, own_succ, ow_own, ow_io, upd_own, upd_io, upd_succ, so_shr, so_own, so_io, unO_shr, unO_new, unO_var, shO_shr, shO_new, shO_var', frz_own, setOk_un, setOk_shr, setOk_own, set_shr, set_new,
    xOwn_own, ret_shr, ret_new, ret_var, shrs_nil, shrs_cons, Option.map_some, gets_nil, gets_cons, split_nil, split_shr, split_var, sets_nil, sets_cons, tg_one, tg_many, callS_none, callS_some, xIo_some, xLst_some, xInt_some, oE_ret, oE_exc, two?, one?,
    List.cons_append, List.nil_append, List.replicate, List.getElem?_cons_zero, List.getElem?_cons_succ, List.set_cons_zero, List.set_cons_succ, List.length_cons, List.length_nil, Nat.zero_add, Nat.reduceAdd, Nat.reduceSub, Nat.reduceLeDiff, true_and, if_true, ite_true,
    ev_add, ev_sub, ev_fdiv, ev_mod, ev_pow18, ev_pow60, ev_pow5, ev_mul60, ev_mulA, ev_mulB, ev_neg, ev_lt, ev_le, ev_gt, ev_ge, ev_ixL, ev_ixT, ev_ixC, ev_ixS, ev_lenS, ev_lenL, ev_lenT, ev_lenC, ev_addS, ev_addL, ev_addT, ev_mulL, ev_max2, ev_min2, ev_slS, ev_slL, ev_slT, eqv_ii, nev_ii, Int.zero_add, ev_scr0, atI_nat0, atI_nat1, atI_nat2, ix20, ix21,
    Int.reduceLT, Int.reduceLE, Bool.false_eq_true, Bool.true_eq_false, false_implies, true_implies, implies_true, and_true, fnR_nx, fnR_ret, fnR_exc, ioOut, decide_eq_true_eq, decide_eq_false_iff_not, k16, a2, em]
    omega
  subst he
  refine SX_cut (fun e => e = [.shr (.scr ns), .own v2, .shr (.str (abcd k)), .shr (.int l), .shr (.int r), .shr (.int (n : Nat)), .shr (.int (k : Nat)), .shr (.int (inn : Nat)), .shr (.int ((n - inn : Nat) : Int)), .un, .un, .un]) ?_ fun e he => ?_
  · simp -implicitDefEqProofs only [SX_seq, SX_if, SX_asg, SX_ret, SX_retN, SX_setL, SX_augL, SX_nil, SX_expr, SX_par, SX_unp, SX_raise, SX_brk, SX_ct, SX_for, EX_bin, EX_un, EX_var, EX_c, EX_and, EX_or, EX_not, EX_if, EX_lst, EX_tup, EX_callB, EX_call, EX_meth, EX_mut, EX_extend, EX_sl, EX_chain, EX_esh, EX_eun, EX_tru,
    IX_any, IX_range1, IX_range2, IX_zip, IX_enum, xArgs_nil, xArgs_cons, xP_none, xP_some, iO_int, List.map_nil, List.map_cons, rE_val, rS_val, rI_val, rF_items, rE_exc, rS_exc, rI_exc, rF_exc, nxS_nx, nxS_ret, nxS_exc, nxS_brk, nxS_ct, lpS_nx, lpS_ct, lpS_brk, lpS_ret, lpS_exc,
    OX_some, OB_some, OB_map, OB_ite, ifO_bl, notO_bl, ifR_bl, get_shr, get_new, get_var, opd_shr, opd_new, own_zero, own_succ, ow_own, ow_io, upd_own, upd_io, upd_succ, so_shr, so_own, so_io, unO_shr, unO_new, unO_var, shO_shr, shO_new, shO_var', frz_own, setOk_un, setOk_shr, setOk_own, set_shr, set_new,
    xOwn_own, ret_shr, ret_new, ret_var, shrs_nil, shrs_cons, Option.map_some, gets_nil, gets_cons, split_nil, split_shr, split_var, sets_nil, sets_cons, tg_one, tg_many, callS_none, callS_some, xIo_some, xLst_some, xInt_some, oE_ret, oE_exc, two?, one?,
    List.cons_append, List.nil_append, List.replicate, List.getElem?_cons_zero, List.getElem?_cons_succ, List.set_cons_zero, List.set_cons_succ, List.length_cons, List.length_nil, Nat.zero_add, Nat.reduceAdd, Nat.reduceSub, Nat.reduceLeDiff, true_and, if_true, ite_true,
    ev_add, ev_sub, ev_fdiv, ev_mod, ev_pow18, ev_pow60, ev_pow5, ev_mul60, ev_mulA, ev_mulB, ev_neg, ev_lt, ev_le, ev_gt, ev_ge, ev_ixL, ev_ixT, ev_ixC, ev_ixS, ev_lenS, ev_lenL, ev_lenT, ev_lenC, ev_addS, ev_addL, ev_addT, ev_mulL, ev_max2, ev_min2, ev_slS, ev_slL, ev_slT, eqv_ii, nev_ii, Int.zero_add, ev_scr0, atI_nat0, atI_nat1, atI_nat2, ix20, ix21,
    Int.reduceLT, Int.reduceLE, Bool.false_eq_true, Bool.true_eq_false, false_implies, true_implies, implies_true, and_true, fnR_nx, fnR_ret, fnR_exc, ioOut, decide_eq_true_eq, decide_eq_false_iff_not, ef]
  subst he
  have p1 := power_ok k (n - inn) (by omega) (by omega)
  have p2 := power_ok (k - 1) inn (by omega) (by omega)
  have p3 := power_ok k n (by omega) (by omega)
  have pb : k ^ (n - inn) ≤ 16777216 := Nat.le_trans (Nat.pow_le_pow_left k4 _) (Nat.le_trans (Nat.pow_le_pow_right (by decide) (by omega : n - inn ≤ 12)) (by decide))
  have mk : ∀ m : Nat, mulOk ((k ^ (n - inn) : Nat) : Int) (m : Nat) = true := fun m => mulOk_l (by omega)
  have hx : isLet 97 := isL (by decide) (by decide)
  refine SX_cut (fun e => e = [.shr (.scr ns), .own v2, .shr (.str (abcd k)), .shr (.int l), .shr (.int r), .shr (.int (n : Nat)), .shr (.int (k : Nat)), .shr (.int (inn : Nat)), .shr (.int ((n - inn : Nat) : Int)), .un, .un, .un]) ?_ fun e he => ?_
  · have c1 := cnt_ok (vr_one (vp_one hx 49 (by decide)).1 l1 l4 r1 r4) a1 n1 n12
    rw [cnt_1a l1 l4 r1 r4 k1 k4, hin, Int.natCast_mul] at c1
    unfold rulesV at c1
    rw [List.map_cons, List.map_nil] at c1
    simp -implicitDefEqProofs only [SX_seq, SX_if, SX_asg, SX_ret, SX_retN, SX_setL, SX_augL, SX_nil, SX_expr, SX_par, SX_unp, SX_raise, SX_brk, SX_ct, SX_for, EX_bin, EX_un, EX_var, EX_c, EX_and, EX_or, EX_not, EX_if, EX_lst, EX_tup, EX_callB, EX_call, EX_meth, EX_mut, EX_extend, EX_sl, EX_chain, EX_esh, EX_eun, EX_tru,
    IX_any, IX_range1, IX_range2, IX_zip, IX_enum, xArgs_nil, xArgs_cons, xP_none, xP_some, iO_int, List.map_nil, List.map_cons, rE_val, rS_val, rI_val, rF_items, rE_exc, rS_exc, rI_exc, rF_exc, nxS_nx, nxS_ret, nxS_exc, nxS_brk, nxS_ct, lpS_nx, lpS_ct, lpS_brk, lpS_ret, lpS_exc,
    OX_some, OB_some, OB_map, OB_ite, ifO_bl, notO_bl, ifR_bl, get_shr, get_new, get_var, opd_shr, opd_new, own_zero, own_succ, ow_own, ow_io, upd_own, upd_io, upd_succ, so_shr, so_own, so_io, unO_shr, unO_new, unO_var, shO_shr, shO_new, shO_var', frz_own, setOk_un, setOk_shr, setOk_own, set_shr, set_new,
    xOwn_own, ret_shr, ret_new, ret_var, shrs_nil, shrs_cons, Option.map_some, gets_nil, gets_cons, split_nil, split_shr, split_var, sets_nil, sets_cons, tg_one, tg_many, callS_none, callS_some, xIo_some, xLst_some, xInt_some, oE_ret, oE_exc, two?, one?,
    List.cons_append, List.nil_append, List.replicate, List.getElem?_cons_zero, List.getElem?_cons_succ, List.set_cons_zero, List.set_cons_succ, List.length_cons, List.length_nil, Nat.zero_add, Nat.reduceAdd, Nat.reduceSub, Nat.reduceLeDiff, true_and, if_true, ite_true,
    ev_add, ev_sub, ev_fdiv, ev_mod, ev_pow18, ev_pow60, ev_pow5, ev_mul60, ev_mulA, ev_mulB, ev_neg, ev_lt, ev_le, ev_gt, ev_ge, ev_ixL, ev_ixT, ev_ixC, ev_ixS, ev_lenS, ev_lenL, ev_lenT, ev_lenC, ev_addS, ev_addL, ev_addT, ev_mulL, ev_max2, ev_min2, ev_slS, ev_slL, ev_slT, eqv_ii, nev_ii, Int.zero_add, ev_scr0, atI_nat0, atI_nat1, atI_nat2, ix20, ix21,
    Int.reduceLT, Int.reduceLE, Bool.false_eq_true, Bool.true_eq_false, false_implies, true_implies, implies_true, and_true, fnR_nx, fnR_ret, fnR_exc, ioOut, decide_eq_true_eq, decide_eq_false_iff_not, ek1, p1, p2, mk, ev_mul, c1, decide_true, Bool.not_true]
  subst he
  refine SX_cut (fun e => e = [.shr (.scr ns), .own v2, .shr (.str (abcd k)), .shr (.int l), .shr (.int r), .shr (.int (n : Nat)), .shr (.int (k : Nat)), .shr (.int (inn : Nat)), .shr (.int ((n - inn : Nat) : Int)), .un, .un, .un]) ?_ fun e he => ?_
  · have c1 := cnt_ok (vr_one (vp_one hx 49 (by decide)).2 l1 l4 r1 r4) a1 n1 n12
    rw [cnt_a1 l1 l4 r1 r4 k1 k4, hin, Int.natCast_mul] at c1
    unfold rulesV at c1
    rw [List.map_cons, List.map_nil] at c1
    simp -implicitDefEqProofs only [SX_seq, SX_if, SX_asg, SX_ret, SX_retN, SX_setL, SX_augL, SX_nil, SX_expr, SX_par, SX_unp, SX_raise, SX_brk, SX_ct, SX_for, EX_bin, EX_un, EX_var, EX_c, EX_and, EX_or, EX_not, EX_if, EX_lst, EX_tup, EX_callB, EX_call, EX_meth, EX_mut, EX_extend, EX_sl, EX_chain, EX_esh, EX_eun, EX_tru,
    IX_any, IX_range1, IX_range2, IX_zip, IX_enum, xArgs_nil, xArgs_cons, xP_none, xP_some, iO_int, List.map_nil, List.map_cons, rE_val, rS_val, rI_val, rF_items, rE_exc, rS_exc, rI_exc, rF_exc, nxS_nx, nxS_ret, nxS_exc, nxS_brk, nxS_ct, lpS_nx, lpS_ct, lpS_brk, lpS_ret, lpS_exc,
    OX_some, OB_some, OB_map, OB_ite, ifO_bl, notO_bl, ifR_bl, get_shr, get_new, get_var, opd_shr, opd_new, own_zero, own_succ, ow_own, ow_io, upd_own, upd_io, upd_succ, so_shr, so_own, so_io, unO_shr, unO_new, unO_var, shO_shr, shO_new, shO_var', frz_own, setOk_un, setOk_shr, setOk_own, set_shr, set_new,
    xOwn_own, ret_shr, ret_new, ret_var, shrs_nil, shrs_cons, Option.map_some, gets_nil, gets_cons, split_nil, split_shr, split_var, sets_nil, sets_cons, tg_one, tg_many, callS_none, callS_some, xIo_some, xLst_some, xInt_some, oE_ret, oE_exc, two?, one?,
    List.cons_append, List.nil_append, List.replicate, List.getElem?_cons_zero, List.getElem?_cons_succ, List.set_cons_zero, List.set_cons_succ, List.length_cons, List.length_nil, Nat.zero_add, Nat.reduceAdd, Nat.reduceSub, Nat.reduceLeDiff, true_and, if_true, ite_true,
    ev_add, ev_sub, ev_fdiv, ev_mod, ev_pow18, ev_pow60, ev_pow5, ev_mul60, ev_mulA, ev_mulB, ev_neg, ev_lt, ev_le, ev_gt, ev_ge, ev_ixL, ev_ixT, ev_ixC, ev_ixS, ev_lenS, ev_lenL, ev_lenT, ev_lenC, ev_addS, ev_addL, ev_addT, ev_mulL, ev_max2, ev_min2, ev_slS, ev_slL, ev_slT, eqv_ii, nev_ii, Int.zero_add, ev_scr0, atI_nat0, atI_nat1, atI_nat2, ix20, ix21,
    Int.reduceLT, Int.reduceLE, Bool.false_eq_true, Bool.true_eq_false, false_implies, true_implies, implies_true, and_true, fnR_nx, fnR_ret, fnR_exc, ioOut, decide_eq_true_eq, decide_eq_false_iff_not, ek1, p1, p2, mk, ev_mul, c1, decide_true, Bool.not_true]
  subst he
  refine SX_cut (fun e => e = [.shr (.scr ns), .own v2, .shr (.str (abcd k)), .shr (.int l), .shr (.int r), .shr (.int (n : Nat)), .shr (.int (k : Nat)), .shr (.int (inn : Nat)), .shr (.int ((n - inn : Nat) : Int)), .shr (rulesV [[49, 97], [49, 98]] l r), .un, .un]) ?_ fun e he => ?_
  · simp -implicitDefEqProofs only [SX_seq, SX_if, SX_asg, SX_ret, SX_retN, SX_setL, SX_augL, SX_nil, SX_expr, SX_par, SX_unp, SX_raise, SX_brk, SX_ct, SX_for, EX_bin, EX_un, EX_var, EX_c, EX_and, EX_or, EX_not, EX_if, EX_lst, EX_tup, EX_callB, EX_call, EX_meth, EX_mut, EX_extend, EX_sl, EX_chain, EX_esh, EX_eun, EX_tru,
    IX_any, IX_range1, IX_range2, IX_zip, IX_enum, xArgs_nil, xArgs_cons, xP_none, xP_some, iO_int, List.map_nil, List.map_cons, rE_val, rS_val, rI_val, rF_items, rE_exc, rS_exc, rI_exc, rF_exc, nxS_nx, nxS_ret, nxS_exc, nxS_brk, nxS_ct, lpS_nx, lpS_ct, lpS_brk, lpS_ret, lpS_exc,
    OX_some, OB_some, OB_map, OB_ite, ifO_bl, notO_bl, ifR_bl, get_shr, get_new, get_var, opd_shr, opd_new, own_zero, own_succ, ow_own, ow_io, upd_own, upd_io, upd_succ, so_shr, so_own, so_io, unO_shr, unO_new, unO_var, shO_shr, shO_new, shO_var', frz_own, setOk_un, setOk_shr, setOk_own, set_shr, set_new,
    xOwn_own, ret_shr, ret_new, ret_var, shrs_nil, shrs_cons, Option.map_some, gets_nil, gets_cons, split_nil, split_shr, split_var, sets_nil, sets_cons, tg_one, tg_many, callS_none, callS_some, xIo_some, xLst_some, xInt_some, oE_ret, oE_exc, two?, one?,
    List.cons_append, List.nil_append, List.replicate, List.getElem?_cons_zero, List.getElem?_cons_succ, List.set_cons_zero, List.set_cons_succ, List.length_cons, List.length_nil, Nat.zero_add, Nat.reduceAdd, Nat.reduceSub, Nat.reduceLeDiff, true_and, if_true, ite_true,
    ev_add, ev_sub, ev_fdiv, ev_mod, ev_pow18, ev_pow60, ev_pow5, ev_mul60, ev_mulA, ev_mulB, ev_neg, ev_lt, ev_le, ev_gt, ev_ge, ev_ixL, ev_ixT, ev_ixC, ev_ixS, ev_lenS, ev_lenL, ev_lenT, ev_lenC, ev_addS, ev_addL, ev_addT, ev_mulL, ev_max2, ev_min2, ev_slS, ev_slL, ev_slT, eqv_ii, nev_ii, Int.zero_add, ev_scr0, atI_nat0, atI_nat1, atI_nat2, ix20, ix21,
    Int.reduceLT, Int.reduceLE, Bool.false_eq_true, Bool.true_eq_false, false_implies, true_implies, implies_true, and_true, fnR_nx, fnR_ret, fnR_exc, ioOut, decide_eq_true_eq, decide_eq_false_iff_not]
    first | exact rfl | exact ⟨rfl, rfl⟩
  subst he
  refine SX_cut (fun e => ∃ due : Int, (¬(k : Int) < 2 → due = ((k ^ (n - inn) : Nat) : Int) * (((k - 2) ^ inn : Nat) : Int)) ∧ e = [.shr (.scr ns), .own v2, .shr (.str (abcd k)), .shr (.int l), .shr (.int r), .shr (.int (n : Nat)), .shr (.int (k : Nat)), .shr (.int (inn : Nat)), .shr (.int ((n - inn : Nat) : Int)), .shr (rulesV [[49, 97], [49, 98]] l r), .shr (.int due), .un]) ?_ fun e he => ?_
  · by_cases q : (k : Int) < 2
    · simp -implicitDefEqProofs only [SX_seq, SX_if, SX_asg, SX_ret, SX_retN, SX_setL, SX_augL, SX_nil, SX_expr, SX_par, SX_unp, SX_raise, SX_brk, SX_ct, SX_for, EX_bin, EX_un, EX_var, EX_c, EX_and, EX_or, EX_not, EX_if, EX_lst, EX_tup, EX_callB, EX_call, EX_meth, EX_mut, EX_extend, EX_sl, EX_chain, EX_esh, EX_eun, EX_tru,
    IX_any, IX_range1, IX_range2, IX_zip, IX_enum, xArgs_nil, xArgs_cons, xP_none, xP_some, iO_int, List.map_nil, List.map_cons, rE_val, rS_val, rI_val, rF_items, rE_exc, rS_exc, rI_exc, rF_exc, nxS_nx, nxS_ret, nxS_exc, nxS_brk, nxS_ct, lpS_nx, lpS_ct, lpS_brk, lpS_ret, lpS_exc,
    OX_some, OB_some, OB_map, OB_ite, ifO_bl, notO_bl, ifR_bl, get_shr, get_new, get_var, opd_shr, opd_new, own_zero, own_succ, ow_own, ow_io, upd_own, upd_io, upd_succ, so_shr, so_own, so_io, unO_shr, unO_new, unO_var, shO_shr, shO_new, shO_var', frz_own, setOk_un, setOk_shr, setOk_own, set_shr, set_new,
    xOwn_own, ret_shr, ret_new, ret_var, shrs_nil, shrs_cons, Option.map_some, gets_nil, gets_cons, split_nil, split_shr, split_var, sets_nil, sets_cons, tg_one, tg_many, callS_none, callS_some, xIo_some, xLst_some, xInt_some, oE_ret, oE_exc, two?, one?,
    List.cons_append, List.nil_append, List.replicate, List.getElem?_cons_zero, List.getElem?_cons_succ, List.set_cons_zero, List.set_cons_succ, List.length_cons, List.length_nil, Nat.zero_add, Nat.reduceAdd, Nat.reduceSub, Nat.reduceLeDiff, true_and, if_true, ite_true,
    ev_add, ev_sub, ev_fdiv, ev_mod, ev_pow18, ev_pow60, ev_pow5, ev_mul60, ev_mulA, ev_mulB, ev_neg, ev_lt, ev_le, ev_gt, ev_ge, ev_ixL, ev_ixT, ev_ixC, ev_ixS, ev_lenS, ev_lenL, ev_lenT, ev_lenC, ev_addS, ev_addL, ev_addT, ev_mulL, ev_max2, ev_min2, ev_slS, ev_slL, ev_slT, eqv_ii, nev_ii, Int.zero_add, ev_scr0, atI_nat0, atI_nat1, atI_nat2, ix20, ix21,
    Int.reduceLT, Int.reduceLE, Bool.false_eq_true, Bool.true_eq_false, false_implies, true_implies, implies_true, and_true, fnR_nx, fnR_ret, fnR_exc, ioOut, decide_eq_true_eq, decide_eq_false_iff_not, q, not_true_eq_false, false_implies]
      first | exact ⟨0, trivial, rfl⟩ | exact ⟨0, rfl⟩ | exact rfl
    · have ek2 : ((k : Int) - 2) = ((k - 2 : Nat) : Int) := by omega
      have p4 := power_ok (k - 2) inn (by omega) (by omega)
      simp -implicitDefEqProofs only [SX_seq, SX_if, SX_asg, SX_ret, SX_retN, SX_setL, SX_augL, SX_nil, SX_expr, SX_par, SX_unp, SX_raise, SX_brk, SX_ct, SX_for, EX_bin, EX_un, EX_var, EX_c, EX_and, EX_or, EX_not, EX_if, EX_lst, EX_tup, EX_callB, EX_call, EX_meth, EX_mut, EX_extend, EX_sl, EX_chain, EX_esh, EX_eun, EX_tru,
    IX_any, IX_range1, IX_range2, IX_zip, IX_enum, xArgs_nil, xArgs_cons, xP_none, xP_some, iO_int, List.map_nil, List.map_cons, rE_val, rS_val, rI_val, rF_items, rE_exc, rS_exc, rI_exc, rF_exc, nxS_nx, nxS_ret, nxS_exc, nxS_brk, nxS_ct, lpS_nx, lpS_ct, lpS_brk, lpS_ret, lpS_exc,
    OX_some, OB_some, OB_map, OB_ite, ifO_bl, notO_bl, ifR_bl, get_shr, get_new, get_var, opd_shr, opd_new, own_zero, own_succ, ow_own, ow_io, upd_own, upd_io, upd_succ, so_shr, so_own, so_io, unO_shr, unO_new, unO_var, shO_shr, shO_new, shO_var', frz_own, setOk_un, setOk_shr, setOk_own, set_shr, set_new,
    xOwn_own, ret_shr, ret_new, ret_var, shrs_nil, shrs_cons, Option.map_some, gets_nil, gets_cons, split_nil, split_shr, split_var, sets_nil, sets_cons, tg_one, tg_many, callS_none, callS_some, xIo_some, xLst_some, xInt_some, oE_ret, oE_exc, two?, one?,
    List.cons_append, List.nil_append, List.replicate, List.getElem?_cons_zero, List.getElem?_cons_succ, List.set_cons_zero, List.set_cons_succ, List.length_cons, List.length_nil, Nat.zero_add, Nat.reduceAdd, Nat.reduceSub, Nat.reduceLeDiff, true_and, if_true, ite_true,
    ev_add, ev_sub, ev_fdiv, ev_mod, ev_pow18, ev_pow60, ev_pow5, ev_mul60, ev_mulA, ev_mulB, ev_neg, ev_lt, ev_le, ev_gt, ev_ge, ev_ixL, ev_ixT, ev_ixC, ev_ixS, ev_lenS, ev_lenL, ev_lenT, ev_lenC, ev_addS, ev_addL, ev_addT, ev_mulL, ev_max2, ev_min2, ev_slS, ev_slL, ev_slT, eqv_ii, nev_ii, Int.zero_add, ev_scr0, atI_nat0, atI_nat1, atI_nat2, ix20, ix21,
    Int.reduceLT, Int.reduceLE, Bool.false_eq_true, Bool.true_eq_false, false_implies, true_implies, implies_true, and_true, fnR_nx, fnR_ret, fnR_exc, ioOut, decide_eq_true_eq, decide_eq_false_iff_not, q, ek2, p1, p4, mk, ev_mul, not_false_eq_true]
      first | exact ⟨_, rfl, rfl⟩ | exact rfl
  obtain ⟨due, hdue, rfl⟩ := he
  refine SX_cut (fun e => e = [.shr (.scr ns), .own v2, .shr (.str (abcd k)), .shr (.int l), .shr (.int r), .shr (.int (n : Nat)), .shr (.int (k : Nat)), .shr (.int (inn : Nat)), .shr (.int ((n - inn : Nat) : Int)), .shr (rulesV [[49, 97], [49, 98]] l r), .shr (.int due), .un]) ?_ fun e he => ?_
  · have c1 := cnt_ok (vr_ab l1 l4 r1 r4) a1 n1 n12
    rw [cnt_ab l1 l4 r1 r4 k1 k4, hin, Int.natCast_mul] at c1
    by_cases q : (1 : Int) < (k : Int)
    · have hd := hdue (by omega)
      simp -implicitDefEqProofs only [SX_seq, SX_if, SX_asg, SX_ret, SX_retN, SX_setL, SX_augL, SX_nil, SX_expr, SX_par, SX_unp, SX_raise, SX_brk, SX_ct, SX_for, EX_bin, EX_un, EX_var, EX_c, EX_and, EX_or, EX_not, EX_if, EX_lst, EX_tup, EX_callB, EX_call, EX_meth, EX_mut, EX_extend, EX_sl, EX_chain, EX_esh, EX_eun, EX_tru,
    IX_any, IX_range1, IX_range2, IX_zip, IX_enum, xArgs_nil, xArgs_cons, xP_none, xP_some, iO_int, List.map_nil, List.map_cons, rE_val, rS_val, rI_val, rF_items, rE_exc, rS_exc, rI_exc, rF_exc, nxS_nx, nxS_ret, nxS_exc, nxS_brk, nxS_ct, lpS_nx, lpS_ct, lpS_brk, lpS_ret, lpS_exc,
    OX_some, OB_some, OB_map, OB_ite, ifO_bl, notO_bl, ifR_bl, get_shr, get_new, get_var, opd_shr, opd_new, own_zero, own_succ, ow_own, ow_io, upd_own, upd_io, upd_succ, so_shr, so_own, so_io, unO_shr, unO_new, unO_var, shO_shr, shO_new, shO_var', frz_own, setOk_un, setOk_shr, setOk_own, set_shr, set_new,
    xOwn_own, ret_shr, ret_new, ret_var, shrs_nil, shrs_cons, Option.map_some, gets_nil, gets_cons, split_nil, split_shr, split_var, sets_nil, sets_cons, tg_one, tg_many, callS_none, callS_some, xIo_some, xLst_some, xInt_some, oE_ret, oE_exc, two?, one?,
    List.cons_append, List.nil_append, List.replicate, List.getElem?_cons_zero, List.getElem?_cons_succ, List.set_cons_zero, List.set_cons_succ, List.length_cons, List.length_nil, Nat.zero_add, Nat.reduceAdd, Nat.reduceSub, Nat.reduceLeDiff, true_and, if_true, ite_true,
    ev_add, ev_sub, ev_fdiv, ev_mod, ev_pow18, ev_pow60, ev_pow5, ev_mul60, ev_mulA, ev_mulB, ev_neg, ev_lt, ev_le, ev_gt, ev_ge, ev_ixL, ev_ixT, ev_ixC, ev_ixS, ev_lenS, ev_lenL, ev_lenT, ev_lenC, ev_addS, ev_addL, ev_addT, ev_mulL, ev_max2, ev_min2, ev_slS, ev_slL, ev_slT, eqv_ii, nev_ii, Int.zero_add, ev_scr0, atI_nat0, atI_nat1, atI_nat2, ix20, ix21,
    Int.reduceLT, Int.reduceLE, Bool.false_eq_true, Bool.true_eq_false, false_implies, true_implies, implies_true, and_true, fnR_nx, fnR_ret, fnR_exc, ioOut, decide_eq_true_eq, decide_eq_false_iff_not, q, c1, hd, decide_true, Bool.not_true]
    · simp -implicitDefEqProofs only [SX_seq, SX_if, SX_asg, SX_ret, SX_retN, SX_setL, SX_augL, SX_nil, SX_expr, SX_par, SX_unp, SX_raise, SX_brk, SX_ct, SX_for, EX_bin, EX_un, EX_var, EX_c, EX_and, EX_or, EX_not, EX_if, EX_lst, EX_tup, EX_callB, EX_call, EX_meth, EX_mut, EX_extend, EX_sl, EX_chain, EX_esh, EX_eun, EX_tru,
    IX_any, IX_range1, IX_range2, IX_zip, IX_enum, xArgs_nil, xArgs_cons, xP_none, xP_some, iO_int, List.map_nil, List.map_cons, rE_val, rS_val, rI_val, rF_items, rE_exc, rS_exc, rI_exc, rF_exc, nxS_nx, nxS_ret, nxS_exc, nxS_brk, nxS_ct, lpS_nx, lpS_ct, lpS_brk, lpS_ret, lpS_exc,
    OX_some, OB_some, OB_map, OB_ite, ifO_bl, notO_bl, ifR_bl, get_shr, get_new, get_var, opd_shr, opd_new, own_zero, own_succ, ow_own, ow_io, upd_own, upd_io, upd_succ, so_shr, so_own, so_io, unO_shr, unO_new, unO_var, shO_shr, shO_new, shO_var', frz_own, setOk_un, setOk_shr, setOk_own, set_shr, set_new,
    xOwn_own, ret_shr, ret_new, ret_var, shrs_nil, shrs_cons, Option.map_some, gets_nil, gets_cons, split_nil, split_shr, split_var, sets_nil, sets_cons, tg_one, tg_many, callS_none, callS_some, xIo_some, xLst_some, xInt_some, oE_ret, oE_exc, two?, one?,
    List.cons_append, List.nil_append, List.replicate, List.getElem?_cons_zero, List.getElem?_cons_succ, List.set_cons_zero, List.set_cons_succ, List.length_cons, List.length_nil, Nat.zero_add, Nat.reduceAdd, Nat.reduceSub, Nat.reduceLeDiff, true_and, if_true, ite_true,
    ev_add, ev_sub, ev_fdiv, ev_mod, ev_pow18, ev_pow60, ev_pow5, ev_mul60, ev_mulA, ev_mulB, ev_neg, ev_lt, ev_le, ev_gt, ev_ge, ev_ixL, ev_ixT, ev_ixC, ev_ixS, ev_lenS, ev_lenL, ev_lenT, ev_lenC, ev_addS, ev_addL, ev_addT, ev_mulL, ev_max2, ev_min2, ev_slS, ev_slL, ev_slT, eqv_ii, nev_ii, Int.zero_add, ev_scr0, atI_nat0, atI_nat1, atI_nat2, ix20, ix21,
    Int.reduceLT, Int.reduceLE, Bool.false_eq_true, Bool.true_eq_false, false_implies, true_implies, implies_true, and_true, fnR_nx, fnR_ret, fnR_exc, ioOut, decide_eq_true_eq, decide_eq_false_iff_not, q]
  subst he
  refine SX_cut (fun e => e = [.shr (.scr ns), .own v2, .shr (.str (abcd k)), .shr (.int l), .shr (.int r), .shr (.int (n : Nat)), .shr (.int (k : Nat)), .shr (.int (inn : Nat)), .shr (.int ((n - inn : Nat) : Int)), .shr (rulesV [[49, 97], [49, 98]] l r), .shr (.int due), .un]) ?_ fun e he => ?_
  · have c1 := cnt_ok (vr_even l1 l4 r1 r4) a1 n1 n12
    rw [cnt_even l1 l4 r1 r4 k1 k4] at c1
    unfold rulesV at c1
    rw [List.map_cons, List.map_cons, List.map_nil] at c1
    simp -implicitDefEqProofs only [SX_seq, SX_if, SX_asg, SX_ret, SX_retN, SX_setL, SX_augL, SX_nil, SX_expr, SX_par, SX_unp, SX_raise, SX_brk, SX_ct, SX_for, EX_bin, EX_un, EX_var, EX_c, EX_and, EX_or, EX_not, EX_if, EX_lst, EX_tup, EX_callB, EX_call, EX_meth, EX_mut, EX_extend, EX_sl, EX_chain, EX_esh, EX_eun, EX_tru,
    IX_any, IX_range1, IX_range2, IX_zip, IX_enum, xArgs_nil, xArgs_cons, xP_none, xP_some, iO_int, List.map_nil, List.map_cons, rE_val, rS_val, rI_val, rF_items, rE_exc, rS_exc, rI_exc, rF_exc, nxS_nx, nxS_ret, nxS_exc, nxS_brk, nxS_ct, lpS_nx, lpS_ct, lpS_brk, lpS_ret, lpS_exc,
    OX_some, OB_some, OB_map, OB_ite, ifO_bl, notO_bl, ifR_bl, get_shr, get_new, get_var, opd_shr, opd_new, own_zero, own_succ, ow_own, ow_io, upd_own, upd_io, upd_succ, so_shr, so_own, so_io, unO_shr, unO_new, unO_var, shO_shr, shO_new, shO_var', frz_own, setOk_un, setOk_shr, setOk_own, set_shr, set_new,
    xOwn_own, ret_shr, ret_new, ret_var, shrs_nil, shrs_cons, Option.map_some, gets_nil, gets_cons, split_nil, split_shr, split_var, sets_nil, sets_cons, tg_one, tg_many, callS_none, callS_some, xIo_some, xLst_some, xInt_some, oE_ret, oE_exc, two?, one?,
    List.cons_append, List.nil_append, List.replicate, List.getElem?_cons_zero, List.getElem?_cons_succ, List.set_cons_zero, List.set_cons_succ, List.length_cons, List.length_nil, Nat.zero_add, Nat.reduceAdd, Nat.reduceSub, Nat.reduceLeDiff, true_and, if_true, ite_true,
    ev_add, ev_sub, ev_fdiv, ev_mod, ev_pow18, ev_pow60, ev_pow5, ev_mul60, ev_mulA, ev_mulB, ev_neg, ev_lt, ev_le, ev_gt, ev_ge, ev_ixL, ev_ixT, ev_ixC, ev_ixS, ev_lenS, ev_lenL, ev_lenT, ev_lenC, ev_addS, ev_addL, ev_addT, ev_mulL, ev_max2, ev_min2, ev_slS, ev_slL, ev_slT, eqv_ii, nev_ii, Int.zero_add, ev_scr0, atI_nat0, atI_nat1, atI_nat2, ix20, ix21,
    Int.reduceLT, Int.reduceLE, Bool.false_eq_true, Bool.true_eq_false, false_implies, true_implies, implies_true, and_true, fnR_nx, fnR_ret, fnR_exc, ioOut, decide_eq_true_eq, decide_eq_false_iff_not, p3, c1, decide_true, Bool.not_true]
  subst he
  refine SX_cut (fun e => e = [.shr (.scr ns), .own v2, .shr (.str (abcd k)), .shr (.int l), .shr (.int r), .shr (.int (n : Nat)), .shr (.int (k : Nat)), .shr (.int (inn : Nat)), .shr (.int ((n - inn : Nat) : Int)), .shr (rulesV [[49, 97], [49, 98]] l r), .shr (.int due), .un]) ?_ fun e he => ?_
  · have c1 := cnt_ok (vr_far l1 l4 r1 r4) a1 n1 n12
    rw [cnt_far l1 l4 r1 r4 k1 k4] at c1
    unfold rulesV at c1
    rw [List.map_cons, List.map_cons, List.map_nil] at c1
    simp -implicitDefEqProofs only [SX_seq, SX_if, SX_asg, SX_ret, SX_retN, SX_setL, SX_augL, SX_nil, SX_expr, SX_par, SX_unp, SX_raise, SX_brk, SX_ct, SX_for, EX_bin, EX_un, EX_var, EX_c, EX_and, EX_or, EX_not, EX_if, EX_lst, EX_tup, EX_callB, EX_call, EX_meth, EX_mut, EX_extend, EX_sl, EX_chain, EX_esh, EX_eun, EX_tru,
    IX_any, IX_range1, IX_range2, IX_zip, IX_enum, xArgs_nil, xArgs_cons, xP_none, xP_some, iO_int, List.map_nil, List.map_cons, rE_val, rS_val, rI_val, rF_items, rE_exc, rS_exc, rI_exc, rF_exc, nxS_nx, nxS_ret, nxS_exc, nxS_brk, nxS_ct, lpS_nx, lpS_ct, lpS_brk, lpS_ret, lpS_exc,
    OX_some, OB_some, OB_map, OB_ite, ifO_bl, notO_bl, ifR_bl, get_shr, get_new, get_var, opd_shr, opd_new, own_zero, own_succ, ow_own, ow_io, upd_own, upd_io, upd_succ, so_shr, so_own, so_io, unO_shr, unO_new, unO_var, shO_shr, shO_new, shO_var', frz_own, setOk_un, setOk_shr, setOk_own, set_shr, set_new,
    xOwn_own, ret_shr, ret_new, ret_var, shrs_nil, shrs_cons, Option.map_some, gets_nil, gets_cons, split_nil, split_shr, split_var, sets_nil, sets_cons, tg_one, tg_many, callS_none, callS_some, xIo_some, xLst_some, xInt_some, oE_ret, oE_exc, two?, one?,
    List.cons_append, List.nil_append, List.replicate, List.getElem?_cons_zero, List.getElem?_cons_succ, List.set_cons_zero, List.set_cons_succ, List.length_cons, List.length_nil, Nat.zero_add, Nat.reduceAdd, Nat.reduceSub, Nat.reduceLeDiff, true_and, if_true, ite_true,
    ev_add, ev_sub, ev_fdiv, ev_mod, ev_pow18, ev_pow60, ev_pow5, ev_mul60, ev_mulA, ev_mulB, ev_neg, ev_lt, ev_le, ev_gt, ev_ge, ev_ixL, ev_ixT, ev_ixC, ev_ixS, ev_lenS, ev_lenL, ev_lenT, ev_lenC, ev_addS, ev_addL, ev_addT, ev_mulL, ev_max2, ev_min2, ev_slS, ev_slL, ev_slT, eqv_ii, nev_ii, Int.zero_add, ev_scr0, atI_nat0, atI_nat1, atI_nat2, ix20, ix21,
    Int.reduceLT, Int.reduceLE, Bool.false_eq_true, Bool.true_eq_false, false_implies, true_implies, implies_true, and_true, fnR_nx, fnR_ret, fnR_exc, ioOut, decide_eq_true_eq, decide_eq_false_iff_not, p3, c1, decide_true, Bool.not_true]
  subst he
  refine SX_cut (fun e => ∃ (ps : List (List Nat)) (l' r' : Int) (v : Val), VR ps l' r' ∧ Tn v ∧ e = [.shr (.scr ns), .own v, .shr (.str (abcd k)), .shr (.int l), .shr (.int r), .shr (.int (n : Nat)), .shr (.int (k : Nat)), .shr (.int (inn : Nat)), .shr (.int ((n - inn : Nat) : Int)), .shr (rulesV [[49, 97], [49, 98]] l r), .shr (.int due), .shr (rulesV ps l' r')]) ?_ fun e he => ?_
  · simp -implicitDefEqProofs only [SX_seq, SX_if, SX_asg, SX_ret, SX_retN, SX_setL, SX_augL, SX_nil, SX_expr, SX_par, SX_unp, SX_raise, SX_brk, SX_ct, SX_for, EX_bin, EX_un, EX_var, EX_c, EX_and, EX_or, EX_not, EX_if, EX_lst, EX_tup, EX_callB, EX_call, EX_meth, EX_mut, EX_extend, EX_sl, EX_chain, EX_esh, EX_eun, EX_tru,
    IX_any, IX_range1, IX_range2, IX_zip, IX_enum, xArgs_nil, xArgs_cons, xP_none, xP_some, iO_int, List.map_nil, List.map_cons, rE_val, rS_val, rI_val, rF_items, rE_exc, rS_exc, rI_exc, rF_exc, nxS_nx, nxS_ret, nxS_exc, nxS_brk, nxS_ct, lpS_nx, lpS_ct, lpS_brk, lpS_ret, lpS_exc,
    OX_some, OB_some, OB_map, OB_ite, ifO_bl, notO_bl, ifR_bl, get_shr, get_new, get_var, opd_shr, opd_new, own_zero, own_succ, ow_own, ow_io, upd_own, upd_io, upd_succ, so_shr, so_own, so_io, unO_shr, unO_new, unO_var, shO_shr, shO_new, shO_var', frz_own, setOk_un, setOk_shr, setOk_own, set_shr, set_new,
    xOwn_own, ret_shr, ret_new, ret_var, shrs_nil, shrs_cons, Option.map_some, gets_nil, gets_cons, split_nil, split_shr, split_var, sets_nil, sets_cons, tg_one, tg_many, callS_none, callS_some, xIo_some, xLst_some, xInt_some, oE_ret, oE_exc, two?, one?,
    List.cons_append, List.nil_append, List.replicate, List.getElem?_cons_zero, List.getElem?_cons_succ, List.set_cons_zero, List.set_cons_succ, List.length_cons, List.length_nil, Nat.zero_add, Nat.reduceAdd, Nat.reduceSub, Nat.reduceLeDiff, true_and, if_true, ite_true,
    ev_add, ev_sub, ev_fdiv, ev_mod, ev_pow18, ev_pow60, ev_pow5, ev_mul60, ev_mulA, ev_mulB, ev_neg, ev_lt, ev_le, ev_gt, ev_ge, ev_ixL, ev_ixT, ev_ixC, ev_ixS, ev_lenS, ev_lenL, ev_lenT, ev_lenC, ev_addS, ev_addL, ev_addT, ev_mulL, ev_max2, ev_min2, ev_slS, ev_slL, ev_slT, eqv_ii, nev_ii, Int.zero_add, ev_scr0, atI_nat0, atI_nat1, atI_nat2, ix20, ix21,
    Int.reduceLT, Int.reduceLE, Bool.false_eq_true, Bool.true_eq_false, false_implies, true_implies, implies_true, and_true, fnR_nx, fnR_ret, fnR_exc, ioOut, decide_eq_true_eq, decide_eq_false_iff_not]
    refine OX_mono (lrules_ok ns _ t2 4 (by decide) [97, 98] (by decide) (by decide) lab) fun o ss q => ?_
    obtain ⟨ps, l', r', v3, rfl, hR, _, _, t3, rfl⟩ := q
    simp -implicitDefEqProofs only [SX_seq, SX_if, SX_asg, SX_ret, SX_retN, SX_setL, SX_augL, SX_nil, SX_expr, SX_par, SX_unp, SX_raise, SX_brk, SX_ct, SX_for, EX_bin, EX_un, EX_var, EX_c, EX_and, EX_or, EX_not, EX_if, EX_lst, EX_tup, EX_callB, EX_call, EX_meth, EX_mut, EX_extend, EX_sl, EX_chain, EX_esh, EX_eun, EX_tru,
    IX_any, IX_range1, IX_range2, IX_zip, IX_enum, xArgs_nil, xArgs_cons, xP_none, xP_some, iO_int, List.map_nil, List.map_cons, rE_val, rS_val, rI_val, rF_items, rE_exc, rS_exc, rI_exc, rF_exc, nxS_nx, nxS_ret, nxS_exc, nxS_brk, nxS_ct, lpS_nx, lpS_ct, lpS_brk, lpS_ret, lpS_exc,
    OX_some, OB_some, OB_map, OB_ite, ifO_bl, notO_bl, ifR_bl, get_shr, get_new, get_var, opd_shr, opd_new, own_zero, own_succ, ow_own, ow_io, upd_own, upd_io, upd_succ, so_shr, so_own, so_io, unO_shr, unO_new, unO_var, shO_shr, shO_new, shO_var', frz_own, setOk_un, setOk_shr, setOk_own, set_shr, set_new,
    xOwn_own, ret_shr, ret_new, ret_var, shrs_nil, shrs_cons, Option.map_some, gets_nil, gets_cons, split_nil, split_shr, split_var, sets_nil, sets_cons, tg_one, tg_many, callS_none, callS_some, xIo_some, xLst_some, xInt_some, oE_ret, oE_exc, two?, one?,
    List.cons_append, List.nil_append, List.replicate, List.getElem?_cons_zero, List.getElem?_cons_succ, List.set_cons_zero, List.set_cons_succ, List.length_cons, List.length_nil, Nat.zero_add, Nat.reduceAdd, Nat.reduceSub, Nat.reduceLeDiff, true_and, if_true, ite_true,
    ev_add, ev_sub, ev_fdiv, ev_mod, ev_pow18, ev_pow60, ev_pow5, ev_mul60, ev_mulA, ev_mulB, ev_neg, ev_lt, ev_le, ev_gt, ev_ge, ev_ixL, ev_ixT, ev_ixC, ev_ixS, ev_lenS, ev_lenL, ev_lenT, ev_lenC, ev_addS, ev_addL, ev_addT, ev_mulL, ev_max2, ev_min2, ev_slS, ev_slL, ev_slT, eqv_ii, nev_ii, Int.zero_add, ev_scr0, atI_nat0, atI_nat1, atI_nat2, ix20, ix21,
    Int.reduceLT, Int.reduceLE, Bool.false_eq_true, Bool.true_eq_false, false_implies, true_implies, implies_true, and_true, fnR_nx, fnR_ret, fnR_exc, ioOut, decide_eq_true_eq, decide_eq_false_iff_not]
    exact ⟨ps, l', r', v3, hR, t3, rfl⟩
  obtain ⟨ps, l', r', v3, hR, t3, rfl⟩ := he
  obtain ⟨b1, b2⟩ := ab_ok k1 k4
  have ct2 : cutG ([97, 98] : List Nat) none (some ((k : Nat) : Int)) = ab k := cut_to _ _
  have hR2 : VR ps (min 4 (l' + 1)) r' := ⟨hR.vp, hR.nd, hR.n6, by have := hR.l1; omega, by omega, hR.r1, hR.r4⟩
  have c0 := cnt_ok hR a1 n1 n12
  have c1 := cnt_ok hR2 a1 n1 n12
  have c2 := cnt_ok hR b1 n1 n12
  have m1 := cnt_more hR hR2 (by have := hR.l4; omega) a1.lt n
  have m2 := cnt_sub hR b1.lt a1.lt b2 n
  have m3 := (cnt_le hR a1.lt n).2
  rw [a2] at m3
  have rv : ∀ x y : Int, rulesV ps x y = .tup [.tup (ps.map Val.str), .int x, .int y] := fun _ _ => rfl
  rw [rv] at c0 c1 c2 ⊢
  refine SX_cut (fun e => e = [.shr (.scr ns), .own v3, .shr (.str (abcd k)), .shr (.int l), .shr (.int r), .shr (.int (n : Nat)), .shr (.int (k : Nat)), .shr (.int (inn : Nat)), .shr (.int ((n - inn : Nat) : Int)), .shr (rulesV [[49, 97], [49, 98]] l r), .shr (.int due), .shr (.tup [.tup (ps.map Val.str), .int l', .int r'])]) ?_ fun e he => ?_
  · have g1 : decide (cntM ps (min 4 (l' + 1)) r' (abcd k) n < cntM ps l' r' (abcd k) n) = false := decide_eq_false (by omega)
    simp -implicitDefEqProofs only [SX_seq, SX_if, SX_asg, SX_ret, SX_retN, SX_setL, SX_augL, SX_nil, SX_expr, SX_par, SX_unp, SX_raise, SX_brk, SX_ct, SX_for, EX_bin, EX_un, EX_var, EX_c, EX_and, EX_or, EX_not, EX_if, EX_lst, EX_tup, EX_callB, EX_call, EX_meth, EX_mut, EX_extend, EX_sl, EX_chain, EX_esh, EX_eun, EX_tru,
    IX_any, IX_range1, IX_range2, IX_zip, IX_enum, xArgs_nil, xArgs_cons, xP_none, xP_some, iO_int, List.map_nil, List.map_cons, rE_val, rS_val, rI_val, rF_items, rE_exc, rS_exc, rI_exc, rF_exc, nxS_nx, nxS_ret, nxS_exc, nxS_brk, nxS_ct, lpS_nx, lpS_ct, lpS_brk, lpS_ret, lpS_exc,
    OX_some, OB_some, OB_map, OB_ite, ifO_bl, notO_bl, ifR_bl, get_shr, get_new, get_var, opd_shr, opd_new, own_zero, own_succ, ow_own, ow_io, upd_own, upd_io, upd_succ, so_shr, so_own, so_io, unO_shr, unO_new, unO_var, shO_shr, shO_new, shO_var', frz_own, setOk_un, setOk_shr, setOk_own, set_shr, set_new,
    xOwn_own, ret_shr, ret_new, ret_var, shrs_nil, shrs_cons, Option.map_some, gets_nil, gets_cons, split_nil, split_shr, split_var, sets_nil, sets_cons, tg_one, tg_many, callS_none, callS_some, xIo_some, xLst_some, xInt_some, oE_ret, oE_exc, two?, one?,
    List.cons_append, List.nil_append, List.replicate, List.getElem?_cons_zero, List.getElem?_cons_succ, List.set_cons_zero, List.set_cons_succ, List.length_cons, List.length_nil, Nat.zero_add, Nat.reduceAdd, Nat.reduceSub, Nat.reduceLeDiff, true_and, if_true, ite_true,
    ev_add, ev_sub, ev_fdiv, ev_mod, ev_pow18, ev_pow60, ev_pow5, ev_mul60, ev_mulA, ev_mulB, ev_neg, ev_lt, ev_le, ev_gt, ev_ge, ev_ixL, ev_ixT, ev_ixC, ev_ixS, ev_lenS, ev_lenL, ev_lenT, ev_lenC, ev_addS, ev_addL, ev_addT, ev_mulL, ev_max2, ev_min2, ev_slS, ev_slL, ev_slT, eqv_ii, nev_ii, Int.zero_add, ev_scr0, atI_nat0, atI_nat1, atI_nat2, ix20, ix21,
    Int.reduceLT, Int.reduceLE, Bool.false_eq_true, Bool.true_eq_false, false_implies, true_implies, implies_true, and_true, fnR_nx, fnR_ret, fnR_exc, ioOut, decide_eq_true_eq, decide_eq_false_iff_not, c0, c1, g1]
    try omega
  subst he
  simp -implicitDefEqProofs only [SX_seq, SX_if, SX_asg, SX_ret, SX_retN, SX_setL, SX_augL, SX_nil, SX_expr, SX_par, SX_unp, SX_raise, SX_brk, SX_ct, SX_for, EX_bin, EX_un, EX_var, EX_c, EX_and, EX_or, EX_not, EX_if, EX_lst, EX_tup, EX_callB, EX_call, EX_meth, EX_mut, EX_extend, EX_sl, EX_chain, EX_esh, EX_eun, EX_tru,
    IX_any, IX_range1, IX_range2, IX_zip, IX_enum, xArgs_nil, xArgs_cons, xP_none, xP_some, iO_int, List.map_nil, List.map_cons, rE_val, rS_val, rI_val, rF_items, rE_exc, rS_exc, rI_exc, rF_exc, nxS_nx, nxS_ret, nxS_exc, nxS_brk, nxS_ct, lpS_nx, lpS_ct, lpS_brk, lpS_ret, lpS_exc,
    OX_some, OB_some, OB_map, OB_ite, ifO_bl, notO_bl, ifR_bl, get_shr, get_new, get_var, opd_shr, opd_new, own_zero, own_succ, ow_own, ow_io, upd_own, upd_io, upd_succ, so_shr, so_own, so_io, unO_shr, unO_new, unO_var, shO_shr, shO_new, shO_var', frz_own, setOk_un, setOk_shr, setOk_own, set_shr, set_new,
    xOwn_own, ret_shr, ret_new, ret_var, shrs_nil, shrs_cons, Option.map_some, gets_nil, gets_cons, split_nil, split_shr, split_var, sets_nil, sets_cons, tg_one, tg_many, callS_none, callS_some, xIo_some, xLst_some, xInt_some, oE_ret, oE_exc, two?, one?,
    List.cons_append, List.nil_append, List.replicate, List.getElem?_cons_zero, List.getElem?_cons_succ, List.set_cons_zero, List.set_cons_succ, List.length_cons, List.length_nil, Nat.zero_add, Nat.reduceAdd, Nat.reduceSub, Nat.reduceLeDiff, true_and, if_true, ite_true,
    ev_add, ev_sub, ev_fdiv, ev_mod, ev_pow18, ev_pow60, ev_pow5, ev_mul60, ev_mulA, ev_mulB, ev_neg, ev_lt, ev_le, ev_gt, ev_ge, ev_ixL, ev_ixT, ev_ixC, ev_ixS, ev_lenS, ev_lenL, ev_lenT, ev_lenC, ev_addS, ev_addL, ev_addT, ev_mulL, ev_max2, ev_min2, ev_slS, ev_slL, ev_slT, eqv_ii, nev_ii, Int.zero_add, ev_scr0, atI_nat0, atI_nat1, atI_nat2, ix20, ix21,
    Int.reduceLT, Int.reduceLE, Bool.false_eq_true, Bool.true_eq_false, false_implies, true_implies, implies_true, and_true, fnR_nx, fnR_ret, fnR_exc, ioOut, decide_eq_true_eq, decide_eq_false_iff_not, c0, c2, ct2, p3, decide_eq_true m2, decide_eq_true m3, Bool.and_self]
end G

end
namespace G
open PySem PySem.Spec PyProof.Rows L2 Lw
def names1 : List PySem.Str := ["HyphenError", "InvalidRules", "InvalidLetters", "InvalidSize", "LETTERS", "DIGITS", "PATTERNS", "LONGEST", "is_count", "chars_of", "digits_of", "is_pattern", "is_rules", "need_rules", "SIZE", "is_letters", "updated", "useful_end", "is_broken", "count", "followed", "_law_draw", "_law_pick", "_law_pattern", "_law_bare", "_law_rules", "_law_power"]
def names2 : List PySem.Str := []
abbrev names : List PySem.Str := names1 ++ names2
abbrev R : PySem.W.OpenRow := PySem.W.OpenLaw.row PySem.Challenge.rw_hyphenpatterns_k20_whole_counts_add
abbrev hk : PySem.W.Hook := He.hookD 6 fa fn
def ob (s : PySem.W.SharedT) : He.AlD := He.obsDG 6 fa fn (HandSHeadRun.getT s)
theorem ob_eq (s : PySem.W.SharedT) : ob s = hk.obs s.abs := He.obsDG_eq (HandSHeadRun.getT_eq s)
theorem run (w : World) : HandSHeadRun.RunEq R (PySem.W.view R.prog [31]) hk ob 4000 names w := by
  intro os
  kernel_rfl
theorem facts {P : Program} {w : World} {K : PySem.W.Frag} {h : Heap} {mg : Str → Option Value} {f : Addr} (X : K.In h) (G : h.Ns mainGlobals mg) (hfa : mg ("law" : Str) = some (.ref f)) (c : He.SaysD fa fn K) :
    ∃ fd : FuncData, (∀ (s : Shared) (v : Value), BindsTo s fd ⟨[v], []⟩ [("_law_script", v)]) ∧ ∀ base : Heap, FnOk P w K mg base (L2.CX P w) 6 f fd ["_law_script"] (spF ⟨P, w, K⟩ 1 fn_law) := by
  have Z := Facts.of X G c
  obtain ⟨fd, F⟩ := c.def_ 18 (d := d_law) rfl
  have F : FnP K "law" s_law (He.ga K "law") fd := F
  have e := hfa.symm.trans (m_law Z)
  cases e
  have b := FunD.bindsA (ps := ["_law_script"]) F fun _ _ _ _ _ _ us hl => match us, hl with | [_], _ => rfl
  exact ⟨fd, fun s v => b s [v] rfl, fun base => ok_law Z F⟩
end G
open PySem PySem.W PySem.Calls PyProof.Rows
theorem PySem.Challenge.cw_hyphenpatterns_k20_whole_counts_add_holds : PySem.Challenge.rw_hyphenpatterns_k20_whole_counts_add.Holds := by
  w_on; o_law
  refine HandSHeadRun.head_any (r := OpenLaw.row PySem.Challenge.rw_hyphenpatterns_k20_whole_counts_add) (q := view (OpenLaw.row PySem.Challenge.rw_hyphenpatterns_k20_whole_counts_add).prog [31]) (H := G.hk) (ob := G.ob) (M := 4000) (loose := G.names) (d := HandSHeadRun.topDef (OpenLaw.row PySem.Challenge.rw_hyphenpatterns_k20_whole_counts_add).prog 31) (kwd := []) G.ob_eq
    (by kernel_rfl) (fun s => by kernel_rfl) G.run (by kernel_rfl) (by kernel_rfl) (by kernel_rfl) (by rfl) (by first | assumption | decide +kernel) (by decide +kernel) ⟨rfl, rfl, rfl, rfl, rfl, by decide +kernel⟩ ?hw ?hc
  case hw => w_witness2
  case hc =>
    refine Lw.walk_ofW (l := PySem.Challenge.rw_hyphenpatterns_k20_whole_counts_add) (n := 63) (k := 6) (x := "_law_script") rfl (by decide) (by kernel_rfl) ⟨rfl, by decide, by decide⟩ ?F
    intro w mg fa h Y NS hmg0
    obtain ⟨K, KX, c⟩ := Y
    have hmg : mg ("law" : PySem.Str) = some (.ref fa) := by
      have e : (HandSHeadRun.topDef (OpenLaw.row PySem.Challenge.rw_hyphenpatterns_k20_whole_counts_add).prog 31).name = ("law" : PySem.Str) := by kernel_rfl
      rw [← e]
      exact hmg0
    obtain ⟨fd, hb, hF⟩ := G.facts (P := (PySem.Challenge.rw_hyphenpatterns_k20_whole_counts_add).prog) (w := w) KX NS hmg c
    refine ⟨K, fd, _, KX, hb, fun H a ns hl hS => ?_, fun base _ _ => hF base⟩
    obtain ⟨ss, e⟩ := G.law_ok ns hl
    exact Lw.law_sp (T := ⟨(PySem.Challenge.rw_hyphenpatterns_k20_whole_counts_add).prog, w, K⟩) hS e

