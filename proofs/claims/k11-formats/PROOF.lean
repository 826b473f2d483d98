import PyProof.Rows.All
import Wide.All
import OpenK.AllK
import Wide.FinOn
import HandS.ForMost
import HandS.Dict
import HandS.Iter
import KE.KeyNested
import HandS.ForExc
import HandS.Defaults
import HandS.HeadHook1
import HandS.HeadHook2
import HandS.Style
import HandS.More
import HandS.Text
import HandS.TupAny
import HandS.TupMul
import HandS.Wide
import HandS.Deep
import HandS.IsInst
import HandS.StrMore
import HandS.Strs
import KE.GoesEnum
import KE.GoesZip
import KE.GoesMore
import HandS.HeadEnd
import HandS.ReplaceLit
import KE.KDictDisplayH
import PyProof.Rows.TupDisplay
import HandS.Set
import HandS.SetFor
import HandS.NoneIn
import HandS.CallSlots
import HandS.Codes
import KE.SortData
import KE.KDictPairs
import KE.KDictZip
import HandS.HotCalls
import HandS.ExcIs
import KE.DataFind
import KE.KStateDown
import HandS.Head0
import HandS.Head1
import HandS.Head2
import PySem.Challenge.RW_hyphenpatterns_k11_whole_formats
section
set_option Elab.async false
set_option linter.all false
set_option maxRecDepth 100000
set_option maxHeartbeats 1600000
set_option autoImplicit false
/-! Lw: dicts whose keys are tuples, nested. -/
namespace Lw
open PySem PySem.Spec PyProof.Rows L2
abbrev Ent := NestedKey × Addr × V
abbrev EntV := NestedKey × Addr × Value
abbrev EP2 : List Ent → List EntV → Prop := Paired fun p q => p.1 = q.1 ∧ p.2.1 = q.2.1 ∧ RelV p.2.2 q.2.2
/-- what the object ob, a dict at a, holds -/
def DNs (P : Program) (w : World) (a : Addr) (ob : Obj) (xs : List Ent) : Prop :=
  (a == sysModules) = false ∧ ob.ExactDict ∧ xs.length ≤ sizeLine ∧ ∃ es ep ws, ob.data = .dict es ep ∧ EP2 xs ws ∧ es.toList = ws.map (entryOfKey (nestedKind P w)) ∧ (ws.map (·.1)).Nodup
def DN (P : Program) (w : World) (a : Addr) (ob : Obj) (xs : List Ent) : HO := .ext fun h => h.get? a = some ob ∧ DNs P w a ob xs
def valN (xs : List Ent) (k : NestedKey) : Option V := (xs.find? fun x => decide (x.1 = k)).map (·.2.2)
def putN (xs : List Ent) (k : NestedKey) (b : Addr) (v : V) : List Ent := if (valN xs k).isSome then xs.map (fun x => if x.1 = k then (x.1, x.2.1, v) else x) else xs ++ [(k, b, v)]
section
variable {P : Program} {w : World} {H H' : Hp} {h h' : Heap} {a b : Addr} {ob : Obj} {xs : List Ent} {ws : List EntV} {k : NestedKey}
theorem dn_ok (e : h.get? a = some ob) (d : DNs P w a ob xs) : ObjOk P w H h a (DN P w a ob xs) := ⟨⟨e, d⟩, ⟨ob, e⟩, fun h1 h2 z q => ⟨q _ z.1, z.2⟩⟩
theorem dn_rd (ok : HOk P w H h) (e : H a = some (DN P w a ob xs)) : h.get? a = some ob ∧ DNs P w a ob xs := (ok a _ e).1
theorem EP2.val (r : EP2 xs ws) (k : NestedKey) : RelO (valN xs k) ((atKey ws k).map (·.2)) := by
  induction r with
  | nil => exact True.intro
  | @cons p q ps qs z t ih =>
    obtain ⟨z1, z2, z3⟩ := z
    by_cases e : p.1 = k
    · have e' : q.1 = k := z1.symm.trans e
      have q1 : valN (p :: ps) k = some p.2.2 := by simp [valN, e]
      have q2 : atKey (q :: qs) k = some q.2 := by simp [atKey, e']
      rw [q1, q2]; exact z3
    · have e' : ¬q.1 = k := fun y => e (z1.trans y)
      have q1 : valN (p :: ps) k = valN ps k := by simp [valN, e]
      have q2 : atKey (q :: qs) k = atKey qs k := by simp [atKey, e']
      rw [q1, q2]; exact ih
theorem EP2.isSome (r : EP2 xs ws) (k : NestedKey) : (valN xs k).isSome = (atKey ws k).isSome := by
  have := (r.val k).isSome_eq
  rwa [Option.isSome_map] at this
theorem EP2.put (r : EP2 xs ws) (k : NestedKey) {v : V} {u : Value} (rv : RelV v u) : EP2 (putN xs k b v) (storedH ws k b u) := by
  unfold putN storedH
  rw [r.isSome k]
  by_cases q : (atKey ws k).isSome = true
  · rw [if_pos q, if_pos q]
    clear q
    induction r with
    | nil => exact .nil
    | @cons p q ps qs z t ih =>
      rw [List.map_cons, List.map_cons]
      refine .cons ?_ ih
      obtain ⟨z1, z2, z3⟩ := z
      unfold putAt
      by_cases e : p.1 = k
      · rw [if_pos e, if_pos (z1.symm.trans e)]; exact ⟨z1, z2, rv⟩
      · rw [if_neg e, if_neg fun y => e (z1.trans y)]; exact ⟨z1, z2, z3⟩
  · rw [if_neg q, if_neg q]
    exact Paired.snoc r ⟨rfl, rfl, rv⟩
theorem putN_len (xs : List Ent) (k : NestedKey) (b : Addr) (v : V) : (putN xs k b v).length ≤ xs.length + 1 := by
  unfold putN
  split
  · rw [List.length_map]; omega
  · rw [List.length_append]; exact Nat.le_refl _
mutual
/-- the value is this key, by what is known -/
inductive KeyIs (H : Hp) : NestedKey → V → Prop
  | int (i : Int) : KeyIs H (.num i) (.int i)
  | str (x : Str) : KeyIs H (.text x) (.str x)
  | tup {ks : List NestedKey} {c : Addr} {ys : List V} : H c = some (.tup ys) → KeysAre H ks ys → KeyIs H (.tup ks) (.ref c)
inductive KeysAre (H : Hp) : List NestedKey → List V → Prop
  | nil : KeysAre H [] []
  | cons {k : NestedKey} {ks : List NestedKey} {y : V} {ys : List V} : KeyIs H k y → KeysAre H ks ys → KeysAre H (k :: ks) (y :: ys)
end
mutual
theorem KeyIs.is (ok : HOk P w H h) {k : NestedKey} {x : V} {u : Value} (q : KeyIs H k x) (r : RelV x u) : NestedIs h k u := by
  cases q with
  | int i => obtain ⟨t, rfl⟩ := r; exact .int i t
  | str x => obtain ⟨t, rfl⟩ := r; exact .text x t
  | @tup ks c ys e z =>
    cases (show u = Value.ref c from r)
    obtain ⟨_, its, rs, o, h1, h2, n, h3⟩ := (show ObjOk P w H h c (.tup ys) from ok c _ e)
    exact .tup h1 h2 h3 (by simpa using KeysAre.are ok z rs)
theorem KeysAre.are (ok : HOk P w H h) {ks : List NestedKey} {ys : List V} {us : List Value} (q : KeysAre H ks ys) (r : Vals ys us) : NestedAll h ks us := by
  cases q with
  | nil => cases r; exact .nil
  | cons z zs =>
    cases r with
    | cons r1 r2 => exact .cons (KeyIs.is ok z r1) (KeysAre.are ok zs r2)
end
mutual
theorem KeyIs.mono (s : Same H H') {k : NestedKey} {x : V} (q : KeyIs H k x) : KeyIs H' k x := by
  cases q with
  | int i => exact .int i
  | str x => exact .str x
  | tup e z => exact .tup (s _ _ e) (KeysAre.mono s z)
theorem KeysAre.mono (s : Same H H') {ks : List NestedKey} {ys : List V} (q : KeysAre H ks ys) : KeysAre H' ks ys := by
  cases q with
  | nil => exact .nil
  | cons z zs => exact .cons (KeyIs.mono s z) (KeysAre.mono s zs)
end
/-- all keys of a dict are keys -/
def KsOk (H : Hp) (xs : List Ent) : Prop := ∀ x ∈ xs, KeyIs H x.1 (.ref x.2.1) ∧ x.1.depth ≤ 8
theorem KsOk.mono (s : Same H H') (z : KsOk H xs) : KsOk H' xs := fun x hx => ⟨(z x hx).1.mono s, (z x hx).2⟩
theorem dn_dict (ok : HOk P w H h) (e : H a = some (DN P w a ob xs)) (z : KsOk H xs) : (a == sysModules) = false ∧ xs.length ≤ sizeLine ∧ ∃ ws, EP2 xs ws ∧ h.DictOfH (nestedKind P w) a ws := by
  obtain ⟨g, hs, hx, hl, es, ep, ws, hd, r, he, hn⟩ := dn_rd ok e
  refine ⟨hs, hl, ws, r, ob, es, ep, g, hx, hd, he, ?_, hn⟩
  clear he hn hd hl e
  induction r with
  | nil => intro x hx; cases hx
  | @cons p q ps qs y t ih =>
    intro x hx
    rcases List.mem_cons.mp hx with rfl | hx
    · obtain ⟨k1, k2⟩ := z p (List.mem_cons_self ..)
      rw [← y.1, ← y.2.1]
      exact ⟨KeyIs.is ok k1 rfl, k2⟩
    · exact ih (fun x hx => z x (List.mem_cons_of_mem _ hx)) x hx
/-- an empty dict of the other kind -/
theorem dk_nil (ok : HOk P w H h) (e : H a = some (.dK [])) : (a == sysModules) = false ∧ h.DictOfH (nestedKind P w) a [] := by
  obtain ⟨_, hs, vs, r, o, es, ep, h1, h2, h3, _, h5, _⟩ := dk_of ok e
  cases r
  have e0 : es.toList = [] := by
    generalize es.toList = l at h5
    cases h5
    rfl
  exact ⟨hs, o, es, ep, h1, h2, h3, e0, (fun x hx => nomatch hx), List.nodup_nil⟩
end
end Lw

end
section
set_option Elab.async false
set_option linter.all false
set_option maxRecDepth 100000
set_option maxHeartbeats 1600000
set_option autoImplicit false
/-! Lw: such dicts read and written. -/
namespace Lw
open PySem PySem.Spec PyProof.Rows L2
/-- what stands at the key k -/
def NGet (P : Program) (w : World) (H : Hp) (a : Addr) (k : NestedKey) (r : Option V) : Prop :=
  (∃ ob xs, H a = some (DN P w a ob xs) ∧ KsOk H xs ∧ r = valN xs k) ∨ (H a = some (.dK []) ∧ r = none)
section
variable {X : Cx} {pins : List (Addr × Obj)} {σ : L2.St} {H : Hp} {s : Shared} {a b : Addr} {k : NestedKey} {v : V} {o : Option V} {r : Value} {A : Around} {E : Value → Shared → Prop}
theorem n_dict (I : Inv X pins σ H s) (g : NGet X.prog X.w H a k o) : (a == sysModules) = false ∧ ∃ ws, s.heap.DictOfH (nestedKind X.prog X.w) a ws ∧ RelO o ((atKey ws k).map (·.2)) := by
  rcases g with ⟨ob, xs, e, z, rfl⟩ | ⟨e, rfl⟩
  · obtain ⟨hs, _, ws, r, d⟩ := dn_dict I.hok e z
    exact ⟨hs, ws, d, r.val k⟩
  · obtain ⟨hs, d⟩ := dk_nil I.hok e
    exact ⟨hs, [], d, True.intro⟩
theorem n_is (I : Inv X pins σ H s) (q : KeyIs H k (.ref b)) (hd : k.depth ≤ 8) : (nestedKind X.prog X.w).is s.heap k b := ⟨q.is I.hok rfl, hd⟩
theorem n_room (hu : A.units + 16 < cLine) : (nestedKind X.prog X.w).room A.in1 := by show A.units + 1 + 8 < cLine; omega
theorem n_getItem {Q : Value → Shared → Prop} (hu : A.units + 16 < cLine) (I : Inv X pins σ H s) (g : NGet X.prog X.w H a k (some v)) (q : KeyIs H k (.ref b)) (hd : k.depth ≤ 8) (h : ∀ u s1, Inv X pins σ H s1 → RelV v u → Q u s1) :
    wpAny (model X.prog X.w) A (getItem (.ref a) (.ref b)) Q E s := by
  obtain ⟨_, ws, d, rl⟩ := n_dict I g
  obtain ⟨u, hw, ru⟩ := rl.some_of
  obtain ⟨p, hp, rfl⟩ := Option.map_eq_some_iff.mp hw
  exact wpAny_getItem_heap (n_room hu) (n_is I q hd) d hp (h _ _ (I.tok _) ru)
theorem n_in {Q : Value → Shared → Prop} (hu : A.units + 16 < cLine) (I : Inv X pins σ H s) (g : NGet X.prog X.w H a k o) (q : KeyIs H k (.ref b)) (hd : k.depth ≤ 8) (h : ∀ s1, Inv X pins σ H s1 → Q (.bool o.isSome) s1) :
    wpAny (model X.prog X.w) A (compareOp .In (.ref b) (.ref a)) Q E s := by
  obtain ⟨hs, ws, d, rl⟩ := n_dict I g
  refine wpAny_in_heap (n_room hu) (n_is I q hd) hs d ?_
  have e := rl.isSome_eq
  rw [Option.isSome_map] at e
  rw [← e]
  exact h _ (I.tok _)
theorem n_notIn {Q : Value → Shared → Prop} (hu : A.units + 16 < cLine) (I : Inv X pins σ H s) (g : NGet X.prog X.w H a k o) (q : KeyIs H k (.ref b)) (hd : k.depth ≤ 8) (h : ∀ s1, Inv X pins σ H s1 → Q (.bool (!o.isSome)) s1) :
    wpAny (model X.prog X.w) A (compareOp .NotIn (.ref b) (.ref a)) Q E s := by
  obtain ⟨hs, ws, d, rl⟩ := n_dict I g
  refine wpAny_notIn_heap (n_room hu) (n_is I q hd) hs d ?_
  have e := rl.isSome_eq
  rw [Option.isSome_map] at e
  rw [← e]
  exact h _ (I.tok _)
theorem n_get2 {y : V} {Q : Value → Shared → Prop} (hu : A.units + 16 < cLine) (I : Inv X pins σ H s) (g : NGet X.prog X.w H a k o) (q : KeyIs H k (.ref b)) (hd : k.depth ≤ 8) (ry : RelV y r) (h : ∀ u s1, Inv X pins σ H s1 → RelV (o.getD y) u → Q u s1) :
    wpAny (model X.prog X.w) A (call (.builtin "dict.get") [.ref a, .ref b, r]) Q E s := by
  obtain ⟨hs, ws, d, rl⟩ := n_dict I g
  refine call_meetsIn F.slot_dict_get d.typeIs F.entry_dict_get (F.args_dict_get_3 _ _ _) (meetsH_dict_get_default (nestedKind X.prog X.w) a b hs r) ⟨n_room hu, k, ws, n_is I q hd, d, h _ _ (I.tok _) ?_⟩
  exact rl.getD ry
/-- the dict behind d[k] = v: its object is some object -/
theorem n_setItem {xs : List Ent} {Q : Unit → Shared → Prop} (hu : A.units + 16 < cLine) (I : Inv X pins σ H s) (g : (∃ ob, H a = some (DN X.prog X.w a ob xs)) ∨ (H a = some (.dK []) ∧ xs = [])) (z : KsOk H xs) (hl : xs.length < sizeLine) (q : KeyIs H k (.ref b)) (hd : k.depth ≤ 8) (rv : RelV v r)
    (h : ∀ ob s1, Inv X pins σ (upd H a (DN X.prog X.w a ob (putN xs k b v))) s1 → Q () s1) : wpAny (model X.prog X.w) A (setItem (.ref a) (.ref b) r) Q E s := by
  have g' : (a == sysModules) = false ∧ Mut (H a) ∧ ∃ ws, EP2 xs ws ∧ s.heap.DictOfH (nestedKind X.prog X.w) a ws := by
    rcases g with ⟨ob, e⟩ | ⟨e, rfl⟩
    · obtain ⟨hs, _, ws, r, d⟩ := dn_dict I.hok e z
      exact ⟨hs, by rw [e]; exact True.intro, ws, r, d⟩
    · obtain ⟨hs, d⟩ := dk_nil I.hok e
      exact ⟨hs, by rw [e]; exact True.intro, [], .nil, d⟩
  obtain ⟨hs, mu, ws, rl, d⟩ := g'
  have hz : ws.length ≤ sizeLine := by rw [← Paired.length rl]; omega
  refine wpAny_setItem_heap (hsz := hz) (n_room hu) (n_is I q hd) d fun h' d' sb => ?_
  obtain ⟨ob, es, ep, hg, hx, hdt, he, _, hn⟩ := d'
  have pl := putN_len xs k b v
  exact h ob _ (d_write I mu sb ⟨ob, hg⟩ (dn_ok hg ⟨hs, hx, by omega, es, ep, _, hdt, rl.put k rv, he, hn⟩))
/-- the tail of a subscription of a dict -/
theorem tail_d {slice value : Expr} {v u : Value} {Q : Value → Shared → Prop} (hT : s.TypeIs v "dict") (hs : subscripted slice false v u = operate [v, u] (getItem v u)) (h : wpAny (model X.prog X.w) A (getItem v u) Q E s) :
    wpAny (model X.prog X.w) A (subscriptTail value slice v u) Q E s := by
  unfold subscriptTail
  refine wpAny_bind ?_
  rw [getitemInPython_of_ne hT.not_modules]
  refine wpAny_bind (wpAny_specialOf hT F.slot_dict_getitem.lookup ?_)
  have fin : wpAny (model X.prog X.w) A (subscripted slice false v u) (fun r s2 => wpAny (model X.prog X.w) A (letTemporaryGo value v r >>= fun _ => pure r) Q E s2) E s := by
    rw [hs]
    refine wpAny_operating (wpAny_mono h (fun r s2 h2 => ?_) fun _ _ x => x)
    exact wpAny_bind (wpAny_letTemporaryGo (wpAny_pure h2))
  first
  | exact wpAny_pure (wpAny_bind fin)
  | exact wpAny_bind (wpAny_pure (wpAny_bind fin))
  | exact wpAny_bind fin
end
/-- d[k], nested keys; ints and texts -/
abbrev rNIx (P : Program) (w : World) : R2 := fun x y H Q => ∃ a b k v, x = .ref a ∧ y = .ref b ∧ KeyIs H k y ∧ k.depth ≤ 8 ∧ NGet P w H a k (some v) ∧ Q v H
abbrev rKIx : R2 := fun x y H Q => ∃ a v, x = .ref a ∧ DGet H a y (some v) ∧ Q v H
abbrev rNIn (P : Program) (w : World) (n : Bool) : R2 := fun y x H Q => ∃ a b k o, x = .ref a ∧ y = .ref b ∧ KeyIs H k y ∧ k.depth ≤ 8 ∧ NGet P w H a k o ∧ Q (.bl (n ^^ o.isSome)) H
abbrev rKIn (n : Bool) : R2 := fun y x H Q => ∃ a o, x = .ref a ∧ DGet H a y o ∧ Q (.bl (n ^^ o.isSome)) H
section
variable {X : Cx}
theorem ix_n (hu : X.A.units + 16 < cLine) : IxR X (rNIx X.prog X.w) := by
  intro value slice pins s σ H x y v u Q I rx ry q hs
  obtain ⟨a, b, k, z, rfl, rfl, hk, hd, g, q⟩ := q
  obtain rfl : v = Value.ref a := rx
  obtain rfl : u = Value.ref b := ry
  obtain ⟨_, ws, d, _⟩ := n_dict I g
  exact tail_d d.typeIs hs (n_getItem hu I g hk hd fun u' s1 I1 r1 => ⟨z, H, I1, r1, q⟩)
theorem ix_k (hu : X.A.units + 16 < cLine) : IxR X rKIx := by
  intro value slice pins s σ H x y v u Q I rx ry q hs
  obtain ⟨a, z, rfl, g, q⟩ := q
  obtain rfl : v = Value.ref a := rx
  exact tail_d (dict_typeIs I g) hs (d_getItem (by omega) I g ry fun u' s1 I1 r1 => ⟨z, H, I1, r1, q⟩)
theorem op_nin (hu : X.A.units + 16 < cLine) : OpR X (compareOp .In) (rNIn X.prog X.w false) := by
  intro pins s σ H y x u v Q I ry rx q
  obtain ⟨a, b, k, o, rfl, rfl, hk, hd, g, q⟩ := q
  obtain rfl : v = Value.ref a := rx
  obtain rfl : u = Value.ref b := ry
  rw [Bool.false_xor] at q
  exact n_in hu I g hk hd fun s1 I1 => ⟨.bl o.isSome, H, I1, rfl, q⟩
theorem op_nnotin (hu : X.A.units + 16 < cLine) : OpR X (compareOp .NotIn) (rNIn X.prog X.w true) := by
  intro pins s σ H y x u v Q I ry rx q
  obtain ⟨a, b, k, o, rfl, rfl, hk, hd, g, q⟩ := q
  obtain rfl : v = Value.ref a := rx
  obtain rfl : u = Value.ref b := ry
  rw [Bool.true_xor] at q
  exact n_notIn hu I g hk hd fun s1 I1 => ⟨.bl (!o.isSome), H, I1, rfl, q⟩
theorem op_kin (hu : X.A.units + 16 < cLine) : OpR X (compareOp .In) (rKIn false) := by
  intro pins s σ H y x u v Q I ry rx q
  obtain ⟨a, o, rfl, g, q⟩ := q
  obtain rfl : v = Value.ref a := rx
  rw [Bool.false_xor] at q
  exact d_in (by omega) I g ry fun s1 I1 => ⟨.bl o.isSome, H, I1, rfl, q⟩
theorem op_knotin (hu : X.A.units + 16 < cLine) : OpR X (compareOp .NotIn) (rKIn true) := by
  intro pins s σ H y x u v Q I ry rx q
  obtain ⟨a, o, rfl, g, q⟩ := q
  obtain rfl : v = Value.ref a := rx
  rw [Bool.true_xor] at q
  exact d_notIn (by omega) I g ry fun s1 I1 => ⟨.bl (!o.isSome), H, I1, rfl, q⟩
end
end Lw

end
section
set_option Elab.async false
set_option linter.all false
set_option maxRecDepth 100000
set_option maxHeartbeats 1000000
set_option autoImplicit false
/-! Lw: values without a heap, what they stand for, states, results. -/
namespace Lw
open PySem L2

/-- a value, with what it holds -/
inductive Val where
  | non | bl (b : Bool) | int (i : Int) | str (x : List Nat)
  | lst (xs : List Val) | tup (xs : List Val)
  | dct (ks vs : List Val) | ins (C : Str) (ns : List Str) (vs : List Val)
  | ty (n : String) | glo (x : Str) | scr (ns : List Int)

/-- program, world, written part -/
structure Tx where
  P : Program
  w : World
  K : PySem.W.Frag
abbrev tx (X : Cx) : Tx := ⟨X.prog, X.w, X.K⟩

mutual
/-- a value as a key -/
def nk : Val → Option NestedKey
  | .int i => some (.num i)
  | .str z => some (.text ⟨z.toArray⟩)
  | .tup vs => (nks vs).map .tup
  | _ => none
def nks : List Val → Option (List NestedKey)
  | [] => some []
  | v :: vs => match nk v, nks vs with
    | some k, some ks => some (k :: ks)
    | _, _ => none
end
/-- a dict of these keys and values; one whose keys are tuples says so by a None ahead of its keys -/
def IsDct (T : Tx) (a : Addr) (o : HO) (ks : List Val) (kys vys : List V) : Prop :=
  (∃ kvs : List (Key × V), o = .dK kvs ∧ kys = kvs.map (fun p => kV p.1) ∧ vys = kvs.map (·.2)) ∨
  ∃ (ob : PySem.Obj) (xs : List Ent), o = DN T.P T.w a ob xs ∧ kys = V.non :: xs.map (fun e => V.ref e.2.1) ∧ vys = xs.map (·.2.2) ∧ ks.tail.map nk = xs.map (fun e => some e.1) ∧ ∀ e ∈ xs, e.1.depth ≤ 8

mutual
/-- the value stands so, by what is known (B) -/
inductive Rep (T : Tx) (B : Hp) : V → Val → Prop
  | non : Rep T B .non .non
  | bl (b : Bool) : Rep T B (.bl b) (.bl b)
  | int (i : Int) : Rep T B (.int i) (.int i)
  | str (x : Str) : Rep T B (.str x) (.str x.cps.toList)
  | lst {a : Addr} {ys : List V} {vs : List Val} : B a = some (.lst ys) → RepAll T B ys vs → Rep T B (.ref a) (.lst vs)
  | tup {a : Addr} {ys : List V} {vs : List Val} : B a = some (.tup ys) → RepAll T B ys vs → Rep T B (.ref a) (.tup vs)
  | dct {a : Addr} {o : HO} {kys vys : List V} {ks vs : List Val} : B a = some o → IsDct T a o ks kys vys → RepAll T B kys ks → RepAll T B vys vs → Rep T B (.ref a) (.dct ks vs)
  | ins {a C dx : Addr} {fs : List (Str × V)} {c : Str} {ns : List Str} {vs : List Val} : B a = some (.ins C dx fs) → C = He.ga T.K c → fs.map (·.1) = ns → RepAll T B (fs.map (·.2)) vs → Rep T B (.ref a) (.ins c ns vs)
  | ty (n : String) : Rep T B (.ty n) (.ty n)
  | glo (x : Str) : Rep T B (.ref (He.ga T.K x)) (.glo x)
  | scr {a : Addr} {ns : List Int} : SqL T.K B a (ns.map V.int) → Rep T B (.ref a) (.scr ns)
inductive RepAll (T : Tx) (B : Hp) : List V → List Val → Prop
  | nil : RepAll T B [] []
  | cons {y : V} {ys : List V} {v : Val} {vs : List Val} : Rep T B y v → RepAll T B ys vs → RepAll T B (y :: ys) (v :: vs)
end

theorem same_l {K : PySem.W.Frag} {H H' : Hp} {a : Addr} {xs : List V} (e : Same H H') (h : SqL K H a xs) : SqL K H' a xs := e.seq h
theorem same_t {K : PySem.W.Frag} {H H' : Hp} {a : Addr} {xs : List V} (e : Same H H') (h : SqT K H a xs) : SqT K H' a xs := by
  rcases h with (h | ⟨o, h⟩) | h
  · exact .inl (.inl (e _ _ h))
  · exact .inl (.inr ⟨o, e _ _ h⟩)
  · exact .inr h
section
variable {T : Tx} {B B' : Hp}
mutual
theorem Rep.mono (e : Same B B') {y : V} {v : Val} (h : Rep T B y v) : Rep T B' y v := by
  cases h with
  | non => exact .non
  | bl b => exact .bl b
  | int i => exact .int i
  | str x => exact .str x
  | lst h r => exact .lst (e _ _ h) (RepAll.mono e r)
  | tup h r => exact .tup (e _ _ h) (RepAll.mono e r)
  | dct h d r q => exact .dct (e _ _ h) d (RepAll.mono e r) (RepAll.mono e q)
  | ins h c n r => exact .ins (e _ _ h) c n (RepAll.mono e r)
  | ty n => exact .ty n
  | glo x => exact .glo x
  | scr h => exact .scr (same_l e h)
theorem RepAll.mono (e : Same B B') {ys : List V} {vs : List Val} (h : RepAll T B ys vs) : RepAll T B' ys vs := by
  cases h with
  | nil => exact .nil
  | cons a b => exact .cons (Rep.mono e a) (RepAll.mono e b)
end
theorem RepAll.length {ys : List V} : ∀ {vs : List Val}, RepAll T B ys vs → ys.length = vs.length := by
  induction ys with
  | nil => intro vs h; cases h; rfl
  | cons y ys ih => intro vs h; cases h with | cons a b => rw [List.length_cons, List.length_cons, ih b]
theorem RepAll.append {ys zs : List V} : ∀ {vs ws : List Val}, RepAll T B ys vs → RepAll T B zs ws → RepAll T B (ys ++ zs) (vs ++ ws) := by
  induction ys with
  | nil => intro vs ws h k; cases h; exact k
  | cons y ys ih => intro vs ws h k; cases h with | cons a b => exact .cons a (ih b k)
theorem RepAll.get {ys : List V} : ∀ {vs : List Val} {i : Nat} {v : Val}, RepAll T B ys vs → vs[i]? = some v → ∃ y, ys[i]? = some y ∧ Rep T B y v := by
  induction ys with
  | nil => intro vs i v h e; cases h; simp at e
  | cons y ys ih =>
    intro vs i v h e
    cases h with
    | cons a b =>
      cases i with
      | zero => simp at e; subst e; exact ⟨y, rfl, a⟩
      | succ i => obtain ⟨z, h1, h2⟩ := ih b (i := i) (by simpa using e); exact ⟨z, by simpa using h1, h2⟩
theorem RepAll.get' {ys : List V} : ∀ {vs : List Val} {i : Nat} {y : V}, RepAll T B ys vs → ys[i]? = some y → ∃ v, vs[i]? = some v ∧ Rep T B y v := by
  induction ys with
  | nil => intro vs i y h e; simp at e
  | cons z ys ih =>
    intro vs i y h e
    cases h with
    | cons a b =>
      cases i with
      | zero => simp at e; subst e; exact ⟨_, rfl, a⟩
      | succ i => obtain ⟨z, h1, h2⟩ := ih b (i := i) (by simpa using e); exact ⟨z, by simpa using h1, h2⟩
theorem RepAll.set {ys : List V} : ∀ {vs : List Val} (i : Nat) {y : V} {v : Val}, RepAll T B ys vs → Rep T B y v → RepAll T B (ys.set i y) (vs.set i v) := by
  induction ys with
  | nil => intro vs i y v h e; cases h; exact .nil
  | cons z ys ih =>
    intro vs i y v h e
    cases h with
    | cons a b =>
      cases i with
      | zero => exact .cons e b
      | succ i => exact .cons a (ih i b e)
theorem RepAll.take {ys : List V} : ∀ {vs : List Val} (n : Nat), RepAll T B ys vs → RepAll T B (ys.take n) (vs.take n) := by
  induction ys with
  | nil => intro vs n h; cases h; simp; exact .nil
  | cons z ys ih =>
    intro vs n h
    cases h with
    | cons a b => cases n with
      | zero => exact .nil
      | succ n => exact .cons a (ih n b)
theorem RepAll.drop {ys : List V} : ∀ {vs : List Val} (n : Nat), RepAll T B ys vs → RepAll T B (ys.drop n) (vs.drop n) := by
  induction ys with
  | nil => intro vs n h; cases h; simp; exact .nil
  | cons z ys ih =>
    intro vs n h
    cases h with
    | cons a b => cases n with
      | zero => exact .cons a b
      | succ n => exact ih n b
theorem RepAll.reverse {ys : List V} : ∀ {vs : List Val}, RepAll T B ys vs → RepAll T B ys.reverse vs.reverse := by
  induction ys with
  | nil => intro vs h; cases h; exact .nil
  | cons z ys ih => intro vs h; cases h with | cons a b => rw [List.reverse_cons, List.reverse_cons]; exact (ih b).append (.cons a .nil)
theorem RepAll.eraseIdx {ys : List V} : ∀ {vs : List Val} (i : Nat), RepAll T B ys vs → RepAll T B (ys.eraseIdx i) (vs.eraseIdx i) := by
  induction ys with
  | nil => intro vs i h; cases h; exact .nil
  | cons z ys ih =>
    intro vs i h
    cases h with
    | cons a b => cases i with
      | zero => exact b
      | succ i => exact .cons a (ih i b)
theorem RepAll.ints : ∀ ns : List Int, RepAll T B (ns.map V.int) (ns.map Val.int)
  | [] => .nil
  | n :: r => .cons (.int n) (RepAll.ints r)
/-- ints, strs, bools, None -/
def flat : Val → Bool
  | .non => true | .bl _ => true | .int _ => true | .str _ => true | .ty _ => true | .glo _ => true | _ => false
theorem Rep.flat {y : V} {v : Val} (h : Rep T B y v) (f : flat v = true) (B' : Hp) : Rep T B' y v := by
  cases h <;> first | exact .non | exact .bl _ | exact .int _ | exact .str _ | exact .ty _ | exact .glo _ | (cases f)
theorem Rep.of_str {x : Str} {l : List Nat} (e : x.cps.toList = l) : Rep T B (.str x) (.str l) := by
  subst e; exact .str x
theorem Rep.str_mk (l : List Nat) : Rep T B (.str ⟨l.toArray⟩) (.str l) := Rep.of_str rfl
end

/-! ### slots -/
inductive Slot where
  /-- nothing known | a value that may be shared | a list, dict, instance of one's own | one that was handed in to be changed -/
  | un | shr (v : Val) | own (v : Val) | io (v : Val)
abbrev Env := List Slot
def Slot.ow : Slot → Option Val
  | .own v => some v
  | .io v => some v
  | _ => none
def own? (env : Env) (i : Nat) : Option Val := (env[i]?).bind Slot.ow

def notD : Val → Bool
  | .dct _ _ => false
  | _ => true
mutual
inductive OwnR (T : Tx) (B H : Hp) : List Addr → Addr → Val → Prop
  | lst {a : Addr} {ys : List V} {vs : List Val} : H a = some (.lst ys) → RepAll T B ys vs → OwnR T B H [a] a (.lst vs)
  | dct {a : Addr} {o : HO} {kys vys : List V} {ks vs : List Val} : H a = some o → IsDct T a o ks kys vys → RepAll T B kys ks → RepAll T B vys vs → OwnR T B H [a] a (.dct ks vs)
  | ins {a C dx : Addr} {fs : List (Str × V)} {c : Str} {ns : List Str} {vs : List Val} {fp : List Addr} : H a = some (.ins C dx fs) → C = He.ga T.K c → fs.map (·.1) = ns → FldR T B H fp (fs.map (·.2)) vs → a ∉ fp → OwnR T B H (a :: fp) a (.ins c ns vs)
/-- an instance's fields: shared (no dicts), or dicts of its own -/
inductive FldR (T : Tx) (B H : Hp) : List Addr → List V → List Val → Prop
  | nil : FldR T B H [] [] []
  | shr {y : V} {ys : List V} {v : Val} {vs : List Val} {fp : List Addr} : Rep T B y v → notD v = true → FldR T B H fp ys vs → FldR T B H fp (y :: ys) (v :: vs)
  | own {a : Addr} {ys : List V} {vs : List Val} {fp : List Addr} {o : HO} {kys vys : List V} {ks ws : List Val} : H a = some o → IsDct T a o ks kys vys → RepAll T B kys ks → RepAll T B vys ws → a ∉ fp → FldR T B H fp ys vs →
      FldR T B H (a :: fp) (.ref a :: ys) (.dct ks ws :: vs)
end
section
variable {T : Tx} {B B' H H' : Hp}
theorem FldR.mono (e : Same B B') {fp : List Addr} {ys : List V} {vs : List Val} (h : FldR T B H fp ys vs) (k : ∀ b ∈ fp, ∀ o, H b = some o → H' b = some o) : FldR T B' H' fp ys vs := by
  cases h with
  | nil => exact .nil
  | shr r d q => exact .shr (r.mono e) d (FldR.mono e q k)
  | own h d r q n f => exact .own (k _ List.mem_cons_self _ h) d (r.mono e) (q.mono e) n (FldR.mono e f fun b hb => k b (List.mem_cons_of_mem _ hb))
theorem FldR.there {fp : List Addr} {ys : List V} {vs : List Val} (h : FldR T B H fp ys vs) : ∀ b ∈ fp, ∃ o, H b = some o := by
  cases h with
  | nil => intro b hb; cases hb
  | shr r d q => exact FldR.there q
  | own h d r q n f =>
    intro b hb
    rcases List.mem_cons.mp hb with rfl | hb
    · exact ⟨_, h⟩
    · exact FldR.there f b hb
theorem OwnR.mono (e : Same B B') {fp : List Addr} {a : Addr} {v : Val} (h : OwnR T B H fp a v) (k : ∀ b ∈ fp, ∀ o, H b = some o → H' b = some o) : OwnR T B' H' fp a v := by
  cases h with
  | lst h r => exact .lst (k _ List.mem_cons_self _ h) (r.mono e)
  | dct h d r q => exact .dct (k _ List.mem_cons_self _ h) d (r.mono e) (q.mono e)
  | ins h c n f na => exact .ins (k _ List.mem_cons_self _ h) c n (f.mono e fun b hb => k b (List.mem_cons_of_mem _ hb)) na
theorem OwnR.there {fp : List Addr} {a : Addr} {v : Val} (h : OwnR T B H fp a v) : ∀ b ∈ fp, ∃ o, H b = some o := by
  cases h with
  | lst h r => intro b hb; rw [List.mem_singleton] at hb; exact ⟨_, by rw [hb]; exact h⟩
  | dct h d r q => intro b hb; rw [List.mem_singleton] at hb; exact ⟨_, by rw [hb]; exact h⟩
  | ins h c n f na =>
    intro b hb
    rcases List.mem_cons.mp hb with rfl | hb
    · exact ⟨_, h⟩
    · exact f.there b hb
theorem OwnR.mem {fp : List Addr} {a : Addr} {v : Val} (h : OwnR T B H fp a v) : a ∈ fp := by
  cases h <;> exact List.mem_cons_self
end

/-! ### states -/
/-- env: the slots' values; σ: where they stand; B: what is known for good; H: the heap; F i: what the slot i owns -/
structure RS (T : Tx) (env : Env) (σ : L2.St) (B H : Hp) (F : Nat → List Addr) : Prop where
  sub : Same B H
  len : σ.length = env.length
  shr : ∀ (i : Nat) v, env[i]? = some (Slot.shr v) → ∃ x, σ[i]? = some (some x) ∧ Rep T B x v
  own : ∀ (i : Nat) v, own? env i = some v → ∃ a, σ[i]? = some (some (.ref a)) ∧ OwnR T B H (F i) a v
  non : ∀ (i : Nat), own? env i = none → F i = []
  free : ∀ (i : Nat) a, a ∈ F i → B a = none
  disj : ∀ i j a, a ∈ F i → a ∈ F j → i = j

structure Go (env : Env) (σ : L2.St) (H : Hp) (F : Nat → List Addr) (B : Hp) (env1 : Env) (σ1 : L2.St) (H1 : Hp) (F1 : Nat → List Addr) (B1 : Hp) : Prop where
  fr : ∀ a o, H a = some o → (∀ i, a ∉ F i) → H1 a = some o
  al : ∀ a, H1 a = none → H a = none
  kn : Same B B1
  nb : ∀ a o, B1 a = some o → B a = some o ∨ H a = none ∨ ∃ (i : Nat) (v : Val), env[i]? = some (Slot.own v) ∧ a ∈ F i
  ow : ∀ i a, a ∈ F1 i → (∃ j, a ∈ F j) ∨ H a = none
  io : ∀ (i : Nat) v, env[i]? = some (Slot.io v) → ∃ v1, env1[i]? = some (Slot.io v1) ∧ σ1[i]? = σ[i]? ∧ ∀ a ∈ F i, a ∈ F1 i
  iw : ∀ (i : Nat) v, env1[i]? = some (Slot.io v) → ∃ v0, env[i]? = some (Slot.io v0)
  ln : env1.length = env.length

section
variable {T : Tx} {env env1 env2 : Env} {σ σ1 σ2 : L2.St} {H H1 H2 B B1 B2 : Hp} {F F1 F2 : Nat → List Addr}
theorem RS.there (S : RS T env σ B H F) {i : Nat} {a : Addr} (h : a ∈ F i) : ∃ o, H a = some o := by
  cases e : own? env i with
  | none => rw [S.non i e] at h; cases h
  | some v => obtain ⟨b, _, r⟩ := S.own i v e; exact r.there a h
theorem RS.fresh (S : RS T env σ B H F) {a : Addr} (h : H a = none) : ∀ i, a ∉ F i := fun i q => by
  obtain ⟨o, e⟩ := S.there q
  rw [h] at e; cases e
theorem RS.bnone (S : RS T env σ B H F) {a : Addr} (h : H a = none) : B a = none := S.sub.free h
theorem own_io {i : Nat} {v : Val} (h : env[i]? = some (Slot.io v)) : own? env i = some v := by unfold own?; rw [h]; rfl
theorem own_own {i : Nat} {v : Val} (h : env[i]? = some (Slot.own v)) : own? env i = some v := by unfold own?; rw [h]; rfl
theorem own_cases {i : Nat} {v : Val} (h : own? env i = some v) : env[i]? = some (Slot.own v) ∨ env[i]? = some (Slot.io v) := by
  unfold own? at h
  cases e : env[i]? with
  | none => rw [e] at h; cases h
  | some s => rw [e] at h; cases s <;> first | (cases h; exact .inl rfl) | (cases h; exact .inr rfl) | (cases h)
theorem Go.refl : Go env σ H F B env σ H F B := ⟨fun _ _ h _ => h, fun _ h => h, Same.refl _, fun _ _ h => .inl h, fun i a h => .inl ⟨i, h⟩, fun i v h => ⟨v, h, rfl, fun _ q => q⟩, fun i v h => ⟨v, h⟩, rfl⟩
theorem Go.trans (S : RS T env σ B H F) (S1 : RS T env1 σ1 B1 H1 F1) (a : Go env σ H F B env1 σ1 H1 F1 B1) (b : Go env1 σ1 H1 F1 B1 env2 σ2 H2 F2 B2) : Go env σ H F B env2 σ2 H2 F2 B2 where
  fr := fun c o h n => b.fr c o (a.fr c o h n) fun i q => by
    rcases a.ow i c q with ⟨j, z⟩ | z
    · exact n j z
    · rw [h] at z; cases z
  al := fun c h => a.al c (b.al c h)
  kn := a.kn.trans b.kn
  nb := fun c o h => by
    rcases b.nb c o h with h | h | ⟨i, v, e, h⟩
    · exact a.nb c o h
    · exact .inr (.inl (a.al c h))
    · rcases a.ow i c h with ⟨j, z⟩ | z
      · have hj : own? env j ≠ none := fun e2 => by rw [S.non j e2] at z; cases z
        cases e2 : own? env j with
        | none => exact absurd e2 hj
        | some v2 =>
          rcases own_cases e2 with e3 | e3
          · exact .inr (.inr ⟨j, v2, e3, z⟩)
          · obtain ⟨v3, e4, _, m⟩ := a.io j v2 e3
            have := S1.disj i j c h (m c z)
            subst this
            rw [e] at e4; cases e4
      · exact .inr (.inl z)
  ow := fun i c h => by
    rcases b.ow i c h with ⟨j, z⟩ | z
    · exact a.ow j c z
    · exact .inr (a.al c z)
  io := fun i v h => by
    obtain ⟨v1, e1, s1, m1⟩ := a.io i v h
    obtain ⟨v2, e2, s2, m2⟩ := b.io i v1 e1
    exact ⟨v2, e2, s2.trans s1, fun c q => m2 c (m1 c q)⟩
  iw := fun i v h => by
    obtain ⟨v1, e1⟩ := b.iw i v h
    exact a.iw i v1 e1
  ln := b.ln.trans a.ln

/-- nothing changed but that something new may stand, may be known -/
structure PG (B H B1 H1 : Hp) : Prop where
  hh : Same H H1
  kn : Same B B1
  sub : Same B1 H1
  nb : ∀ a o, B1 a = some o → B a = some o ∨ H a = none
theorem PG.refl (h : Same B H) : PG B H B H := ⟨Same.refl _, Same.refl _, h, fun _ _ e => .inl e⟩
theorem PG.trans (a : PG B H B1 H1) (b : PG B1 H1 B2 H2) : PG B H B2 H2 := ⟨a.hh.trans b.hh, a.kn.trans b.kn, b.sub, fun c o h => by
  rcases b.nb c o h with h | h
  · exact a.nb c o h
  · exact .inr (a.hh.free h)⟩
theorem PG.rs (S : RS T env σ B H F) (g : PG B H B1 H1) : RS T env σ B1 H1 F where
  sub := g.sub
  len := S.len
  shr := fun i v e => let ⟨x, h1, h2⟩ := S.shr i v e; ⟨x, h1, h2.mono g.kn⟩
  own := fun i v e => let ⟨a, h1, h2⟩ := S.own i v e; ⟨a, h1, h2.mono g.kn fun b _ o q => g.hh b o q⟩
  non := S.non
  free := fun i a h => by
    cases e : B1 a with
    | none => rfl
    | some o =>
      rcases g.nb a o e with z | z
      · rw [S.free i a h] at z; cases z
      · exact absurd h (S.fresh z i)
  disj := S.disj
theorem PG.go (g : PG B H B1 H1) : Go env σ H F B env σ H1 F B1 where
  fr := fun a o h _ => g.hh a o h
  al := fun a h => g.hh.free h
  kn := g.kn
  nb := fun a o h => (g.nb a o h).elim .inl fun z => .inr (.inl z)
  ow := fun i a h => .inl ⟨i, h⟩
  io := fun i v h => ⟨v, h, rfl, fun _ q => q⟩
  iw := fun i v h => ⟨v, h⟩
  ln := rfl
end

/-! ### results -/
/-- a value: shared; a new object; the slot's own object -/
inductive Opd where
  | shr (v : Val) | new (v : Val) | var (i : Nat)
inductive RV where
  | shr (v : Val) | new (v : Val)
def RV.opd : RV → Opd
  | .shr v => .shr v
  | .new v => .new v
def Opd.get (o : Opd) (env : Env) : Option Val := match o with
  | .shr v => some v
  | .new v => some v
  | .var i => own? env i
inductive ERes where
  | val (o : Opd) | exc (c : Str)
abbrev EF := Env → Option (ERes × Env)

def OpdR (T : Tx) (env : Env) (σ : L2.St) (B H : Hp) (F : Nat → List Addr) (H0 : Hp) (x : V) : Opd → Prop
  | .shr v => Rep T B x v
  | .new v => ∃ a fp, x = .ref a ∧ OwnR T B H fp a v ∧ ∀ b ∈ fp, H0 b = none ∧ B b = none ∧ ∀ i, b ∉ F i
  | .var i => σ[i]? = some (some x)
/-- an operand at the moment of an operation -/
def OprR (T : Tx) (B H : Hp) (x : V) (v : Val) : Prop := Rep T B x v ∨ ∃ a fp, x = .ref a ∧ OwnR T B H fp a v ∧ ∀ b ∈ fp, B b = none
def RvR (T : Tx) (B1 H1 H : Hp) (z : V) : RV → Prop
  | .shr v => Rep T B1 z v
  | .new v => ∃ a fp, z = .ref a ∧ OwnR T B1 H1 fp a v ∧ ∀ b ∈ fp, H b = none ∧ B1 b = none

section
variable {T : Tx} {env env1 env2 : Env} {σ σ1 σ2 : L2.St} {H0 H H1 H2 B B1 B2 : Hp} {F F1 F2 : Nat → List Addr} {x : V} {o : Opd} {v : Val}
theorem OpdR.opr (S : RS T env σ B H F) (h : OpdR T env σ B H F H0 x o) (e : o.get env = some v) : OprR T B H x v := by
  cases o with
  | shr u => cases e; exact .inl h
  | new u =>
    cases e
    obtain ⟨a, fp, h1, h2, h3⟩ := h
    exact .inr ⟨a, fp, h1, h2, fun b hb => (h3 b hb).2.1⟩
  | var i =>
    have h2 : σ[i]? = some (some x) := h
    have e' : own? env i = some v := e
    obtain ⟨a, s1, r⟩ := S.own i _ e'
    rw [h2] at s1
    cases s1
    exact .inr ⟨a, F i, rfl, r, fun b hb => S.free i b hb⟩
/-- an operand, while others are reckoned -/
theorem OpdR.go (S : RS T env σ B H F) (S1 : RS T env1 σ B1 H1 F1) (g : Go env σ H F B env1 σ H1 F1 B1) (h : OpdR T env σ B H F H0 x o) : OpdR T env1 σ B1 H1 F1 H0 x o := by
  cases o with
  | shr u => exact Rep.mono g.kn h
  | new u =>
    obtain ⟨a, fp, h1, h2, h3⟩ := h
    refine ⟨a, fp, h1, h2.mono g.kn fun b hb o q => g.fr b o q (h3 b hb).2.2, fun b hb => ⟨(h3 b hb).1, ?_, fun i q => ?_⟩⟩
    · cases e : B1 b with
      | none => rfl
      | some o =>
        obtain ⟨o2, e2⟩ := h2.there b hb
        rcases g.nb b o e with z | z | ⟨i, _, _, z⟩
        · rw [(h3 b hb).2.1] at z; cases z
        · rw [z] at e2; cases e2
        · exact absurd z ((h3 b hb).2.2 i)
    · obtain ⟨o2, e2⟩ := h2.there b hb
      rcases g.ow i b q with ⟨j, z⟩ | z
      · exact (h3 b hb).2.2 j z
      · rw [z] at e2; cases e2
  | var i => exact h
/-- .. with another start -/
theorem OpdR.from (h : OpdR T env σ B H F H1 x o) (al : ∀ a, H1 a = none → H0 a = none) : OpdR T env σ B H F H0 x o := by
  cases o with
  | shr u => exact h
  | new u =>
    obtain ⟨a, fp, h1, h2, h3⟩ := h
    exact ⟨a, fp, h1, h2, fun b hb => ⟨al b (h3 b hb).1, (h3 b hb).2⟩⟩
  | var i => exact h
theorem RvR.opd (S : RS T env σ B H F) {r : RV} (h : RvR T B1 H1 H x r) (al : ∀ a, H a = none → H0 a = none) : OpdR T env σ B1 H1 F H0 x r.opd := by
  cases r with
  | shr v => exact h
  | new v =>
    obtain ⟨a, fp, h1, h2, h3⟩ := h
    exact ⟨a, fp, h1, h2, fun b hb => ⟨al b (h3 b hb).1, (h3 b hb).2, S.fresh (h3 b hb).1⟩⟩
end

/-! ### expressions -/
/-- what is wanted behind an expression that started at env, H, ..; Hs: the heap ahead of it, for what is new -/
def Post (T : Tx) (W : WX) (Q : VK) (Hs : Hp) (env : Env) (σ : L2.St) (H : Hp) (F : Nat → List Addr) (B : Hp) (env2 : Env) (r : ERes) : Prop :=
  ∀ H2 F2 B2, RS T env2 σ B2 H2 F2 → Go env σ H F B env2 σ H2 F2 B2 → match r with
  | .val o => ∀ x, OpdR T env2 σ B2 H2 F2 Hs x o → Q x H2
  | .exc c => W (.ref (He.ga T.K c)) none σ H2
/-- the reading of a semantic function; W: the wish of exceptions -/
def eG (T : Tx) (W : WX) (f : EF) : TE := fun σ H Q => ∃ env F B r env1, RS T env σ B H F ∧ f env = some (r, env1) ∧ Post T W Q H env σ H F B env1 r
abbrev SE (X : Cx) (W : WX) (e : Expr) (f : EF) : Prop := PE X e (eG (tx X) W f)
theorem PE.mono {X : Cx} {e : Expr} {t t' : TE} (h : PE X e t) (i : ∀ σ H Q, t' σ H Q → t σ H Q) : PE X e t' := ⟨fun pins s σ H Q I q => h.run pins s σ H Q I (i σ H Q q)⟩
theorem PT.mono {X : Cx} {e : Expr} {t t' : TT} (h : PT X e t) (i : ∀ σ H Q, t' σ H Q → t σ H Q) : PT X e t' := ⟨fun pins s σ H Q I q => h.run pins s σ H Q I (i σ H Q q)⟩
theorem PW.mono {X : Cx} {e : Expr} {t t' : TT} (h : PW X e t) (i : ∀ σ H Q, t' σ H Q → t σ H Q) : PW X e t' := ⟨fun wh pins s σ H Q I q => h.run wh pins s σ H Q I (i σ H Q q)⟩
theorem PA.mono {X : Cx} {e : List Expr} {t t' : TA} (h : PA X e t) (i : ∀ σ H Q, t' σ H Q → t σ H Q) : PA X e t' := ⟨fun pos pins s σ H Q I q => h.run pos pins s σ H Q I (i σ H Q q)⟩
theorem PS.mono {X : Cx} {e : Stmt} {t t' : TS} (h : PS X e t) (i : ∀ D σ H, t' D σ H → t D σ H) : PS X e t' := ⟨fun pins s σ H D I q => h.run pins s σ H D I (i D σ H q)⟩
theorem PSs.mono {X : Cx} {e : List Stmt} {t t' : TS} (h : PSs X e t) (i : ∀ D σ H, t' D σ H → t D σ H) : PSs X e t' := ⟨fun pins s σ H D I q => h.run pins s σ H D I (i D σ H q)⟩

def ebind (f : EF) (k : Opd → EF) : EF := fun env => match f env with
  | some (.val o, env1) => k o env1
  | some (.exc c, env1) => some (.exc c, env1)
  | none => none
section
variable {T : Tx} {W : WX} {Q : VK} {Hs : Hp} {env env1 env2 : Env} {σ : L2.St} {H H1 B B1 : Hp} {F F1 : Nat → List Addr} {r : ERes} {f : EF} {k : Opd → EF}
theorem Post.shift (S : RS T env σ B H F) (S1 : RS T env1 σ B1 H1 F1) (g : Go env σ H F B env1 σ H1 F1 B1) (p : Post T W Q Hs env σ H F B env2 r) : Post T W Q Hs env1 σ H1 F1 B1 env2 r :=
  fun H2 F2 B2 S2 G2 => p H2 F2 B2 S2 (g.trans S S1 G2)
theorem run_cut (S : RS T env σ B H F) (e : ebind f k env = some (r, env2)) (p : Post T W Q Hs env σ H F B env2 r) {Q' : VK}
    (hq : ∀ o env1 H1 F1 B1 x, k o env1 = some (r, env2) → RS T env1 σ B1 H1 F1 → Go env σ H F B env1 σ H1 F1 B1 → OpdR T env1 σ B1 H1 F1 H x o → Post T W Q Hs env1 σ H1 F1 B1 env2 r → Q' x H1) : eG T W f σ H Q' := by
  unfold ebind at e
  cases h : f env with
  | none => rw [h] at e; cases e
  | some z =>
    obtain ⟨r1, env1⟩ := z
    rw [h] at e
    refine ⟨env, F, B, r1, env1, S, h, fun H1 F1 B1 S1 G1 => ?_⟩
    cases r1 with
    | val o => exact fun x hx => hq o env1 H1 F1 B1 x e S1 G1 hx (p.shift S S1 G1)
    | exc c =>
      cases e
      exact p H1 F1 B1 S1 G1
/-- an operation's end -/
theorem Post.done {x : V} {rv : RV} (S : RS T env σ B H F) (p : Post T W Q Hs env σ H F B env (.val rv.opd)) (al : ∀ a, H a = none → Hs a = none) (g : PG B H B1 H1) (h : RvR T B1 H1 H x rv) : Q x H1 :=
  p H1 F B1 (g.rs S) g.go x (h.opd S al)
end
end Lw

end
section
set_option Elab.async false
set_option linter.all false
set_option maxRecDepth 100000
set_option maxHeartbeats 1000000
set_option autoImplicit false
/-! Lw: expressions. -/
namespace Lw
open PySem L2

/-! ### names, constants -/
def sVar (i : Nat) : EF := fun env => match env[i]? with
  | some (.shr v) => some (.val (.shr v), env)
  | some (.own _) => some (.val (.var i), env)
  | some (.io _) => some (.val (.var i), env)
  | _ => none
def sC (v : Val) : EF := fun env => some (.val (.shr v), env)
section
variable {X : Cx} {W : WX} {a b c : Expr} {f g k : EF} {pos : Pos}
theorem RS.var {T : Tx} {env : Env} {σ : L2.St} {B H : Hp} {F : Nat → List Addr} {Hs : Hp} (S : RS T env σ B H F) {i : Nat} {r : ERes} {env2 : Env} (e : sVar i env = some (r, env2)) :
    ∃ x o, σ[i]? = some (some x) ∧ r = .val o ∧ env2 = env ∧ OpdR T env σ B H F Hs x o := by
  unfold sVar at e
  cases h : env[i]? with
  | none => rw [h] at e; cases e
  | some s =>
    rw [h] at e
    cases s with
    | un => cases e
    | shr v =>
      cases e
      obtain ⟨x, h1, h2⟩ := S.shr i v h
      exact ⟨x, _, h1, rfl, rfl, h2⟩
    | own v =>
      cases e
      obtain ⟨x, h1, h2⟩ := S.own i v (own_own h)
      exact ⟨_, _, h1, rfl, rfl, h1⟩
    | io v =>
      cases e
      obtain ⟨x, h1, h2⟩ := S.own i v (own_io h)
      exact ⟨_, _, h1, rfl, rfl, h1⟩
theorem se_var {i : Nat} (h : PE X a (tVar i)) : SE X W a (sVar i) := by
  refine PE.mono h fun σ H Q q => ?_
  obtain ⟨env, F, B, r, env2, S, e, p⟩ := q
  obtain ⟨x, o, h1, rfl, rfl, h2⟩ := S.var (Hs := H) e
  exact ⟨x, h1, p H F B S .refl x h2⟩
theorem se_c {x : V} {v : Val} (h : PE X a (tC x)) (r : ∀ B, Rep (tx X) B x v) : SE X W a (sC v) := by
  refine PE.mono h fun σ H Q q => ?_
  obtain ⟨env, F, B, r1, env2, S, e, p⟩ := q
  cases e
  exact p H F B S .refl x (r B)
theorem se_int {i : Int} {j : Nat} : SE X W (.Constant (.int i) j pos) (sC (.int i)) := se_c pe_int fun _ => .int i
theorem se_bl {i : Bool} {j : Nat} : SE X W (.Constant (.bool i) j pos) (sC (.bl i)) := se_c pe_bl fun _ => .bl i
theorem se_non {j : Nat} : SE X W (.Constant .none j pos) (sC .non) := se_c pe_non fun _ => .non
theorem se_str {x : Str} {l : List Nat} {j : Nat} (e : x.cps.toList = l) : SE X W (.Constant (.str x) j pos) (sC (.str l)) := se_c pe_str fun _ => Rep.of_str e
/-- a module's constant -/
theorem se_gint {x : Str} {i : Int} (hg : Gl X x) (hm : ∃ t, X.mg x = some (.int i t)) (hd : (x == ("__debug__" : Str)) = false := by decide) : SE X W (.Name x pos) (sC (.int i)) := by
  obtain ⟨t, hm⟩ := hm
  exact se_c (pe_glob (v := .int i) hg hm ⟨t, rfl⟩ hd) fun _ => .int i
theorem se_gstr {x z : Str} {l : List Nat} (hg : Gl X x) (hm : ∃ t, X.mg x = some (.str z t)) (e : z.cps.toList = l) (hd : (x == ("__debug__" : Str)) = false := by decide) : SE X W (.Name x pos) (sC (.str l)) := by
  obtain ⟨t, hm⟩ := hm
  exact se_c (pe_glob (v := .str z) hg hm ⟨t, rfl⟩ hd) fun _ => Rep.of_str e
/-- a class, a def as a value -/
theorem se_gref {x : Str} (hg : Gl X x) (hm : X.mg x = some (.ref (He.ga X.K x))) (hd : (x == ("__debug__" : Str)) = false := by decide) : SE X W (.Name x pos) (sC (.glo x)) :=
  se_c (pe_glob (v := .ref (He.ga X.K x)) hg hm rfl hd) fun _ => .glo x
theorem se_ty {x : Str} {n : String} (hg : Gl X x) (hm : X.mg x = none) (hv : bootBuiltins x = some (.type n)) (hn : x ≠ "__name__" := by decide) (hd : (x == ("__debug__" : Str)) = false := by decide) : SE X W (.Name x pos) (sC (.ty n)) :=
  se_c (pe_bltn (v := .ty n) hg hm hv rfl hn hd) fun _ => .ty n

/-! ### two-place operations -/
def eop2 (op : Val → Val → Option RV) (o1 o2 : Opd) : EF := fun env => match o1.get env, o2.get env with
  | some x, some y => (match op x y with | some r => some (.val r.opd, env) | none => none)
  | _, _ => none
def sBin (op : Val → Val → Option RV) (f g : EF) : EF := ebind f fun o1 => ebind g fun o2 => eop2 op o1 o2
/-- the operation on values is what the rule says -/
def OpS (T : Tx) (r : R2) (op : Val → Val → Option RV) : Prop := ∀ B H x y vx vy rv, Same B H → OprR T B H x vx → OprR T B H y vy → op vx vy = some rv →
  ∀ Q : VK, (∀ z H1 B1, PG B H B1 H1 → RvR T B1 H1 H z rv → Q z H1) → r x y H Q
theorem bin_mono {r : R2} {op : Val → Val → Option RV} (hs : OpS (tx X) r op) : ∀ σ H Q, eG (tx X) W (sBin op f g) σ H Q → tOp r (eG (tx X) W f) (eG (tx X) W g) σ H Q := by
  intro σ H Q h
  obtain ⟨env, F, B, r0, env2, S, e, p⟩ := h
  refine run_cut S e p fun o1 env1 H1 F1 B1 x e1 S1 G1 x1 p1 => ?_
  refine run_cut S1 e1 p1 fun o2 env3 H2 F2 B2 y e2 S2 G2 y2 p2 => ?_
  unfold eop2 at e2
  cases h1 : o1.get env3 with
  | none => rw [h1] at e2; cases e2
  | some vx =>
    cases h2 : o2.get env3 with
    | none => rw [h1, h2] at e2; cases e2
    | some vy =>
      rw [h1, h2] at e2
      dsimp only at e2
      cases h3 : op vx vy with
      | none => rw [h3] at e2; cases e2
      | some rv =>
        rw [h3] at e2
        cases e2
        refine hs B2 H2 x y vx vy rv S2.sub ((x1.go S1 S2 G2).opr S2 h1) (y2.opr S2 h2) h3 Q fun z H3 B3 g h => p2.done S2 (fun a q => G1.al a (G2.al a q)) g h
theorem se_bin {op : Operator} {r : R2} {opv : Val → Val → Option RV} (ho : OpR X (binaryOp op) r) (hs : OpS (tx X) r opv) (ha : SE X W a f) (hb : SE X W b g) : SE X W (.BinOp a op b pos) (sBin opv f g) :=
  PE.mono (pe_op ho ha hb) (bin_mono hs)
theorem se_cmp {op : CmpOp} {r : R2} {opv : Val → Val → Option RV} (ho : OpR X (compareOp op) r) (hs : OpS (tx X) r opv) (ha : SE X W a f) (hb : SE X W b g) (hm : behindInMarks op b = false) : SE X W (.Compare a [op] [b] pos) (sBin opv f g) :=
  PE.mono (pe_cmpR ho ha hb hm) (bin_mono hs)
theorem se_ix {r : R2} {opv : Val → Val → Option RV} (ho : IxR X r) (hs : OpS (tx X) r opv) (ha : SE X W a f) (hb : SE X W b g) (hp : PlainIx b) : SE X W (.Subscript a b pos) (sBin opv f g) :=
  PE.mono (pe_ix ho ha hb hp) (bin_mono hs)

/-! ### one-place operations -/
def eop1 (op : Val → Option RV) (o1 : Opd) : EF := fun env => match o1.get env with
  | some x => (match op x with | some r => some (.val r.opd, env) | none => none)
  | _ => none
def sUn (op : Val → Option RV) (f : EF) : EF := ebind f fun o1 => eop1 op o1
def OpS1 (T : Tx) (r : V → Hp → VK → Prop) (op : Val → Option RV) : Prop := ∀ B H x vx rv, Same B H → OprR T B H x vx → op vx = some rv → ∀ Q : VK, (∀ z H1 B1, PG B H B1 H1 → RvR T B1 H1 H z rv → Q z H1) → r x H Q
theorem un_mono {r : V → Hp → VK → Prop} {op : Val → Option RV} (hs : OpS1 (tx X) r op) : ∀ σ H Q, eG (tx X) W (sUn op f) σ H Q → tUn r (eG (tx X) W f) σ H Q := by
  intro σ H Q h
  obtain ⟨env, F, B, r0, env2, S, e, p⟩ := h
  refine run_cut S e p fun o1 env1 H1 F1 B1 x e1 S1 G1 x1 p1 => ?_
  unfold eop1 at e1
  cases h1 : o1.get env1 with
  | none => rw [h1] at e1; cases e1
  | some vx =>
    rw [h1] at e1
    dsimp only at e1
    cases h3 : op vx with
    | none => rw [h3] at e1; cases e1
    | some rv =>
      rw [h3] at e1
      cases e1
      exact hs B1 H1 x vx rv S1.sub (x1.opr S1 h1) h3 Q fun z H3 B3 g h => p1.done S1 G1.al g h
theorem se_un {op : UnaryOp} {r : V → Hp → VK → Prop} {opv : Val → Option RV} (ho : UnR X (unaryOp op) r) (hs : OpS1 (tx X) r opv) (ha : SE X W a f) : SE X W (.UnaryOp op a pos) (sUn opv f) :=
  PE.mono (pe_un ho ha) (un_mono hs)

/-! ### tests: a semantic function that gives a bool -/
def tG (T : Tx) (W : WX) (f : EF) : TT := fun σ H Q => ∃ env F B r env1, RS T env σ B H F ∧ f env = some (r, env1) ∧ (∀ o, r = .val o → ∃ b, o = .shr (.bl b)) ∧ Post T W (fun x H1 => ∃ b, x = .bl b ∧ Q b H1) H env σ H F B env1 r
abbrev ST (X : Cx) (W : WX) (e : Expr) (f : EF) : Prop := PT X e (tG (tx X) W f)
abbrev SW (X : Cx) (W : WX) (e : Expr) (f : EF) : Prop := PW X e (tG (tx X) W f)
theorem eG_of_tG {T : Tx} {σ : L2.St} {H : Hp} {Q : Bool → Hp → Prop} (h : tG T W f σ H Q) : eG T W f σ H (fun x H1 => ∃ b, x = .bl b ∧ Q b H1) := by
  obtain ⟨env, F, B, r, env1, S, e, _, p⟩ := h
  exact ⟨env, F, B, r, env1, S, e, p⟩
/-- an expression whose value is a bool -/
theorem st_val (h : SE X W a f) (he : ∀ whole, isTrue a X.env whole = (do let v ← whole; standAt a.pos; holding [v] (truthy v)) := by intro _; rfl) : ST X W a f :=
  PT.mono (pt_val h he) fun _ _ _ q => eG_of_tG q
theorem st_cmp {op : CmpOp} {r : R2} {opv : Val → Val → Option RV} (ho : OpR X (compareOp op) r) (hs : OpS (tx X) r opv) (ha : SE X W a f) (hb : SE X W b g) (hm : behindInMarks op b = false) : ST X W (.Compare a [op] [b] pos) (sBin opv f g) :=
  PT.mono (pt_cmpR ho ha hb hm) fun _ _ _ q => bin_mono hs _ _ _ (eG_of_tG q)
/-- a value's truth -/
def truV : Val → Option Bool
  | .non => some false
  | .bl b => some b
  | .int i => some (i != 0)
  | .str x => if x.length ≤ 1000000 then some (!x.isEmpty) else none
  | .lst xs => some (!xs.isEmpty)
  | .tup xs => some (!xs.isEmpty)
  | _ => none
def sTru (f : EF) : EF := sUn (fun v => (truV v).map fun b => .shr (.bl b)) f
theorem line_ok {n : Nat} (h : n ≤ 16000000) : n ≤ sizeLine := Nat.le_trans h (by decide)
theorem line_lt {n : Nat} (h : n < 16000000) : n < sizeLine := Nat.lt_of_lt_of_le h (by decide)
theorem OprR.flat {T : Tx} {B H : Hp} {x : V} {v : Val} (h : OprR T B H x v) (hf : flat v = true) : Rep T B x v := by
  rcases h with h | ⟨a, fp, rfl, h, _⟩
  · exact h
  · cases h <;> cases hf
theorem Rep.int_inv {T : Tx} {B : Hp} {x : V} {i : Int} (h : Rep T B x (.int i)) : x = .int i := by cases h; rfl
theorem Rep.bl_inv {T : Tx} {B : Hp} {x : V} {i : Bool} (h : Rep T B x (.bl i)) : x = .bl i := by cases h; rfl
theorem Rep.non_inv {T : Tx} {B : Hp} {x : V} (h : Rep T B x .non) : x = .non := by cases h; rfl
theorem Rep.str_inv {T : Tx} {B : Hp} {x : V} {l : List Nat} (h : Rep T B x (.str l)) : x = .str ⟨l.toArray⟩ := by
  cases h with
  | str z => cases z; rfl
theorem OprR.int {T : Tx} {B H : Hp} {x : V} {i : Int} (h : OprR T B H x (.int i)) : x = .int i := (h.flat rfl).int_inv
theorem OprR.bl {T : Tx} {B H : Hp} {x : V} {i : Bool} (h : OprR T B H x (.bl i)) : x = .bl i := (h.flat rfl).bl_inv
theorem OprR.non {T : Tx} {B H : Hp} {x : V} (h : OprR T B H x .non) : x = .non := (h.flat rfl).non_inv
theorem OprR.str {T : Tx} {B H : Hp} {x : V} {l : List Nat} (h : OprR T B H x (.str l)) : x = .str ⟨l.toArray⟩ := (h.flat rfl).str_inv
theorem OprR.lst {T : Tx} {B H : Hp} {x : V} {vs : List Val} (s : Same B H) (h : OprR T B H x (.lst vs)) : ∃ a ys, x = .ref a ∧ H a = some (.lst ys) ∧ RepAll T B ys vs := by
  rcases h with h | ⟨a, fp, rfl, h, _⟩
  · cases h with
    | lst q r => exact ⟨_, _, rfl, s _ _ q, r⟩
  · cases h with
    | lst q r => exact ⟨_, _, rfl, q, r⟩
theorem OprR.tup {T : Tx} {B H : Hp} {x : V} {vs : List Val} (s : Same B H) (h : OprR T B H x (.tup vs)) : ∃ a ys, x = .ref a ∧ H a = some (.tup ys) ∧ RepAll T B ys vs := by
  rcases h with h | ⟨a, fp, rfl, h, _⟩
  · cases h with
    | tup q r => exact ⟨_, _, rfl, s _ _ q, r⟩
  · cases h
theorem OprR.scr {T : Tx} {B H : Hp} {x : V} {ns : List Int} (s : Same B H) (h : OprR T B H x (.scr ns)) : ∃ a, x = .ref a ∧ SqL T.K H a (ns.map V.int) := by
  rcases h with h | ⟨a, fp, rfl, h, _⟩
  · cases h with
    | scr q => exact ⟨_, rfl, same_l s q⟩
  · cases h
theorem isEmpty_of_all {T : Tx} {B : Hp} {ys : List V} {vs : List Val} (h : RepAll T B ys vs) : ys.isEmpty = vs.isEmpty := by cases h <;> rfl
theorem st_truth (h : SE X W a f) (he : ∀ whole, isTrue a X.env whole = (do let v ← whole; standAt a.pos; holding [v] (truthy v)) := by intro _; rfl) : ST X W a (sTru f) := by
  refine PT.mono (pt_truth h he) fun σ H Q q => ?_
  have q1 := eG_of_tG q
  have z := un_mono (X := X) (W := W) (f := f) (op := fun v => (truV v).map fun b => RV.shr (.bl b)) (r := fun x H1 Q1 => ∃ k, TruV X.K x H1 k ∧ Q1 (.bl k) H1) ?_ σ H _ q1
  rotate_left
  · intro B H1 x v rv hs hx hv Q1 hq
    dsimp only at hv
    cases hb : truV v with
    | none => rw [hb] at hv; cases hv
    | some k =>
      rw [hb] at hv
      cases hv
      refine ⟨k, ?_, hq _ H1 B (.refl hs) (.bl k)⟩
      cases v with
      | non => rw [hx.non]; cases hb; rfl
      | bl b => rw [hx.bl]; cases hb; rfl
      | int i => rw [hx.int]; cases hb; rfl
      | str l =>
        rw [hx.str]
        have hb' : (if l.length ≤ 1000000 then some (!l.isEmpty) else none) = some k := hb
        split at hb'
        · rename_i hl
          cases hb'
          refine ⟨line_ok (by show l.toArray.size ≤ _; simp; omega), ?_⟩
          show (!l.isEmpty) = (((l.toArray.size : Nat) : Int) != 0)
          cases l <;> simp <;> omega
        · cases hb'
      | lst vs =>
        obtain ⟨a, ys, rfl, q, r⟩ := hx.lst hs
        cases hb
        exact .inl ⟨ys, .of q, by rw [isEmpty_of_all r]⟩
      | tup vs =>
        obtain ⟨a, ys, rfl, q, r⟩ := hx.tup hs
        cases hb
        exact .inr (.inl ⟨ys, .of q, by rw [isEmpty_of_all r]⟩)
      | _ => cases hb
  · -- back to a test's reading
    obtain ⟨env, F, B, r0, env1, S, e, p⟩ := z
    refine ⟨env, F, B, r0, env1, S, e, fun H2 F2 B2 S2 G2 => ?_⟩
    have p' := p H2 F2 B2 S2 G2
    cases r0 with
    | exc c => exact p'
    | val o =>
      intro x hx
      obtain ⟨k, hk, b, hb, q⟩ := p' x hx
      cases hb
      exact ⟨_, hk, q⟩
def sAnd (f g : EF) : EF := ebind f fun o => match o with
  | .shr (.bl true) => g
  | .shr (.bl false) => fun env => some (.val (.shr (.bl false)), env)
  | _ => fun _ => none
def sOr (f g : EF) : EF := ebind f fun o => match o with
  | .shr (.bl true) => fun env => some (.val (.shr (.bl true)), env)
  | .shr (.bl false) => g
  | _ => fun _ => none
def sNot (f : EF) : EF := ebind f fun o => match o with
  | .shr (.bl b) => fun env => some (.val (.shr (.bl (!b))), env)
  | _ => fun _ => none
theorem tG_cut {T : Tx} {Q : VK} {Hs : Hp} {env env2 : Env} {σ : L2.St} {H B : Hp} {F : Nat → List Addr} {r : ERes} {k : Opd → EF} (S : RS T env σ B H F) (e : ebind f k env = some (r, env2)) (p : Post T W Q Hs env σ H F B env2 r) {Q' : Bool → Hp → Prop}
    (hb : ∀ o env1, k o env1 = some (r, env2) → ∃ b, o = .shr (.bl b))
    (hq : ∀ b env1 H1 F1 B1, k (.shr (.bl b)) env1 = some (r, env2) → RS T env1 σ B1 H1 F1 → Go env σ H F B env1 σ H1 F1 B1 → Post T W Q Hs env1 σ H1 F1 B1 env2 r → Q' b H1) : tG T W f σ H Q' := by
  unfold ebind at e
  cases h : f env with
  | none => rw [h] at e; cases e
  | some z =>
    obtain ⟨r1, env1⟩ := z
    rw [h] at e
    refine ⟨env, F, B, r1, env1, S, h, fun o ho => ?_, fun H1 F1 B1 S1 G1 => ?_⟩
    · subst ho
      exact hb o env1 e
    · cases r1 with
      | val o =>
        obtain ⟨b, rfl⟩ := hb o env1 e
        intro x hx
        have ex : x = .bl b := Rep.bl_inv hx
        exact ⟨b, ex, hq b env1 H1 F1 B1 e S1 G1 (p.shift S S1 G1)⟩
      | exc c =>
        cases e
        exact p H1 F1 B1 S1 G1
theorem Post.from {T : Tx} {Q : VK} {Hs Hs' : Hp} {env env2 : Env} {σ : L2.St} {H B : Hp} {F : Nat → List Addr} {r : ERes} (p : Post T W Q Hs env σ H F B env2 r) (al : ∀ a, Hs' a = none → Hs a = none) : Post T W Q Hs' env σ H F B env2 r := fun H2 F2 B2 S2 G2 => by
  have p' := p H2 F2 B2 S2 G2
  cases r with
  | exc c => exact p'
  | val o => exact fun x hx => p' x (hx.from al)
section
variable {T : Tx} {σ : L2.St} {H : Hp} {Q : Bool → Hp → Prop}
theorem and_mono (h : tG T W (sAnd f g) σ H Q) : tAnd (tG T W f) (tG T W g) σ H Q := by
  obtain ⟨env, F, B, r0, env2, S, e, hb, p⟩ := h
  refine tG_cut S e p (fun o env1 e1 => ?_) fun b env1 H1 F1 B1 e1 S1 G1 p1 => ?_
  · try dsimp only at e1
    split at e1
    · exact ⟨_, rfl⟩
    · exact ⟨_, rfl⟩
    · cases e1
  · cases b with
    | true => exact iteT ⟨env1, F1, B1, r0, env2, S1, e1, hb, p1.from G1.al⟩
    | false =>
      cases e1
      refine iteF ?_
      obtain ⟨c, ec, q⟩ := p1 H1 F1 B1 S1 .refl (.bl false) (.bl false)
      cases ec
      exact q
theorem or_mono (h : tG T W (sOr f g) σ H Q) : tOr (tG T W f) (tG T W g) σ H Q := by
  obtain ⟨env, F, B, r0, env2, S, e, hb, p⟩ := h
  refine tG_cut S e p (fun o env1 e1 => ?_) fun b env1 H1 F1 B1 e1 S1 G1 p1 => ?_
  · try dsimp only at e1
    split at e1
    · exact ⟨_, rfl⟩
    · exact ⟨_, rfl⟩
    · cases e1
  · cases b with
    | false => exact iteF ⟨env1, F1, B1, r0, env2, S1, e1, hb, p1.from G1.al⟩
    | true =>
      cases e1
      refine iteT ?_
      obtain ⟨c, ec, q⟩ := p1 H1 F1 B1 S1 .refl (.bl true) (.bl true)
      cases ec
      exact q
end
theorem sw_one (h : ST X W a f) : SW X W (.BoolOp .And [a] pos) f := pw_and1 h
theorem sw_and {rest : List Expr} (ha : ST X W a f) (hb : SW X W (.BoolOp .And (b :: rest) pos) g) : SW X W (.BoolOp .And (a :: b :: rest) pos) (sAnd f g) := PW.mono (pw_and ha hb) fun _ _ _ => and_mono
theorem sw_one' (h : ST X W a f) : SW X W (.BoolOp .Or [a] pos) f := pw_or1 h
theorem sw_or {rest : List Expr} (ha : ST X W a f) (hb : SW X W (.BoolOp .Or (b :: rest) pos) g) : SW X W (.BoolOp .Or (a :: b :: rest) pos) (sOr f g) := PW.mono (pw_or ha hb) fun _ _ _ => or_mono
theorem st_w (h : SW X W a f) : ST X W a f := PW.pt h
theorem st_not (ha : ST X W a f) : ST X W (.UnaryOp .Not a pos) (sNot f) := by
  refine PT.mono (pt_not ha) fun σ H Q h => ?_
  obtain ⟨env, F, B, r0, env2, S, e, hb, p⟩ := h
  refine tG_cut S e p (fun o env1 e1 => ?_) fun b env1 H1 F1 B1 e1 S1 G1 p1 => ?_
  · try dsimp only at e1
    split at e1
    · exact ⟨_, rfl⟩
    · cases e1
  · cases e1
    obtain ⟨c, ec, q⟩ := p1 H1 F1 B1 S1 .refl (.bl (!b)) (.bl _)
    cases ec
    exact q
/-- as values (bools) -/
theorem andV_mono {T : Tx} {σ : L2.St} {H : Hp} {Q : VK} (h : eG T W (sAnd f g) σ H Q) : tAndV (eG T W f) (eG T W g) σ H Q := by
  obtain ⟨env, F, B, r0, env2, S, e, p⟩ := h
  refine run_cut S e p fun o env1 H1 F1 B1 x e1 S1 G1 x1 p1 => ?_
  try dsimp only at e1
  split at e1
  · exact ⟨true, Rep.bl_inv x1, iteT ⟨env1, F1, B1, r0, env2, S1, e1, p1.from G1.al⟩⟩
  · cases e1
    exact ⟨false, Rep.bl_inv x1, iteF (p1 H1 F1 B1 S1 .refl (.bl false) (.bl false))⟩
  · cases e1
theorem orV_mono {T : Tx} {σ : L2.St} {H : Hp} {Q : VK} (h : eG T W (sOr f g) σ H Q) : tOrV (eG T W f) (eG T W g) σ H Q := by
  obtain ⟨env, F, B, r0, env2, S, e, p⟩ := h
  refine run_cut S e p fun o env1 H1 F1 B1 x e1 S1 G1 x1 p1 => ?_
  try dsimp only at e1
  split at e1
  · cases e1
    exact ⟨true, Rep.bl_inv x1, iteT (p1 H1 F1 B1 S1 .refl (.bl true) (.bl true))⟩
  · exact ⟨false, Rep.bl_inv x1, iteF ⟨env1, F1, B1, r0, env2, S1, e1, p1.from G1.al⟩⟩
  · cases e1
theorem se_one {op : BoolOp} (h : SE X W a f) : SE X W (.BoolOp op [a] pos) f := pe_one h
theorem se_and {rest : List Expr} (ha : SE X W a f) (hb : SE X W (.BoolOp .And (b :: rest) pos) g) : SE X W (.BoolOp .And (a :: b :: rest) pos) (sAnd f g) := PE.mono (pe_and ha hb) fun _ _ _ => andV_mono
theorem se_or {rest : List Expr} (ha : SE X W a f) (hb : SE X W (.BoolOp .Or (b :: rest) pos) g) : SE X W (.BoolOp .Or (a :: b :: rest) pos) (sOr f g) := PE.mono (pe_or ha hb) fun _ _ _ => orV_mono
theorem se_not (ha : SE X W a f) : SE X W (.UnaryOp .Not a pos) (sNot f) := by
  refine PE.mono (pe_not ha) fun σ H Q h => ?_
  obtain ⟨env, F, B, r0, env2, S, e, p⟩ := h
  refine run_cut S e p fun o env1 H1 F1 B1 x e1 S1 G1 x1 p1 => ?_
  try dsimp only at e1
  split at e1
  · cases e1
    exact ⟨_, Rep.bl_inv x1, p1 H1 F1 B1 S1 .refl (.bl _) (.bl _)⟩
  · cases e1
/-- a if t else b -/
def sIf (c f g : EF) : EF := ebind c fun o => match o with
  | .shr (.bl true) => f
  | .shr (.bl false) => g
  | _ => fun _ => none
theorem se_if (hc : ST X W c k) (ha : SE X W a f) (hb : SE X W b g) : SE X W (.IfExp c a b pos) (sIf k f g) := by
  refine PE.mono (pe_ifExp hc ha hb) fun σ H Q h => ?_
  obtain ⟨env, F, B, r0, env2, S, e, p⟩ := h
  refine tG_cut S e p (fun o env1 e1 => ?_) fun b env1 H1 F1 B1 e1 S1 G1 p1 => ?_
  · try dsimp only at e1
    split at e1
    · exact ⟨_, rfl⟩
    · exact ⟨_, rfl⟩
    · cases e1
  · cases b with
    | true => exact iteT ⟨env1, F1, B1, r0, env2, S1, e1, p1.from G1.al⟩
    | false => exact iteF ⟨env1, F1, B1, r0, env2, S1, e1, p1.from G1.al⟩
end
end Lw

end
section
set_option Elab.async false
set_option linter.all false
set_option maxRecDepth 100000
set_option maxHeartbeats 1000000
set_option autoImplicit false
/-! Lw: arguments, displays, calls of what is built in, methods of lists. -/
namespace Lw
open PySem L2

/-! ### what is owned becomes known -/
def addK (B H : Hp) (fp : List Addr) : Hp := fun b => if b ∈ fp then H b else B b
section
variable {T : Tx} {env env0 : Env} {σ σ0 : L2.St} {B B0 H H0 : Hp} {F F0 : Nat → List Addr} {fp : List Addr}
theorem addK_in {b : Addr} (h : b ∈ fp) : addK B H fp b = H b := if_pos h
theorem addK_out {b : Addr} (h : b ∉ fp) : addK B H fp b = B b := if_neg h
theorem addK_same (n : ∀ b ∈ fp, B b = none) : Same B (addK B H fp) := fun b o e => by
  rw [addK_out fun z => by rw [n b z] at e; cases e]
  exact e
theorem addK_sub (s : Same B H) : Same (addK B H fp) H := fun b o e => by
  by_cases h : b ∈ fp
  · rw [addK_in h] at e; exact e
  · rw [addK_out h] at e; exact s b o e
theorem FldR.rep {B' : Hp} (e : Same B B') {ys : List V} {vs : List Val} {fq : List Addr} (h : FldR T B H fq ys vs) (k : ∀ b ∈ fq, B' b = H b) : RepAll T B' ys vs := by
  cases h with
  | nil => exact .nil
  | shr r _ q => exact .cons (r.mono e) (FldR.rep e q k)
  | own h d r q n f => exact .cons (.dct ((k _ List.mem_cons_self).trans h) d (r.mono e) (q.mono e)) (FldR.rep e f fun b hb => k b (List.mem_cons_of_mem _ hb))
theorem OwnR.rep {B' : Hp} (e : Same B B') {a : Addr} {v : Val} (h : OwnR T B H fp a v) (k : ∀ b ∈ fp, B' b = H b) : Rep T B' (.ref a) v := by
  cases h with
  | lst h r => exact .lst ((k _ List.mem_cons_self).trans h) (r.mono e)
  | dct h d r q => exact .dct ((k _ List.mem_cons_self).trans h) d (r.mono e) (q.mono e)
  | ins h c n f na => exact .ins ((k _ List.mem_cons_self).trans h) c n (f.rep e fun b hb => k b (List.mem_cons_of_mem _ hb))
/-- knowledge of objects that no slot owns -/
theorem RS.add (S : RS T env σ B H F) (n : ∀ b ∈ fp, B b = none) (d : ∀ b ∈ fp, ∀ i, b ∉ F i) : RS T env σ (addK B H fp) H F where
  sub := addK_sub S.sub
  len := S.len
  shr := fun i v e => let ⟨x, h1, h2⟩ := S.shr i v e; ⟨x, h1, h2.mono (addK_same n)⟩
  own := fun i v e => let ⟨a, h1, h2⟩ := S.own i v e; ⟨a, h1, h2.mono (addK_same n) fun _ _ _ q => q⟩
  non := S.non
  free := fun i a h => by rw [addK_out fun z => d a z i h]; exact S.free i a h
  disj := S.disj
theorem Go.add (G : Go env0 σ0 H0 F0 B0 env σ H F B) (n : ∀ b ∈ fp, B b = none) (d : ∀ b ∈ fp, H0 b = none) : Go env0 σ0 H0 F0 B0 env σ H F (addK B H fp) where
  fr := G.fr
  al := G.al
  kn := G.kn.trans (addK_same n)
  nb := fun a o e => by
    by_cases h : a ∈ fp
    · exact .inr (.inl (d a h))
    · rw [addK_out h] at e; exact G.nb a o e
  ow := G.ow
  io := G.io
  iw := G.iw
  ln := G.ln
def noF (F : Nat → List Addr) (i : Nat) : Nat → List Addr := fun j => if j = i then [] else F j
theorem mem_noF {i j : Nat} {a : Addr} (h : a ∈ noF F i j) : a ∈ F j ∧ j ≠ i := by
  unfold noF at h
  split at h
  · cases h
  · rename_i n; exact ⟨h, n⟩
theorem own_set {i j : Nat} {s : Slot} : own? (env.set i s) j = if j = i ∧ i < env.length then s.ow else own? env j := by
  unfold own?
  by_cases h : j = i
  · subst h
    by_cases hl : j < env.length
    · rw [List.getElem?_set_self hl, if_pos ⟨rfl, hl⟩]; rfl
    · rw [if_neg fun z => hl z.2, List.getElem?_eq_none (by simpa using hl), List.getElem?_eq_none (by simpa using hl)]
  · rw [List.getElem?_set_ne (Ne.symm h), if_neg fun z => h z.1]
theorem lt_of_get {α : Type} {l : List α} {i : Nat} {x : α} (h : l[i]? = some x) : i < l.length := (List.getElem?_eq_some_iff.mp h).1
/-- a slot's own object is shared from now on -/
theorem RS.freeze (S : RS T env σ B H F) {i : Nat} {v : Val} (e : env[i]? = some (Slot.own v)) : RS T (env.set i (.shr v)) σ (addK B H (F i)) H (noF F i) where
  sub := addK_sub S.sub
  len := by rw [List.length_set]; exact S.len
  shr := fun j w h => by
    have n : ∀ b ∈ F i, B b = none := fun b hb => S.free i b hb
    by_cases q : j = i
    · subst q
      rw [List.getElem?_set_self (lt_of_get e)] at h
      cases h
      obtain ⟨a, h1, h2⟩ := S.own j v (own_own e)
      exact ⟨_, h1, h2.rep (addK_same n) fun b hb => addK_in hb⟩
    · rw [List.getElem?_set_ne (Ne.symm q)] at h
      obtain ⟨x, h1, h2⟩ := S.shr j w h
      exact ⟨x, h1, h2.mono (addK_same n)⟩
  own := fun j w h => by
    have n : ∀ b ∈ F i, B b = none := fun b hb => S.free i b hb
    rw [own_set] at h
    split at h
    · cases h
    · rename_i nj
      have nj' : j ≠ i := fun z => nj ⟨z, lt_of_get e⟩
      obtain ⟨a, h1, h2⟩ := S.own j w h
      refine ⟨a, h1, ?_⟩
      unfold noF
      rw [if_neg nj']
      exact h2.mono (addK_same n) fun _ _ _ q => q
  non := fun j h => by
    unfold noF
    split
    · rfl
    · rename_i nj
      rw [own_set, if_neg fun z => nj z.1] at h
      exact S.non j h
  free := fun j a h => by
    obtain ⟨h1, h2⟩ := mem_noF h
    rw [addK_out fun z => h2 (S.disj _ _ a h1 z)]
    exact S.free j a h1
  disj := fun j k a h1 h2 => S.disj j k a (mem_noF h1).1 (mem_noF h2).1
theorem Go.freeze (S : RS T env σ B H F) {i : Nat} {v : Val} (e : env[i]? = some (Slot.own v)) : Go env σ H F B (env.set i (.shr v)) σ H (noF F i) (addK B H (F i)) where
  fr := fun _ _ h _ => h
  al := fun _ h => h
  kn := addK_same fun b hb => S.free i b hb
  nb := fun a o h => by
    by_cases q : a ∈ F i
    · exact .inr (.inr ⟨i, v, e, q⟩)
    · rw [addK_out q] at h; exact .inl h
  ow := fun j a h => .inl ⟨j, (mem_noF h).1⟩
  io := fun j w h => by
    have nj : j ≠ i := fun z => by subst z; rw [e] at h; cases h
    refine ⟨w, by rw [List.getElem?_set_ne (Ne.symm nj)]; exact h, rfl, fun a q => ?_⟩
    unfold noF
    rw [if_neg nj]
    exact q
  iw := fun j w h => by
    by_cases q : j = i
    · subst q
      rw [List.getElem?_set_self (lt_of_get e)] at h
      cases h
    · rw [List.getElem?_set_ne (Ne.symm q)] at h
      exact ⟨w, h⟩
  ln := List.length_set
end

/-- the operand is handed on: what it owned is shared from now on -/
def efix (o : Opd) : EF := fun env => match o with
  | .shr v => some (.val (.shr v), env)
  | .new v => some (.val (.shr v), env)
  | .var i => match env[i]? with
    | some (.own v) => some (.val (.shr v), env.set i (.shr v))
    | _ => none
def esh (f : EF) : EF := ebind f efix
section
variable {X : Cx} {W : WX} {a : Expr} {es : List Expr} {f : EF} {fs : List EF} {pos : Pos}
theorem se_esh (h : SE X W a f) : SE X W a (esh f) := by
  refine PE.mono h fun σ H Q q => ?_
  obtain ⟨env, F, B, r, env2, S, e, p⟩ := q
  refine run_cut S e p fun o env1 H1 F1 B1 x e1 S1 G1 x1 p1 => ?_
  cases o with
  | shr v => cases e1; exact p1 H1 F1 B1 S1 .refl x x1
  | new v =>
    cases e1
    obtain ⟨b, fp, rfl, h2, h3⟩ := x1
    have n : ∀ b ∈ fp, B1 b = none := fun b hb => (h3 b hb).2.1
    exact p H1 F1 _ (S1.add n fun b hb => (h3 b hb).2.2) (G1.add n fun b hb => (h3 b hb).1) _ (h2.rep (addK_same n) fun b hb => addK_in hb)
  | var i =>
    unfold efix at e1
    dsimp only at e1
    split at e1
    · rename_i v hv
      cases e1
      have S2 := S1.freeze hv
      obtain ⟨y, h1, h2⟩ := S2.shr i v (List.getElem?_set_self (lt_of_get hv))
      have x1' : σ[i]? = some (some x) := x1
      rw [h1] at x1'
      cases x1'
      exact p1 H1 _ _ S2 (Go.freeze S1 hv) _ h2
    · cases e1

/-! ### argument lists -/
def sArgs : List EF → (List Opd → EF) → EF
  | [], k => k []
  | f :: fs, k => ebind f fun o => sArgs fs fun os => k (o :: os)
def aR (T : Tx) (W : WX) : List EF → TA
  | [] => tNil
  | f :: fs => tCons (eG T W f) (aR T W fs)
abbrev SA (X : Cx) (W : WX) (es : List Expr) (fs : List EF) : Prop := PA X es (aR (tx X) W fs)
theorem sa_nil : SA X W [] [] := pa_nil
theorem sa_cons (ha : SE X W a f) (hr : SA X W es fs) (hs : starEach (a :: es) X.env = (false, eval a X.env) :: starEach es X.env := by rfl) : SA X W (a :: es) (f :: fs) := pa_cons ha hr hs
abbrev OpdsR (T : Tx) (env : Env) (σ : L2.St) (B H : Hp) (F : Nat → List Addr) (Hs : Hp) : List V → List Opd → Prop := Paired (OpdR T env σ B H F Hs)
theorem args_cut {T : Tx} {Q : VK} {σ : L2.St} {r : ERes} {env2 : Env} : ∀ {fs : List EF} {k : List Opd → EF} {env : Env} {H B Hs : Hp} {F : Nat → List Addr}, RS T env σ B H F → sArgs fs k env = some (r, env2) → Post T W Q Hs env σ H F B env2 r →
    ∀ {Q' : List V → Hp → Prop}, (∀ os env1 H1 F1 B1 xs, k os env1 = some (r, env2) → RS T env1 σ B1 H1 F1 → Go env σ H F B env1 σ H1 F1 B1 → OpdsR T env1 σ B1 H1 F1 H xs os → Post T W Q Hs env1 σ H1 F1 B1 env2 r → Q' xs H1) → aR T W fs σ H Q'
  | [], k, env, H, B, Hs, F, S, e, p, Q', hq => hq [] env H F B [] e S .refl .nil p
  | f :: fs, k, env, H, B, Hs, F, S, e, p, Q', hq => by
    refine run_cut S e p fun o env1 H1 F1 B1 x e1 S1 G1 x1 p1 => ?_
    refine args_cut S1 e1 p1 fun os env3 H2 F2 B2 xs e2 S2 G2 xs2 p2 => ?_
    refine hq (o :: os) env3 H2 F2 B2 (x :: xs) e2 S2 (G1.trans S S1 G2) (.cons (x1.go S1 S2 G2) ?_) p2
    exact Paired.mapP xs2 fun y o h => h.from G1.al

/-- what all operands are -/
def gets : List Opd → Env → Option (List Val)
  | [], _ => some []
  | o :: os, env => match o.get env, gets os env with
    | some v, some vs => some (v :: vs)
    | _, _ => none
def shrs : List Opd → Option (List Val)
  | [] => some []
  | .shr v :: os => (shrs os).map (v :: ·)
  | _ => none
abbrev OprsR (T : Tx) (B H : Hp) : List V → List Val → Prop := Paired (OprR T B H)
theorem OpdsR.oprs {T : Tx} {env : Env} {σ : L2.St} {B H Hs : Hp} {F : Nat → List Addr} (S : RS T env σ B H F) : ∀ {xs : List V} {os : List Opd} {vs : List Val}, OpdsR T env σ B H F Hs xs os → gets os env = some vs → OprsR T B H xs vs
  | [], [], vs, .nil, e => by cases e; exact .nil
  | x :: xs, o :: os, vs, .cons h t, e => by
    unfold gets at e
    cases h1 : o.get env with
    | none => rw [h1] at e; cases e
    | some v =>
      cases h2 : gets os env with
      | none => rw [h1, h2] at e; cases e
      | some ws =>
        rw [h1, h2] at e
        cases e
        exact .cons (h.opr S h1) (OpdsR.oprs S t h2)
theorem OpdsR.shrs {T : Tx} {env : Env} {σ : L2.St} {B H Hs : Hp} {F : Nat → List Addr} : ∀ {xs : List V} {os : List Opd} {vs : List Val}, OpdsR T env σ B H F Hs xs os → shrs os = some vs → RepAll T B xs vs
  | [], [], vs, .nil, e => by cases e; exact .nil
  | x :: xs, o :: os, vs, .cons h t, e => by
    cases o with
    | shr v =>
      have e' : (Lw.shrs os).map (v :: ·) = some vs := e
      cases h2 : Lw.shrs os with
      | none => rw [h2] at e'; cases e'
      | some ws => rw [h2] at e'; cases e'; exact .cons h (OpdsR.shrs t h2)
    | new v => cases e
    | var i => cases e

/-! ### displays -/
def sTup (fs : List EF) : EF := sArgs (fs.map esh) fun os env => match shrs os with
  | some vs => if vs.length ≤ 16000000 then some (.val (.shr (.tup vs)), env) else none
  | none => none
def sLst (fs : List EF) : EF := sArgs (fs.map esh) fun os env => match shrs os with
  | some vs => if vs.length ≤ 16000000 then some (.val (.new (.lst vs)), env) else none
  | none => none
theorem upd_addK {B H : Hp} {a : Addr} {o : HO} : addK B (upd H a o) [a] = upd B a o := by
  funext b
  unfold addK upd
  by_cases h : b = a
  · subst h; simp
  · simp [h]
theorem PG.new {B H : Hp} (s : Same B H) {a : Addr} (o : HO) (n : H a = none) : PG B H (upd B a o) (upd H a o) where
  hh := fun b u e => by rw [upd_ne (ne_of_none e n)]; exact e
  kn := fun b u e => by rw [upd_ne (ne_of_none e (s.free n))]; exact e
  sub := fun b u e => by
    by_cases h : b = a
    · subst h; rw [upd_same] at e ⊢; exact e
    · rw [upd_ne h] at e ⊢; exact s b u e
  nb := fun b u e => by
    by_cases h : b = a
    · subst h; exact .inr n
    · rw [upd_ne h] at e; exact .inl e
/-- .. of one's own -/
theorem PG.fresh {B H : Hp} (s : Same B H) {a : Addr} (o : HO) (n : H a = none) : PG B H B (upd H a o) where
  hh := fun b u e => by rw [upd_ne (ne_of_none e n)]; exact e
  kn := Same.refl _
  sub := fun b u e => by rw [upd_ne (ne_of_none e (s.free n))]; exact s b u e
  nb := fun b u e => .inl e
theorem se_tup {k : Nat} (h : SA X W es (fs.map esh)) : SE X W (.Tuple es k pos) (sTup fs) := by
  refine PE.mono (pe_tup h) fun σ H Q q => ?_
  obtain ⟨env, F, B, r, env2, S, e, p⟩ := q
  refine args_cut S e p fun os env1 H1 F1 B1 xs e1 S1 G1 xs1 p1 => ?_
  try dsimp only at e1
  split at e1
  · rename_i vs hvs
    have R := xs1.shrs hvs
    split at e1
    · rename_i hl
      cases e1
      refine ⟨by rw [R.length]; exact line_ok hl, fun a n => ?_⟩
      have g := PG.new S1.sub (HO.tup xs) n
      exact p1.done (rv := .shr (.tup vs)) S1 G1.al g (.tup upd_same (R.mono g.kn))
    · cases e1
  · cases e1
theorem se_lst (h : SA X W es (fs.map esh)) : SE X W (.List es pos) (sLst fs) := by
  refine PE.mono (pe_lst h) fun σ H Q q => ?_
  obtain ⟨env, F, B, r, env2, S, e, p⟩ := q
  refine args_cut S e p fun os env1 H1 F1 B1 xs e1 S1 G1 xs1 p1 => ?_
  try dsimp only at e1
  split at e1
  · rename_i vs hvs
    have R := xs1.shrs hvs
    split at e1
    · rename_i hl
      cases e1
      refine ⟨by rw [R.length]; exact line_ok hl, fun a n => ?_⟩
      have g := PG.fresh S1.sub (HO.lst xs) n
      exact p1.done (rv := .new (.lst vs)) S1 G1.al g ⟨a, [a], rfl, .lst upd_same R, fun b hb => by
        rw [List.mem_singleton] at hb; subst hb; exact ⟨n, S1.sub.free n⟩⟩
    · cases e1
  · cases e1

/-! ### calls of what is built in -/
def eopn (op : List Val → Option RV) (os : List Opd) : EF := fun env => match gets os env with
  | some vs => (match op vs with | some r => some (.val r.opd, env) | none => none)
  | none => none
def sCallB (op : List Val → Option RV) (fs : List EF) : EF := sArgs fs fun os => eopn op os
def OpSn (T : Tx) (r : List V → Hp → VK → Prop) (op : List Val → Option RV) : Prop := ∀ B H xs vs rv, Same B H → OprsR T B H xs vs → op vs = some rv →
  ∀ Q : VK, (∀ z H1 B1, PG B H B1 H1 → RvR T B1 H1 H z rv → Q z H1) → r xs H Q
theorem callB_mono {r : List V → Hp → VK → Prop} {op : List Val → Option RV} (hs : OpSn (tx X) r op) : ∀ σ H Q, eG (tx X) W (sCallB op fs) σ H Q → tCB r (aR (tx X) W fs) σ H Q := by
  intro σ H Q q
  obtain ⟨env, F, B, r0, env2, S, e, p⟩ := q
  refine args_cut S e p fun os env1 H1 F1 B1 xs e1 S1 G1 xs1 p1 => ?_
  unfold eopn at e1
  split at e1
  · rename_i vs hvs
    split at e1
    · rename_i rv hrv
      cases e1
      exact hs B1 H1 xs vs rv S1.sub (xs1.oprs S1 hvs) hrv Q fun z H3 B3 g h => p1.done S1 G1.al g h
    · cases e1
  · cases e1
theorem se_callB {id : String} {r : List V → Hp → VK → Prop} {op : List Val → Option RV} {x : Str} {p : Pos} (hc : CallR X (.builtin id) r) (hs : OpSn (tx X) r op) (hg : Gl X x) (hm : X.mg x = none) (hv : bootBuiltins x = some (.builtin id)) (ha : SA X W (a :: es) fs)
    (hn : x ≠ "__name__" := by decide) (hdb : (x == ("__debug__" : Str)) = false := by decide)
    (he : starEach (a :: es) X.env = (false, eval a X.env) :: starEach es X.env := by rfl) (hpl : (backTo pos (starEach es X.env)).any (·.1) = false := by rfl) : SE X W (.Call (.Name x p) (a :: es) [] pos) (sCallB op fs) :=
  PE.mono (pe_callB hc hg hm hv ha hn hdb he hpl) (callB_mono hs)
theorem se_callTy {id : String} {r : List V → Hp → VK → Prop} {op : List Val → Option RV} {x : Str} {p : Pos} (hc : CallR X (.type id) r) (hs : OpSn (tx X) r op) (hg : Gl X x) (hm : X.mg x = none) (hv : bootBuiltins x = some (.type id)) (ha : SA X W (a :: es) fs)
    (hn : x ≠ "__name__" := by decide) (hdb : (x == ("__debug__" : Str)) = false := by decide)
    (he : starEach (a :: es) X.env = (false, eval a X.env) :: starEach es X.env := by rfl) (hpl : (backTo pos (starEach es X.env)).any (·.1) = false := by rfl) : SE X W (.Call (.Name x p) (a :: es) [] pos) (sCallB op fs) :=
  PE.mono (pe_callTy hc hg hm hv ha hn hdb he hpl) (callB_mono hs)

/-! ### methods of built-in types that change nothing -/
def tyOf : String → Val → Bool
  | "str", .str _ => true
  | "list", .lst _ => true
  | _, _ => false
def sMeth (ty : String) (op : Val → List Val → Option RV) (f : EF) (fs : List EF) : EF := ebind f fun o env => match o.get env with
  | some v => if tyOf ty v = true then sArgs fs (fun os => fun env => match o.get env, gets os env with
      | some v, some vs => (match op v vs with | some r => some (.val r.opd, env) | none => none)
      | _, _ => none) env else none
  | none => none
def OpSm (T : Tx) (r : V → List V → Hp → VK → Prop) (op : Val → List Val → Option RV) : Prop := ∀ B H x xs v vs rv, Same B H → OprR T B H x v → OprsR T B H xs vs → op v vs = some rv →
  ∀ Q : VK, (∀ z H1 B1, PG B H B1 H1 → RvR T B1 H1 H z rv → Q z H1) → r x xs H Q
theorem tyOf_ok {T : Tx} {B H : Hp} {x : V} {v : Val} {ty : String} (s : Same B H) (h : OprR T B H x v) (e : tyOf ty v = true) : tyV T.K ty x H := by
  unfold tyOf at e
  split at e
  · rw [h.str]; rfl
  · obtain ⟨a, ys, rfl, q, _⟩ := h.lst s
    exact .inl ⟨rfl, _, .of q⟩
  · cases e
theorem meth_mono {ty : String} {r : V → List V → Hp → VK → Prop} {op : Val → List Val → Option RV} (hs : OpSm (tx X) r op) : ∀ σ H Q, eG (tx X) W (sMeth ty op f fs) σ H Q → tBM X.K ty r (eG (tx X) W f) (aR (tx X) W fs) σ H Q := by
  intro σ H Q q
  obtain ⟨env, F, B, r0, env2, S, e, p⟩ := q
  refine run_cut S e p fun o env1 H1 F1 B1 x e1 S1 G1 x1 p1 => ?_
  try dsimp only at e1
  split at e1
  · rename_i v hv
    split at e1
    · rename_i ht
      refine ⟨tyOf_ok S1.sub (x1.opr S1 hv) ht, ?_⟩
      refine args_cut S1 e1 p1 fun os env3 H2 F2 B2 xs e2 S2 G2 xs2 p2 => ?_
      try dsimp only at e2
      split at e2
      · rename_i u vs hu hvs
        split at e2
        · rename_i rv hrv
          cases e2
          exact hs B2 H2 x xs u vs rv S2.sub ((x1.go S1 S2 G2).opr S2 hu) (xs2.oprs S2 hvs) hrv Q fun z H3 B3 g h => p2.done S2 (fun a q => G1.al a (G2.al a q)) g h
        · cases e2
      · cases e2
    · cases e1
  · cases e1
theorem meth0_mono {ty : String} {r : V → List V → Hp → VK → Prop} {op : Val → List Val → Option RV} (hs : OpSm (tx X) r op) : ∀ σ H Q, eG (tx X) W (sMeth ty op f []) σ H Q → tBM0 X.K ty r (eG (tx X) W f) σ H Q := by
  intro σ H Q q
  exact meth_mono (fs := []) hs σ H Q q
theorem se_bm {T id : String} {r : V → List V → Hp → VK → Prop} {op : Val → List Val → Option RV} {name : Str} {o : Expr} {apos cpos : Pos} (pa : PlainAttrs T) (slot : PySem.Slot T name id) (hty : typeOf (.builtin id) = pure (.type "method_descriptor")) (hm : MtR X id r) (hs : OpSm (tx X) r op) (ho : SE X W o f) (ha : SA X W (a :: es) fs)
    (hbase : attributeBase o name X.env (eval o X.env) = eval o X.env := by rfl)
    (hfew : ((backTo cpos (starEach (a :: es) X.env)).all (fun x => !x.1) && (backToKw cpos (keywordEach [] X.env)).all (fun x => x.1.isSome)
      && decide ((a :: es).length + ([] : List Keyword).length + (if ([] : List Keyword).isEmpty then 0 else 1) < 30)) = true := by rfl)
    (hline : (apos.endLine == cpos.line) = true := by rfl) (hss : starEach (a :: es) X.env = (false, eval a X.env) :: starEach es X.env := by rfl) (hplain : (backTo cpos (starEach es X.env)).any (·.1) = false := by rfl) :
    SE X W (.Call (.Attribute o name apos) (a :: es) [] cpos) (sMeth T op f fs) := PE.mono (pe_bm pa slot hty hm ho ha hbase hfew hline hss hplain) (meth_mono hs)
theorem se_bm0 {T id : String} {r : V → List V → Hp → VK → Prop} {op : Val → List Val → Option RV} {name : Str} {o : Expr} {apos cpos : Pos} (pa : PlainAttrs T) (slot : PySem.Slot T name id) (hty : typeOf (.builtin id) = pure (.type "method_descriptor")) (hm : MtR X id r) (hs : OpSm (tx X) r op) (ho : SE X W o f)
    (hbase : attributeBase o name X.env (eval o X.env) = eval o X.env := by rfl) (hline : (apos.endLine == cpos.line) = true := by rfl) : SE X W (.Call (.Attribute o name apos) [] [] cpos) (sMeth T op f []) := PE.mono (pe_bm0 pa slot hty hm ho hbase hline) (meth0_mono hs)
end
end Lw

end
section
set_option Elab.async false
set_option linter.all false
set_option maxRecDepth 100000
set_option maxHeartbeats 1000000
set_option autoImplicit false
/-! Lw: statements. -/
namespace Lw
open PySem L2

inductive FRes where
  | nx | brk | ct | ret (r : RV) | exc (c : Str)
abbrev SF := Env → Option (FRes × Env)

/-- what is handed back -/
def RetR (T : Tx) (env : Env) (H : Hp) (F : Nat → List Addr) (env2 : Env) (B2 H2 : Hp) (F2 : Nat → List Addr) (x : V) : RV → Prop
  | .shr v => Rep T B2 x v
  | .new v => ∃ a fp, x = .ref a ∧ OwnR T B2 H2 fp a v ∧ ∀ b ∈ fp, B2 b = none ∧ ((∃ (j : Nat) (w : Val), env[j]? = some (.own w) ∧ b ∈ F j) ∨ H b = none) ∧ ∀ (i : Nat) (w : Val), env2[i]? = some (.io w) → b ∉ F2 i
def PostS (T : Tx) (W : WX) (D : Ends) (env : Env) (σ : L2.St) (H : Hp) (F : Nat → List Addr) (B : Hp) (env2 : Env) (r : FRes) : Prop :=
  ∀ σ2 H2 F2 B2, RS T env2 σ2 B2 H2 F2 → Go env σ H F B env2 σ2 H2 F2 B2 → match r with
  | .nx => D.nx σ2 H2
  | .brk => D.bk σ2 H2
  | .ct => D.ct σ2 H2
  | .ret rv => ∀ x, RetR T env H F env2 B2 H2 F2 x rv → D.rt x H2
  | .exc c => W (.ref (He.ga T.K c)) none σ2 H2
def sG (T : Tx) (W : WX) (g : SF) : TS := fun D σ H => ∃ env F B r env1, RS T env σ B H F ∧ g env = some (r, env1) ∧ PostS T W D env σ H F B env1 r
abbrev SS (X : Cx) (W : WX) (st : Stmt) (g : SF) : Prop := PS X st (sG (tx X) W g)
abbrev SSs (X : Cx) (W : WX) (st : List Stmt) (g : SF) : Prop := PSs X st (sG (tx X) W g)

section
variable {T : Tx} {W : WX} {D : Ends} {env env1 env2 : Env} {σ σ1 : L2.St} {H H1 B B1 : Hp} {F F1 : Nat → List Addr}
theorem RetR.shift {B2 H2 : Hp} {F2 : Nat → List Addr} {x : V} {rv : RV} (S : RS T env σ B H F) (S1 : RS T env1 σ1 B1 H1 F1) (G : Go env σ H F B env1 σ1 H1 F1 B1) (h : RetR T env1 H1 F1 env2 B2 H2 F2 x rv) : RetR T env H F env2 B2 H2 F2 x rv := by
  cases rv with
  | shr v => exact h
  | new v =>
    obtain ⟨a, fp, h1, h2, h3⟩ := h
    refine ⟨a, fp, h1, h2, fun b hb => ⟨(h3 b hb).1, ?_, (h3 b hb).2.2⟩⟩
    rcases (h3 b hb).2.1 with ⟨j, w, e, m⟩ | z
    · rcases G.ow j b m with ⟨k, z⟩ | z
      · cases e2 : own? env k with
        | none => rw [S.non k e2] at z; cases z
        | some v2 =>
          rcases own_cases e2 with e3 | e3
          · exact .inl ⟨k, v2, e3, z⟩
          · obtain ⟨v3, e4, _, mm⟩ := G.io k v2 e3
            have := S1.disj j k b m (mm b z)
            subst this
            rw [e] at e4; cases e4
      · exact .inr z
    · exact .inr (G.al b z)
theorem PostS.shift {r : FRes} (S : RS T env σ B H F) (S1 : RS T env1 σ1 B1 H1 F1) (G : Go env σ H F B env1 σ1 H1 F1 B1) (p : PostS T W D env σ H F B env2 r) : PostS T W D env1 σ1 H1 F1 B1 env2 r := fun σ2 H2 F2 B2 S2 G2 => by
  have p' := p σ2 H2 F2 B2 S2 (G.trans S S1 G2)
  cases r with
  | ret rv => exact fun x hx => p' x (hx.shift S S1 G)
  | _ => exact p'
end

def obind (f : EF) (k : Opd → SF) : SF := fun env => match f env with
  | some (.val o, env1) => k o env1
  | some (.exc c, env1) => some (.exc c, env1)
  | none => none
def oargs : List EF → (List Opd → SF) → SF
  | [], k => k []
  | f :: fs, k => obind f fun o => oargs fs fun os => k (o :: os)
section
variable {T : Tx} {W : WX} {D : Ends} {env env2 : Env} {σ : L2.St} {H B : Hp} {F : Nat → List Addr} {r : FRes} {f : EF} {k : Opd → SF}
theorem ocut2 (S : RS T env σ B H F) (e : obind f k env = some (r, env2)) (p : PostS T W D env σ H F B env2 r) {Q' : VK}
    (hq : ∀ o env1 H1 F1 B1 x, f env = some (.val o, env1) → k o env1 = some (r, env2) → RS T env1 σ B1 H1 F1 → Go env σ H F B env1 σ H1 F1 B1 → OpdR T env1 σ B1 H1 F1 H x o → Q' x H1) : eG T W f σ H Q' := by
  unfold obind at e
  cases h : f env with
  | none => rw [h] at e; cases e
  | some z =>
    obtain ⟨r1, env1⟩ := z
    rw [h] at e
    refine ⟨env, F, B, r1, env1, S, h, fun H1 F1 B1 S1 G1 => ?_⟩
    cases r1 with
    | val o => exact fun x hx => hq o env1 H1 F1 B1 x h e S1 G1 hx
    | exc c =>
      cases e
      exact p σ H1 F1 B1 S1 G1
theorem ocut (S : RS T env σ B H F) (e : obind f k env = some (r, env2)) (p : PostS T W D env σ H F B env2 r) {Q' : VK}
    (hq : ∀ o env1 H1 F1 B1 x, k o env1 = some (r, env2) → RS T env1 σ B1 H1 F1 → Go env σ H F B env1 σ H1 F1 B1 → OpdR T env1 σ B1 H1 F1 H x o → Q' x H1) : eG T W f σ H Q' :=
  ocut2 S e p fun o env1 H1 F1 B1 x _ => hq o env1 H1 F1 B1 x
theorem ocutT (S : RS T env σ B H F) (e : obind f k env = some (r, env2)) (p : PostS T W D env σ H F B env2 r) {Q' : Bool → Hp → Prop}
    (hb : ∀ o env1, k o env1 = some (r, env2) → ∃ b, o = .shr (.bl b))
    (hq : ∀ b env1 H1 F1 B1, k (.shr (.bl b)) env1 = some (r, env2) → RS T env1 σ B1 H1 F1 → Go env σ H F B env1 σ H1 F1 B1 → Q' b H1) : tG T W f σ H Q' := by
  unfold obind at e
  cases h : f env with
  | none => rw [h] at e; cases e
  | some z =>
    obtain ⟨r1, env1⟩ := z
    rw [h] at e
    refine ⟨env, F, B, r1, env1, S, h, fun o ho => ?_, fun H1 F1 B1 S1 G1 => ?_⟩
    · subst ho
      exact hb o env1 e
    · cases r1 with
      | val o =>
        obtain ⟨b, rfl⟩ := hb o env1 e
        intro x hx
        exact ⟨b, Rep.bl_inv hx, hq b env1 H1 F1 B1 e S1 G1⟩
      | exc c =>
        cases e
        exact p σ H1 F1 B1 S1 G1
end

/-! ### blocks -/
def sNil : SF := fun env => some (.nx, env)
def sSeq (g1 g2 : SF) : SF := fun env => match g1 env with
  | some (.nx, env1) => g2 env1
  | z => z
section
variable {X : Cx} {W : WX} {st : Stmt} {rest : List Stmt} {g g1 g2 : SF} {a e : Expr} {f : EF} {pos : Pos}
theorem sss_nil : SSs X W [] sNil := by
  refine PSs.mono pss_nil fun D σ H h => ?_
  obtain ⟨env, F, B, r, env1, S, e, p⟩ := h
  cases e
  exact p σ H F B S .refl
theorem seq_mono {T : Tx} {D : Ends} {σ : L2.St} {H : Hp} (h : sG T W (sSeq g1 g2) D σ H) : sG T W g1 { D with nx := sG T W g2 D } σ H := by
  obtain ⟨env, F, B, r, env2, S, e, p⟩ := h
  unfold sSeq at e
  cases h1 : g1 env with
  | none => rw [h1] at e; cases e
  | some z =>
    obtain ⟨r1, env1⟩ := z
    rw [h1] at e
    refine ⟨env, F, B, r1, env1, S, h1, fun σ1 H1 F1 B1 S1 G1 => ?_⟩
    cases r1 with
    | nx => exact ⟨env1, F1, B1, r, env2, S1, e, p.shift S S1 G1⟩
    | brk => cases e; exact p σ1 H1 F1 B1 S1 G1
    | ct => cases e; exact p σ1 H1 F1 B1 S1 G1
    | ret rv => cases e; exact p σ1 H1 F1 B1 S1 G1
    | exc c => cases e; exact p σ1 H1 F1 B1 S1 G1
theorem sss_cons (h1 : SS X W st g1) (h2 : SSs X W rest g2) : SSs X W (st :: rest) (sSeq g1 g2) := PSs.mono (pss_cons h1 h2) fun _ _ _ h => seq_mono h
theorem sss_one (h1 : SS X W st g1) : SSs X W [st] g1 := pss_one h1
/-! ### small statements -/
def sBrk : SF := fun env => some (.brk, env)
def sCt : SF := fun env => some (.ct, env)
theorem ss_pass : SS X W (.Pass pos) sNil := by
  refine PS.mono ps_pass fun D σ H h => ?_
  obtain ⟨env, F, B, r, env1, S, e, p⟩ := h
  cases e
  exact p σ H F B S .refl
theorem ss_brk : SS X W (.Break pos) sBrk := by
  refine PS.mono ps_break fun D σ H h => ?_
  obtain ⟨env, F, B, r, env1, S, e, p⟩ := h
  cases e
  exact p σ H F B S .refl
theorem ss_ct : SS X W (.Continue pos) sCt := by
  refine PS.mono ps_continue fun D σ H h => ?_
  obtain ⟨env, F, B, r, env1, S, e, p⟩ := h
  cases e
  exact p σ H F B S .refl
def sExpr (f : EF) : SF := obind f fun _ env => some (.nx, env)
theorem ss_expr (he : SE X W e f) (hs : swapsWith e none pos.line X.env = pure false := by rfl) : SS X W (.Expr e pos) (sExpr f) := by
  refine PS.mono (ps_expr he hs) fun D σ H h => ?_
  obtain ⟨env, F, B, r, env2, S, e, p⟩ := h
  refine ocut S e p fun o env1 H1 F1 B1 x e1 S1 G1 x1 => ?_
  cases e1
  exact p σ H1 F1 B1 S1 G1
/-- return -/
def opdRet (o : Opd) (env : Env) : Option RV := match o with
  | .shr v => some (.shr v)
  | .new v => some (.new v)
  | .var i => match env[i]? with
    | some (.own v) => some (.new v)
    | _ => none
def sRet (f : EF) : SF := obind f fun o env => match opdRet o env with
  | some r => some (.ret r, env)
  | none => none
theorem ret_ok {T : Tx} {env env1 : Env} {σ : L2.St} {B H B1 H1 : Hp} {F F1 : Nat → List Addr} {x : V} {o : Opd} {r : RV} (S : RS T env σ B H F) (S1 : RS T env1 σ B1 H1 F1) (G : Go env σ H F B env1 σ H1 F1 B1) (x1 : OpdR T env1 σ B1 H1 F1 H x o) (h : opdRet o env1 = some r) : RetR T env H F env1 B1 H1 F1 x r := by
  cases o with
  | shr v => cases h; exact x1
  | new v =>
    cases h
    obtain ⟨a, fp, h1, h2, h3⟩ := x1
    exact ⟨a, fp, h1, h2, fun b hb => ⟨(h3 b hb).2.1, .inr (h3 b hb).1, fun i w _ => (h3 b hb).2.2 i⟩⟩
  | var i =>
    unfold opdRet at h
    try dsimp only at h
    split at h
    · rename_i v hv
      cases h
      obtain ⟨a, h1, h2⟩ := S1.own i v (own_own hv)
      have x1' : σ[i]? = some (some x) := x1
      rw [h1] at x1'
      cases x1'
      have hr : RetR T env1 H1 F1 env1 B1 H1 F1 (.ref a) (.new v) := ⟨a, F1 i, rfl, h2, fun b hb => ⟨S1.free i b hb, .inl ⟨i, v, hv, hb⟩, fun j w e q => by
        have := S1.disj i j b hb q
        subst this
        rw [hv] at e; cases e⟩⟩
      exact hr.shift S S1 G
    · cases h
theorem ss_ret (he : SE X W e f) : SS X W (.Return (some e) pos) (sRet f) := by
  refine PS.mono (ps_ret he) fun D σ H h => ?_
  obtain ⟨env, F, B, r, env2, S, e, p⟩ := h
  refine ocut S e p fun o env1 H1 F1 B1 x e1 S1 G1 x1 => ?_
  try dsimp only at e1
  split at e1
  · rename_i rv hrv
    cases e1
    exact p σ H1 F1 B1 S1 G1 x (ret_ok S S1 G1 x1 hrv)
  · cases e1
def sRetN : SF := fun env => some (.ret (.shr .non), env)
theorem ss_retN : SS X W (.Return none pos) sRetN := by
  refine PS.mono ps_retN fun D σ H h => ?_
  obtain ⟨env, F, B, r, env1, S, e, p⟩ := h
  cases e
  exact p σ H F B S .refl .non .non
def sIfS (c : EF) (g1 g2 : SF) : SF := obind c fun o => match o with
  | .shr (.bl true) => g1
  | .shr (.bl false) => g2
  | _ => fun _ => none
theorem ss_if {c : Expr} {a b : List Stmt} (hc : ST X W c f) (ha : SSs X W a g1) (hb : SSs X W b g2) : SS X W (.If c a b pos) (sIfS f g1 g2) := by
  refine PS.mono (ps_if hc ha hb) fun D σ H h => ?_
  obtain ⟨env, F, B, r, env2, S, e, p⟩ := h
  refine ocutT S e p (fun o env1 e1 => ?_) fun b env1 H1 F1 B1 e1 S1 G1 => ?_
  · try dsimp only at e1
    split at e1
    · exact ⟨_, rfl⟩
    · exact ⟨_, rfl⟩
    · cases e1
  · cases b with
    | true => exact iteT ⟨env1, F1, B1, r, env2, S1, e1, p.shift S S1 G1⟩
    | false => exact iteF ⟨env1, F1, B1, r, env2, S1, e1, p.shift S S1 G1⟩
end

/-! ### names are given values -/
/-- what may be put into a slot -/
def slotOf : Opd → Option Slot
  | .shr v => some (.shr v)
  | .new v => some (.own v)
  | .var _ => none
/-- not of a slot that was handed in -/
def setSlot (env : Env) (i : Nat) (o : Opd) : Option Env := match env[i]?, slotOf o with
  | some (.io _), _ => none
  | some _, some s => some (env.set i s)
  | _, _ => none
/-- an operand with what it owns -/
def OpdF (T : Tx) (B H : Hp) (F : Nat → List Addr) (Hs : Hp) (x : V) (o : Opd) (fp : List Addr) : Prop := match o with
  | .shr v => fp = [] ∧ Rep T B x v
  | .new v => ∃ a, x = .ref a ∧ OwnR T B H fp a v ∧ ∀ b ∈ fp, Hs b = none ∧ B b = none ∧ ∀ i, b ∉ F i
  | .var _ => False
def setF (F : Nat → List Addr) (i : Nat) (fp : List Addr) : Nat → List Addr := fun j => if j = i then fp else F j
section
variable {T : Tx} {env env1 : Env} {σ : L2.St} {H H1 Hs B B1 : Hp} {F F1 : Nat → List Addr} {i : Nat} {x : V} {o : Opd} {fp : List Addr}
theorem setSlot_inv (h : setSlot env i o = some env1) : ∃ s s0, slotOf o = some s ∧ env[i]? = some s0 ∧ (∀ w, s0 ≠ .io w) ∧ env1 = env.set i s := by
  unfold setSlot at h
  cases h1 : env[i]? with
  | none => rw [h1] at h; cases h
  | some s0 =>
    rw [h1] at h
    cases h2 : slotOf o with
    | none => rw [h2] at h; cases s0 <;> cases h
    | some s =>
      rw [h2] at h
      cases s0 with
      | io w => cases h
      | un => cases h; exact ⟨s, _, rfl, rfl, (fun w z => nomatch z), rfl⟩
      | shr v => cases h; exact ⟨s, _, rfl, rfl, (fun w z => nomatch z), rfl⟩
      | own v => cases h; exact ⟨s, _, rfl, rfl, (fun w z => nomatch z), rfl⟩
theorem mem_setF {j : Nat} {a : Addr} (h : a ∈ setF F i fp j) : (j = i ∧ a ∈ fp) ∨ (j ≠ i ∧ a ∈ F j) := by
  unfold setF at h
  split at h
  · rename_i e; exact .inl ⟨e, h⟩
  · rename_i e; exact .inr ⟨e, h⟩
theorem setF_ne {j : Nat} (h : j ≠ i) : setF F i fp j = F j := if_neg h
theorem setF_at : setF F i fp i = fp := if_pos rfl
theorem RS.set (S : RS T env σ B H F) (h : OpdF T B H F Hs x o fp) (e : setSlot env i o = some env1) : RS T env1 (σ.set i (some x)) B H (setF F i fp) := by
  obtain ⟨s, s0, hs, h0, nio, rfl⟩ := setSlot_inv e
  have hl : i < env.length := lt_of_get h0
  have hσ : i < σ.length := by rw [S.len]; exact hl
  have nb : ∀ b ∈ fp, B b = none ∧ ∀ j, b ∉ F j := fun b hb => by
    cases o with
    | shr v => rw [h.1] at hb; cases hb
    | new v => obtain ⟨a, _, _, h3⟩ := h; exact (h3 b hb).2
    | var k => exact h.elim
  refine ⟨S.sub, by rw [List.length_set, List.length_set]; exact S.len, fun j v ej => ?_, fun j v ej => ?_, fun j ej => ?_, fun j a ha => ?_, fun j k a h1 h2 => ?_⟩
  · by_cases q : j = i
    · subst q
      rw [List.getElem?_set_self hl] at ej
      rw [List.getElem?_set_self hσ]
      cases o with
      | shr w => cases hs; cases ej; exact ⟨x, rfl, h.2⟩
      | new w => cases hs; cases ej
      | var k => cases hs
    · rw [List.getElem?_set_ne (Ne.symm q)] at ej ⊢
      exact S.shr j v ej
  · by_cases q : j = i
    · subst q
      rw [own_set, if_pos ⟨rfl, hl⟩] at ej
      rw [List.getElem?_set_self hσ, setF_at]
      cases o with
      | shr w => cases hs; cases ej
      | new w =>
        cases hs; cases ej
        obtain ⟨a, rfl, h2, _⟩ := h
        exact ⟨a, rfl, h2⟩
      | var k => cases hs
    · rw [own_set, if_neg fun z => q z.1] at ej
      rw [List.getElem?_set_ne (Ne.symm q), setF_ne q]
      exact S.own j v ej
  · by_cases q : j = i
    · subst q
      rw [own_set, if_pos ⟨rfl, hl⟩] at ej
      rw [setF_at]
      cases o with
      | shr w => exact h.1
      | new w => cases hs; cases ej
      | var k => cases hs
    · rw [own_set, if_neg fun z => q z.1] at ej
      rw [setF_ne q]
      exact S.non j ej
  · rcases mem_setF ha with ⟨_, h1⟩ | ⟨_, h1⟩
    · exact (nb a h1).1
    · exact S.free j a h1
  · rcases mem_setF h1 with ⟨e1, m1⟩ | ⟨e1, m1⟩
    · rcases mem_setF h2 with ⟨e2, m2⟩ | ⟨e2, m2⟩
      · rw [e1, e2]
      · exact absurd m2 ((nb a m1).2 k)
    · rcases mem_setF h2 with ⟨e2, m2⟩ | ⟨e2, m2⟩
      · exact absurd m1 ((nb a m2).2 j)
      · exact S.disj j k a m1 m2
/-- with the way from a start at which what is new was not there -/
theorem Go.set {env0 : Env} {σ0 : L2.St} {H0 B0 : Hp} {F0 : Nat → List Addr} (S : RS T env σ B H F) (G : Go env0 σ0 H0 F0 B0 env σ H F B) (h : OpdF T B H F H0 x o fp) (e : setSlot env i o = some env1) : Go env0 σ0 H0 F0 B0 env1 (σ.set i (some x)) H (setF F i fp) B := by
  obtain ⟨s, s0, hs, h0, nio, rfl⟩ := setSlot_inv e
  have hl : i < env.length := lt_of_get h0
  refine ⟨G.fr, G.al, G.kn, G.nb, fun j a ha => ?_, fun j v ej => ?_, fun j v ej => ?_, List.length_set.trans G.ln⟩
  · rcases mem_setF ha with ⟨_, h1⟩ | ⟨_, h1⟩
    · cases o with
      | shr w => rw [h.1] at h1; cases h1
      | new w => obtain ⟨_, _, _, h3⟩ := h; exact .inr (h3 a h1).1
      | var k => exact h.elim
    · exact G.ow j a h1
  · obtain ⟨v1, e1, s1, m1⟩ := G.io j v ej
    have q : j ≠ i := fun z => by subst z; rw [e1] at h0; cases h0; exact nio _ rfl
    exact ⟨v1, by rw [List.getElem?_set_ne (Ne.symm q)]; exact e1, by rw [List.getElem?_set_ne (Ne.symm q)]; exact s1, by rw [setF_ne q]; exact m1⟩
  · by_cases q : j = i
    · subst q
      rw [List.getElem?_set_self hl] at ej
      cases o <;> cases hs <;> cases ej
    · rw [List.getElem?_set_ne (Ne.symm q)] at ej
      exact G.iw j v ej
theorem OpdR.toF (h : OpdR T env σ B H F Hs x o) (n : ∀ i, o ≠ .var i) : ∃ fp, OpdF T B H F Hs x o fp := by
  cases o with
  | shr v => exact ⟨[], rfl, h⟩
  | new v => obtain ⟨a, fp, h1, h2, h3⟩ := h; exact ⟨fp, a, h1, h2, h3⟩
  | var i => exact absurd rfl (n i)
end
/-- no alias: another name's object is shared from now on -/
def eun (f : EF) : EF := ebind f fun o env => match o with
  | .var i => efix (.var i) env
  | o => some (.val o, env)
theorem eun_nv {f : EF} {env env1 : Env} {o : Opd} (h : eun f env = some (.val o, env1)) : ∀ i, o ≠ .var i := by
  intro i z
  subst z
  unfold eun ebind at h
  split at h
  · try dsimp only at h
    split at h
    · unfold efix at h
      try dsimp only at h
      split at h <;> cases h
    · rename_i hn
      cases h
      exact hn _ rfl
  · cases h
  · cases h
section
variable {X : Cx} {W : WX} {st : Stmt} {rest : List Stmt} {g g1 g2 : SF} {a e : Expr} {f : EF} {pos : Pos}
theorem eun_mono {T : Tx} {σ : L2.St} {H : Hp} {Q : VK} (q : eG T W (eun f) σ H Q) : eG T W f σ H Q := by
  obtain ⟨env, F, B, r, env2, S, e, p⟩ := q
  refine run_cut S e p fun o env1 H1 F1 B1 x e1 S1 G1 x1 p1 => ?_
  cases o with
  | shr v => cases e1; exact p1 H1 F1 B1 S1 .refl x x1
  | new v => cases e1; exact p1 H1 F1 B1 S1 .refl x x1
  | var i =>
    have e1' : efix (.var i) env1 = some (r, env2) := e1
    unfold efix at e1'
    try dsimp only at e1'
    split at e1'
    · rename_i v hv
      cases e1'
      have S2 := S1.freeze hv
      obtain ⟨y, h1, h2⟩ := S2.shr i v (List.getElem?_set_self (lt_of_get hv))
      have x1' : σ[i]? = some (some x) := x1
      rw [h1] at x1'
      cases x1'
      exact p1 H1 _ _ S2 (Go.freeze S1 hv) _ h2
    · cases e1'
theorem se_eun (h : SE X W a f) : SE X W a (eun f) := PE.mono h fun _ _ _ q => eun_mono q
/-- name = e -/
def sAsg (i : Nat) (f : EF) : SF := obind (eun f) fun o env => (setSlot env i o).map (FRes.nx, ·)
theorem asg_end {T : Tx} {D : Ends} {env env1 env2 : Env} {σ : L2.St} {H H1 B B1 : Hp} {F F1 : Nat → List Addr} {r : FRes} {i : Nat} {x : V} {o : Opd} (p : PostS T W D env σ H F B env2 r) (S1 : RS T env1 σ B1 H1 F1) (G1 : Go env σ H F B env1 σ H1 F1 B1)
    (x1 : OpdR T env1 σ B1 H1 F1 H x o) (e1 : (setSlot env1 i o).map (FRes.nx, ·) = some (r, env2)) : D.nx (σ.set i (some x)) H1 := by
  cases h : setSlot env1 i o with
  | none => rw [h] at e1; cases e1
  | some env3 =>
    rw [h] at e1
    cases e1
    obtain ⟨s, s0, hs, _⟩ := setSlot_inv h
    obtain ⟨fp, xf⟩ := x1.toF fun j z => by subst z; cases hs
    exact p (σ.set i (some x)) H1 (setF F1 i fp) B1 (S1.set xf h) (Go.set S1 G1 xf h)
theorem asg_mono {T : Tx} {D : Ends} {σ : L2.St} {H : Hp} {i : Nat} (h : sG T W (sAsg i f) D σ H) : tAsg (eG T W (eun f)) (gName i) D σ H := by
  obtain ⟨env, F, B, r, env2, S, e, p⟩ := h
  refine ocut S e p fun o env1 H1 F1 B1 x e1 S1 G1 x1 => ?_
  exact asg_end p S1 G1 x1 e1
theorem ss_asg {i : Nat} {x : Str} {pos' : Pos} (hN : X.N.Nodup) (hi : X.N[i]? = some x) (hx : Loc X.env.scope x) (he : SE X W e f) (hs : swapsWith e (some (.Name x pos')) pos.line X.env = pure false := by rfl) (hf : X.fn x = true ∨ X.env.scope.names.lookup x = some .local := by first | exact .inl rfl | exact .inr rfl | assumption) :
    SS X W (.Assign [.Name x pos'] e pos) (sAsg i f) := PS.mono (ps_set hN hi hx (se_eun he) hs hf) fun _ _ _ h => asg_mono h

/-! ### several names at once -/
/-- operands with what each owns, apart -/
inductive OpdsF (T : Tx) (B H : Hp) (F : Nat → List Addr) (Hs : Hp) : List V → List Opd → List (List Addr) → Prop
  | nil : OpdsF T B H F Hs [] [] []
  | cons {x : V} {xs : List V} {o : Opd} {os : List Opd} {fp : List Addr} {fps : List (List Addr)} : OpdF T B H F Hs x o fp → OpdsF T B H F Hs xs os fps → (∀ b ∈ fp, ∀ q ∈ fps, b ∉ q) → OpdsF T B H F Hs (x :: xs) (o :: os) (fp :: fps)
theorem OpdF.there {T : Tx} {B H Hs : Hp} {F : Nat → List Addr} {x : V} {o : Opd} {fp : List Addr} (h : OpdF T B H F Hs x o fp) : ∀ b ∈ fp, Hs b = none ∧ ∃ u, H b = some u := fun b hb => by
  cases o with
  | shr v => rw [h.1] at hb; cases hb
  | new v => obtain ⟨a, _, h2, h3⟩ := h; exact ⟨(h3 b hb).1, h2.there b hb⟩
  | var i => exact h.elim
theorem OpdsF.there {T : Tx} {B H Hs : Hp} {F : Nat → List Addr} : ∀ {xs : List V} {os : List Opd} {fps : List (List Addr)}, OpdsF T B H F Hs xs os fps → ∀ q ∈ fps, ∀ b ∈ q, Hs b = none ∧ ∃ u, H b = some u
  | _, _, _, .nil, q, hq, _, _ => by cases hq
  | _, _, _, .cons h t _, q, hq, b, hb => by
    rcases List.mem_cons.mp hq with rfl | hq
    · exact h.there b hb
    · exact OpdsF.there t q hq b hb
theorem OpdF.from {T : Tx} {B H Hs Hs' : Hp} {F : Nat → List Addr} {x : V} {o : Opd} {fp : List Addr} (h : OpdF T B H F Hs x o fp) (al : ∀ a, Hs a = none → Hs' a = none) : OpdF T B H F Hs' x o fp := by
  cases o with
  | shr v => exact h
  | new v => obtain ⟨a, h1, h2, h3⟩ := h; exact ⟨a, h1, h2, fun b hb => ⟨al b (h3 b hb).1, (h3 b hb).2⟩⟩
  | var i => exact h.elim
theorem OpdsF.from {T : Tx} {B H Hs Hs' : Hp} {F : Nat → List Addr} (al : ∀ a, Hs a = none → Hs' a = none) : ∀ {xs : List V} {os : List Opd} {fps : List (List Addr)}, OpdsF T B H F Hs xs os fps → OpdsF T B H F Hs' xs os fps
  | _, _, _, .nil => .nil
  | _, _, _, .cons h t d => .cons (h.from al) (OpdsF.from al t) d
theorem OpdF.go {T : Tx} {env env1 : Env} {σ : L2.St} {B B1 H H1 Hs : Hp} {F F1 : Nat → List Addr} {x : V} {o : Opd} {fp : List Addr} (S : RS T env σ B H F) (S1 : RS T env1 σ B1 H1 F1) (g : Go env σ H F B env1 σ H1 F1 B1) (h : OpdF T B H F Hs x o fp) : OpdF T B1 H1 F1 Hs x o fp := by
  cases o with
  | shr u => exact ⟨h.1, h.2.mono g.kn⟩
  | new u =>
    obtain ⟨a, h1, h2, h3⟩ := h
    refine ⟨a, h1, h2.mono g.kn fun b hb o q => g.fr b o q (h3 b hb).2.2, fun b hb => ⟨(h3 b hb).1, ?_, fun i q => ?_⟩⟩
    · cases e : B1 b with
      | none => rfl
      | some o =>
        obtain ⟨o2, e2⟩ := h2.there b hb
        rcases g.nb b o e with z | z | ⟨i, _, _, z⟩
        · rw [(h3 b hb).2.1] at z; cases z
        · rw [z] at e2; cases e2
        · exact absurd z ((h3 b hb).2.2 i)
    · obtain ⟨o2, e2⟩ := h2.there b hb
      rcases g.ow i b q with ⟨j, z⟩ | z
      · exact (h3 b hb).2.2 j z
      · rw [z] at e2; cases e2
  | var i => exact h.elim
theorem oargs_cut {T : Tx} {D : Ends} {σ : L2.St} {r : FRes} {env2 : Env} : ∀ {fs : List EF} {k : List Opd → SF} {env : Env} {H B : Hp} {F : Nat → List Addr}, RS T env σ B H F → oargs (fs.map eun) k env = some (r, env2) → PostS T W D env σ H F B env2 r →
    ∀ {Q' : List V → Hp → Prop}, (∀ os env1 H1 F1 B1 xs fps, k os env1 = some (r, env2) → RS T env1 σ B1 H1 F1 → Go env σ H F B env1 σ H1 F1 B1 → OpdsF T B1 H1 F1 H xs os fps → Q' xs H1) → aR T W (fs.map eun) σ H Q'
  | [], k, env, H, B, F, S, e, p, Q', hq => hq [] env H F B [] [] e S .refl .nil
  | f :: fs, k, env, H, B, F, S, e, p, Q', hq => by
    refine ocut2 (f := eun f) (k := fun o => oargs (fs.map eun) fun os => k (o :: os)) S e p fun o env1 H1 F1 B1 x h1 e1 S1 G1 x1 => ?_
    obtain ⟨fp, xf⟩ := x1.toF (eun_nv h1)
    refine oargs_cut S1 e1 (p.shift S S1 G1) fun os env3 H2 F2 B2 xs fps e2 S2 G2 xs2 => ?_
    refine hq (o :: os) env3 H2 F2 B2 (x :: xs) (fp :: fps) e2 S2 (G1.trans S S1 G2) (.cons (xf.go S1 S2 G2) (xs2.from G1.al) fun b hb q hq' z => ?_)
    obtain ⟨u, hu⟩ := (xf.there b hb).2
    rw [(xs2.there q hq' b z).1] at hu
    cases hu
/-- the slots, one after another -/
def setSlots (env : Env) : List Nat → List Opd → Option Env
  | [], [] => some env
  | i :: is, o :: os => match setSlot env i o with
    | some env1 => setSlots env1 is os
    | none => none
  | _, _ => none
def setSt (σ : L2.St) : List Nat → List V → L2.St
  | i :: is, x :: xs => setSt (σ.set i (some x)) is xs
  | _, _ => σ
def setFs (F : Nat → List Addr) : List Nat → List (List Addr) → Nat → List Addr
  | i :: is, fp :: fps => setFs (setF F i fp) is fps
  | _, _ => F
theorem OpdsF.setF {T : Tx} {B H Hs : Hp} {F : Nat → List Addr} {i : Nat} {fp : List Addr} : ∀ {xs : List V} {os : List Opd} {fps : List (List Addr)}, (∀ b ∈ fp, ∀ q ∈ fps, b ∉ q) → OpdsF T B H F Hs xs os fps → OpdsF T B H (setF F i fp) Hs xs os fps
  | _, _, _, _, .nil => .nil
  | _, o :: _, fq :: fps, d, .cons h t d2 => by
    refine .cons ?_ (OpdsF.setF (fun b hb q hq => d b hb q (List.mem_cons_of_mem _ hq)) t) d2
    cases o with
    | shr v => exact h
    | new v =>
      obtain ⟨a, h1, h2, h3⟩ := h
      refine ⟨a, h1, h2, fun b hb => ⟨(h3 b hb).1, (h3 b hb).2.1, fun j q => ?_⟩⟩
      rcases mem_setF q with ⟨_, q⟩ | ⟨_, q⟩
      · exact d b q fq List.mem_cons_self hb
      · exact (h3 b hb).2.2 j q
    | var k => exact h.elim
theorem sets_ok {T : Tx} {env0 : Env} {σ0 : L2.St} {H0 B0 B H : Hp} {F0 : Nat → List Addr} : ∀ {is : List Nat} {os : List Opd} {env env1 : Env} {σ : L2.St} {F : Nat → List Addr} {xs : List V} {fps : List (List Addr)}, RS T env σ B H F → Go env0 σ0 H0 F0 B0 env σ H F B → OpdsF T B H F H0 xs os fps → setSlots env is os = some env1 →
    ∃ F1, RS T env1 (setSt σ is xs) B H F1 ∧ Go env0 σ0 H0 F0 B0 env1 (setSt σ is xs) H F1 B
  | [], [], env, env1, σ, F, xs, fps, S, G, h, e => by cases e; cases h; exact ⟨F, S, G⟩
  | i :: is, o :: os, env, env1, σ, F, _, _, S, G, .cons h t d, e => by
    unfold setSlots at e
    cases h1 : setSlot env i o with
    | none => rw [h1] at e; cases e
    | some env2 =>
      rw [h1] at e
      have e' : setSlots env2 is os = some env1 := e
      have q := sets_ok (is := is) (S.set h h1) (Go.set S G h h1) (t.setF d) e'
      exact q
  | [], _ :: _, _, _, _, _, _, _, _, _, _, e => by cases e
  | _ :: _, [], _, _, _, _, _, _, _, _, _, e => by cases e
def sPar (is : List Nat) (fs : List EF) : SF := oargs (fs.map eun) fun os env => (setSlots env is os).map (FRes.nx, ·)
theorem par_end {T : Tx} {D : Ends} {env env1 env2 : Env} {σ : L2.St} {H H1 B B1 : Hp} {F F1 : Nat → List Addr} {r : FRes} {is : List Nat} {xs : List V} {os : List Opd} {fps : List (List Addr)} (p : PostS T W D env σ H F B env2 r) (S1 : RS T env1 σ B1 H1 F1) (G1 : Go env σ H F B env1 σ H1 F1 B1)
    (x1 : OpdsF T B1 H1 F1 H xs os fps) (e1 : (setSlots env1 is os).map (FRes.nx, ·) = some (r, env2)) : D.nx (setSt σ is xs) H1 := by
  cases h : setSlots env1 is os with
  | none => rw [h] at e1; cases e1
  | some env3 =>
    rw [h] at e1
    cases e1
    obtain ⟨F2, S2, G2⟩ := sets_ok S1 G1 x1 h
    exact p _ H1 F2 B1 S2 G2
theorem OpdsF.len {T : Tx} {B H Hs : Hp} {F : Nat → List Addr} : ∀ {xs : List V} {os : List Opd} {fps : List (List Addr)}, OpdsF T B H F Hs xs os fps → xs.length = os.length
  | _, _, _, .nil => rfl
  | _, _, _, .cons _ t _ => congrArg Nat.succ (OpdsF.len t)
theorem setSlots_len : ∀ {is : List Nat} {os : List Opd} {env env1 : Env}, setSlots env is os = some env1 → is.length = os.length
  | [], [], _, _, _ => rfl
  | i :: is, o :: os, env, env1, e => by
    unfold setSlots at e
    cases h1 : setSlot env i o with
    | none => rw [h1] at e; cases e
    | some env2 => rw [h1] at e; exact congrArg Nat.succ (setSlots_len e)
  | [], _ :: _, _, _, e => by cases e
  | _ :: _, [], _, _, e => by cases e
section
variable {b c : Expr} {f1 f2 f3 : EF} {i j l : Nat} {x y z : Str} {px py pz pt : Pos} {kt k2 : Nat} {pt2 : Pos}
theorem ss_par2 (hc : X.calm = true) (hN : X.N.Nodup) (hi : X.N[i]? = some x) (hj : X.N[j]? = some y) (hij : i ≠ j)
    (hx : X.env.scope.names.lookup x = some .local) (hy : X.env.scope.names.lookup y = some .local) (ha : SA X W [a, b] ([f1, f2].map eun))
    (hw : swappedStores [.Tuple [.Name x px, .Name y py] kt pt] (.Tuple [a, b] k2 pt2) X.env = pure (some [x, y]))
    (hs : swapsWithSole [.Tuple [.Name x px, .Name y py] kt pt] (.Tuple [a, b] k2 pt2) pos.line X.env = pure false := by rfl) :
    SS X W (.Assign [.Tuple [.Name x px, .Name y py] kt pt] (.Tuple [a, b] k2 pt2) pos) (sPar [i, j] [f1, f2]) := by
  refine PS.mono (ps_par hc hN hi hj hij hx hy ha hw hs) fun D σ H h => ?_
  obtain ⟨env, F, B, r, env2, S, e, p⟩ := h
  refine oargs_cut S e p fun os env1 H1 F1 B1 xs fps e1 S1 G1 xs1 => ?_
  have hl : xs.length = 2 := by
    rw [xs1.len]
    cases h : setSlots env1 [i, j] os with
    | none => rw [h] at e1; cases e1
    | some env3 => exact (setSlots_len h).symm
  match xs, hl with
  | [u, v], _ => exact ⟨u, v, rfl, par_end p S1 G1 xs1 e1⟩
theorem ss_par3 (hc : X.calm = true) (hN : X.N.Nodup) (hi : X.N[i]? = some x) (hj : X.N[j]? = some y) (hl : X.N[l]? = some z) (hij : i ≠ j) (hil : i ≠ l) (hjl : j ≠ l)
    (hx : X.env.scope.names.lookup x = some .local) (hy : X.env.scope.names.lookup y = some .local) (hz : X.env.scope.names.lookup z = some .local) (ha : SA X W [a, b, c] ([f1, f2, f3].map eun))
    (hw : swappedStores [.Tuple [.Name x px, .Name y py, .Name z pz] kt pt] (.Tuple [a, b, c] k2 pt2) X.env = pure (some [x, y, z]))
    (hs : swapsWithSole [.Tuple [.Name x px, .Name y py, .Name z pz] kt pt] (.Tuple [a, b, c] k2 pt2) pos.line X.env = pure false := by rfl) :
    SS X W (.Assign [.Tuple [.Name x px, .Name y py, .Name z pz] kt pt] (.Tuple [a, b, c] k2 pt2) pos) (sPar [i, j, l] [f1, f2, f3]) := by
  refine PS.mono (ps_par3 hc hN hi hj hl hij hil hjl hx hy hz ha hw hs) fun D σ H h => ?_
  obtain ⟨env, F, B, r, env2, S, e, p⟩ := h
  refine oargs_cut S e p fun os env1 H1 F1 B1 xs fps e1 S1 G1 xs1 => ?_
  have hl : xs.length = 3 := by
    rw [xs1.len]
    cases h : setSlots env1 [i, j, l] os with
    | none => rw [h] at e1; cases e1
    | some env3 => exact (setSlots_len h).symm
  match xs, hl with
  | [u, v, w], _ => exact ⟨u, v, w, rfl, par_end p S1 G1 xs1 e1⟩
end
/-- a, b, .. = x, y, .. by a tuple that is made and taken apart: the targets are names -/
def gNames : List Nat → TGs
  | [] => gNil
  | i :: is => gCons (gName i) (gNames is)
theorem gNames_ok : ∀ {is : List Nat} {xs : List V} {σ : L2.St} {H : Hp} {Q : L2.St → Hp → Prop}, is.length = xs.length → Q (setSt σ is xs) H → gNames is xs σ H Q
  | [], [], _, _, _, _, q => ⟨rfl, q⟩
  | i :: is, x :: xs, σ, H, Q, e, q => ⟨x, xs, rfl, gNames_ok (Nat.succ.inj e) q⟩
theorem ss_parT {es ts : List Expr} {fs : List EF} {is : List Nat} {kt k2 n : Nat} {pt pt2 : Pos} (hc : X.calm = true) (ha : SA X W es (fs.map eun)) (hg : PGs X ts (gNames is)) (hn : n = is.length) (hn2 : (assignEach ts X.env).length = n := by rfl) (hst : (assignEach ts X.env).findIdx? (·.1) = none := by rfl)
    (hs : swapsWithSole [.Tuple ts kt pt] (.Tuple es k2 pt2) pos.line X.env = pure false := by rfl) (hw : swappedStores [.Tuple ts kt pt] (.Tuple es k2 pt2) X.env = pure none := by rfl)
    (h1 : (assignEach [.Tuple ts kt pt] X.env).map (·.2) = [assign (.Tuple ts kt pt) X.env] := by rfl) (hl : decide (is.length ≤ 1000) = true := by rfl) :
    SS X W (.Assign [.Tuple ts kt pt] (.Tuple es k2 pt2) pos) (sPar is fs) := by
  refine PS.mono (ps_asg (pe_tup ha) (pg_tup hc hg hn2 hst) hs hw h1) fun D σ H h => ?_
  obtain ⟨env, F, B, r, env2, S, e, p⟩ := h
  refine oargs_cut S e p fun os env1 H1 F1 B1 xs fps e1 S1 G1 xs1 => ?_
  have hlen : is.length = xs.length := by
    rw [xs1.len]
    cases h : setSlots env1 is os with
    | none => rw [h] at e1; cases e1
    | some env3 => exact setSlots_len h
  have hl' := of_decide_eq_true hl
  refine ⟨by rw [← hlen]; exact line_ok (by omega), fun a na => ⟨a, xs, rfl, .of upd_same, by rw [hn]; exact hlen.symm, ?_⟩⟩
  have g := PG.fresh S1.sub (HO.tup xs) na
  have S2 := g.rs S1
  have G2 : Go env1 σ H1 F1 B1 env1 σ (upd H1 a (.tup xs)) F1 B1 := g.go
  have xs2 : OpdsF (tx X) B1 (upd H1 a (.tup xs)) F1 H xs os fps := by
    clear p e1 hlen hn hl
    generalize hxs : HO.tup xs = ho at *
    clear hxs
    induction xs1 with
    | nil => exact .nil
    | cons h t d ih => exact .cons (h.go S1 S2 G2) ih d
  exact gNames_ok hlen (par_end p S2 (G1.trans S S1 G2) xs2 e1)
end
end Lw

end
section
set_option Elab.async false
set_option linter.all false
set_option maxRecDepth 100000
set_option maxHeartbeats 1000000
set_option autoImplicit false
/-! Lw: targets, what is walked, for, while, comprehensions, raise. -/
namespace Lw
open PySem L2

/-! ### targets: names -/
inductive Tgt where
  | one (i : Nat) | many (is : List Nat)
def Tgt.is : Tgt → List Nat
  | .one i => [i]
  | .many is => is
def tgSet (t : Tgt) (v : Val) (env : Env) : Option Env := match t, v with
  | .one i, v => setSlot env i (.shr v)
  | .many is, .tup vs => setSlots env is (vs.map Opd.shr)
  | _, _ => none
def gT (K : PySem.W.Frag) : Tgt → TG
  | .one i => gName i
  | .many is => gTup K is.length (gNames is)
section
variable {T : Tx} {env env1 : Env} {σ : L2.St} {B H : Hp} {F : Nat → List Addr}
theorem opds_shr {Hs : Hp} : ∀ {ys : List V} {vs : List Val}, RepAll T B ys vs → ∃ fps, OpdsF T B H F Hs ys (vs.map Opd.shr) fps ∧ ∀ q ∈ fps, q = []
  | _, _, .nil => ⟨[], .nil, fun _ h => by cases h⟩
  | _, _, .cons r t => by
    obtain ⟨fps, h, e⟩ := opds_shr (Hs := Hs) t
    refine ⟨[] :: fps, .cons ⟨rfl, r⟩ h (fun _ hb => by cases hb), fun q hq => ?_⟩
    rcases List.mem_cons.mp hq with rfl | hq
    · rfl
    · exact e q hq
/-- the target is given the value -/
theorem tg_ok {t : Tgt} {x : V} {v : Val} {Q : L2.St → Hp → Prop} (S : RS T env σ B H F) (r : Rep T B x v) (e : tgSet t v env = some env1)
    (h : ∀ xs F1, RS T env1 (setSt σ t.is xs) B H F1 → Go env σ H F B env1 (setSt σ t.is xs) H F1 B → Q (setSt σ t.is xs) H) : gT T.K t x σ H Q := by
  cases t with
  | one i =>
    have e' : setSlot env i (.shr v) = some env1 := by cases v <;> exact e
    have hf : OpdF T B H F H x (.shr v) [] := ⟨rfl, r⟩
    exact h [x] _ (S.set hf e') (Go.set S .refl hf e')
  | many is =>
    cases v with
    | tup vs =>
      have e' : setSlots env is (vs.map Opd.shr) = some env1 := e
      cases r with
      | tup q ra =>
        rename_i a ys
        obtain ⟨fps, hf, _⟩ := opds_shr (H := H) (F := F) (Hs := H) ra
        obtain ⟨F1, S1, G1⟩ := sets_ok S .refl hf e'
        have hl : is.length = ys.length := by rw [setSlots_len e', List.length_map, ra.length]
        exact ⟨a, ys, rfl, SqT.of (S.sub _ _ q), hl.symm, gNames_ok hl (h ys F1 S1 G1)⟩
    | _ => cases e
end

/-! ### what is walked -/
inductive IRes where
  | items (vs : List Val) | exc (c : Str)
/-- J gives these, wherever the heap holds Bi and B0 is known -/
structure ItOk (T : Tx) (J : It) (Bi B0 : Hp) (vs : List Val) : Prop where
  go : ∀ i H, Same Bi H → i < vs.length → J.go i H
  stop : ∀ i H, Same Bi H → vs.length ≤ i → J.stop i H
  yld : ∀ i H x H' B, Same Bi H → Same B0 B → Same B H → i < vs.length → J.yld i H x H' → ∃ v B', vs[i]? = some v ∧ PG B H B' H' ∧ Rep T B' x v
def iG (T : Tx) (W : WX) (f : Env → Option (IRes × Env)) : TI := fun σ H R => ∃ env F B r env1, RS T env σ B H F ∧ f env = some (r, env1) ∧ ∀ H1 F1 B1, RS T env1 σ B1 H1 F1 → Go env σ H F B env1 σ H1 F1 B1 → match r with
  | .items vs => ∀ J Bi, ItOk T J Bi B1 vs → Same Bi H1 → (∀ a o, Bi a = some o → ∀ i, a ∉ F1 i) → R J H1
  | .exc c => W (.ref (He.ga T.K c)) none σ H1
abbrev SI (X : Cx) (W : WX) (tg iter : Expr) (f : Env → Option (IRes × Env)) : Prop := PI X tg iter (iG (tx X) W f)
theorem PI.mono {X : Cx} {tg e : Expr} {t t' : TI} (h : PI X tg e t) (i : ∀ σ H Q, t' σ H Q → t σ H Q) : PI X tg e t' := ⟨fun pins s σ H Q I q => h.run pins s σ H Q I (i σ H Q q)⟩
section
variable {T : Tx} {B : Hp}
theorem it_list {a : Addr} {ys : List V} {vs : List Val} (h : SqL T.K B a ys) (r : RepAll T B ys vs) : ItOk T (Itl T.K a) B B vs where
  go := fun i H s hi => by
    obtain ⟨x, hx, _⟩ := r.get (List.getElem?_eq_getElem hi)
    exact ⟨ys, x, same_l s h, hx⟩
  stop := fun i H s hi => ⟨ys, same_l s h, by rw [r.length]; exact hi⟩
  yld := fun i H x H' B' s s0 s1 hi hy => by
    obtain ⟨rfl, hx⟩ := hy
    obtain ⟨v, hv, hr⟩ := r.get' (hx ys (same_l s h))
    exact ⟨v, B', hv, .refl s1, hr.mono s0⟩
theorem it_tup {a : Addr} {ys : List V} {vs : List Val} (h : SqT T.K B a ys) (r : RepAll T B ys vs) : ItOk T (Itt T.K a) B B vs where
  go := fun i H s hi => by
    obtain ⟨x, hx, _⟩ := r.get (List.getElem?_eq_getElem hi)
    exact ⟨ys, x, same_t s h, hx⟩
  stop := fun i H s hi => ⟨ys, same_t s h, by rw [r.length]; exact hi⟩
  yld := fun i H x H' B' s s0 s1 hi hy => by
    obtain ⟨rfl, hx⟩ := hy
    obtain ⟨v, hv, hr⟩ := r.get' (hx ys (same_t s h))
    exact ⟨v, B', hv, .refl s1, hr.mono s0⟩
def rangeV (lo : Int) (n : Nat) : List Val := (List.range n).map fun i => .int (lo + (i : Nat))
theorem rangeV_get {lo : Int} {n i : Nat} (h : i < n) : (rangeV lo n)[i]? = some (.int (lo + (i : Nat))) := by
  unfold rangeV
  rw [List.getElem?_map, List.getElem?_range h]
  rfl
theorem rangeV_len (lo : Int) (n : Nat) : (rangeV lo n).length = n := by unfold rangeV; simp
theorem it_range (lo : Int) (n : Nat) : ItOk T (Itr lo n) B B (rangeV lo n) where
  go := fun i H s hi => by rw [rangeV_len] at hi; exact hi
  stop := fun i H s hi => by rw [rangeV_len] at hi; exact hi
  yld := fun i H x H' B' s s0 s1 hi hy => by
    obtain ⟨rfl, rfl⟩ := hy
    rw [rangeV_len] at hi
    exact ⟨_, B', rangeV_get hi, .refl s1, .int _⟩
theorem it_str (z : Str) : ItOk T (Its z) B B (z.cps.toList.map fun c => .str [c]) where
  go := fun i H s hi => by
    have h : i < z.cps.size := by simpa using hi
    exact h
  stop := fun i H s hi => by
    have h : z.cps.size ≤ i := by simpa using hi
    exact h
  yld := fun i H x H' B' s s0 s1 hi hy => by
    obtain ⟨rfl, c, hc, rfl⟩ := hy
    refine ⟨.str [c], B', ?_, .refl s1, .str_mk [c]⟩
    rw [List.getElem?_map, show z.cps.toList[i]? = some c by simpa using hc]
    rfl
end
def ibind (f : EF) (k : Val → Option (List Val)) : Env → Option (IRes × Env) := fun env => match f env with
  | some (.val (.shr v), env1) => (match k v with | some vs => some (.items vs, env1) | none => none)
  | some (.exc c, env1) => some (.exc c, env1)
  | _ => none
/-- the items of a list, a tuple, a text -/
def itemsL : Val → Option (List Val)
  | .lst vs => some vs
  | _ => none
def itemsT : Val → Option (List Val)
  | .tup vs => some vs
  | _ => none
def itemsS : Val → Option (List Val)
  | .str cs => some (cs.map fun c => .str [c])
  | _ => none
section
variable {X : Cx} {W : WX} {tg a : Expr} {f : EF} {es : List Expr} {fs : List EF}
theorem icut {T : Tx} {σ : L2.St} {H : Hp} {R : It → Hp → Prop} {k : Val → Option (List Val)} (h : iG T W (ibind f k) σ H R) {Q' : VK}
    (hq : ∀ v vs env1 H1 F1 B1 x, k v = some vs → RS T env1 σ B1 H1 F1 → Rep T B1 x v → (∀ J, ItOk T J B1 B1 vs → R J H1) → Q' x H1) : eG T W f σ H Q' := by
  obtain ⟨env, F, B, r, env2, S, e, p⟩ := h
  unfold ibind at e
  cases h : f env with
  | none => rw [h] at e; cases e
  | some z =>
    obtain ⟨r1, env1⟩ := z
    rw [h] at e
    refine ⟨env, F, B, r1, env1, S, h, fun H1 F1 B1 S1 G1 => ?_⟩
    cases r1 with
    | exc c => cases e; exact p H1 F1 B1 S1 G1
    | val o =>
      cases o with
      | shr v =>
        try dsimp only at e
        cases h2 : k v with
        | none => rw [h2] at e; cases e
        | some vs =>
          rw [h2] at e
          cases e
          exact fun x hx => hq v vs _ H1 F1 B1 x h2 S1 hx fun J j => p H1 F1 B1 S1 G1 J B1 j S1.sub fun a o e i hi => by rw [S1.free i a hi] at e; cases e
      | new v => cases e
      | var i => cases e
theorem si_list (h : SE X W a f) : SI X W tg a (ibind (esh f) itemsL) := by
  refine PI.mono (pi_list (se_esh h)) fun σ H R q => ?_
  refine icut q fun v vs env1 H1 F1 B1 x hk S1 hx hR => ?_
  cases hx with
  | lst q r => cases hk; exact ⟨_, rfl, ⟨_, .of (S1.sub _ _ q)⟩, hR _ (it_list (.of q) r)⟩
  | _ => cases hk
theorem si_tup (h : SE X W a f) : SI X W tg a (ibind (esh f) itemsT) := by
  refine PI.mono (pi_tup (se_esh h)) fun σ H R q => ?_
  refine icut q fun v vs env1 H1 F1 B1 x hk S1 hx hR => ?_
  cases hx with
  | tup q r => cases hk; exact ⟨_, rfl, ⟨_, .of (S1.sub _ _ q)⟩, hR _ (it_tup (.of q) r)⟩
  | _ => cases hk
theorem si_str (h : SE X W a f) : SI X W tg a (ibind (esh f) itemsS) := by
  refine PI.mono (pi_str (se_esh h)) fun σ H R q => ?_
  refine icut q fun v vs env1 H1 F1 B1 x hk S1 hx hR => ?_
  cases hx with
  | str z => cases hk; exact ⟨z, rfl, hR _ (it_str z)⟩
  | _ => cases hk
end

/-! ### ranges -/
def PostI (T : Tx) (W : WX) (R : It → Hp → Prop) (env : Env) (σ : L2.St) (H : Hp) (F : Nat → List Addr) (B : Hp) (env2 : Env) (r : IRes) : Prop :=
  ∀ H1 F1 B1, RS T env2 σ B1 H1 F1 → Go env σ H F B env2 σ H1 F1 B1 → match r with
  | .items vs => ∀ J Bi, ItOk T J Bi B1 vs → Same Bi H1 → (∀ a o, Bi a = some o → ∀ i, a ∉ F1 i) → R J H1
  | .exc c => W (.ref (He.ga T.K c)) none σ H1
abbrev IF := Env → Option (IRes × Env)
def ibindO (f : EF) (k : Opd → IF) : IF := fun env => match f env with
  | some (.val o, env1) => k o env1
  | some (.exc c, env1) => some (.exc c, env1)
  | none => none
def iargs : List EF → (List Opd → IF) → IF
  | [], k => k []
  | f :: fs, k => ibindO f fun o => iargs fs fun os => k (o :: os)
section
variable {T : Tx} {W : WX} {R : It → Hp → Prop} {σ : L2.St} {r : IRes} {env2 : Env}
theorem PostI.shift {env env1 : Env} {H H1 B B1 : Hp} {F F1 : Nat → List Addr} (S : RS T env σ B H F) (S1 : RS T env1 σ B1 H1 F1) (g : Go env σ H F B env1 σ H1 F1 B1) (p : PostI T W R env σ H F B env2 r) : PostI T W R env1 σ H1 F1 B1 env2 r :=
  fun H2 F2 B2 S2 G2 => p H2 F2 B2 S2 (g.trans S S1 G2)
theorem icutO {env : Env} {H B : Hp} {F : Nat → List Addr} {f : EF} {k : Opd → IF} (S : RS T env σ B H F) (e : ibindO f k env = some (r, env2)) (p : PostI T W R env σ H F B env2 r) {Q' : VK}
    (hq : ∀ o env1 H1 F1 B1 x, k o env1 = some (r, env2) → RS T env1 σ B1 H1 F1 → Go env σ H F B env1 σ H1 F1 B1 → OpdR T env1 σ B1 H1 F1 H x o → PostI T W R env1 σ H1 F1 B1 env2 r → Q' x H1) : eG T W f σ H Q' := by
  unfold ibindO at e
  cases h : f env with
  | none => rw [h] at e; cases e
  | some z =>
    obtain ⟨r1, env1⟩ := z
    rw [h] at e
    refine ⟨env, F, B, r1, env1, S, h, fun H1 F1 B1 S1 G1 => ?_⟩
    cases r1 with
    | val o => exact fun x hx => hq o env1 H1 F1 B1 x e S1 G1 hx (p.shift S S1 G1)
    | exc c =>
      cases e
      exact p H1 F1 B1 S1 G1
theorem iargs_cut : ∀ {fs : List EF} {k : List Opd → IF} {env : Env} {H B : Hp} {F : Nat → List Addr}, RS T env σ B H F → iargs fs k env = some (r, env2) → PostI T W R env σ H F B env2 r →
    ∀ {Q' : List V → Hp → Prop}, (∀ os env1 H1 F1 B1 xs, k os env1 = some (r, env2) → RS T env1 σ B1 H1 F1 → Go env σ H F B env1 σ H1 F1 B1 → OpdsR T env1 σ B1 H1 F1 H xs os → PostI T W R env1 σ H1 F1 B1 env2 r → Q' xs H1) → aR T W fs σ H Q'
  | [], k, env, H, B, F, S, e, p, Q', hq => hq [] env H F B [] e S .refl .nil p
  | f :: fs, k, env, H, B, F, S, e, p, Q', hq => by
    refine icutO S e p fun o env1 H1 F1 B1 x e1 S1 G1 x1 p1 => ?_
    refine iargs_cut S1 e1 p1 fun os env3 H2 F2 B2 xs e2 S2 G2 xs2 p2 => ?_
    refine hq (o :: os) env3 H2 F2 B2 (x :: xs) e2 S2 (G1.trans S S1 G2) (.cons (x1.go S1 S2 G2) ?_) p2
    exact Paired.mapP xs2 fun y o h => h.from G1.al
end
def smallI (j : Int) : Bool := decide (-16000000 ≤ j ∧ j ≤ 16000000)
def sRange1 (f : EF) : IF := ibindO f fun o env => match o.get env with
  | some (.int j) => if smallI j = true then some (.items (rangeV 0 j.toNat), env) else none
  | _ => none
def sRange2 (f g : EF) : IF := ibindO f fun o1 => ibindO g fun o2 => fun env => match o1.get env, o2.get env with
  | some (.int i), some (.int j) => if (smallI i && smallI j) = true then some (.items (rangeV i (j - i).toNat), env) else none
  | _, _ => none
theorem nof {T : Tx} {env : Env} {σ : L2.St} {B H : Hp} {F : Nat → List Addr} (S : RS T env σ B H F) : ∀ a o, B a = some o → ∀ i, a ∉ F i := fun a o e i hi => by rw [S.free i a hi] at e; cases e
section
variable {X : Cx} {W : WX} {tg a b : Expr} {f g : EF} {p pos : Pos}
theorem range_in {i : Int} (h : smallI i = true) : -(2 ^ 62) ≤ i ∧ i < 2 ^ 62 := by
  have := of_decide_eq_true h
  omega
theorem si_range1 (hg : Gl X "range") (hm : X.mg "range" = none) (ha : SA X W [a] [f]) (hs : starEach [a] X.env = [(false, eval a X.env)] := by rfl) : SI X W tg (.Call (.Name "range" p) [a] [] pos) (sRange1 f) := by
  refine PI.mono (pi_range1 hg hm ha hs) fun σ H R q => ?_
  obtain ⟨env, F, B, r, env2, S, e, p⟩ := q
  show eG _ _ f σ H _
  refine icutO S e p fun o env1 H1 F1 B1 x e1 S1 G1 x1 p1 => ?_
  try dsimp only at e1
  split at e1
  · rename_i j hj
    split at e1
    · rename_i hz
      cases e1
      rw [(x1.opr S1 hj).int]
      exact ⟨j, rfl, (range_in hz).1, (range_in hz).2, p1 H1 F1 B1 S1 .refl _ B1 (it_range 0 _) S1.sub (nof S1)⟩
    · cases e1
  · cases e1
theorem si_range2 (hg : Gl X "range") (hm : X.mg "range" = none) (ha : SA X W [a, b] [f, g]) (hs : starEach [a, b] X.env = [(false, eval a X.env), (false, eval b X.env)] := by rfl) (hs2 : starEach [b] X.env = [(false, eval b X.env)] := by rfl) :
    SI X W tg (.Call (.Name "range" p) [a, b] [] pos) (sRange2 f g) := by
  refine PI.mono (pi_range2 hg hm ha hs hs2) fun σ H R q => ?_
  obtain ⟨env, F, B, r, env2, S, e, p⟩ := q
  show eG _ _ f σ H _
  refine icutO S e p fun o1 env1 H1 F1 B1 x e1 S1 G1 x1 p1 => ?_
  show eG _ _ g σ H1 _
  refine icutO S1 e1 p1 fun o2 env3 H2 F2 B2 y e2 S2 G2 y2 p2 => ?_
  try dsimp only at e2
  split at e2
  · rename_i i j hi hj
    split at e2
    · rename_i hz
      cases e2
      obtain ⟨z1, z2⟩ := Bool.and_eq_true_iff.mp hz
      have ex := ((x1.go S1 S2 G2).opr S2 hi).int
      have ey := (y2.opr S2 hj).int
      subst ex ey
      exact ⟨i, j, rfl, ⟨(range_in z1).1, (range_in z1).2, (range_in z2).1, (range_in z2).2⟩, p2 H2 F2 B2 S2 .refl _ B2 (it_range i _) S2.sub (nof S2)⟩
    · cases e2
  · cases e2
end

/-! ### for -/
def forL (t : Tgt) (body : SF) : List Val → SF
  | [], env => some (.nx, env)
  | v :: vs, env => match tgSet t v env with
    | none => none
    | some env1 => match body env1 with
      | some (.nx, env2) => forL t body vs env2
      | some (.ct, env2) => forL t body vs env2
      | some (.brk, env2) => some (.nx, env2)
      | z => z
def sFor (t : Tgt) (it : IF) (body : SF) : SF := fun env => match it env with
  | some (.items vs, env1) => forL t body vs env1
  | some (.exc c, env1) => some (.exc c, env1)
  | none => none
theorem for_mono {T : Tx} {W : WX} {t : Tgt} {it : IF} {body : SF} {D : Ends} {σ : L2.St} {H : Hp} (h : sG T W (sFor t it body) D σ H) : tFor (iG T W it) (gT T.K t) (sG T W body) D σ H := by
  obtain ⟨env, F, B, r, env2, S, e, p⟩ := h
  unfold sFor at e
  cases h : it env with
  | none => rw [h] at e; cases e
  | some z =>
    obtain ⟨r1, env1⟩ := z
    rw [h] at e
    refine ⟨env, F, B, r1, env1, S, h, fun H1 F1 B1 S1 G1 => ?_⟩
    cases r1 with
    | exc c => cases e; exact p σ H1 F1 B1 S1 G1
    | items vs =>
      intro J Bi ok sb nf
      have p1 := p.shift S S1 G1
      have e' : forL t body vs env1 = some (r, env2) := e
      clear e p
      refine ⟨fun i m σ' H' => m + i = vs.length ∧ ∃ env' F' B', RS T env' σ' B' H' F' ∧ Go env1 σ H1 F1 B1 env' σ' H' F' B' ∧ Same Bi H' ∧ (∀ a o, Bi a = some o → ∀ i, a ∉ F' i) ∧ forL t body (vs.drop i) env' = some (r, env2),
        ⟨vs.length, rfl, env1, F1, B1, S1, .refl, sb, nf, e'⟩, ?_⟩
      rintro i m σ' H' ⟨hm, env', F', B', S', G', sb', nf', e2⟩
      by_cases hi : i < vs.length
      · refine .inr ⟨ok.go i H' sb' hi, fun σ3 H3 => (m - 1) + (i + 1) = vs.length ∧ ∃ env' F' B', RS T env' σ3 B' H3 F' ∧ Go env1 σ H1 F1 B1 env' σ3 H3 F' B' ∧ Same Bi H3 ∧ (∀ a o, Bi a = some o → ∀ i, a ∉ F' i) ∧ forL t body (vs.drop (i + 1)) env' = some (r, env2), fun σ3 H3 h3 => ⟨m - 1, by omega, h3⟩, fun x H3 hy => ?_⟩
        obtain ⟨v, B3, hv, g3, hr⟩ := ok.yld i H' x H3 B' sb' G'.kn S'.sub hi hy
        have S3 := g3.rs S'
        have G3 : Go env1 σ H1 F1 B1 env' σ' H3 F' B3 := G'.trans S1 S' g3.go
        have ed : vs.drop i = v :: vs.drop (i + 1) := by
          have q := List.getElem?_eq_some_iff.mp hv
          obtain ⟨q1, q2⟩ := q
          rw [List.drop_eq_getElem_cons q1, q2]
        rw [ed] at e2
        unfold forL at e2
        cases ht : tgSet t v env' with
        | none => rw [ht] at e2; cases e2
        | some env4 =>
          rw [ht] at e2
          refine tg_ok S3 hr ht fun xs F4 S4 G4 => ?_
          have G04 := G3.trans S1 S3 G4
          try dsimp only at e2
          cases hb : body env4 with
          | none => rw [hb] at e2; cases e2
          | some z =>
            obtain ⟨r5, env5⟩ := z
            rw [hb] at e2
            refine ⟨env4, F4, B3, r5, env5, S4, hb, fun σ5 H5 F5 B5 S5 G5 => ?_⟩
            have G05 := G04.trans S1 S4 G5
            have keep : Same Bi H5 := fun a o q => G5.fr a o ((sb'.trans g3.hh) a o q) fun j z => by
              rcases G4.ow j a z with ⟨k, z⟩ | z
              · exact nf' a o q k z
              · rw [(sb'.trans g3.hh) a o q] at z; cases z
            have keepF : ∀ a o, Bi a = some o → ∀ j, a ∉ F5 j := fun a o q j z => by
              rcases G5.ow j a z with ⟨k, z⟩ | z
              · rcases G4.ow k a z with ⟨l, z⟩ | z
                · exact nf' a o q l z
                · rw [(sb'.trans g3.hh) a o q] at z; cases z
              · rw [(sb'.trans g3.hh) a o q] at z; cases z
            cases r5 with
            | nx => exact ⟨by omega, env5, F5, B5, S5, G05, keep, keepF, e2⟩
            | ct => exact ⟨by omega, env5, F5, B5, S5, G05, keep, keepF, e2⟩
            | brk => cases e2; exact p1 σ5 H5 F5 B5 S5 G05
            | ret rv => cases e2; exact fun y hy => p1 σ5 H5 F5 B5 S5 G05 y (hy.shift S1 S4 G04)
            | exc c => cases e2; exact p1 σ5 H5 F5 B5 S5 G05
      · have hl : vs.length ≤ i := Nat.le_of_not_lt hi
        refine .inl ⟨ok.stop i H' sb' hl, ?_⟩
        rw [List.drop_eq_nil_of_le hl] at e2
        cases e2
        exact p1 σ' H' F' B' S' G'
theorem ss_for {X : Cx} {W : WX} {t : Tgt} {it : IF} {g : SF} {tg iter : Expr} {body : List Stmt} {pos : Pos} (hp : PassesOwn (model X.prog X.w) X.A X.env X.xe) (hc : X.calm = true) (hi : SI X W tg iter it) (hg : L2.PG X tg (gT X.K t)) (hb : SSs X W body g)
    (hs : ∀ x, foldedSetIterable iter X.env x = pure x := by intro _; rfl) : SS X W (.For tg iter body [] pos) (sFor t it g) := PS.mono (ps_for hp hc hi hg hb hs) fun _ _ _ h => for_mono h
/-! ### while -/
def whileN (c : EF) (body : SF) : Nat → SF
  | 0 => fun _ => none
  | n + 1 => obind c fun o => match o with
    | .shr (.bl true) => fun env => match body env with
      | some (.nx, env2) => whileN c body n env2
      | some (.ct, env2) => whileN c body n env2
      | some (.brk, env2) => some (.nx, env2)
      | z => z
    | .shr (.bl false) => fun env => some (.nx, env)
    | _ => fun _ => none
theorem while_mono {T : Tx} {W : WX} {c : EF} {body : SF} {n : Nat} {D : Ends} {σ : L2.St} {H : Hp} (h : sG T W (whileN c body n) D σ H) : tWhile (tG T W c) (sG T W body) D σ H := by
  obtain ⟨env, F, B, r, env2, S, e, p⟩ := h
  refine ⟨fun m σ' H' => ∃ env' F' B', RS T env' σ' B' H' F' ∧ Go env σ H F B env' σ' H' F' B' ∧ whileN c body m env' = some (r, env2), ⟨n, env, F, B, S, .refl, e⟩, ?_⟩
  rintro m σ' H' ⟨env', F', B', S', G', e1⟩
  cases m with
  | zero => cases e1
  | succ m =>
    have p1 := p.shift S S' G'
    unfold whileN at e1
    refine ocutT S' e1 p1 (fun o env1 e2 => ?_) fun b env1 H1 F1 B1 e2 S1 G1 => ?_
    · try dsimp only at e2
      split at e2
      · exact ⟨_, rfl⟩
      · exact ⟨_, rfl⟩
      · cases e2
    · have G01 := G'.trans S S' G1
      cases b with
      | false => cases e2; exact iteF (p1 σ' H1 F1 B1 S1 G1)
      | true =>
        refine iteT ⟨fun σ3 H3 => ∃ env' F' B', RS T env' σ3 B' H3 F' ∧ Go env σ H F B env' σ3 H3 F' B' ∧ whileN c body m env' = some (r, env2), fun σ3 H3 h3 => ⟨m, Nat.lt_succ_self m, h3⟩, ?_⟩
        try dsimp only at e2
        cases hb : body env1 with
        | none => rw [hb] at e2; cases e2
        | some z =>
          obtain ⟨r5, env5⟩ := z
          rw [hb] at e2
          refine ⟨env1, F1, B1, r5, env5, S1, hb, fun σ5 H5 F5 B5 S5 G5 => ?_⟩
          have G05 := G01.trans S S1 G5
          cases r5 with
          | nx => exact ⟨env5, F5, B5, S5, G05, e2⟩
          | ct => exact ⟨env5, F5, B5, S5, G05, e2⟩
          | brk => cases e2; exact p σ5 H5 F5 B5 S5 G05
          | ret rv => cases e2; exact fun y hy => p σ5 H5 F5 B5 S5 G05 y (hy.shift S S1 G01)
          | exc c => cases e2; exact p σ5 H5 F5 B5 S5 G05
theorem ss_while {X : Cx} {W : WX} {n : Nat} {c : Expr} {f : EF} {g : SF} {body : List Stmt} {pos : Pos} (hp : PassesOwn (model X.prog X.w) X.A X.env X.xe) (hc : ST X W c f) (hb : SSs X W body g) : SS X W (.While c body [] pos) (whileN f g n) := PS.mono (ps_while hp hc hb) fun _ _ _ h => while_mono h
end Lw

end
section
set_option Elab.async false
set_option linter.all false
set_option maxRecDepth 100000
set_option maxHeartbeats 1000000
set_option autoImplicit false
/-! Lw: list comprehensions. -/
namespace Lw
open PySem L2

def plainS : Slot → Bool
  | .un => true
  | .shr _ => true
  | _ => false
def plainAt (env : Env) (j : Nat) : Bool := match env[j]? with
  | some s => plainS s
  | none => true
def wipeE (env : Env) : List Nat → Env
  | [] => env
  | j :: js => (wipeE env js).set j .un
def restE (env0 env : Env) : List Nat → Env
  | [] => env
  | j :: js => (restE env0 env js).set j ((env0[j]?).getD .un)
def wipe? (env : Env) (cl : List Nat) : Option Env := if (cl.all fun j => plainAt env j) = true then some (wipeE env cl) else none
section
variable {env env0 env1 : Env} {cl : List Nat} {k : Nat}
theorem wipeE_len : ∀ cl : List Nat, (wipeE env cl).length = env.length
  | [] => rfl
  | j :: js => by unfold wipeE; rw [List.length_set, wipeE_len js]
theorem restE_len : ∀ cl : List Nat, (restE env0 env cl).length = env.length
  | [] => rfl
  | j :: js => by unfold restE; rw [List.length_set, restE_len js]
theorem wipeE_in : ∀ {cl : List Nat}, k ∈ cl → ∀ s, (wipeE env cl)[k]? = some s → s = .un
  | j :: js, h, s, e => by
    unfold wipeE at e
    by_cases q : j = k
    · subst q
      by_cases hl : j < (wipeE env js).length
      · rw [List.getElem?_set_self hl] at e; exact (Option.some.inj e).symm
      · rw [List.getElem?_eq_none (by simpa using hl)] at e; cases e
    · rw [List.getElem?_set_ne q] at e
      rcases List.mem_cons.mp h with z | z
      · exact absurd z.symm q
      · exact wipeE_in z s e
theorem wipeE_out : ∀ {cl : List Nat}, k ∉ cl → (wipeE env cl)[k]? = env[k]?
  | [], _ => rfl
  | j :: js, h => by
    unfold wipeE
    rw [List.getElem?_set_ne (fun z => h (by simp [z])), wipeE_out fun z => h (List.mem_cons_of_mem _ z)]
theorem restE_in (hl : env0.length = env.length) : ∀ {cl : List Nat}, k ∈ cl → (restE env0 env cl)[k]? = env0[k]?
  | j :: js, h => by
    unfold restE
    by_cases q : j = k
    · subst q
      by_cases hj : j < env.length
      · rw [List.getElem?_set_self (by rw [restE_len]; exact hj), List.getElem?_eq_getElem (by omega)]; rfl
      · rw [List.getElem?_eq_none (by rw [List.length_set, restE_len]; omega), List.getElem?_eq_none (by omega)]
    · rw [List.getElem?_set_ne q]
      rcases List.mem_cons.mp h with z | z
      · exact absurd z.symm q
      · exact restE_in hl z
theorem restE_out : ∀ {cl : List Nat}, k ∉ cl → (restE env0 env cl)[k]? = env[k]?
  | [], _ => rfl
  | j :: js, h => by
    unfold restE
    rw [List.getElem?_set_ne (fun z => h (by simp [z])), restE_out fun z => h (List.mem_cons_of_mem _ z)]
theorem wipe_in {σ : L2.St} : ∀ {cl : List Nat}, k ∈ cl → (wipe σ cl)[k]? = (σ[k]?).map fun _ => none
  | j :: js, h => by
    unfold wipe
    by_cases q : j = k
    · subst q
      by_cases hl : j < σ.length
      · rw [List.getElem?_set_self (by rw [wipe_length]; exact hl), List.getElem?_eq_getElem hl]; rfl
      · rw [List.getElem?_eq_none (by rw [List.length_set, wipe_length]; omega), List.getElem?_eq_none (by omega)]; rfl
    · rw [List.getElem?_set_ne q]
      rcases List.mem_cons.mp h with z | z
      · exact absurd z.symm q
      · exact wipe_in z
theorem wipe_out' {σ : L2.St} : ∀ {cl : List Nat}, k ∉ cl → (wipe σ cl)[k]? = σ[k]?
  | [], _ => rfl
  | j :: js, h => by
    unfold wipe
    rw [List.getElem?_set_ne (fun z => h (by simp [z])), wipe_out' fun z => h (List.mem_cons_of_mem _ z)]
theorem setSt_len : ∀ (is : List Nat) (xs : List V) (σ : L2.St), (setSt σ is xs).length = σ.length
  | [], _, _ => by unfold setSt; rfl
  | _ :: _, [], _ => rfl
  | i :: is, x :: xs, σ => by
    show (setSt (σ.set i (some x)) is xs).length = _
    rw [setSt_len is xs, List.length_set]
theorem setSt_out : ∀ {is : List Nat} {xs : List V} {σ : L2.St}, k ∉ is → (setSt σ is xs)[k]? = σ[k]?
  | [], _, _, _ => by unfold setSt; rfl
  | _ :: _, [], _, _ => rfl
  | i :: is, x :: xs, σ, h => by
    show (setSt (σ.set i (some x)) is xs)[k]? = _
    rw [setSt_out fun z => h (List.mem_cons_of_mem _ z), List.getElem?_set_ne fun z => h (by simp [z])]
theorem map_const_len {α β : Type} {l l' : List α} (h : l.length = l'.length) (c : β) : (l[k]?).map (fun _ => c) = (l'[k]?).map fun _ => c := by
  by_cases hk : k < l.length
  · rw [List.getElem?_eq_getElem hk, List.getElem?_eq_getElem (by omega)]; rfl
  · rw [List.getElem?_eq_none (by omega), List.getElem?_eq_none (by omega)]
theorem wipe_set {σ : L2.St} {is : List Nat} {xs : List V} (h : ∀ i ∈ is, i ∈ cl) : wipe (setSt (wipe σ cl) is xs) cl = wipe σ cl := by
  refine List.ext_getElem? fun k => ?_
  by_cases hk : k ∈ cl
  · rw [wipe_in hk, wipe_in hk]
    exact map_const_len (by rw [setSt_len, wipe_length]) _
  · rw [wipe_out' hk, setSt_out fun z => hk (h k z)]
variable {T : Tx} {σ : L2.St} {B H : Hp} {F : Nat → List Addr}
theorem plain_of (h : (cl.all fun j => plainAt env j) = true) (hk : k ∈ cl) : own? env k = none := by
  have q := List.all_eq_true.mp h k hk
  unfold own?
  unfold plainAt at q
  cases e : env[k]? with
  | none => rfl
  | some s =>
    rw [e] at q
    cases s with
    | un => rfl
    | shr v => rfl
    | own v => cases q
    | io v => cases q
theorem own_wipe_in (hk : k ∈ cl) : own? (wipeE env cl) k = none := by
  unfold own?
  cases e : (wipeE env cl)[k]? with
  | none => rfl
  | some s => rw [wipeE_in hk s e]; rfl
theorem own_wipe_out (hk : k ∉ cl) : own? (wipeE env cl) k = own? env k := by unfold own?; rw [wipeE_out hk]
theorem RS.wipe (S : RS T env σ B H F) (h : (cl.all fun j => plainAt env j) = true) : RS T (wipeE env cl) (wipe σ cl) B H F where
  sub := S.sub
  len := by rw [wipe_length, wipeE_len]; exact S.len
  shr := fun i v e => by
    by_cases hk : i ∈ cl
    · cases wipeE_in hk _ e
    · rw [wipeE_out hk] at e
      rw [wipe_out' hk]
      exact S.shr i v e
  own := fun i v e => by
    by_cases hk : i ∈ cl
    · rw [own_wipe_in hk] at e; cases e
    · rw [own_wipe_out hk] at e
      rw [wipe_out' hk]
      exact S.own i v e
  non := fun i e => by
    by_cases hk : i ∈ cl
    · exact S.non i (plain_of h hk)
    · rw [own_wipe_out hk] at e; exact S.non i e
  free := S.free
  disj := S.disj
theorem io_out (h : (cl.all fun j => plainAt env j) = true) {v : Val} (e : env[k]? = some (Slot.io v)) : k ∉ cl := fun hk => by
  have := plain_of h hk
  rw [own_io e] at this; cases this
theorem own_out (h : (cl.all fun j => plainAt env j) = true) {v : Val} (e : env[k]? = some (Slot.own v)) : k ∉ cl := fun hk => by
  have := plain_of h hk
  rw [own_own e] at this; cases this
theorem Go.wipe (h : (cl.all fun j => plainAt env j) = true) : Go env σ H F B (wipeE env cl) (L2.wipe σ cl) H F B where
  fr := fun _ _ e _ => e
  al := fun _ e => e
  kn := Same.refl _
  nb := fun _ _ e => .inl e
  ow := fun i a q => .inl ⟨i, q⟩
  io := fun i v e => ⟨v, by rw [wipeE_out (io_out h e)]; exact e, wipe_out' (io_out h e), fun _ q => q⟩
  iw := fun i v e => by
    by_cases hk : i ∈ cl
    · cases wipeE_in hk _ e
    · rw [wipeE_out hk] at e; exact ⟨v, e⟩
  ln := wipeE_len cl
/-- behind the comprehension its own names are what they were -/
theorem RS.rest {B1 H1 : Hp} {F1 : Nat → List Addr} (S : RS T env σ B H F) (h : (cl.all fun j => plainAt env j) = true) (S1 : RS T env1 (L2.wipe σ cl) B1 H1 F1) (hw : (cl.all fun j => plainAt env1 j) = true) (kn : Same B B1) : RS T (restE env env1 cl) σ B1 H1 F1 := by
  have hl : env.length = env1.length := by rw [← S.len, ← S1.len, wipe_length]
  have oin : ∀ {k}, k ∈ cl → own? (restE env env1 cl) k = none := fun {k} hk => by unfold own?; rw [restE_in hl hk]; exact plain_of h hk
  have oout : ∀ {k}, k ∉ cl → own? (restE env env1 cl) k = own? env1 k := fun {k} hk => by unfold own?; rw [restE_out hk]
  refine ⟨S1.sub, by rw [restE_len, ← hl]; exact S.len, fun i v e => ?_, fun i v e => ?_, fun i e => ?_, S1.free, S1.disj⟩
  · by_cases hk : i ∈ cl
    · rw [restE_in hl hk] at e
      obtain ⟨x, h1, h2⟩ := S.shr i v e
      exact ⟨x, h1, h2.mono kn⟩
    · rw [restE_out hk] at e
      obtain ⟨x, h1, h2⟩ := S1.shr i v e
      rw [wipe_out' hk] at h1
      exact ⟨x, h1, h2⟩
  · by_cases hk : i ∈ cl
    · rw [oin hk] at e; cases e
    · rw [oout hk] at e
      obtain ⟨a, h1, h2⟩ := S1.own i v e
      rw [wipe_out' hk] at h1
      exact ⟨a, h1, h2⟩
  · by_cases hk : i ∈ cl
    · exact S1.non i (plain_of hw hk)
    · rw [oout hk] at e; exact S1.non i e
theorem Go.rest {B1 H1 : Hp} {F1 : Nat → List Addr} (hl : env.length = env1.length) (h : (cl.all fun j => plainAt env j) = true) (G : Go (wipeE env cl) (L2.wipe σ cl) H F B env1 (L2.wipe σ cl) H1 F1 B1) : Go env σ H F B (restE env env1 cl) σ H1 F1 B1 where
  fr := G.fr
  al := G.al
  kn := G.kn
  nb := fun a o e => by
    rcases G.nb a o e with z | z | ⟨i, v, z, m⟩
    · exact .inl z
    · exact .inr (.inl z)
    · by_cases hk : i ∈ cl
      · cases wipeE_in hk _ z
      · rw [wipeE_out hk] at z; exact .inr (.inr ⟨i, v, z, m⟩)
  ow := G.ow
  io := fun i v e => by
    have hk := io_out h e
    obtain ⟨v1, e1, _, m⟩ := G.io i v (by rw [wipeE_out hk]; exact e)
    exact ⟨v1, by rw [restE_out hk]; exact e1, rfl, m⟩
  iw := fun i v e => by
    by_cases hk : i ∈ cl
    · rw [restE_in hl hk] at e; exact ⟨v, e⟩
    · rw [restE_out hk] at e
      obtain ⟨v0, e0⟩ := G.iw i v e
      rw [wipeE_out hk] at e0
      exact ⟨v0, e0⟩
  ln := by rw [restE_len, ← hl]
/-- an object that nobody knows and no slot owns is changed -/
theorem RS.updO {a : Addr} {o : HO} (S : RS T env σ B H F) (hb : B a = none) (hf : ∀ i, a ∉ F i) : RS T env σ B (upd H a o) F where
  sub := fun b u e => by rw [upd_ne (ne_of_none e hb)]; exact S.sub b u e
  len := S.len
  shr := S.shr
  own := fun i v e => let ⟨c, h1, h2⟩ := S.own i v e; ⟨c, h1, h2.mono (Same.refl _) fun b hb' u q => by rw [upd_ne (show b ≠ a from fun z => hf i (by rw [← z]; exact hb'))]; exact q⟩
  non := S.non
  free := S.free
  disj := S.disj
theorem Go.updO {env0 : Env} {σ0 : L2.St} {H0 B0 : Hp} {F0 : Nat → List Addr} {a : Addr} {o : HO} (G : Go env0 σ0 H0 F0 B0 env σ H F B) (h0 : H0 a = none) : Go env0 σ0 H0 F0 B0 env σ (upd H a o) F B where
  fr := fun b u e n => by rw [upd_ne (ne_of_none e h0)]; exact G.fr b u e n
  al := fun b e => by
    by_cases q : b = a
    · subst q; exact h0
    · rw [upd_ne q] at e; exact G.al b e
  kn := G.kn
  nb := G.nb
  ow := G.ow
  io := G.io
  iw := G.iw
  ln := G.ln
end

/-! ### the comprehension -/
def lcL (t : Tgt) (cl : List Nat) (tt te : EF) : List Val → List Val → Env → Option (List Val × Env)
  | [], acc, env => some (acc, env)
  | v :: vs, acc, env => match tgSet t v env with
    | none => none
    | some env1 => match tt env1 with
      | some (.val (.shr (.bl true)), env2) => (match esh te env2 with
        | some (.val (.shr w), env3) => if acc.length < 16000000 then (match wipe? env3 cl with
          | some env4 => lcL t cl tt te vs (acc ++ [w]) env4
          | none => none) else none
        | _ => none)
      | some (.val (.shr (.bl false)), env2) => (match wipe? env2 cl with
          | some env4 => lcL t cl tt te vs acc env4
          | none => none)
      | _ => none
def sLC (t : Tgt) (cl : List Nat) (it : IF) (tt te : EF) : EF := fun env => match it env with
  | some (.items vs, env1) => (match wipe? env1 cl with
    | some envw => (match lcL t cl tt te vs [] envw with
      | some (ws, env2) => if (cl.all fun j => plainAt env2 j) = true then some (.val (.new (.lst ws)), restE env1 env2 cl) else none
      | none => none)
    | none => none)
  | some (.exc c, env1) => some (.exc c, env1)
  | none => none
abbrev W0 : WX := fun _ _ _ _ => False
theorem wipe?_inv {env env1 : Env} {cl : List Nat} (h : wipe? env cl = some env1) : (cl.all fun j => plainAt env j) = true ∧ env1 = wipeE env cl := by
  unfold wipe? at h
  split at h
  · rename_i q; exact ⟨q, (Option.some.inj h).symm⟩
  · cases h
theorem lc_mono {T : Tx} {W : WX} {t : Tgt} {cl : List Nat} {it : IF} {tt te : EF} {σ : L2.St} {H : Hp} {Q : VK} (hsub : ∀ i ∈ t.is, i ∈ cl) (h : eG T W (sLC t cl it tt te) σ H Q) : tLc (iG T W it) (gT T.K t) (tG T W0 tt) (eG T W0 (esh te)) cl σ H Q := by
  obtain ⟨env, F, B, r, env2, S, e, p⟩ := h
  unfold sLC at e
  cases h : it env with
  | none => rw [h] at e; cases e
  | some z =>
    obtain ⟨r1, env1⟩ := z
    rw [h] at e
    refine ⟨env, F, B, r1, env1, S, h, fun H1 F1 B1 S1 G1 => ?_⟩
    cases r1 with
    | exc c => cases e; exact p H1 F1 B1 S1 G1
    | items vs =>
      intro J Bi ok sb nf D nD
      try dsimp only at e
      cases hw : wipe? env1 cl with
      | none => rw [hw] at e; cases e
      | some envw =>
        rw [hw] at e
        obtain ⟨pl, ew⟩ := wipe?_inv hw
        try dsimp only at e
        cases hl : lcL t cl tt te vs [] envw with
        | none => rw [hl] at e; cases e
        | some z =>
          obtain ⟨ws, env3⟩ := z
          rw [hl] at e
          try dsimp only at e
          split at e
          · rename_i pl3
            cases e
            subst ew
            have Sw := S1.wipe pl
            have nDw : ∀ i, D ∉ F1 i := S1.fresh nD
            refine ⟨fun i m H' => m + i = vs.length ∧ ∃ env' F' B' acc ys, RS T env' (wipe σ cl) B' H' F' ∧ Go (wipeE env1 cl) (wipe σ cl) H1 F1 B1 env' (wipe σ cl) H' F' B' ∧ Same Bi H' ∧ (∀ a o, Bi a = some o → ∀ i, a ∉ F' i) ∧
                H' D = some (.lst ys) ∧ RepAll T B' ys acc ∧ B' D = none ∧ (∀ i, D ∉ F' i) ∧ lcL t cl tt te (vs.drop i) acc env' = some (ws, env3),
              ⟨vs.length, rfl, _, F1, B1, [], [], Sw.updO (S1.bnone nD) nDw, Go.refl.updO nD, fun a o q => by rw [upd_ne (ne_of_none (sb a o q) nD)]; exact sb a o q, nf, upd_same, .nil, S1.bnone nD, nDw, hl⟩, ?_⟩
            rintro i m H' ⟨hm, env', F', B', acc, ys, S', G', sb', nf', hD, R, bD, fD, e2⟩
            by_cases hi : i < vs.length
            · refine .inr ⟨ok.go i H' sb' hi, fun H3 => (m - 1) + (i + 1) = vs.length ∧ ∃ env' F' B' acc ys, RS T env' (wipe σ cl) B' H3 F' ∧ Go (wipeE env1 cl) (wipe σ cl) H1 F1 B1 env' (wipe σ cl) H3 F' B' ∧ Same Bi H3 ∧ (∀ a o, Bi a = some o → ∀ i, a ∉ F' i) ∧
                H3 D = some (.lst ys) ∧ RepAll T B' ys acc ∧ B' D = none ∧ (∀ i, D ∉ F' i) ∧ lcL t cl tt te (vs.drop (i + 1)) acc env' = some (ws, env3), fun H3 h3 => ⟨m - 1, by omega, h3⟩, fun x H3 hy => ?_⟩
              obtain ⟨v, B3, hv, g3, hr⟩ := ok.yld i H' x H3 B' sb' G'.kn S'.sub hi hy
              have S3 := g3.rs S'
              have G3 := G'.trans Sw S' g3.go
              have ed : vs.drop i = v :: vs.drop (i + 1) := by
                obtain ⟨q1, q2⟩ := List.getElem?_eq_some_iff.mp hv
                rw [List.drop_eq_getElem_cons q1, q2]
              rw [ed] at e2
              unfold lcL at e2
              cases ht : tgSet t v env' with
              | none => rw [ht] at e2; cases e2
              | some env4 =>
                rw [ht] at e2
                refine tg_ok S3 hr ht fun xs F4 S4 G4 => ?_
                have G04 := G3.trans Sw S3 G4
                refine ⟨wipe_set hsub, ?_⟩
                try dsimp only at e2
                -- what stays of the list
                have stay : ∀ {σ5 : L2.St} {env5 : Env} {H5 B5 : Hp} {F5 : Nat → List Addr}, RS T env5 σ5 B5 H5 F5 → Go env' (wipe σ cl) H' F' B' env5 σ5 H5 F5 B5 → H5 D = some (.lst ys) ∧ RepAll T B5 ys acc ∧ B5 D = none ∧ (∀ i, D ∉ F5 i) ∧ Same Bi H5 ∧ ∀ a o, Bi a = some o → ∀ i, a ∉ F5 i := fun {σ5 env5 H5 B5 F5} S5 G5 => by
                  have fD5 : ∀ i, D ∉ F5 i := fun j z => by
                    rcases G5.ow j D z with ⟨k, z⟩ | z
                    · exact fD k z
                    · rw [hD] at z; cases z
                  refine ⟨G5.fr D _ hD fD, R.mono G5.kn, ?_, fD5, fun a o q => G5.fr a o (sb' a o q) (nf' a o q), fun a o q j z => ?_⟩
                  · cases q : B5 D with
                    | none => rfl
                    | some u =>
                      rcases G5.nb D u q with z | z | ⟨k, _, _, z⟩
                      · rw [bD] at z; cases z
                      · rw [hD] at z; cases z
                      · exact absurd z (fD k)
                  · rcases G5.ow j a z with ⟨k, z⟩ | z
                    · exact nf' a o q k z
                    · rw [sb' a o q] at z; cases z
                have Gs4 : Go env' (wipe σ cl) H' F' B' env4 (setSt (wipe σ cl) t.is xs) H3 F4 B3 := g3.go.trans S' S3 G4
                split at e2
                · -- the test says yes
                  rename_i env5 h5
                  refine ⟨env4, F4, B3, _, env5, S4, h5, fun o ho => ⟨true, (ERes.val.inj ho).symm⟩, fun H5 F5 B5 S5 G5 => fun z hz => ⟨true, Rep.bl_inv hz, iteT ?_⟩⟩
                  split at e2
                  · rename_i w env6 h6
                    refine ⟨env5, F5, B5, _, env6, S5, h6, fun H6 F6 B6 S6 G6 => fun y hy => ?_⟩
                    split at e2
                    · rename_i hsz
                      split at e2
                      · rename_i env7 h7
                        obtain ⟨pl7, e7⟩ := wipe?_inv h7
                        subst e7
                        have Gs6 := (Gs4.trans S' S4 G5).trans S' S5 G6
                        obtain ⟨k1, k2, k3, k4, k5, k6⟩ := stay S6 Gs6
                        refine ⟨ys, k1, by rw [k2.length]; exact line_lt hsz, by omega, _, F6, B6, acc ++ [w], ys ++ [y], ?_, ?_, ?_, k6, upd_same, k2.append (.cons hy .nil), k3, k4, e2⟩
                        · have q := (S6.wipe pl7).updO (o := .lst (ys ++ [y])) k3 k4
                          rw [wipe_set hsub] at q
                          exact q
                        · have q := (((G04.trans Sw S4 G5).trans Sw S5 G6).trans Sw S6 (Go.wipe pl7)).updO (o := .lst (ys ++ [y])) nD
                          rw [wipe_set hsub] at q
                          exact q
                        · intro a o q
                          rw [upd_ne fun z => by subst z; rw [sb a o q] at nD; cases nD]
                          exact k5 a o q
                      · cases e2
                    · cases e2
                  · cases e2
                · -- no
                  rename_i env5 h5
                  refine ⟨env4, F4, B3, _, env5, S4, h5, fun o ho => ⟨false, (ERes.val.inj ho).symm⟩, fun H5 F5 B5 S5 G5 => fun z hz => ⟨false, Rep.bl_inv hz, iteF ?_⟩⟩
                  split at e2
                  · rename_i env7 h7
                    obtain ⟨pl7, e7⟩ := wipe?_inv h7
                    subst e7
                    have Gs5 := Gs4.trans S' S4 G5
                    obtain ⟨k1, k2, k3, k4, k5, k6⟩ := stay S5 Gs5
                    refine ⟨by omega, _, F5, B5, acc, ys, ?_, ?_, k5, k6, k1, k2, k3, k4, e2⟩
                    · have q := S5.wipe pl7
                      rw [wipe_set hsub] at q
                      exact q
                    · have q := (G04.trans Sw S4 G5).trans Sw S5 (Go.wipe pl7)
                      rw [wipe_set hsub] at q
                      exact q
                  · cases e2
                · cases e2
            · have hle : vs.length ≤ i := Nat.le_of_not_lt hi
              refine .inl ⟨ok.stop i H' sb' hle, ?_⟩
              rw [List.drop_eq_nil_of_le hle] at e2
              cases e2
              have hlen : env1.length = env3.length := by rw [← S1.len, ← S'.len, wipe_length]
              have Sr := S1.rest pl S' pl3 G'.kn
              have Gr := Go.rest hlen pl G'
              exact p H' F' B' Sr (G1.trans S S1 Gr) (.ref D) ⟨D, [D], rfl, .lst hD R, fun b hb => by
                rw [List.mem_singleton] at hb; subst hb; exact ⟨G1.al _ nD, bD, fD⟩⟩
          · cases e
section
variable {X : Cx} {W : WX} {elt tg iter : Expr} {ifs : List Expr} {scope : Scope} {own : List (Str × Nat)} {pos spos : Pos} {t : Tgt} {cl : List Nat} {it : IF} {tt te : EF}
def sYes : EF := fun env => some (.val (.shr (.bl true)), env)
abbrev STs (X : Cx) (W : WX) (ifs : List Expr) (f : EF) : Prop := PTs X ifs (tG (tx X) W f)
theorem sts_nil : STs X W [] sYes := ⟨fun pins s σ H Q I h => pts_nil.run pins s σ H Q I (by
  obtain ⟨env, F, B, r, env1, S, e, _, p⟩ := h
  cases e
  obtain ⟨b, hb, q⟩ := p H F B S .refl (.bl true) (.bl true)
  cases hb
  exact q)⟩
theorem sts_one {c : Expr} {f : EF} (h : ST X W c f) : STs X W [c] f := pts_one h
theorem se_lc (hc : X.calm = true) (hN : X.N.Nodup) (hi : SI X W tg iter it) (ok : BlkOk X.N X.env.scope scope own)
    (hg : ∀ (s : Shared) (H : Hp) (C : Addr) (cs : List (Str × Addr)) (fp : List Addr), L2.PG (X.blk s H scope (compEnvC scope cs C X.env) fp) tg (gT X.K t)) (ht : ∀ (s : Shared) (H : Hp) (C : Addr) (cs : List (Str × Addr)) (fp : List Addr), STs (X.blk s H scope (compEnvC scope cs C X.env) fp) W0 ifs tt)
    (he : ∀ (s : Shared) (H : Hp) (C : Addr) (cs : List (Str × Addr)) (fp : List Addr), SE (X.blk s H scope (compEnvC scope cs C X.env) fp) W0 elt te) (hcl : own.map (·.2) = cl) (hsub : ∀ i ∈ t.is, i ∈ cl) (hs : ∀ x, foldedSetIterable iter X.env x = pure x := by intro _; rfl) :
    SE X W (.ListComp elt [⟨tg, iter, ifs, 0⟩] scope pos) (sLC t cl it tt te) := by
  refine PE.mono (pe_lc (tt := tG (tx X) W0 tt) (te := eG (tx X) W0 (esh te)) hc hN hi ok hg ht (fun s H C cs fp => se_esh (he s H C cs fp)) hs) fun σ H Q q => ?_
  rw [hcl]
  exact lc_mono hsub q
/-- y = [..] -/
theorem ss_setLc {i : Nat} {y : Str} {py : Pos} (hc : X.calm = true) (hN : X.N.Nodup) (hy : X.N[i]? = some y) (hyl : X.env.scope.names.lookup y = some .local)
    (hsw : swapsWith (.ListComp elt [⟨tg, iter, ifs, 0⟩] scope pos) (some (.Name y py)) spos.line X.env = pure true) (hi : SI X W tg iter it) (ok : BlkOk X.N X.env.scope scope own)
    (hg : ∀ (s : Shared) (H : Hp) (C : Addr) (cs : List (Str × Addr)) (fp : List Addr), L2.PG (X.blk s H scope (compEnvC scope cs C X.env) fp) tg (gT X.K t)) (ht : ∀ (s : Shared) (H : Hp) (C : Addr) (cs : List (Str × Addr)) (fp : List Addr), STs (X.blk s H scope (compEnvC scope cs C X.env) fp) W0 ifs tt)
    (he : ∀ (s : Shared) (H : Hp) (C : Addr) (cs : List (Str × Addr)) (fp : List Addr), SE (X.blk s H scope (compEnvC scope cs C X.env) fp) W0 elt te) (hcl : own.map (·.2) = cl) (hsub : ∀ i ∈ t.is, i ∈ cl) (hs : ∀ x, foldedSetIterable iter X.env x = pure x := by intro _; rfl) :
    SS X W (.Assign [.Name y py] (.ListComp elt [⟨tg, iter, ifs, 0⟩] scope pos) spos) (sAsg i (sLC t cl it tt te)) := by
  refine PS.mono (ps_setLc (tt := tG (tx X) W0 tt) (te := eG (tx X) W0 (esh te)) hc hN hy hyl hsw hi ok hg ht (fun s H C cs fp => se_esh (he s H C cs fp)) hs) fun D σ H q => ?_
  rw [hcl]
  exact lc_mono hsub (eun_mono (asg_mono q))
end
end Lw

end
section
set_option Elab.async false
set_option linter.all false
set_option maxRecDepth 100000
set_option maxHeartbeats 1000000
set_option autoImplicit false
/-! Lw: defs, calls, raise. -/
namespace Lw
open PySem L2

inductive ORes where
  | ret (r : RV) | exc (c : Str)
/-- a def: from its parameters' slots -/
abbrev Fn := List Slot → Option (ORes × List Slot)
/-- what was handed in to be changed, as it is now -/
def ioOut : List Slot → Env → List Slot
  | .io _ :: ss, e :: es => e :: ioOut ss es
  | _ :: ss, _ :: es => .un :: ioOut ss es
  | _, _ => []
def nown : Slot → Bool
  | .own _ => false
  | _ => true
def runF (k n : Nat) (g : SF) : Fn := fun slots => if (slots.length == k && slots.all nown) = true then (match g (slots ++ List.replicate (n - k) .un) with
  | some (.nx, env1) => some (.ret (.shr .non), ioOut slots env1)
  | some (.ret r, env1) => some (.ret r, ioOut slots env1)
  | some (.exc c, env1) => some (.exc c, ioOut slots env1)
  | _ => none) else none
/-- a def's promise -/
def spF (T : Tx) (k : Nat) (φ : Fn) : Sp := fun vs H Q E => vs.length = k ∧ ∃ slots B F o slots1, RS T slots (vs.map some) B H F ∧ slots.all nown = true ∧ φ slots = some (o, slots1) ∧
  ∀ H1 B1 F1, RS T slots1 (vs.map some) B1 H1 F1 → Go slots (vs.map some) H F B slots1 (vs.map some) H1 F1 B1 → match o with
  | .ret r => ∀ x, RetR T slots H F slots1 B1 H1 F1 x r → Q x H1
  | .exc c => E (.ref (He.ga T.K c)) none H1
section
variable {T : Tx}
theorem ioOut_get : ∀ {ss : List Slot} {es : Env} {i : Nat} {s : Slot}, (ioOut ss es)[i]? = some s → (∃ v, ss[i]? = some (.io v) ∧ es[i]? = some s) ∨ ((∀ v, ss[i]? ≠ some (.io v)) ∧ s = .un)
  | [], es, i, s, h => by unfold ioOut at h; simp at h
  | s0 :: ss, [], i, s, h => by unfold ioOut at h; simp at h
  | s0 :: ss, e :: es, i, s, h => by
    cases i with
    | zero =>
      cases s0 with
      | io v => have h' : some e = some s := h; exact .inl ⟨v, rfl, h'⟩
      | un => have h' : some Slot.un = some s := h; exact .inr ⟨(fun v z => nomatch z), (Option.some.inj h').symm⟩
      | shr w => have h' : some Slot.un = some s := h; exact .inr ⟨(fun v z => nomatch z), (Option.some.inj h').symm⟩
      | own w => have h' : some Slot.un = some s := h; exact .inr ⟨(fun v z => nomatch z), (Option.some.inj h').symm⟩
    | succ i =>
      have h' : (ioOut ss es)[i]? = some s := by cases s0 <;> exact h
      have q := ioOut_get h'
      simpa using q
theorem ioOut_io : ∀ {ss : List Slot} {es : Env} {i : Nat} {v : Val} {s : Slot}, ss[i]? = some (.io v) → es[i]? = some s → (ioOut ss es)[i]? = some s
  | [], es, i, v, s, h, _ => by simp at h
  | s0 :: ss, [], i, v, s, _, h => by simp at h
  | s0 :: ss, e :: es, i, v, s, h, h2 => by
    cases i with
    | zero =>
      have e1 : s0 = .io v := by simpa using h
      subst e1
      exact h2
    | succ i =>
      have q := ioOut_io (ss := ss) (es := es) (i := i) (v := v) (s := s) (by simpa using h) (by simpa using h2)
      cases s0 <;> exact q
theorem ioOut_len : ∀ {ss : List Slot} {es : Env}, ss.length ≤ es.length → (ioOut ss es).length = ss.length
  | [], es, _ => by unfold ioOut; rfl
  | s0 :: ss, [], h => by simp at h
  | s0 :: ss, e :: es, h => by
    have q := ioOut_len (ss := ss) (es := es) (by simpa using h)
    cases s0 <;> exact congrArg Nat.succ q
theorem nown_ne {slots : List Slot} (h : slots.all nown = true) {i : Nat} {v : Val} : slots[i]? ≠ some (Slot.own v) := fun e => by
  have := List.all_eq_true.mp h _ (List.mem_of_getElem? e)
  cases this
theorem start_get {N : List Str} {vs : List V} {i : Nat} (h : i < vs.length) : (L2.start N vs)[i]? = (vs.map some)[i]? := by
  unfold L2.start
  rw [List.getElem?_append_left (by simpa using h)]
theorem own_app {slots : List Slot} {m i : Nat} : own? (slots ++ List.replicate m .un) i = own? slots i := by
  unfold own?
  by_cases h : i < slots.length
  · rw [List.getElem?_append_left h]
  · rw [List.getElem?_append_right (Nat.le_of_not_lt h), List.getElem?_eq_none (Nat.le_of_not_lt h)]
    cases e : (List.replicate m Slot.un)[i - slots.length]? with
    | none => rfl
    | some s =>
      have := List.mem_of_getElem? e
      rw [List.mem_replicate] at this
      rw [this.2]; rfl
theorem RS.start {slots : List Slot} {vs : List V} {B H : Hp} {F : Nat → List Addr} {N : List Str} (S : RS T slots (vs.map some) B H F) (hN : slots.length ≤ N.length) : RS T (slots ++ List.replicate (N.length - slots.length) .un) (L2.start N vs) B H F := by
  have hl : vs.length = slots.length := by simpa using S.len
  refine ⟨S.sub, ?_, fun i v e => ?_, fun i v e => ?_, fun i e => ?_, S.free, S.disj⟩
  · unfold L2.start
    simp [hl]
  · have hi : i < slots.length := by
      by_cases h : i < slots.length
      · exact h
      · rw [List.getElem?_append_right (Nat.le_of_not_lt h)] at e
        have := List.mem_of_getElem? e
        rw [List.mem_replicate] at this
        cases this.2
    rw [List.getElem?_append_left hi] at e
    rw [start_get (by omega)]
    exact S.shr i v e
  · rw [own_app] at e
    have hi : i < slots.length := by
      unfold own? at e
      cases h : slots[i]? with
      | none => rw [h] at e; cases e
      | some s => exact lt_of_get h
    rw [start_get (by omega)]
    exact S.own i v e
  · rw [own_app] at e
    exact S.non i e
end
section
variable {P : Program} {w : World} {K : PySem.W.Frag} {mg : Str → Option Value} {base : Heap} {x qual : Str} {params : Arguments} {body : List Stmt} {scope : Scope} {f : Addr} {fd : FuncData} {N ps : List Str} {k : Nat} {g : SF}
abbrev WD (E : XK) : WX := fun cls d _ H => E cls d H
theorem fn_core (S : FnScope N ps scope) {vs : List V} {H : Hp} {Q : VK} {E : XK} (h : spF ⟨P, w, K⟩ ps.length (runF ps.length N.length g) vs H Q E) : sG ⟨P, w, K⟩ (WD E) g { nx := fun _ H' => Q .non H', rt := Q } (L2.start N vs) H := by
  obtain ⟨hvl, slots, B, F0, o, slots1, Rs, hno, hφ, hq⟩ := h
  unfold runF at hφ
  split at hφ
  · rename_i hc
    obtain ⟨hc1, _⟩ := Bool.and_eq_true_iff.mp hc
    have hsl : slots.length = ps.length := beq_iff_eq.mp hc1
    have hpN : ps.length ≤ N.length := by
      have := S.pre
      have q := congrArg List.length this
      simp at q
      omega
    have Rst := Rs.start (N := N) (by omega)
    rw [hsl] at Rst
    cases hg : g (slots ++ List.replicate (N.length - ps.length) .un) with
    | none => rw [hg] at hφ; cases hφ
    | some z =>
      obtain ⟨r, env1⟩ := z
      rw [hg] at hφ
      refine ⟨_, F0, B, r, env1, Rst, hg, fun σ2 H2 F2 B2 S2 G2 => ?_⟩
      have hl1 : slots.length ≤ env1.length := by
        rw [G2.ln, List.length_append]
        omega
      have hvs : vs.length = slots.length := by rw [hvl, hsl]
      -- the parameters' slots as they are at the end
      have io0 : ∀ (i : Nat) (v : Val), slots[i]? = some (Slot.io v) → (slots ++ List.replicate (N.length - ps.length) Slot.un)[i]? = some (Slot.io v) := fun i v e => by
        rw [List.getElem?_append_left (lt_of_get e)]; exact e
      have key : ∀ (i : Nat) (v : Val), slots[i]? = some (Slot.io v) → ∃ v1, env1[i]? = some (Slot.io v1) ∧ σ2[i]? = (vs.map some)[i]? ∧ ∀ a ∈ F0 i, a ∈ F2 i := fun i v e => by
        obtain ⟨v1, e1, s1, m1⟩ := G2.io i v (io0 i v e)
        exact ⟨v1, e1, s1.trans (start_get (by rw [hvs]; exact lt_of_get e)), m1⟩
      have S3 : RS ⟨P, w, K⟩ (ioOut slots env1) (vs.map some) B2 H2 (fun i => match slots[i]? with | some (.io _) => F2 i | _ => []) := by
        refine ⟨S2.sub, by rw [ioOut_len hl1, List.length_map, hvs], fun i v e => ?_, fun i v e => ?_, fun i e => ?_, fun i a ha => ?_, fun i j a h1 h2 => ?_⟩
        · rcases ioOut_get e with ⟨v0, e0, e1⟩ | ⟨_, z⟩
          · obtain ⟨v1, e2, _⟩ := key i v0 e0
            rw [e1] at e2; cases e2
          · cases z
        · unfold own? at e
          cases h : (ioOut slots env1)[i]? with
          | none => rw [h] at e; cases e
          | some s =>
            rw [h] at e
            rcases ioOut_get h with ⟨v0, e0, e1⟩ | ⟨_, z⟩
            · obtain ⟨v1, e2, s1, _⟩ := key i v0 e0
              rw [e1] at e2
              cases e2
              cases e
              obtain ⟨a, h1, h2⟩ := S2.own i v (own_io e1)
              refine ⟨a, by rw [← s1]; exact h1, ?_⟩
              rw [e0]
              exact h2
            · subst z; cases e
        · cases h : slots[i]? with
          | none => rfl
          | some s =>
            cases s with
            | io v =>
              obtain ⟨v1, e1, _⟩ := key i v h
              unfold own? at e
              rw [ioOut_io h e1] at e
              cases e
            | _ => rfl
        · cases h : slots[i]? with
          | none => rw [h] at ha; cases ha
          | some s =>
            rw [h] at ha
            cases s with
            | io v => exact S2.free i a ha
            | _ => cases ha
        · have m : ∀ {i}, a ∈ (match slots[i]? with | some (Slot.io _) => F2 i | _ => []) → a ∈ F2 i := fun {i} ha => by
            cases h : slots[i]? with
            | none => rw [h] at ha; cases ha
            | some s =>
              rw [h] at ha
              cases s with
              | io v => exact ha
              | _ => cases ha
          exact S2.disj i j a (m h1) (m h2)
      have nb3 : ∀ a o, B2 a = some o → B a = some o ∨ H a = none := fun a o e => by
        rcases G2.nb a o e with z | z | ⟨i, v, z, _⟩
        · exact .inl z
        · exact .inr z
        · exfalso
          by_cases hi : i < slots.length
          · rw [List.getElem?_append_left hi] at z
            exact nown_ne hno z
          · rw [List.getElem?_append_right (Nat.le_of_not_lt hi)] at z
            have := List.mem_of_getElem? z
            rw [List.mem_replicate] at this
            cases this.2
      have G3 : Go slots (vs.map some) H F0 B (ioOut slots env1) (vs.map some) H2 (fun i => match slots[i]? with | some (.io _) => F2 i | _ => []) B2 := by
        refine ⟨G2.fr, G2.al, G2.kn, fun a o e => (nb3 a o e).elim .inl fun z => .inr (.inl z), fun i a ha => ?_, fun i v e => ?_, fun i v e => ?_, by rw [ioOut_len hl1]⟩
        · cases h : slots[i]? with
          | none => rw [h] at ha; cases ha
          | some s =>
            rw [h] at ha
            cases s with
            | io v => exact G2.ow i a ha
            | _ => cases ha
        · obtain ⟨v1, e1, s1, m1⟩ := key i v e
          refine ⟨v1, ioOut_io e e1, rfl, ?_⟩
          rw [e]
          exact m1
        · rcases ioOut_get e with ⟨v0, e0, _⟩ | ⟨_, z⟩
          · exact ⟨v0, e0⟩
          · cases z
      cases r with
      | nx =>
        cases hφ
        exact hq H2 B2 _ S3 G3 .non .non
      | ret rv =>
        cases hφ
        refine fun y hy => hq H2 B2 _ S3 G3 y ?_
        cases rv with
        | shr v => exact hy
        | new v =>
          obtain ⟨a, fp, h1, h2, h3⟩ := hy
          refine ⟨a, fp, h1, h2, fun b hb' => ⟨(h3 b hb').1, .inr ?_, fun i v' e q => ?_⟩⟩
          · rcases (h3 b hb').2.1 with ⟨j, w', z, _⟩ | z
            · exfalso
              by_cases hi : j < slots.length
              · rw [List.getElem?_append_left hi] at z
                exact nown_ne hno z
              · rw [List.getElem?_append_right (Nat.le_of_not_lt hi)] at z
                have := List.mem_of_getElem? z
                rw [List.mem_replicate] at this
                cases this.2
            · exact z
          · rcases ioOut_get e with ⟨v0, e0, e1⟩ | ⟨_, z⟩
            · dsimp only at q
              rw [e0] at q
              exact (h3 b hb').2.2 i v' e1 q
            · cases z
      | exc c =>
        cases hφ
        exact hq H2 B2 _ S3 G3
      | brk => cases hφ
      | ct => cases hφ
  · cases hφ
theorem fn_ok (F : FunD K x qual params body scope [] [] f fd) (S : FnScope N ps scope)
    (hb : ∀ (cdv : Value) (A : Around) (outer : List PySem.Env) (s : Shared) (H : Hp) (E : XK), Room k (A.deeper (PyProof.Rows.envOfC qual scope s.heap.objs.size f cdv)) → SSs (cxOf (L2.CX P w) P w K mg base N qual scope f cdv A outer s H E) (WD E) body g) :
    FnOk P w K mg base (L2.CX P w) (k + 1) f fd ps (spF ⟨P, w, K⟩ ps.length (runF ps.length N.length g)) :=
  F.ok S (fun vs H Q E h => h.1) fun cdv A outer s H vs Q E hr h => ⟨_, hb cdv A outer s H E hr, fn_core S h⟩
end

/-! ### calls of defs -/
/-- the arguments: all shared, or one that is handed in to be changed -/
def splitIo : List Opd → Option (List Val × Option (Nat × List Val))
  | [] => some ([], none)
  | .shr v :: os => (splitIo os).map fun z => (v :: z.1, z.2)
  | .var i :: os => (shrs os).map fun ws => ([], some (i, ws))
  | .new _ :: _ => none
def updOwn (env : Env) (i : Nat) (v : Val) : Env := match env[i]? with
  | some (.own _) => env.set i (.own v)
  | some (.io _) => env.set i (.io v)
  | _ => env
def sCallK (φ : Fn) (os : List Opd) : EF := fun env => match splitIo os with
  | some (vs, none) => (match φ (vs.map Slot.shr) with
    | some (.ret r, _) => some (.val r.opd, env)
    | some (.exc c, _) => some (.exc c, env)
    | none => none)
  | some (vs, some (i, ws)) => (match own? env i with
    | some v => (match φ (vs.map Slot.shr ++ .io v :: ws.map Slot.shr) with
      | some (o, slots1) => (match slots1[vs.length]? with
        | some (.io v1) => (match o with
          | .ret r => some (.val r.opd, updOwn env i v1)
          | .exc c => some (.exc c, updOwn env i v1))
        | _ => none)
      | none => none)
    | none => none)
  | none => none
def sCall (φ : Fn) (fs : List EF) : EF := sArgs fs (sCallK φ)
section
variable {T : Tx} {env : Env} {σ : L2.St} {B H Hs : Hp} {F : Nat → List Addr}
theorem split_none : ∀ {os : List Opd} {xs : List V} {vs : List Val}, OpdsR T env σ B H F Hs xs os → splitIo os = some (vs, none) → RepAll T B xs vs
  | [], [], vs, .nil, e => by cases e; exact .nil
  | o :: os, x :: xs, vs, .cons h t, e => by
    cases o with
    | shr v =>
      have e' : (splitIo os).map (fun z => (v :: z.1, z.2)) = some (vs, none) := e
      cases h2 : splitIo os with
      | none => rw [h2] at e'; cases e'
      | some z =>
        obtain ⟨z1, z2⟩ := z
        rw [h2] at e'
        cases e'
        exact .cons h (split_none t h2)
    | new v => cases e
    | var i =>
      have e' : (shrs os).map (fun ws => (([] : List Val), some (i, ws))) = some (vs, none) := e
      cases h2 : shrs os with
      | none => rw [h2] at e'; cases e'
      | some z => rw [h2] at e'; cases e'
theorem split_some : ∀ {os : List Opd} {xs : List V} {vs ws : List Val} {i : Nat}, OpdsR T env σ B H F Hs xs os → splitIo os = some (vs, some (i, ws)) → ∃ xs1 x xs2, xs = xs1 ++ x :: xs2 ∧ RepAll T B xs1 vs ∧ σ[i]? = some (some x) ∧ RepAll T B xs2 ws
  | [], [], vs, ws, i, .nil, e => by cases e
  | o :: os, x :: xs, vs, ws, i, .cons h t, e => by
    cases o with
    | shr v =>
      have e' : (splitIo os).map (fun z => (v :: z.1, z.2)) = some (vs, some (i, ws)) := e
      cases h2 : splitIo os with
      | none => rw [h2] at e'; cases e'
      | some z =>
        obtain ⟨z1, z2⟩ := z
        rw [h2] at e'
        cases e'
        obtain ⟨xs1, y, xs2, rfl, h3, h4, h5⟩ := split_some t h2
        exact ⟨x :: xs1, y, xs2, rfl, .cons h h3, h4, h5⟩
    | new v => cases e
    | var j =>
      have e' : (shrs os).map (fun ws => (([] : List Val), some (j, ws))) = some (vs, some (i, ws)) := e
      cases h2 : shrs os with
      | none => rw [h2] at e'; cases e'
      | some z =>
        rw [h2] at e'
        cases e'
        exact ⟨[], x, xs, rfl, .nil, h, OpdsR.shrs t h2⟩
theorem shr_slots {xs : List V} {vs : List Val} (R : RepAll T B xs vs) (s : Same B H) : RS T (vs.map Slot.shr) (xs.map some) B H (fun _ => []) where
  sub := s
  len := by simp [R.length]
  shr := fun i v e => by
    rw [List.getElem?_map] at e
    cases h : vs[i]? with
    | none => rw [h] at e; cases e
    | some u =>
      rw [h] at e
      cases e
      obtain ⟨x, h1, h2⟩ := R.get h
      exact ⟨x, by rw [List.getElem?_map, h1]; rfl, h2⟩
  own := fun i v e => by
    unfold own? at e
    rw [List.getElem?_map] at e
    cases h : vs[i]? with
    | none => rw [h] at e; cases e
    | some u => rw [h] at e; cases e
  non := fun _ _ => rfl
  free := fun i a h => by cases h
  disj := fun i j a h => by cases h
theorem nown_shr (vs : List Val) : (vs.map Slot.shr).all nown = true := by
  rw [List.all_eq_true]
  intro s hs
  obtain ⟨v, _, rfl⟩ := List.mem_map.mp hs
  rfl
theorem upd_get {i j : Nat} {v : Val} : (updOwn env i v)[j]? = if j = i then (match env[i]? with | some (.own _) => some (.own v) | some (.io _) => some (.io v) | z => z) else env[j]? := by
  unfold updOwn
  by_cases q : j = i
  · subst q
    rw [if_pos rfl]
    cases e : env[j]? with
    | none => simp [e]
    | some s =>
      have hl := lt_of_get e
      have e3 := (List.getElem?_eq_some_iff.mp e).2
      cases s <;> simp [e, e3, hl]
  · rw [if_neg q]
    cases e : env[i]? with
    | none => rfl
    | some s => cases s <;> simp [List.getElem?_set_ne (Ne.symm q)]
theorem upd_len {i : Nat} {v : Val} : (updOwn env i v).length = env.length := by
  unfold updOwn
  split <;> simp
end
section
variable {X : Cx} {W : WX} {a : Expr} {es : List Expr} {fs : List EF} {pos : Pos}
theorem call_mono {k : Nat} {φ : Fn} {σ : L2.St} {H : Hp} {Q : VK} (hk : ∀ slots z, φ slots = some z → slots.length = k) (h : eG (tx X) W (sCall φ fs) σ H Q) : tCallS (spF (tx X) k φ) (WE W) (aR (tx X) W fs) σ H Q := by
  obtain ⟨env, F, B, r, env2, S, e, p⟩ := h
  refine args_cut S e p fun os env1 H1 F1 B1 xs e1 S1 G1 xs1 p1 => ?_
  unfold sCallK at e1
  cases hs : splitIo os with
  | none => rw [hs] at e1; cases e1
  | some z =>
    obtain ⟨vs, z2⟩ := z
    rw [hs] at e1
    cases z2 with
    | none =>
      try dsimp only at e1
      have R := split_none xs1 hs
      cases hφ : φ (vs.map Slot.shr) with
      | none => rw [hφ] at e1; cases e1
      | some z =>
        obtain ⟨o, slots1⟩ := z
        rw [hφ] at e1
        have hlen := hk _ _ hφ
        have hx : xs.length = k := by rw [R.length]; simpa using hlen
        refine ⟨hx, _, B1, _, o, slots1, shr_slots R S1.sub, nown_shr vs, hφ, fun H2 B2 F2 S2 G2 => ?_⟩
        have g : PG B1 H1 B2 H2 := ⟨fun a o q => G2.fr a o q (fun i z => nomatch z), G2.kn, S2.sub, fun a o q => by
          rcases G2.nb a o q with z | z | ⟨i, v, z, _⟩
          · exact .inl z
          · exact .inr z
          · exact absurd z (nown_ne (nown_shr vs))⟩
        cases o with
        | ret rv =>
          cases e1
          refine fun x hx => p1.done S1 G1.al g ?_
          cases rv with
          | shr v => exact hx
          | new v =>
            obtain ⟨b, fp, h1, h2, h3⟩ := hx
            refine ⟨b, fp, h1, h2, fun c hc => ⟨?_, (h3 c hc).1⟩⟩
            rcases (h3 c hc).2.1 with ⟨j, w, z, _⟩ | z
            · exact absurd z (nown_ne (nown_shr vs))
            · exact z
        | exc c =>
          cases e1
          exact p1 H2 F1 B2 (g.rs S1) g.go
    | some iw =>
      obtain ⟨i, ws⟩ := iw
      try dsimp only at e1
      obtain ⟨xs1', x, xs2, rfl, R1, hx, R2⟩ := split_some xs1 hs
      cases ho : own? env1 i with
      | none => rw [ho] at e1; cases e1
      | some v =>
        rw [ho] at e1
        try dsimp only at e1
        cases hφ : φ (vs.map Slot.shr ++ .io v :: ws.map Slot.shr) with
        | none => rw [hφ] at e1; cases e1
        | some z =>
          obtain ⟨o, slots1⟩ := z
          rw [hφ] at e1
          try dsimp only at e1
          cases h1 : slots1[vs.length]? with
          | none => rw [h1] at e1; cases e1
          | some s1 =>
            rw [h1] at e1
            cases s1 with
            | io v1 =>
              obtain ⟨ad, hσ, hown⟩ := S1.own i v ho
              have hx' : σ[i]? = some (some x) := hx
              rw [hσ] at hx'
              cases hx'
              have hlen := hk _ _ hφ
              have l1 : xs1'.length = vs.length := R1.length
              have hxl : (xs1' ++ V.ref ad :: xs2).length = k := by
                rw [List.length_append, List.length_cons, R1.length, R2.length]
                simpa using hlen
              -- the callee's slots
              have gio : (vs.map Slot.shr ++ Slot.io v :: ws.map Slot.shr)[vs.length]? = some (Slot.io v) := by
                rw [List.getElem?_append_right (by simp)]; simp
              have gne : ∀ {j : Nat} {s : Slot}, (vs.map Slot.shr ++ Slot.io v :: ws.map Slot.shr)[j]? = some s → j ≠ vs.length → ∃ u, s = .shr u ∧ ∃ y, (xs1' ++ V.ref ad :: xs2)[j]? = some y ∧ Rep (tx X) B1 y u := fun {j s} e hj => by
                by_cases hl : j < vs.length
                · rw [List.getElem?_append_left (by simpa using hl), List.getElem?_map] at e
                  cases h : vs[j]? with
                  | none => rw [h] at e; cases e
                  | some u =>
                    rw [h] at e
                    cases e
                    obtain ⟨y, h2, h3⟩ := R1.get h
                    exact ⟨u, rfl, y, by rw [List.getElem?_append_left (by omega)]; exact h2, h3⟩
                · have hl2 : vs.length + 1 ≤ j := by omega
                  obtain ⟨m, rfl⟩ : ∃ m, j = vs.length + 1 + m := ⟨j - (vs.length + 1), by omega⟩
                  rw [List.getElem?_append_right (by simp; omega)] at e
                  have e3 : vs.length + 1 + m - (vs.map Slot.shr).length = m + 1 := by simp; omega
                  rw [e3, List.getElem?_cons_succ, List.getElem?_map] at e
                  cases h : ws[m]? with
                  | none => rw [h] at e; cases e
                  | some u =>
                    rw [h] at e
                    cases e
                    obtain ⟨y, h2, h3⟩ := R2.get h
                    refine ⟨u, rfl, y, ?_, h3⟩
                    rw [List.getElem?_append_right (by omega)]
                    have e4 : vs.length + 1 + m - xs1'.length = m + 1 := by omega
                    rw [e4, List.getElem?_cons_succ]
                    exact h2
              have hno : (vs.map Slot.shr ++ Slot.io v :: ws.map Slot.shr).all nown = true := by
                rw [List.all_append, List.all_cons, nown_shr, nown_shr]; rfl
              have oc : ∀ {j : Nat} {u : Val}, own? (vs.map Slot.shr ++ Slot.io v :: ws.map Slot.shr) j = some u → j = vs.length := fun {j u} e => by
                by_cases hj : j = vs.length
                · exact hj
                · unfold own? at e
                  cases h : (vs.map Slot.shr ++ Slot.io v :: ws.map Slot.shr)[j]? with
                  | none => rw [h] at e; cases e
                  | some s =>
                    rw [h] at e
                    obtain ⟨u', rfl, _⟩ := gne h hj
                    cases e
              have Sc : RS (tx X) (vs.map Slot.shr ++ Slot.io v :: ws.map Slot.shr) ((xs1' ++ V.ref ad :: xs2).map some) B1 H1 (fun j => if j = vs.length then F1 i else []) := by
                refine ⟨S1.sub, by simp [R1.length, R2.length], fun j u e => ?_, fun j u e => ?_, fun j e => ?_, fun j c hc => ?_, fun j l c h1 h2 => ?_⟩
                · by_cases hj : j = vs.length
                  · subst hj; rw [gio] at e; cases e
                  · obtain ⟨u', hu, y, h2, h3⟩ := gne e hj
                    cases hu
                    exact ⟨y, by rw [List.getElem?_map, h2]; rfl, h3⟩
                · have hj := oc e
                  subst hj
                  have e' := own_io gio
                  rw [e] at e'
                  cases e'
                  refine ⟨ad, ?_, ?_⟩
                  · rw [List.getElem?_map, List.getElem?_append_right (by omega), l1]; simp
                  · rw [if_pos rfl]; exact hown
                · by_cases hj : j = vs.length
                  · subst hj; rw [own_io gio] at e; cases e
                  · exact if_neg hj
                · try dsimp only at hc
                  split at hc
                  · exact S1.free i c hc
                  · cases hc
                · try dsimp only at h1 h2
                  split at h1
                  · split at h2
                    · omega
                    · cases h2
                  · cases h1
              refine ⟨hxl, _, B1, _, o, slots1, Sc, hno, hφ, fun H2 B2 F2 S2 G2 => ?_⟩
              -- back at the caller
              obtain ⟨v1', e5, s5, m5⟩ := G2.io vs.length v gio
              rw [h1] at e5
              cases e5
              rw [if_pos rfl] at m5
              obtain ⟨ad', h6, hown2⟩ := S2.own vs.length v1 (own_io h1)
              have ead : ad' = ad := by
                have e6 : ((xs1' ++ V.ref ad :: xs2).map some)[vs.length]? = some (some (V.ref ad)) := by
                  rw [List.getElem?_map, List.getElem?_append_right (by omega), l1]; simp
                rw [e6] at h6
                cases h6
                rfl
              subst ead
              have fc : ∀ {c : Addr}, (∀ j, c ∉ (fun j => if j = vs.length then F1 i else []) j) ↔ c ∉ F1 i := fun {c} => by
                constructor
                · intro h; have := h vs.length; try dsimp only at this
                  rw [if_pos rfl] at this; exact this
                · intro h j; try dsimp only
                  split
                  · exact h
                  · intro z; cases z
              have ow2 : ∀ c, c ∈ F2 vs.length → c ∈ F1 i ∨ H1 c = none := fun c hc => by
                rcases G2.ow _ c hc with ⟨j, z⟩ | z
                · try dsimp only at z
                  split at z
                  · exact .inl z
                  · cases z
                · exact .inr z
              have nb2 : ∀ c u, B2 c = some u → B1 c = some u ∨ H1 c = none := fun c u q => by
                rcases G2.nb c u q with z | z | ⟨j, w', z, _⟩
                · exact .inl z
                · exact .inr z
                · exact absurd z (nown_ne hno)
              have own3 : ∀ {j : Nat}, own? (updOwn env1 i v1) j = if j = i then some v1 else own? env1 j := fun {j} => by
                unfold own?
                rw [upd_get]
                by_cases hj : j = i
                · rw [if_pos hj, if_pos hj]
                  rcases own_cases ho with q | q <;> rw [q] <;> rfl
                · rw [if_neg hj, if_neg hj]
              have S3 : RS (tx X) (updOwn env1 i v1) σ B2 H2 (setF F1 i (F2 vs.length)) := by
                refine ⟨S2.sub, by rw [upd_len]; exact S1.len, fun j u e => ?_, fun j u e => ?_, fun j e => ?_, fun j c hc => ?_, fun j l c h1 h2 => ?_⟩
                · rw [upd_get] at e
                  by_cases hj : j = i
                  · rw [if_pos hj] at e
                    rcases own_cases ho with q | q <;> rw [q] at e <;> cases e
                  · rw [if_neg hj] at e
                    obtain ⟨y, h2, h3⟩ := S1.shr j u e
                    exact ⟨y, h2, h3.mono G2.kn⟩
                · rw [own3] at e
                  by_cases hj : j = i
                  · rw [if_pos hj] at e
                    cases e
                    subst hj
                    exact ⟨ad', hσ, by rw [setF_at]; exact hown2⟩
                  · rw [if_neg hj] at e
                    obtain ⟨c, h2, h3⟩ := S1.own j u e
                    refine ⟨c, h2, ?_⟩
                    rw [setF_ne hj]
                    exact h3.mono G2.kn fun b hb u' q => G2.fr b u' q (fc.mpr fun z => hj (S1.disj j i b hb z))
                · rw [own3] at e
                  by_cases hj : j = i
                  · rw [if_pos hj] at e; cases e
                  · rw [if_neg hj] at e
                    rw [setF_ne hj]
                    exact S1.non j e
                · rcases mem_setF hc with ⟨_, hc⟩ | ⟨hj, hc⟩
                  · exact S2.free _ c hc
                  · cases q : B2 c with
                    | none => rfl
                    | some u =>
                      rcases nb2 c u q with z | z
                      · rw [S1.free j c hc] at z; cases z
                      · exact absurd hc (S1.fresh z j)
                · rcases mem_setF h1 with ⟨e1', m1⟩ | ⟨e1', m1⟩
                  · rcases mem_setF h2 with ⟨e2', m2⟩ | ⟨e2', m2⟩
                    · rw [e1', e2']
                    · rcases ow2 c m1 with z | z
                      · rw [e1']; exact S1.disj i l c z m2
                      · exact absurd m2 (S1.fresh z l)
                  · rcases mem_setF h2 with ⟨e2', m2⟩ | ⟨e2', m2⟩
                    · rcases ow2 c m2 with z | z
                      · rw [e2']; exact S1.disj j i c m1 z
                      · exact absurd m1 (S1.fresh z j)
                    · exact S1.disj j l c m1 m2
              have G3 : Go env1 σ H1 F1 B1 (updOwn env1 i v1) σ H2 (setF F1 i (F2 vs.length)) B2 := by
                refine ⟨fun c u q n => G2.fr c u q (fc.mpr (n i)), G2.al, G2.kn, fun c u q => (nb2 c u q).elim .inl fun z => .inr (.inl z), fun j c hc => ?_, fun j u e => ?_, fun j u e => ?_, upd_len⟩
                · rcases mem_setF hc with ⟨_, hc⟩ | ⟨_, hc⟩
                  · exact (ow2 c hc).elim (fun z => .inl ⟨i, z⟩) .inr
                  · exact .inl ⟨j, hc⟩
                · by_cases hj : j = i
                  · subst hj
                    refine ⟨v1, ?_, rfl, ?_⟩
                    · rw [upd_get, if_pos rfl, e]
                    · rw [setF_at]; exact m5
                  · refine ⟨u, ?_, rfl, ?_⟩
                    · rw [upd_get, if_neg hj]; exact e
                    · rw [setF_ne hj]; exact fun _ q => q
                · rw [upd_get] at e
                  by_cases hj : j = i
                  · rw [if_pos hj] at e
                    subst hj
                    rcases own_cases ho with q | q
                    · rw [q] at e; cases e
                    · exact ⟨v, q⟩
                  · rw [if_neg hj] at e; exact ⟨u, e⟩
              cases o with
              | ret rv =>
                cases e1
                refine fun y hy => p1 H2 _ B2 S3 G3 y ?_
                cases rv with
                | shr u => exact hy
                | new u =>
                  obtain ⟨b, fp, h1', h2', h3'⟩ := hy
                  have fr2 : ∀ c ∈ fp, H1 c = none := fun c hc => by
                    rcases (h3' c hc).2.1 with ⟨j, w', z, _⟩ | z
                    · exact absurd z (nown_ne hno)
                    · exact z
                  refine ⟨b, fp, h1', h2', fun c hc => ⟨G1.al c (fr2 c hc), (h3' c hc).1, fun j q => ?_⟩⟩
                  rcases mem_setF q with ⟨_, q⟩ | ⟨_, q⟩
                  · exact (h3' c hc).2.2 vs.length v1 h1 q
                  · exact S1.fresh (fr2 c hc) j q
              | exc c =>
                cases e1
                exact p1 H2 _ B2 S3 G3
            | _ => cases e1
theorem se_call {k kk : Nat} {φ : Fn} {f : Addr} {fd : FuncData} {ps : List Str} {x : Str} {p : Pos} (F : FnOk X.prog X.w X.K X.mg X.base (L2.CX X.prog X.w) kk f fd ps (spF (tx X) k φ)) (hk : ∀ slots z, φ slots = some z → slots.length = k) (hr : Room kk X.A) (hg : Gl X x) (hm : X.mg x = some (.ref f)) (hkp : PySem.W.keepIn X.K (.ref f) = true) (hb : Binds X.K fd ps []) (tk : Takes X W)
    (ha : SA X W (a :: es) fs) (hdb : (x == ("__debug__" : Str)) = false := by decide) (he : starEach (a :: es) X.env = (false, eval a X.env) :: starEach es X.env := by rfl) (hpl : (backTo pos (starEach es X.env)).any (·.1) = false := by rfl) :
    SE X W (.Call (.Name x p) (a :: es) [] pos) (sCall φ fs) := PE.mono (pe_callS F hr hg hm hkp hb (fun σ => passAt tk σ) ha hdb he hpl) fun _ _ _ h => call_mono hk h
theorem runF_len {k n : Nat} {g : SF} : ∀ slots z, runF k n g slots = some z → slots.length = k := fun slots z h => by
  unfold runF at h
  split at h
  · rename_i hc
    exact beq_iff_eq.mp (Bool.and_eq_true_iff.mp hc).1
  · cases h

/-! ### raise -/
theorem pmk_own0 {x : Str} {C : Addr} {bmB : List Value} {B newId initId : String} {p pos : Pos} (F : ExcBaseFacts B newId initId bmB) (q : PySem.W.excIn X.K C bmB newId = true) (gC : X.mg x = some (.ref C)) (kC : PySem.W.keepIn X.K (.ref C) = true) (r : Raises X (.ref C)) (hg : Gl X x)
    (hdb : (x == ("__debug__" : Str)) = false := by decide) : PMk X (.Call (.Name x p) [] [] pos) (fun _ H Q => Q (.ref C) none H) := by
  intro pins s σ H Q I h
  refine wpAny_Call_Name_kw (ld_glob I hg gC ?_ hdb)
  refine PySem.W.callWith_K0 I.kIn kC ?_
  show wpAny _ _ (call (.ref C) []) _ _ _
  obtain ⟨bm, N, nm, qn, bs, hdct, sn, sub, ab, col, dd, k0, k1, k2, k3, k5, mN, hC, hN, hni, T⟩ := exc_obj I.kIn q
  refine wpAny_call_exc_subT F T hC hN hni (fun h' e hm => ?_) (by show 0 ≤ sizeLine; omega)
  exact mk_of I hm r h (I.hok.gone hm.new)
def sRaise (x : Str) : SF := fun env => some (.exc x, env)
theorem ss_raise {x : Str} {p pos pos2 : Pos} (hc : X.calm = true) (tk : Takes X W) (q : (He.Fa.exc x).ok X.K = true) (gC : X.mg x = some (.ref (He.ga X.K x))) (hg : Gl X x)
    (hdb : (x == ("__debug__" : Str)) = false := by decide) : SS X W (.Raise (some (.Call (.Name x p) [] [] pos)) none pos2) (sRaise x) := by
  obtain ⟨q1, q2, q3, q4⟩ := He.exc_ok q
  refine PS.mono (ps_raise hc tk (pmk_own0 PySem.F.excBase_ValueError q1 gC q2 (raises_own q3 q4) hg hdb)) fun D σ H h => ?_
  obtain ⟨env, F, B, r, env1, S, e, p⟩ := h
  cases e
  exact p σ H F B S .refl
end
end Lw

end
section
set_option Elab.async false
set_option linter.all false
set_option maxRecDepth 100000
set_option maxHeartbeats 1000000
set_option autoImplicit false
/-! Lw: lists of one's own that are changed. -/
namespace Lw
open PySem L2

section
variable {T : Tx} {env : Env} {σ : L2.St} {B H H1 : Hp} {F : Nat → List Addr} {i : Nat} {v v1 : Val} {a : Addr}
theorem own_upd (ho : own? env i = some v) {j : Nat} : own? (updOwn env i v1) j = if j = i then some v1 else own? env j := by
  unfold own?
  rw [upd_get]
  by_cases hj : j = i
  · rw [if_pos hj, if_pos hj]
    rcases own_cases ho with q | q <;> rw [q] <;> rfl
  · rw [if_neg hj, if_neg hj]
/-- the slot's own object is changed in its place -/
theorem RS.mut (S : RS T env σ B H F) (ho : own? env i = some v) (hσ : σ[i]? = some (some (.ref a))) (hm : ∀ b, b ∉ F i → H1 b = H b) (hn : OwnR T B H1 (F i) a v1) : RS T (updOwn env i v1) σ B H1 F where
  sub := fun b o e => by rw [hm b fun z => by rw [S.free i b z] at e; cases e]; exact S.sub b o e
  len := by rw [upd_len]; exact S.len
  shr := fun j u e => by
    rw [upd_get] at e
    by_cases hj : j = i
    · rw [if_pos hj] at e
      rcases own_cases ho with q | q <;> rw [q] at e <;> cases e
    · rw [if_neg hj] at e
      exact S.shr j u e
  own := fun j u e => by
    rw [own_upd ho] at e
    by_cases hj : j = i
    · rw [if_pos hj] at e
      cases e
      subst hj
      exact ⟨a, hσ, hn⟩
    · rw [if_neg hj] at e
      obtain ⟨c, h2, h3⟩ := S.own j u e
      exact ⟨c, h2, h3.mono (Same.refl _) fun b hb o q => by rw [hm b fun z => hj (S.disj j i b hb z)]; exact q⟩
  non := fun j e => by
    rw [own_upd ho] at e
    by_cases hj : j = i
    · rw [if_pos hj] at e; cases e
    · rw [if_neg hj] at e; exact S.non j e
  free := S.free
  disj := S.disj
theorem Go.mut (S : RS T env σ B H F) (ho : own? env i = some v) (hm : ∀ b, b ∉ F i → H1 b = H b) (hn : OwnR T B H1 (F i) a v1) : Go env σ H F B (updOwn env i v1) σ H1 F B where
  fr := fun b o e n => by rw [hm b (n i)]; exact e
  al := fun b e => by
    by_cases q : b ∈ F i
    · obtain ⟨u, z⟩ := hn.there b q
      rw [e] at z; cases z
    · rw [hm b q] at e; exact e
  kn := Same.refl _
  nb := fun _ _ e => .inl e
  ow := fun j b h => .inl ⟨j, h⟩
  io := fun j u e => by
    by_cases hj : j = i
    · subst hj
      exact ⟨v1, by rw [upd_get, if_pos rfl, e], rfl, fun _ q => q⟩
    · exact ⟨u, by rw [upd_get, if_neg hj]; exact e, rfl, fun _ q => q⟩
  iw := fun j u e => by
    rw [upd_get] at e
    by_cases hj : j = i
    · rw [if_pos hj] at e
      subst hj
      rcases own_cases ho with q | q
      · rw [q] at e; cases e
      · exact ⟨v, q⟩
    · rw [if_neg hj] at e; exact ⟨u, e⟩
  ln := upd_len
/-- a list of one's own -/
theorem RS.list (S : RS T env σ B H F) {xs : List Val} (ho : own? env i = some (.lst xs)) : ∃ a ys, σ[i]? = some (some (.ref a)) ∧ F i = [a] ∧ H a = some (.lst ys) ∧ RepAll T B ys xs := by
  obtain ⟨a, h1, h2⟩ := S.own i _ ho
  generalize hF : F i = fp at h2
  cases h2 with
  | lst h r => exact ⟨a, _, h1, rfl, h, r⟩
end

/-! ### methods that change a list -/
/-- the operation, on shared arguments: its value, the list behind it -/
def sMutS (i : Nat) (op : List Val → List Val → Option (Val × List Val)) (fs : List EF) : EF := fun env => match own? env i with
  | some (.lst _) => sArgs (fs.map esh) (fun os env => match own? env i, shrs os with
    | some (.lst xs), some vs => (match op xs vs with
      | some (r, xs1) => some (.val (.shr r), updOwn env i (.lst xs1))
      | none => none)
    | _, _ => none) env
  | _ => none
def MutS (T : Tx) (r : V → List V → Hp → VK → Prop) (op : List Val → List Val → Option (Val × List Val)) : Prop := ∀ B H a ys xs zs vs rv xs1, H a = some (.lst ys) → RepAll T B ys xs → RepAll T B zs vs → op xs vs = some (rv, xs1) →
  ∀ Q : VK, (∀ z ys1, RepAll T B ys1 xs1 → Rep T B z rv → Q z (upd H a (.lst ys1))) → r (.ref a) zs H Q
section
variable {X : Cx} {W : WX} {a : Expr} {es : List Expr} {fs : List EF} {pos : Pos}
theorem mutS_mono {i : Nat} {r : V → List V → Hp → VK → Prop} {op : List Val → List Val → Option (Val × List Val)} (hs : MutS (tx X) r op) {σ : L2.St} {H : Hp} {Q : VK} (h : eG (tx X) W (sMutS i op fs) σ H Q) : tBM X.K "list" r (tVar i) (aR (tx X) W (fs.map esh)) σ H Q := by
  obtain ⟨env, F, B, r0, env2, S, e, p⟩ := h
  unfold sMutS at e
  try dsimp only at e
  split at e
  · rename_i xs0 ho
    obtain ⟨l, ys, h1, hF, h2, h3⟩ := S.list ho
    refine ⟨.ref l, h1, .inl ⟨rfl, _, .of h2⟩, ?_⟩
    refine args_cut S e p fun os env1 H1 F1 B1 zs e1 S1 G1 xs1 p1 => ?_
    try dsimp only at e1
    split at e1
    · rename_i xs vs ho1 hvs
      split at e1
      · rename_i rv xs2 hop
        cases e1
        obtain ⟨l', ys', k1, kF, k2, k3⟩ := S1.list ho1
        rw [h1] at k1
        cases k1
        refine hs B1 H1 l ys' xs zs vs rv xs2 k2 k3 (xs1.shrs hvs) hop Q fun z ys1 R1 R2 => ?_
        have hm : ∀ b, b ∉ F1 i → upd H1 l (.lst ys1) b = H1 b := fun b hb => upd_ne fun q => hb (by rw [kF, q]; exact List.mem_singleton.mpr rfl)
        have hn : OwnR (tx X) B1 (upd H1 l (.lst ys1)) (F1 i) l (.lst xs2) := by rw [kF]; exact .lst upd_same R1
        exact p1 _ F1 B1 (S1.mut ho1 h1 hm hn) (Go.mut S1 ho1 hm hn) z R2
      · cases e1
    · cases e1
  · cases e
theorem se_mutS {i : Nat} {id : String} {r : V → List V → Hp → VK → Prop} {op : List Val → List Val → Option (Val × List Val)} {name : Str} {o : Expr} {apos cpos : Pos} (slot : PySem.Slot "list" name id) (hty : typeOf (.builtin id) = pure (.type "method_descriptor")) (hm : MtR X id r) (hs : MutS (tx X) r op) (ho : PE X o (tVar i)) (ha : SA X W (a :: es) (fs.map esh))
    (hbase : attributeBase o name X.env (eval o X.env) = eval o X.env := by rfl)
    (hfew : ((backTo cpos (starEach (a :: es) X.env)).all (fun x => !x.1) && (backToKw cpos (keywordEach [] X.env)).all (fun x => x.1.isSome)
      && decide ((a :: es).length + ([] : List Keyword).length + (if ([] : List Keyword).isEmpty then 0 else 1) < 30)) = true := by rfl)
    (hline : (apos.endLine == cpos.line) = true := by rfl) (hss : starEach (a :: es) X.env = (false, eval a X.env) :: starEach es X.env := by rfl) (hplain : (backTo cpos (starEach es X.env)).any (·.1) = false := by rfl) :
    SE X W (.Call (.Attribute o name apos) (a :: es) [] cpos) (sMutS i op fs) := PE.mono (pe_bm PySem.F.plainAttrs_list slot hty hm ho ha hbase hfew hline hss hplain) fun _ _ _ h => mutS_mono hs h
theorem se_mutS0 {i : Nat} {id : String} {r : V → List V → Hp → VK → Prop} {op : List Val → List Val → Option (Val × List Val)} {name : Str} {o : Expr} {apos cpos : Pos} (slot : PySem.Slot "list" name id) (hty : typeOf (.builtin id) = pure (.type "method_descriptor")) (hm : MtR X id r) (hs : MutS (tx X) r op) (ho : PE X o (tVar i))
    (hbase : attributeBase o name X.env (eval o X.env) = eval o X.env := by rfl) (hline : (apos.endLine == cpos.line) = true := by rfl) : SE X W (.Call (.Attribute o name apos) [] [] cpos) (sMutS i op []) :=
  PE.mono (pe_bm0 PySem.F.plainAttrs_list slot hty hm ho hbase hline) fun _ _ _ h => mutS_mono (fs := []) hs h
def oAppend : List Val → List Val → Option (Val × List Val) := fun xs vs => match vs with
  | [v] => if xs.length < 16000000 then some (.non, xs ++ [v]) else none
  | _ => none
def oPop : List Val → List Val → Option (Val × List Val) := fun xs vs => match vs with
  | [] => (xs[xs.length - 1]?).map fun v => (v, xs.dropLast)
  | _ => none
/-- xs.pop(j), 0 <= j -/
def oPopAt : List Val → List Val → Option (Val × List Val) := fun xs vs => match vs with
  | [.int j] => if 0 ≤ j ∧ j ≤ 16000000 then (xs[j.toNat]?).map fun v => (v, xs.eraseIdx j.toNat) else none
  | _ => none
def oInsert : List Val → List Val → Option (Val × List Val) := fun xs vs => match vs with
  | [.int j, v] => if (0 ≤ j ∧ j ≤ 16000000) ∧ xs.length < 16000000 then some (.non, xs.take j.toNat ++ [v] ++ xs.drop j.toNat) else none
  | _ => none
theorem m_append {T : Tx} : MutS T rAppend oAppend := by
  intro B H a ys xs zs vs rv xs1 h R Z e Q q
  unfold oAppend at e
  split at e
  · split at e
    · rename_i v hl
      cases e
      cases Z with
      | cons z t =>
        cases t
        exact ⟨a, ys, _, rfl, rfl, h, by rw [R.length]; exact line_lt hl, q _ _ (R.append (.cons z .nil)) .non⟩
    · cases e
  · cases e
theorem RepAll.dropLast {T : Tx} {B : Hp} {ys : List V} {vs : List Val} (h : RepAll T B ys vs) : RepAll T B ys.dropLast vs.dropLast := by
  rw [List.dropLast_eq_take, List.dropLast_eq_take, h.length]
  exact h.take _
theorem m_pop {T : Tx} : MutS T rPop oPop := by
  intro B H a ys xs zs vs rv xs1 h R Z e Q q
  unfold oPop at e
  split at e
  · cases h1 : xs[xs.length - 1]? with
    | none => rw [h1] at e; cases e
    | some v =>
      rw [h1] at e
      cases e
      cases Z
      obtain ⟨y, h2, h3⟩ := R.get h1
      exact ⟨a, ys, y, rfl, rfl, h, by rw [R.length]; exact h2, q _ _ R.dropLast h3⟩
  · cases e
theorem m_popAt {T : Tx} : MutS T rPopAt oPopAt := by
  intro B H a ys xs zs vs rv xs1 h R Z e Q q
  unfold oPopAt at e
  split at e
  · rename_i j
    split at e
    · rename_i hj
      cases h1 : xs[j.toNat]? with
      | none => rw [h1] at e; cases e
      | some v =>
        rw [h1] at e
        cases e
        cases Z with
        | cons z t =>
          cases t
          cases z
          obtain ⟨y, h2, h3⟩ := R.get h1
          have hlt : j.toNat < ys.length := lt_of_get h2
          refine ⟨a, ys, j, j.toNat, y, rfl, rfl, h, by omega, by omega, ?_, h2, q _ _ (R.eraseIdx _) h3⟩
          exact PySem.StrLaws.seqIndex_nonneg hj.1 (by omega)
    · cases e
  · cases e
theorem m_insert {T : Tx} : MutS T (fun x vs H Q => ∃ (l : Addr) (xs : List V) (i : Int) (y : V), x = .ref l ∧ vs = [.int i, y] ∧ H l = some (.lst xs) ∧ xs.length < sizeLine ∧ 0 ≤ i ∧ i < 2 ^ 63 ∧
    Q .non (upd H l (.lst (xs.take i.toNat ++ [y] ++ xs.drop i.toNat)))) oInsert := by
  intro B H a ys xs zs vs rv xs1 h R Z e Q q
  unfold oInsert at e
  split at e
  · rename_i j v
    split at e
    · rename_i hj
      cases e
      cases Z with
      | cons z t =>
        cases t with
        | cons z2 t2 =>
          cases t2
          cases z
          exact ⟨a, ys, j, _, rfl, rfl, h, by rw [R.length]; exact line_lt hj.2, hj.1.1, by omega, q _ _ (((R.take _).append (.cons z2 .nil)).append (R.drop _)) .non⟩
    · cases e
  · cases e

/-! ### xs.extend(ys) -/
def sExtend (i : Nat) (f : EF) : EF := fun env => match own? env i with
  | some (.lst _) => ebind f (fun o env => match own? env i, o.get env with
    | some (.lst xs), some (.lst vs) => if xs.length + vs.length ≤ 16000000 then some (.val (.shr .non), updOwn env i (.lst (xs ++ vs))) else none
    | _, _ => none) env
  | _ => none
theorem extend_mono {i : Nat} {f : EF} {σ : L2.St} {H : Hp} {Q : VK} (h : eG (tx X) W (sExtend i f) σ H Q) : tBM X.K "list" rExtend (tVar i) (aR (tx X) W [f]) σ H Q := by
  obtain ⟨env, F, B, r0, env2, S, e, p⟩ := h
  unfold sExtend at e
  try dsimp only at e
  split at e
  · rename_i xs0 ho
    obtain ⟨l, ys, h1, hF, h2, h3⟩ := S.list ho
    refine ⟨.ref l, h1, .inl ⟨rfl, _, .of h2⟩, ?_⟩
    show eG _ _ f σ H _
    refine run_cut S e p fun o env1 H1 F1 B1 x e1 S1 G1 x1 p1 => ?_
    try dsimp only at e1
    split at e1
    · rename_i xs vs ho1 hvs
      split at e1
      · rename_i hc
        cases e1
        obtain ⟨l', ys', k1, kF, k2, k3⟩ := S1.list ho1
        rw [h1] at k1
        cases k1
        obtain ⟨b, zs, rfl, hb, R⟩ := (x1.opr S1 hvs).lst S1.sub
        refine ⟨l, b, ys', zs, rfl, rfl, k2, hb, by rw [k3.length, R.length]; exact line_ok hc, ?_⟩
        have hm : ∀ b, b ∉ F1 i → upd H1 l (.lst (ys' ++ zs)) b = H1 b := fun b hb => upd_ne fun q => hb (by rw [kF, q]; exact List.mem_singleton.mpr rfl)
        have hn : OwnR (tx X) B1 (upd H1 l (.lst (ys' ++ zs))) (F1 i) l (.lst (xs ++ vs)) := by rw [kF]; exact .lst upd_same (k3.append R)
        exact p1 _ F1 B1 (S1.mut ho1 h1 hm hn) (Go.mut S1 ho1 hm hn) .non .non
      · cases e1
    · cases e1
  · cases e
theorem se_extend {i : Nat} {f : EF} {o : Expr} {apos cpos : Pos} (ho : PE X o (tVar i)) (ha : SA X W [a] [f])
    (hbase : attributeBase o "extend" X.env (eval o X.env) = eval o X.env := by rfl)
    (hfew : ((backTo cpos (starEach [a] X.env)).all (fun x => !x.1) && (backToKw cpos (keywordEach [] X.env)).all (fun x => x.1.isSome)
      && decide ([a].length + ([] : List Keyword).length + (if ([] : List Keyword).isEmpty then 0 else 1) < 30)) = true := by rfl)
    (hline : (apos.endLine == cpos.line) = true := by rfl) (hss : starEach [a] X.env = (false, eval a X.env) :: starEach [] X.env := by rfl) (hplain : (backTo cpos (starEach [] X.env)).any (·.1) = false := by rfl) :
    SE X W (.Call (.Attribute o "extend" apos) [a] [] cpos) (sExtend i f) := PE.mono (pe_bm PySem.F.plainAttrs_list PySem.F.slot_list_extend PySem.F.type_list_extend mt_extend ho ha hbase hfew hline hss hplain) fun _ _ _ h => extend_mono h

/-! ### xs[j] = e -/
def sSetL (i : Nat) (fi fv : EF) : SF := obind (esh fv) fun ov env1 => match own? env1 i with
  | some (.lst _) => obind fi (fun oi env => match own? env i, ov, oi.get env with
    | some (.lst xs), .shr v, some (.int j) => (match ixN xs.length j with
      | some k => some (.nx, updOwn env i (.lst (xs.set k v)))
      | none => none)
    | _, _, _ => none) env1
  | _ => none
theorem setL_mono {T : Tx} {i : Nat} {fi fv : EF} {D : Ends} {σ : L2.St} {H : Hp} (h : sG T W (sSetL i fi fv) D σ H) : tAsg (eG T W (esh fv)) (gSub (tVar i) (eG T W fi) rSetL) D σ H := by
  obtain ⟨env, F, B, r, env2, S, e, p⟩ := h
  refine ocut S e p fun ov env1 H1 F1 B1 x e1 S1 G1 x1 => ?_
  try dsimp only at e1
  split at e1
  · rename_i xs0 ho
    obtain ⟨l, ys, h1, hF, h2, h3⟩ := S1.list ho
    refine ⟨.ref l, h1, ?_⟩
    refine ocut S1 e1 (p.shift S S1 G1) fun oi env3 H2 F2 B2 y e2 S2 G2 y2 => ?_
    try dsimp only at e2
    split at e2
    · rename_i xs v j ho2 hj
      split at e2
      · rename_i k hk
        cases e2
        obtain ⟨l', ys', k1, kF, k2, k3⟩ := S2.list ho2
        rw [h1] at k1
        cases k1
        have hy := (y2.opr S2 hj).int
        subst hy
        have xr : Rep T B2 x v := Rep.mono G2.kn x1
        refine ⟨l, ys', j, k, rfl, rfl, k2, by rw [k3.length]; exact hk, ?_⟩
        have hm : ∀ b, b ∉ F2 i → upd H2 l (.lst (ys'.set k x)) b = H2 b := fun b hb => upd_ne fun q => hb (by rw [kF, q]; exact List.mem_singleton.mpr rfl)
        have hn : OwnR T B2 (upd H2 l (.lst (ys'.set k x))) (F2 i) l (.lst (xs.set k v)) := by rw [kF]; exact .lst upd_same (k3.set k xr)
        exact p σ _ F2 B2 (S2.mut ho2 h1 hm hn) ((G1.trans S S1 G2).trans S S2 (Go.mut S2 ho2 hm hn))
      · cases e2
    · cases e2
  · cases e1
theorem ss_setL {i : Nat} {fi fv : EF} {o ix e : Expr} {tpos : Pos} (ho : PE X o (tVar i)) (hi : SE X W ix fi) (he : SE X W e fv)
    (hg : ∀ v, assign (.Subscript o ix tpos) X.env v = (do
      let ov ← holding [v] (eval o X.env)
      let iv ← holding [v, ov] (eval ix X.env)
      standAt tpos
      holding [v, ov, iv] (setItem ov iv v)
      release [v, ov, iv] []) := by intro _; rfl)
    (hs : swapsWithSole [.Subscript o ix tpos] e pos.line X.env = pure false := by rfl) (hw : swappedStores [.Subscript o ix tpos] e X.env = pure none := by rfl)
    (h1 : (assignEach [.Subscript o ix tpos] X.env).map (·.2) = [assign (.Subscript o ix tpos) X.env] := by rfl) :
    SS X W (.Assign [.Subscript o ix tpos] e pos) (sSetL i fi fv) := PS.mono (ps_asg (se_esh he) (pg_sub ho hi set_list hg) hs hw h1) fun _ _ _ h => setL_mono h

/-! ### xs[j] += e -/
theorem get_list : PGet X (rIxL X.K) := by
  intro pins s σ H x y v u Q I rx ry h
  obtain ⟨p, xs, i, z, rfl, rfl, hq, he, q⟩ := h
  cases rx
  obtain ⟨t, rfl⟩ := ry
  obtain ⟨its, r, pl, hz⟩ := I.list hq
  obtain ⟨j, h1, h2, h3, h4, h5⟩ := atI_get he
  obtain ⟨w, ew, rw'⟩ := r.get h2
  have hl := r.length
  have hn := line63
  have fin : EP X pins σ Q w s := ⟨z, H, I, rw', q⟩
  by_cases h0 : 0 ≤ i
  · have hj : i.toNat = j := by
      rw [seqIndex_of h0 h5] at h1
      exact Option.some.inj h1
    exact wpAny_getItem_list pl.isList h0 (by omega) (by rw [hj]; simpa using ew) fin
  · have hj : (i + (its.toArray.size : Int)).toNat = j := by
      rw [seqIndex_neg (by omega) h4] at h1
      rw [List.size_toArray, ← hl]
      exact Option.some.inj h1
    exact wpAny_getItem_list_neg pl.isList (by omega) (by rw [List.size_toArray] <;> omega) (by omega) (by rw [hj]; simpa using ew) fin
def sAugL (i : Nat) (g : Int → Int → Int) (fi fe : EF) : SF := fun env => match own? env i with
  | some (.lst _) => obind fi (fun oi env1 => match own? env1 i, oi.get env1 with
    | some (.lst xs), some (.int j) => (match atI xs j with
      | some (.int a) => obind fe (fun oe env3 => match own? env3 i, oe.get env3 with
        | some (.lst ys), some (.int b) => (match ixN ys.length j with
          | some k => some (.nx, updOwn env3 i (.lst (ys.set k (.int (g a b)))))
          | none => none)
        | _, _ => none) env1
      | _ => none)
    | _, _ => none) env
  | _ => none
theorem RepAll.atI {T : Tx} {B : Hp} {ys : List V} {vs : List Val} {j : Int} {v : Val} (R : RepAll T B ys vs) (h : atI vs j = some v) : ∃ y, L2.atI ys j = some y ∧ Rep T B y v := by
  unfold L2.atI at h ⊢
  rw [R.length]
  cases e : ixN vs.length j with
  | none => rw [e] at h; cases h
  | some k =>
    rw [e] at h
    exact R.get h
theorem augL_mono {T : Tx} {i : Nat} {g : Int → Int → Int} {fi fe : EF} {D : Ends} {σ : L2.St} {H : Hp} (h : sG T W (sAugL i g fi fe) D σ H) : tAugS (tVar i) (eG T W fi) (eG T W fe) (rIxL T.K) (ipI g) rSetL D σ H := by
  obtain ⟨env, F, B, r, env2, S, e, p⟩ := h
  unfold sAugL at e
  try dsimp only at e
  split at e
  · rename_i xs0 ho
    obtain ⟨l, ys, h1, hF, h2, h3⟩ := S.list ho
    refine ⟨.ref l, h1, ?_⟩
    refine ocut S e p fun oi env1 H1 F1 B1 x e1 S1 G1 x1 => ?_
    try dsimp only at e1
    split at e1
    · rename_i xs j ho1 hj
      split at e1
      · rename_i a ha
        obtain ⟨l1, ys1, j1, jF, j2, j3⟩ := S1.list ho1
        rw [h1] at j1
        cases j1
        have hx := (x1.opr S1 hj).int
        subst hx
        obtain ⟨y, hy, ry⟩ := j3.atI ha
        cases ry
        refine ⟨l, ys1, j, .int a, rfl, rfl, .of j2, hy, ?_⟩
        refine ocut S1 e1 (p.shift S S1 G1) fun oe env3 H2 F2 B2 z e2 S2 G2 z2 => ?_
        try dsimp only at e2
        split at e2
        · rename_i ys b ho2 hb
          split at e2
          · rename_i k hk
            cases e2
            obtain ⟨l', ys', k1, kF, k2, k3⟩ := S2.list ho2
            rw [h1] at k1
            cases k1
            have hz := (z2.opr S2 hb).int
            subst hz
            refine ⟨a, b, rfl, rfl, l, ys', j, k, rfl, rfl, k2, by rw [k3.length]; exact hk, ?_⟩
            have hm : ∀ c, c ∉ F2 i → upd H2 l (.lst (ys'.set k (.int (g a b)))) c = H2 c := fun c hb => upd_ne fun q => hb (by rw [kF, q]; exact List.mem_singleton.mpr rfl)
            have hn : OwnR T B2 (upd H2 l (.lst (ys'.set k (.int (g a b))))) (F2 i) l (.lst (ys.set k (.int (g a b)))) := by rw [kF]; exact .lst upd_same (k3.set k (.int _))
            exact p σ _ F2 B2 (S2.mut ho2 h1 hm hn) ((G1.trans S S1 G2).trans S S2 (Go.mut S2 ho2 hm hn))
          · cases e2
        · cases e2
      · cases e1
    · cases e1
  · cases e
theorem ss_augL {i : Nat} {g : Int → Int → Int} {op : Operator} {fi fe : EF} {o ix e : Expr} {tpos : Pos} (ho : PE X o (tVar i)) (hi : SE X W ix fi) (he : SE X W e fe) (hp : PIp X op (ipI g))
    (ha : ∀ ov iv new, augStore ix ov iv new = (do holding [new, ov, iv] (setItem ov iv new); release [new, ov, iv] []; pure .next) := by intros; rfl) : SS X W (.AugAssign (.Subscript o ix tpos) op e pos) (sAugL i g fi fe) :=
  PS.mono (ps_augS ho hi get_list he hp set_list ha) fun _ _ _ h => augL_mono h
/-- x += e, ints -/
def sAug (i : Nat) (g : Int → Int → Int) (f : EF) : SF := fun env => match env[i]? with
  | some (.shr (.int a)) => obind f (fun o env1 => match o.get env1 with
    | some (.int b) => (setSlot env1 i (.shr (.int (g a b)))).map (FRes.nx, ·)
    | _ => none) env
  | _ => none
theorem aug_mono {T : Tx} {i : Nat} {g : Int → Int → Int} {f : EF} {D : Ends} {σ : L2.St} {H : Hp} (h : sG T W (sAug i g f) D σ H) : tAug i (eG T W f) (ipI g) D σ H := by
  obtain ⟨env, F, B, r, env2, S, e, p⟩ := h
  unfold sAug at e
  try dsimp only at e
  split at e
  · rename_i a ha
    obtain ⟨x, hx, rx⟩ := S.shr i _ ha
    cases rx
    refine ⟨.int a, hx, ?_⟩
    refine ocut S e p fun o env1 H1 F1 B1 y e1 S1 G1 y1 => ?_
    try dsimp only at e1
    split at e1
    · rename_i b hb
      have hy := (y1.opr S1 hb).int
      subst hy
      exact ⟨a, b, rfl, rfl, asg_end (x := .int (g a b)) p S1 G1 (show OpdR T env1 σ B1 H1 F1 H (.int (g a b)) (.shr (.int (g a b))) from .int _) e1⟩
    · cases e1
  · cases e
theorem ss_aug {i : Nat} {x : Str} {g : Int → Int → Int} {op : Operator} {f : EF} {e : Expr} {pos' : Pos} (hN : X.N.Nodup) (hi : X.N[i]? = some x) (hx : Loc X.env.scope x) (he : SE X W e f) (hp : PIp X op (ipI g)) (hf : X.fn x = true ∨ X.env.scope.names.lookup x = some .local := by first | exact .inl rfl | exact .inr rfl | assumption) :
    SS X W (.AugAssign (.Name x pos') op e pos) (sAug i g f) := PS.mono (ps_aug hN hi hx he hp hf) fun _ _ _ h => aug_mono h
end
end Lw

end
section
set_option Elab.async false
set_option linter.all false
set_option maxRecDepth 100000
set_option maxHeartbeats 1000000
set_option autoImplicit false
/-! Lw: operations. -/
namespace Lw
open PySem L2

section
variable {T : Tx} {B H : Hp}
/-- a new list of one's own -/
theorem newL {Q : VK} {xs : List V} {vs : List Val} (s : Same B H) (r : RepAll T B xs vs) (hq : ∀ z H1 B1, PG B H B1 H1 → RvR T B1 H1 H z (.new (.lst vs)) → Q z H1) : ∀ p, H p = none → Q (.ref p) (upd H p (.lst xs)) := fun p n =>
  hq _ _ _ (PG.fresh s (HO.lst xs) n) ⟨p, [p], rfl, .lst upd_same r, fun b hb => by rw [List.mem_singleton] at hb; subst hb; exact ⟨n, s.free n⟩⟩
theorem newT {Q : VK} {xs : List V} {vs : List Val} (s : Same B H) (r : RepAll T B xs vs) (hq : ∀ z H1 B1, PG B H B1 H1 → RvR T B1 H1 H z (.shr (.tup vs)) → Q z H1) : ∀ p, H p = none → Q (.ref p) (upd H p (.tup xs)) := fun p n => by
  have g := PG.new s (HO.tup xs) n
  exact hq _ _ _ g (.tup upd_same (r.mono g.kn))
theorem same0 {Q : VK} {z : V} {v : Val} (s : Same B H) (r : Rep T B z v) (hq : ∀ z H1 B1, PG B H B1 H1 → RvR T B1 H1 H z (.shr v) → Q z H1) : Q z H := hq _ _ _ (.refl s) r
theorem OprR.tupS {x : V} {vs : List Val} (h : OprR T B H x (.tup vs)) : ∃ a ys, x = .ref a ∧ B a = some (.tup ys) ∧ RepAll T B ys vs := by
  rcases h with h | ⟨a, fp, rfl, h, _⟩
  · cases h with
    | tup q r => exact ⟨_, _, rfl, q, r⟩
  · cases h
end

/-! ### + - * // % ** -/
def sz : Nat := 16000000
def oAdd : Val → Val → Option RV
  | .int i, .int j => some (.shr (.int (i + j)))
  | .str a, .str b => if a.length + b.length ≤ 16000000 then some (.shr (.str (a ++ b))) else none
  | .lst a, .lst b => if a.length + b.length ≤ 16000000 then some (.new (.lst (a ++ b))) else none
  | .tup a, .tup b => if a.length + b.length ≤ 16000000 then some (.shr (.tup (a ++ b))) else none
  | _, _ => none
section
variable {X : Cx}
abbrev rAdd (K : PySem.W.Frag) : R2 := fun x y H Q => (rI0 fun i j => .int (i + j)) x y H Q ∨ (∃ i j, x = .str i ∧ y = .str j ∧ i.length + j.length ≤ sizeLine ∧ Q (.str (i ++ j)) H) ∨ rCat x y H Q ∨ rCatA K x y H Q
theorem ho_add : OpR X (binaryOp .Add) (rAdd X.K) := op_add.or (op_add_str.or (op_cat.or op_catA))
theorem str_app (a b : List Nat) : (⟨a.toArray⟩ ++ ⟨b.toArray⟩ : Str) = ⟨(a ++ b).toArray⟩ := by
  show Str.append _ _ = _
  unfold Str.append
  simp
theorem os_add {T : Tx} : OpS T (rAdd T.K) oAdd := by
  intro B H x y vx vy rv hs hx hy e Q hq
  unfold oAdd at e
  split at e
  · cases e
    exact .inl ⟨_, _, hx.int, hy.int, same0 hs (.int _) hq⟩
  · rename_i a b
    split at e
    · rename_i hl
      cases e
      refine .inr (.inl ⟨_, _, hx.str, hy.str, line_ok (by show a.toArray.size + b.toArray.size ≤ _; simpa using hl), same0 hs ?_ hq⟩)
      rw [str_app]; exact Rep.str_mk _
    · cases e
  · rename_i a b
    split at e
    · rename_i hl
      cases e
      obtain ⟨p, xs, rfl, h1, r1⟩ := hx.lst hs
      obtain ⟨p2, ys, rfl, h2, r2⟩ := hy.lst hs
      exact .inr (.inr (.inl ⟨_, _, xs, ys, rfl, rfl, h1, h2, by rw [r1.length, r2.length]; exact line_ok hl, newL hs (r1.append r2) hq⟩))
    · cases e
  · rename_i a b
    split at e
    · rename_i hl
      cases e
      obtain ⟨p, xs, rfl, h1, r1⟩ := hx.tupS
      obtain ⟨p2, ys, rfl, h2, r2⟩ := hy.tupS
      refine .inr (.inr (.inr ⟨_, _, xs, ys, rfl, rfl, .of (hs _ _ h1), .of (hs _ _ h2), by rw [r1.length, r2.length]; exact line_ok hl, fun e => ?_, fun e1 e2 => ?_, fun _ _ => newT hs (r1.append r2) hq⟩))
      · subst e
        cases r1
        exact same0 hs (.tup h2 r2) hq
      · subst e2
        cases r2
        rw [List.append_nil] at hq
        exact same0 hs (.tup h1 r1) hq
    · cases e
  · cases e
def oSub : Val → Val → Option RV
  | .int i, .int j => some (.shr (.int (i - j)))
  | _, _ => none
abbrev rSub : R2 := rI0 fun i j => .int (i - j)
theorem ho_sub : OpR X (binaryOp .Sub) rSub := op_sub
/-- two ints to a flat value -/
theorem os_ii {T : Tx} {g : Int → Int → V} {op : Val → Val → Option RV} (h : ∀ x y rv, op x y = some rv → ∃ i j v, x = .int i ∧ y = .int j ∧ rv = .shr v ∧ ∀ B, Rep T B (g i j) v) : OpS T (rI0 g) op := by
  intro B H x y vx vy rv hs hx hy e Q hq
  obtain ⟨i, j, v, rfl, rfl, rfl, r⟩ := h _ _ _ e
  exact ⟨i, j, hx.int, hy.int, same0 hs (r B) hq⟩
theorem os_iiC {T : Tx} {C : Int → Int → Prop} {g : Int → Int → V} {op : Val → Val → Option RV} (h : ∀ x y rv, op x y = some rv → ∃ i j v, x = .int i ∧ y = .int j ∧ C i j ∧ rv = .shr v ∧ ∀ B, Rep T B (g i j) v) : OpS T (rI C g) op := by
  intro B H x y vx vy rv hs hx hy e Q hq
  obtain ⟨i, j, v, rfl, rfl, c, rfl, r⟩ := h _ _ _ e
  exact ⟨i, j, hx.int, hy.int, c, same0 hs (r B) hq⟩
theorem os_sub {T : Tx} : OpS T rSub oSub := os_ii fun x y rv e => by
  unfold oSub at e
  split at e
  · cases e; exact ⟨_, _, _, rfl, rfl, rfl, fun _ => .int _⟩
  · cases e
def oFdiv : Val → Val → Option RV
  | .int i, .int j => if 0 < j ∧ j < 1073741824 then some (.shr (.int (i / j))) else none
  | _, _ => none
theorem ho_fdiv : OpR X (binaryOp .FloorDiv) (rI CDiv fun i j => .int (i / j)) := op_fdiv
theorem os_fdiv {T : Tx} : OpS T (rI CDiv fun i j => .int (i / j)) oFdiv := os_iiC fun x y rv e => by
  unfold oFdiv at e
  split at e
  · split at e
    · rename_i h; cases e; exact ⟨_, _, _, rfl, rfl, h, rfl, fun _ => .int _⟩
    · cases e
  · cases e
def oMod : Val → Val → Option RV
  | .int i, .int j => if 0 < j then some (.shr (.int (i % j))) else none
  | _, _ => none
theorem ho_mod : OpR X (binaryOp .Mod) (rI (fun _ j => 0 < j) fun i j => .int (i % j)) := op_mod
theorem os_mod {T : Tx} : OpS T (rI (fun _ j => 0 < j) fun i j => .int (i % j)) oMod := os_iiC fun x y rv e => by
  unfold oMod at e
  split at e
  · split at e
    · rename_i h; cases e; exact ⟨_, _, _, rfl, rfl, h, rfl, fun _ => .int _⟩
    · cases e
  · cases e
def oPow : Val → Val → Option RV
  | .int i, .int j => if 0 ≤ j ∧ j ≤ 1000000 ∧ i.natAbs < 2 ^ 64 then some (.shr (.int (i ^ j.toNat))) else none
  | _, _ => none
theorem ho_pow : OpR X (binaryOp .Pow) (rI CPow fun i j => .int (i ^ j.toNat)) := op_pow
theorem os_pow {T : Tx} : OpS T (rI CPow fun i j => .int (i ^ j.toNat)) oPow := os_iiC fun x y rv e => by
  unfold oPow at e
  split at e
  · split at e
    · rename_i h; cases e; exact ⟨_, _, _, rfl, rfl, h, rfl, fun _ => .int _⟩
    · cases e
  · cases e
def tenTo60 : Int := 1000000000000000000000000000000000000000000000000000000000000
/-- one is small, or both are 10 ** 60 -/
def mulOk (i j : Int) : Bool := decide (i.natAbs < 18446744073709551616) || decide (j.natAbs < 18446744073709551616) || (decide (i = tenTo60) && decide (j = tenTo60))
def oMul : Val → Val → Option RV
  | .int i, .int j => if mulOk i j = true then some (.shr (.int (i * j))) else none
  | .lst a, .int k => if -1000000 ≤ k ∧ k ≤ 1000000 ∧ a.length ≤ 10 then some (.new (.lst (List.replicate k.toNat a).flatten)) else none
  | _, _ => none
abbrev rMul : R2 := fun x y H Q => (rI CMul fun i j => .int (i * j)) x y H Q ∨ (rI CMulW fun i j => .int (i * j)) x y H Q ∨ rRep x y H Q
theorem ho_mul : OpR X (binaryOp .Mult) rMul := op_mul.or (op_mulW.or op_rep)
theorem RepAll.rep {T : Tx} {B : Hp} {xs : List V} {vs : List Val} (r : RepAll T B xs vs) : ∀ k : Nat, RepAll T B (List.replicate k xs).flatten (List.replicate k vs).flatten
  | 0 => .nil
  | k + 1 => by
    rw [List.replicate_succ, List.replicate_succ, List.flatten_cons, List.flatten_cons]
    exact r.append (RepAll.rep r k)
theorem os_mul {T : Tx} : OpS T rMul oMul := by
  intro B H x y vx vy rv hs hx hy e Q hq
  unfold oMul at e
  split at e
  · split at e
    · rename_i hm
      cases e
      unfold mulOk at hm
      rw [Bool.or_eq_true, Bool.or_eq_true, Bool.and_eq_true] at hm
      rcases hm with (hm | hm) | ⟨h1, h2⟩
      · have h := of_decide_eq_true hm
        exact .inl ⟨_, _, hx.int, hy.int, .inl ⟨by omega, by omega⟩, same0 hs (.int _) hq⟩
      · have h := of_decide_eq_true hm
        exact .inl ⟨_, _, hx.int, hy.int, .inr ⟨by omega, by omega⟩, same0 hs (.int _) hq⟩
      · have e1 := of_decide_eq_true h1
        have e2 := of_decide_eq_true h2
        subst e1 e2
        have hw : CMulW tenTo60 tenTo60 := by
          show tenTo60.natAbs.log2 + tenTo60.natAbs.log2 < 1000000
          decide +kernel
        exact .inr (.inl ⟨_, _, hx.int, hy.int, hw, same0 hs (.int _) hq⟩)
    · cases e
  · rename_i a k
    split at e
    · rename_i hm
      cases e
      obtain ⟨p, xs, rfl, h1, r1⟩ := hx.lst hs
      refine .inr (.inr ⟨_, k, xs, rfl, hy.int, h1, by omega, by omega, ?_, newL hs (r1.rep _) hq⟩)
      refine line_ok ?_
      rw [r1.length]
      have h3 : k.toNat ≤ 1000000 := by omega
      have := Nat.mul_le_mul hm.2.2 h3
      omega
    · cases e
  · cases e
def oNeg : Val → Option RV
  | .int i => some (.shr (.int (-i)))
  | _ => none
theorem ho_neg : UnR X (unaryOp .USub) (rU fun i => .int (-i)) := un_neg
theorem os_neg {T : Tx} : OpS1 T (rU fun i => .int (-i)) oNeg := by
  intro B H x vx rv hs hx e Q hq
  unfold oNeg at e
  split at e
  · cases e; exact ⟨_, hx.int, same0 hs (.int _) hq⟩
  · cases e

/-! ### < <= > >= -/
def oLt : Val → Val → Option RV
  | .int i, .int j => some (.shr (.bl (decide (i < j))))
  | _, _ => none
def oLe : Val → Val → Option RV
  | .int i, .int j => some (.shr (.bl (decide (i ≤ j))))
  | _, _ => none
def oGt : Val → Val → Option RV
  | .int i, .int j => some (.shr (.bl (decide (j < i))))
  | _, _ => none
def oGe : Val → Val → Option RV
  | .int i, .int j => some (.shr (.bl (decide (j ≤ i))))
  | _, _ => none
theorem ho_lt : OpR X (compareOp .Lt) (rI0 fun i j => .bl (decide (i < j))) := op_lt
theorem ho_le : OpR X (compareOp .LtE) (rI0 fun i j => .bl (decide (i ≤ j))) := op_le
theorem ho_gt : OpR X (compareOp .Gt) (rI0 fun i j => .bl (decide (j < i))) := op_gt
theorem ho_ge : OpR X (compareOp .GtE) (rI0 fun i j => .bl (decide (j ≤ i))) := op_ge
theorem os_lt {T : Tx} : OpS T (rI0 fun i j => .bl (decide (i < j))) oLt := os_ii fun x y rv e => by
  unfold oLt at e
  split at e
  · cases e; exact ⟨_, _, _, rfl, rfl, rfl, fun _ => .bl _⟩
  · cases e
theorem os_le {T : Tx} : OpS T (rI0 fun i j => .bl (decide (i ≤ j))) oLe := os_ii fun x y rv e => by
  unfold oLe at e
  split at e
  · cases e; exact ⟨_, _, _, rfl, rfl, rfl, fun _ => .bl _⟩
  · cases e
theorem os_gt {T : Tx} : OpS T (rI0 fun i j => .bl (decide (j < i))) oGt := os_ii fun x y rv e => by
  unfold oGt at e
  split at e
  · cases e; exact ⟨_, _, _, rfl, rfl, rfl, fun _ => .bl _⟩
  · cases e
theorem os_ge {T : Tx} : OpS T (rI0 fun i j => .bl (decide (j ≤ i))) oGe := os_ii fun x y rv e => by
  unfold oGe at e
  split at e
  · cases e; exact ⟨_, _, _, rfl, rfl, rfl, fun _ => .bl _⟩
  · cases e
end

/-! ### == -/
mutual
def toD : Val → Option PyData
  | .non => some .none
  | .bl b => some (.bool b)
  | .int i => some (.int i)
  | .str x => some (.str ⟨x.toArray⟩)
  | .lst xs => (toDs xs).map .list
  | .tup xs => (toDs xs).map .tuple
  | .scr ns => some (.list (ns.map .int))
  | _ => none
def toDs : List Val → Option (List PyData)
  | [] => some []
  | x :: xs => match toD x, toDs xs with
    | some d, some ds => some (d :: ds)
    | _, _ => none
end
section
variable {T : Tx} {B H : Hp}
theorem dpInts : ∀ ns : List Int, DpAll T.K H (ns.map V.int) (ns.map PyData.int)
  | [] => .nil
  | n :: ns => .cons (.int n) (dpInts ns)
mutual
theorem Rep.dp (s : Same B H) {x : V} {v : Val} {d : PyData} (h : Rep T B x v) (e : toD v = some d) : Dp T.K H x d := by
  cases h with
  | non => cases e; exact .non
  | bl b => cases e; exact .bl b
  | int i => cases e; exact .int i
  | str z => cases e; exact .str z
  | lst h r =>
    unfold toD at e
    obtain ⟨ds, e1, rfl⟩ := Option.map_eq_some_iff.mp e
    exact .lst (.of (s _ _ h)) (RepAll.dp s r e1)
  | tup h r =>
    unfold toD at e
    obtain ⟨ds, e1, rfl⟩ := Option.map_eq_some_iff.mp e
    exact .tup (.of (s _ _ h)) (RepAll.dp s r e1)
  | scr h =>
    cases e
    exact .lst (same_l s h) (dpInts _)
  | dct h d r q => cases e
  | ins h c n r => cases e
  | ty n => cases e
  | glo x => cases e
theorem RepAll.dp (s : Same B H) {xs : List V} {vs : List Val} {ds : List PyData} (h : RepAll T B xs vs) (e : toDs vs = some ds) : DpAll T.K H xs ds := by
  cases h with
  | nil => cases e; exact .nil
  | cons a b =>
    unfold toDs at e
    split at e
    · rename_i d ds e1 e2
      cases e
      exact .cons (Rep.dp s a e1) (RepAll.dp s b e2)
    · cases e
end

theorem OprR.dp (s : Same B H) {x : V} {v : Val} {d : PyData} (h : OprR T B H x v) (e : toD v = some d) : Dp T.K H x d := by
  rcases h with h | ⟨a, fp, rfl, h, _⟩
  · exact h.dp s e
  · cases h with
    | lst q r =>
      unfold toD at e
      obtain ⟨ds, e1, rfl⟩ := Option.map_eq_some_iff.mp e
      exact .lst (.of q) (r.dp s e1)
    | dct => cases e
    | ins => cases e
end
def vEq (x y : Val) : Option Bool := match toD x, toD y with
  | some d, some e => if SeqAt.shaped d = true ∧ SeqAt.shaped e = true then some (PyData.eqv d e) else none
  | _, _ => none
def oEq (x y : Val) : Option RV := (vEq x y).map fun b => .shr (.bl b)
def oNe (x y : Val) : Option RV := (vEq x y).map fun b => .shr (.bl (!b))
section
variable {X : Cx} {T : Tx}
theorem vEq_inv {x y : Val} {b : Bool} (h : vEq x y = some b) : ∃ d e, toD x = some d ∧ toD y = some e ∧ SeqAt.shaped d = true ∧ SeqAt.shaped e = true ∧ b = PyData.eqv d e := by
  unfold vEq at h
  split at h
  · rename_i d e h1 h2
    split at h
    · rename_i h3
      cases h
      exact ⟨d, e, h1, h2, h3.1, h3.2, rfl⟩
    · cases h
  · cases h
theorem os_eq : OpS T (rEqD T.K) oEq := by
  intro B H x y vx vy rv hs hx hy e Q hq
  obtain ⟨b, h, rfl⟩ := Option.map_eq_some_iff.mp e
  obtain ⟨d, d', h1, h2, h3, h4, rfl⟩ := vEq_inv h
  exact ⟨d, d', hx.dp hs h1, hy.dp hs h2, h3, h4, same0 hs (.bl _) hq⟩
theorem os_ne : OpS T (rNeD T.K) oNe := by
  intro B H x y vx vy rv hs hx hy e Q hq
  obtain ⟨b, h, rfl⟩ := Option.map_eq_some_iff.mp e
  obtain ⟨d, d', h1, h2, h3, h4, rfl⟩ := vEq_inv h
  exact ⟨d, d', hx.dp hs h1, hy.dp hs h2, h3, h4, same0 hs (.bl _) hq⟩
theorem ho_eq (hu : X.A.units + 64 < cLine) : OpR X (compareOp .Eq) (rEqD X.K) := op_eqD hu
theorem ho_ne (hu : X.A.units + 64 < cLine) : OpR X (compareOp .NotEq) (rNeD X.K) := op_neD hu

/-! ### in, not in -/
def ints? : List Val → Option (List Int)
  | [] => some []
  | .int i :: vs => (ints? vs).map (i :: ·)
  | _ => none
theorem RepAll.ints? {B : Hp} : ∀ {xs : List V} {vs : List Val} {ns : List Int}, RepAll T B xs vs → ints? vs = some ns → xs = ns.map V.int
  | _, _, _, .nil, e => by cases e; rfl
  | _, _, ns, .cons (v := v) a b, e => by
    cases v with
    | int i =>
      unfold Lw.ints? at e
      obtain ⟨ms, e1, rfl⟩ := Option.map_eq_some_iff.mp e
      rw [a.int_inv, RepAll.ints? b e1]; rfl
    | _ => cases e
def strs? : List Val → Option (List (List Nat))
  | [] => some []
  | .str i :: vs => (strs? vs).map (i :: ·)
  | _ => none
theorem RepAll.strs? {B : Hp} : ∀ {xs : List V} {vs : List Val} {ns : List (List Nat)}, RepAll T B xs vs → strs? vs = some ns → xs = (ns.map fun l => (⟨l.toArray⟩ : Str)).map V.str
  | _, _, _, .nil, e => by cases e; rfl
  | _, _, ns, .cons (v := v) a b, e => by
    cases v with
    | str i =>
      unfold Lw.strs? at e
      obtain ⟨ms, e1, rfl⟩ := Option.map_eq_some_iff.mp e
      rw [a.str_inv, RepAll.strs? b e1]; rfl
    | _ => cases e
def bls? : List Val → Option (List Bool)
  | [] => some []
  | .bl i :: vs => (bls? vs).map (i :: ·)
  | _ => none
theorem RepAll.bls? {B : Hp} : ∀ {xs : List V} {vs : List Val} {ns : List Bool}, RepAll T B xs vs → bls? vs = some ns → xs = ns.map V.bl
  | _, _, _, .nil, e => by cases e; rfl
  | _, _, ns, .cons (v := v) a b, e => by
    cases v with
    | bl i =>
      unfold Lw.bls? at e
      obtain ⟨ms, e1, rfl⟩ := Option.map_eq_some_iff.mp e
      rw [a.bl_inv, RepAll.bls? b e1]; rfl
    | _ => cases e
def vIn : Val → Val → Option Bool
  | .str [c], .str z => some (decide (c ∈ z))
  | x, .lst ys => match toD x, toDs ys with
    | some d, some ds => if SeqAt.shaped d = true ∧ SeqAt.shaped (.list ds) = true then some (ds.any fun z => PyData.eqv z d) else none
    | _, _ => none
  | .int i, .tup ys => (ints? ys).map fun ns => ns.contains i
  | .str i, .tup ys => (strs? ys).map fun ns => ns.contains i
  | _, _ => none
def oIn (x y : Val) : Option RV := (vIn x y).map fun b => .shr (.bl b)
def oNotIn (x y : Val) : Option RV := (vIn x y).map fun b => .shr (.bl (!b))
abbrev rInA (K : PySem.W.Frag) (n : Bool) : R2 := fun x y H Q => (∃ (c : Nat) (z : Str), x = .str ⟨#[c]⟩ ∧ y = .str z ∧ Q (.bl (n ^^ decide (c ∈ z.cps.toList))) H) ∨
  (∃ d ds, Dp K H x d ∧ Dp K H y (.list ds) ∧ SeqAt.shaped d = true ∧ SeqAt.shaped (.list ds) = true ∧ Q (.bl (n ^^ ds.any fun z => PyData.eqv z d)) H) ∨ rIn K n x y H Q
theorem ho_in (hu : X.A.units + 65 < cLine) : OpR X (compareOp .In) (rInA X.K false) := by
  have h := (op_in_sign (X := X)).or ((op_inD hu).or op_in_seq)
  intro pins s σ H x y v u Q I rx ry q
  refine h pins s σ H x y v u Q I rx ry ?_
  rcases q with ⟨c, z, e1, e2, q⟩ | ⟨d, ds, h1, h2, h3, h4, q⟩ | q
  · rw [Bool.false_xor] at q; exact .inl ⟨c, z, e1, e2, q⟩
  · rw [Bool.false_xor] at q; exact .inr (.inl ⟨d, ds, h1, h2, h3, h4, q⟩)
  · exact .inr (.inr q)
theorem ho_notin (hu : X.A.units + 65 < cLine) : OpR X (compareOp .NotIn) (rInA X.K true) := by
  have h := (op_notIn_sign (X := X)).or ((op_notInD hu).or op_notIn_seq)
  intro pins s σ H x y v u Q I rx ry q
  refine h pins s σ H x y v u Q I rx ry ?_
  rcases q with ⟨c, z, e1, e2, q⟩ | ⟨d, ds, h1, h2, h3, h4, q⟩ | q
  · rw [Bool.true_xor] at q; exact .inl ⟨c, z, e1, e2, q⟩
  · rw [Bool.true_xor] at q; exact .inr (.inl ⟨d, ds, h1, h2, h3, h4, q⟩)
  · exact .inr (.inr q)
theorem inV_ints (i : Int) : ∀ ns : List Int, inV (.int i) (ns.map V.int) = ns.contains i
  | [] => rfl
  | n :: ns => by
    have ih := inV_ints i ns
    unfold inV at ih ⊢
    rw [List.map_cons, List.any_cons, ih, List.contains_cons]
    congr 1
    show (n == i) = (i == n)
    exact Bool.beq_comm
theorem str_beq (a b : List Nat) : ((⟨a.toArray⟩ : Str) == ⟨b.toArray⟩) = (a == b) := by
  rw [Bool.eq_iff_iff, beq_iff_eq, beq_iff_eq]
  constructor
  · intro h; injection h with h; simpa using congrArg Array.toList h
  · intro h; rw [h]
theorem inV_strs (i : List Nat) : ∀ ns : List (List Nat), inV (.str ⟨i.toArray⟩) ((ns.map fun l => (⟨l.toArray⟩ : Str)).map V.str) = ns.contains i
  | [] => rfl
  | n :: ns => by
    have ih := inV_strs i ns
    unfold inV at ih ⊢
    rw [List.map_cons, List.map_cons, List.any_cons, ih, List.contains_cons]
    congr 1
    show ((⟨n.toArray⟩ : Str) == ⟨i.toArray⟩) = (i == n)
    rw [str_beq]
    exact Bool.beq_comm
theorem flat_ints : ∀ ns : List Int, (ns.map V.int).all flatV = true
  | [] => rfl
  | n :: ns => by rw [List.map_cons, List.all_cons, flat_ints ns]; rfl
theorem flat_strs' : ∀ ns : List Str, (ns.map V.str).all flatV = true
  | [] => rfl
  | n :: ns => by rw [List.map_cons, List.all_cons, flat_strs' ns]; rfl
theorem os_inA (n : Bool) {op : Val → Val → Option RV} (ho : ∀ x y, op x y = (vIn x y).map fun b => .shr (.bl (n ^^ b))) : OpS T (rInA T.K n) op := by
  intro B H x y vx vy rv hs hx hy e Q hq
  rw [ho] at e
  obtain ⟨b, h, rfl⟩ := Option.map_eq_some_iff.mp e
  have fin := same0 hs (.bl (n ^^ b)) hq
  unfold vIn at h
  split at h
  · cases h
    exact .inl ⟨_, _, hx.str, hy.str, fin⟩
  · rename_i ys _
    split at h
    · rename_i d ds h1 h2
      split at h
      · rename_i h3
        cases h
        exact .inr (.inl ⟨d, ds, hx.dp hs h1, hy.dp hs (by unfold toD; rw [h2]; rfl), h3.1, h3.2, fin⟩)
      · cases h
    · cases h
  · obtain ⟨ns, h1, rfl⟩ := Option.map_eq_some_iff.mp h
    obtain ⟨a, zs, rfl, h2, r⟩ := hy.tup hs
    have e3 := r.ints? h1
    subst e3
    have ex := hx.int
    subst ex
    refine .inr (.inr ⟨a, _, rfl, .inr (.of h2), rfl, flat_ints _, ?_⟩)
    rw [inV_ints]
    cases n
    · rw [if_neg Bool.false_ne_true]; rw [Bool.false_xor] at fin; exact fin
    · rw [if_pos rfl]; rw [Bool.true_xor] at fin; exact fin
  · obtain ⟨ns, h1, rfl⟩ := Option.map_eq_some_iff.mp h
    obtain ⟨a, zs, rfl, h2, r⟩ := hy.tup hs
    have e3 := r.strs? h1
    subst e3
    have ex := hx.str
    subst ex
    refine .inr (.inr ⟨a, _, rfl, .inr (.of h2), rfl, flat_strs' _, ?_⟩)
    rw [inV_strs]
    cases n
    · rw [if_neg Bool.false_ne_true]; rw [Bool.false_xor] at fin; exact fin
    · rw [if_pos rfl]; rw [Bool.true_xor] at fin; exact fin
  · cases h
theorem os_in : OpS T (rInA T.K false) oIn := os_inA false fun x y => by unfold oIn; congr 1; funext b; rw [Bool.false_xor]
theorem os_notin : OpS T (rInA T.K true) oNotIn := os_inA true fun x y => by unfold oNotIn; congr 1; funext b; rw [Bool.true_xor]

/-! ### is -/
def isNon : Val → Bool
  | .non => true
  | _ => false
def oIs (x y : Val) : Option RV := match x, y with
  | .bl a, .bl b => some (.shr (.bl (decide (a = b))))
  | x, .non => some (.shr (.bl (isNon x)))
  | _, _ => none
def oIsNot (x y : Val) : Option RV := match x, y with
  | .bl a, .bl b => some (.shr (.bl (!decide (a = b))))
  | x, .non => some (.shr (.bl (!isNon x)))
  | _, _ => none
abbrev rIs : R2 := fun x y H Q => rIsB x y H Q ∨ (y = .non ∧ Q (.bl (decide (x = .non))) H)
abbrev rIsNot : R2 := fun x y H Q => rNotB x y H Q ∨ (y = .non ∧ Q (.bl (!decide (x = .non))) H)
theorem ho_is : OpR X (compareOp .Is) rIs := op_isBl.or op_isN
theorem ho_isnot : OpR X (compareOp .IsNot) rIsNot := op_notBl.or op_notN
theorem non_dec {B H : Hp} {x : V} {v : Val} (h : OprR T B H x v) : decide (x = .non) = isNon v := by
  rcases h with h | ⟨a, fp, rfl, h, _⟩
  · cases h <;> simp [isNon]
  · cases h <;> simp [isNon]
theorem os_is : OpS T rIs oIs := by
  intro B H x y vx vy rv hs hx hy e Q hq
  unfold oIs at e
  split at e
  · cases e; exact .inl ⟨_, _, hx.bl, hy.bl, same0 hs (.bl _) hq⟩
  · cases e
    refine .inr ⟨hy.non, ?_⟩
    rw [non_dec hx]; exact same0 hs (.bl _) hq
  · cases e
theorem os_isnot : OpS T rIsNot oIsNot := by
  intro B H x y vx vy rv hs hx hy e Q hq
  unfold oIsNot at e
  split at e
  · cases e; exact .inl ⟨_, _, hx.bl, hy.bl, same0 hs (.bl _) hq⟩
  · cases e
    refine .inr ⟨hy.non, ?_⟩
    rw [non_dec hx]; exact same0 hs (.bl _) hq
  · cases e
end
end Lw

end
section
set_option Elab.async false
set_option linter.all false
set_option maxRecDepth 100000
set_option maxHeartbeats 1000000
set_option autoImplicit false
/-! Lw: subscripts, slices, chains, built-in functions, methods of texts. -/
namespace Lw
open PySem L2

/-! ### a[i] -/
def oIx : Val → Val → Option RV
  | .lst xs, .int i => (atI xs i).map .shr
  | .tup xs, .int i => (atI xs i).map .shr
  | .scr ns, .int i => (atI ns i).map fun n => .shr (.int n)
  | .str z, .int i => if z.length ≤ 16000000 then (atI z i).map fun c => .shr (.str [c]) else none
  | _, _ => none
section
variable {X : Cx} {T : Tx}
theorem atI_rep {B : Hp} {ys : List V} {vs : List Val} {i : Int} {v : Val} (r : RepAll T B ys vs) (h : atI vs i = some v) : ∃ y, atI ys i = some y ∧ Rep T B y v := by
  unfold atI at h ⊢
  rw [r.length]
  obtain ⟨j, h1, h2⟩ := Option.bind_eq_some_iff.mp h
  obtain ⟨y, h3, h4⟩ := r.get h2
  exact ⟨y, by rw [h1]; exact h3, h4⟩
theorem ho_ix : IxR X (rIx X.K) := ix_seq
theorem os_ix : OpS T (rIx T.K) oIx := by
  intro B H x y vx vy rv hs hx hy e Q hq
  unfold oIx at e
  split at e
  · obtain ⟨v, h, rfl⟩ := Option.map_eq_some_iff.mp e
    obtain ⟨a, ys, rfl, h1, r⟩ := hx.lst hs
    obtain ⟨z, h2, h3⟩ := atI_rep r h
    exact .inl ⟨a, ys, _, z, rfl, hy.int, .of h1, h2, same0 hs h3 hq⟩
  · obtain ⟨v, h, rfl⟩ := Option.map_eq_some_iff.mp e
    obtain ⟨a, ys, rfl, h1, r⟩ := hx.tup hs
    obtain ⟨z, h2, h3⟩ := atI_rep r h
    exact .inr (.inl ⟨a, ys, _, z, rfl, hy.int, .of h1, h2, same0 hs h3 hq⟩)
  · obtain ⟨v, h, rfl⟩ := Option.map_eq_some_iff.mp e
    obtain ⟨a, rfl, h1⟩ := hx.scr hs
    refine .inl ⟨a, _, _, .int v, rfl, hy.int, h1, ?_, same0 hs (.int _) hq⟩
    unfold atI at h ⊢
    obtain ⟨j, h1, h2⟩ := Option.bind_eq_some_iff.mp h
    rw [List.length_map, h1]
    show (List.map V.int _)[j]? = _
    rw [List.getElem?_map, h2]; rfl
  · split at e
    · rename_i hl
      obtain ⟨c, h, rfl⟩ := Option.map_eq_some_iff.mp e
      exact .inr (.inr ⟨_, _, c, hx.str, hy.int, line_ok (by show _root_.Array.size _ ≤ _; simpa using hl), h, same0 hs (Rep.of_str rfl) hq⟩)
    · cases e
  · cases e

/-! ### slices -/
def cutG {α : Type} (xs : List α) (lo hi : Option Int) : List α := (xs.drop (HT.sIx xs.length 0 lo)).take (HT.sIx xs.length xs.length hi - HT.sIx xs.length 0 lo)
def oSl (v : Val) (lo hi : Option Int) : Option RV := match v with
  | .lst xs => some (.new (.lst (cutG xs lo hi)))
  | .tup xs => some (.shr (.tup (cutG xs lo hi)))
  | .str z => if z.length ≤ 16000000 then some (.shr (.str (cutG z lo hi))) else none
  | _ => none
abbrev rSl (K : PySem.W.Frag) : V → Option Int → Option Int → Hp → VK → Prop := fun x lo hi H Q => rSlL K x lo hi H Q ∨ rSlS x lo hi H Q ∨ rSlA K x lo hi H Q
theorem ho_sl : SlR X (rSl X.K) := sl_list.or (sl_str.or sl_tupA)
theorem cut_rep {B : Hp} {ys : List V} {vs : List Val} (r : RepAll T B ys vs) (lo hi : Option Int) : RepAll T B (cutV ys lo hi) (cutG vs lo hi) := by
  unfold cutV cutG
  rw [r.length]
  exact (r.drop _).take _
def OpSl (T : Tx) (r : V → Option Int → Option Int → Hp → VK → Prop) (op : Val → Option Int → Option Int → Option RV) : Prop := ∀ B H x vx lo hi rv, Same B H → OprR T B H x vx → op vx lo hi = some rv →
  ∀ Q : VK, (∀ z H1 B1, PG B H B1 H1 → RvR T B1 H1 H z rv → Q z H1) → r x lo hi H Q
theorem os_sl : OpSl T (rSl T.K) oSl := by
  intro B H x vx lo hi rv hs hx e Q hq
  unfold oSl at e
  split at e
  · cases e
    obtain ⟨a, ys, rfl, h1, r⟩ := hx.lst hs
    exact .inl ⟨a, ys, rfl, .of h1, newL hs (cut_rep r lo hi) hq⟩
  · cases e
    obtain ⟨a, ys, rfl, h1, r⟩ := hx.tupS
    refine .inr (.inr ⟨a, ys, rfl, .of (hs _ _ h1), fun ⟨e1, e2⟩ => ?_, fun _ => newT hs (cut_rep r lo hi) hq⟩)
    refine same0 hs (.tup h1 ?_) hq
    have := cut_rep r lo hi
    unfold cutV at this
    rw [e1, e2] at this
    simpa using this
  · split at e
    · rename_i z hl
      cases e
      refine .inr (.inl ⟨_, hx.str, line_ok (by show _root_.Array.size _ ≤ _; simpa using hl), same0 hs ?_ hq⟩)
      refine Rep.of_str ?_
      unfold cutS cutG
      simp [Str.length]
    · cases e
  · cases e
def ebindP (g : Option EF) (k : Option Int → EF) : EF := match g with
  | none => k none
  | some g => ebind g fun o => match o with
    | .shr (.int i) => k (some i)
    | _ => fun _ => none
def tO (T : Tx) (W : WX) : Option EF → TO
  | none => tNoPart
  | some g => tPart (eG T W g)
abbrev SO (X : Cx) (W : WX) (e : Option Expr) (g : Option EF) : Prop := PO X e (tO (tx X) W g)
variable {W : WX} {a b c : Expr} {f g k : EF} {pos p2 : Pos}
theorem so_none : SO X W none none := po_none
theorem so_some (h : SE X W a f) : SO X W (some a) (some f) := po_some h
def sSl (op : Val → Option Int → Option Int → Option RV) (f : EF) (lo hi : Option EF) : EF := ebind f fun o => ebindP lo fun l => ebindP hi fun h env => match o.get env with
  | some v => (match op v l h with | some r => some (.val r.opd, env) | none => none)
  | none => none
theorem part_cut {Q : VK} {Hs : Hp} {σ : L2.St} {r : ERes} {env env2 : Env} {H B : Hp} {F : Nat → List Addr} {g : Option EF} {k : Option Int → EF} (S : RS T env σ B H F) (e : ebindP g k env = some (r, env2)) (p : Post T W Q Hs env σ H F B env2 r)
    {Q' : Option Int → Hp → Prop} (hq : ∀ o env1 H1 F1 B1, k o env1 = some (r, env2) → RS T env1 σ B1 H1 F1 → Go env σ H F B env1 σ H1 F1 B1 → Post T W Q Hs env1 σ H1 F1 B1 env2 r → Q' o H1) : tO T W g σ H Q' := by
  cases g with
  | none => exact hq none env H F B e S .refl p
  | some g =>
    refine run_cut S e p fun o env1 H1 F1 B1 x e1 S1 G1 x1 p1 => ?_
    try dsimp only at e1
    split at e1
    · exact ⟨_, Rep.int_inv x1, hq _ _ _ _ _ e1 S1 G1 p1⟩
    · cases e1
theorem se_sl {r : V → Option Int → Option Int → Hp → VK → Prop} {op : Val → Option Int → Option Int → Option RV} {lo hi : Option Expr} {gl gh : Option EF} (hr : SlR X r) (hs : OpSl (tx X) r op) (he : SE X W a f) (hl : SO X W lo gl) (hh : SO X W hi gh) :
    SE X W (.Subscript a (.Slice lo hi none p2) pos) (sSl op f gl gh) := by
  refine PE.mono (pe_slice hr he hl hh) fun σ H Q q => ?_
  obtain ⟨env, F, B, r0, env2, S, e, p⟩ := q
  refine run_cut S e p fun o env1 H1 F1 B1 x e1 S1 G1 x1 p1 => ?_
  refine part_cut S1 e1 p1 fun l env3 H2 F2 B2 e2 S2 G2 p2 => ?_
  refine part_cut S2 e2 p2 fun h env4 H3 F3 B3 e3 S3 G3 p3 => ?_
  try dsimp only at e3
  split at e3
  · rename_i v hv
    split at e3
    · rename_i rv hrv
      cases e3
      have x3 := ((x1.go S1 S2 G2).go S2 S3 G3).opr S3 hv
      exact hs B3 H3 x v l h rv S3.sub x3 hrv Q fun z H4 B4 g h => p3.done S3 (fun a q => G1.al a (G2.al a (G3.al a q))) g h
    · cases e3
  · cases e3
/-- xs[::-1] of a list -/
def oRev : Val → Option RV
  | .lst xs => some (.new (.lst xs.reverse))
  | _ => none
def sRev (f : EF) : EF := sUn oRev f
theorem se_rev {k : Nat} {p1 p2 p3 : Pos} (he : SE X W a f) : SE X W (.Subscript a (.Slice none none (some (.UnaryOp .USub (.Constant (.int 1) k p1) p2)) p3) pos) (sRev f) := by
  refine PE.mono (pe_revL he) fun σ H Q q => ?_
  exact un_mono (X := X) (r := fun x H1 Q => ∃ a xs, x = .ref a ∧ SqL X.K H1 a xs ∧ ∀ p, H1 p = none → Q (.ref p) (upd H1 p (.lst xs.reverse))) (fun B H1 x v rv hs hx e Q hq => by
    unfold oRev at e
    split at e
    · cases e
      obtain ⟨a, ys, rfl, h1, r⟩ := hx.lst hs
      exact ⟨a, ys, rfl, .of h1, newL hs r.reverse hq⟩
    · cases e) σ H Q q

/-! ### a <= b <= c -/
def eChain (op op' : Val → Val → Option RV) (x y : Opd) (h : EF) : EF := fun env => match x.get env, y.get env with
  | some vx, some vy => (match op vx vy with
    | some (.shr (.bl true)) => ebind h (fun z => eop2 op' y z) env
    | some (.shr (.bl false)) => some (.val (.shr (.bl false)), env)
    | _ => none)
  | _, _ => none
def sChain (op op' : Val → Val → Option RV) (f g h : EF) : EF := ebind f fun x => ebind g fun y => eChain op op' x y h
theorem chain_mono {r r' : R2} {op op' : Val → Val → Option RV} (hs : OpS T r op) (hs' : OpS T r' op') {σ : L2.St} {H : Hp} {Q : VK} (q : eG T W (sChain op op' f g k) σ H Q) : tChain r r' (eG T W f) (eG T W g) (eG T W k) σ H Q := by
  obtain ⟨env, F, B, r0, env2, S, e, p⟩ := q
  refine run_cut S e p fun x env1 H1 F1 B1 v1 e1 S1 G1 x1 p1 => ?_
  refine run_cut S1 e1 p1 fun y env3 H2 F2 B2 v2 e2 S2 G2 x2 p2 => ?_
  unfold eChain at e2
  split at e2
  · rename_i vx vy hx hy
    have o1 := (x1.go S1 S2 G2).opr S2 hx
    have o2 := x2.opr S2 hy
    split at e2
    · rename_i hop
      refine hs B2 H2 v1 v2 vx vy _ S2.sub o1 o2 hop _ fun z H3 B3 g3 h3 => ⟨true, Rep.bl_inv h3, iteT ?_⟩
      have S3 := g3.rs S2
      have G3 : Go env3 σ H2 F2 B2 env3 σ H3 F2 B3 := g3.go
      refine run_cut S3 e2 (p2.shift S2 S3 G3) fun z env4 H4 F4 B4 v4 e4 S4 G4 x4 p4 => ?_
      unfold eop2 at e4
      split at e4
      · rename_i wx wy hwx hwy
        split at e4
        · rename_i rv hrv
          cases e4
          exact hs' B4 H4 v2 v4 wx wy rv S4.sub (((x2.go S2 S3 G3).go S3 S4 G4).opr S4 hwx) (x4.opr S4 hwy) hrv Q fun z H5 B5 g h => p4.done S4 (fun a q => G1.al a (G2.al a (G3.al a (G4.al a q)))) g h
        · cases e4
      · cases e4
    · rename_i hop
      cases e2
      refine hs B2 H2 v1 v2 vx vy _ S2.sub o1 o2 hop _ fun z H3 B3 g3 h3 => ⟨false, Rep.bl_inv h3, iteF ?_⟩
      exact p2.done (rv := .shr (.bl false)) S2 (fun a q => G1.al a (G2.al a q)) g3 (.bl false)
    · cases e2
  · cases e2
theorem se_chain {op op' : CmpOp} {r r' : R2} {opv opv' : Val → Val → Option RV} (ho : OpR X (compareOp op) r) (hs : OpS (tx X) r opv) (ho' : OpR X (compareOp op') r') (hs' : OpS (tx X) r' opv') (ha : SE X W a f) (hb : SE X W b g) (hc : SE X W c k)
    (hm : lastMarks [op, op'] [b, c] = false := by with_unfolding_all rfl) : SE X W (.Compare a [op, op'] [b, c] pos) (sChain opv opv' f g k) :=
  PE.mono (pe_chain ho ho' ha hb hc hm) fun _ _ _ q => chain_mono hs hs' q
theorem st_chain {op op' : CmpOp} {r r' : R2} {opv opv' : Val → Val → Option RV} (ho : OpR X (compareOp op) r) (hs : OpS (tx X) r opv) (ho' : OpR X (compareOp op') r') (hs' : OpS (tx X) r' opv') (ha : SE X W a f) (hb : SE X W b g) (hc : SE X W c k)
    (hm : lastMarks [op, op'] [b, c] = false := by with_unfolding_all rfl) : ST X W (.Compare a [op, op'] [b, c] pos) (sChain opv opv' f g k) :=
  PT.mono (pt_chain ho ho' ha hb hc hm) fun _ _ _ q => chain_mono hs hs' (eG_of_tG q)

/-! ### built-in functions -/
theorem OprsR.one {B H : Hp} {xs : List V} {v : Val} (h : OprsR T B H xs [v]) : ∃ x, xs = [x] ∧ OprR T B H x v := by
  cases h with
  | cons a t => cases t; exact ⟨_, rfl, a⟩
theorem OprsR.two {B H : Hp} {xs : List V} {v w : Val} (h : OprsR T B H xs [v, w]) : ∃ x y, xs = [x, y] ∧ OprR T B H x v ∧ OprR T B H y w := by
  cases h with
  | cons a t => cases t with | cons b t => cases t; exact ⟨_, _, rfl, a, b⟩
theorem OprR.seq {B H : Hp} (hs : Same B H) {x : V} {vs : List Val} (h : OprR T B H x (.lst vs)) : ∃ a ys, x = .ref a ∧ SqL T.K H a ys ∧ RepAll T B ys vs := by
  obtain ⟨a, ys, e, h1, r⟩ := h.lst hs
  exact ⟨a, ys, e, .of h1, r⟩
def oLen : List Val → Option RV
  | [.str z] => if z.length ≤ 16000000 then some (.shr (.int z.length)) else none
  | [.lst xs] => some (.shr (.int xs.length))
  | [.tup xs] => some (.shr (.int xs.length))
  | [.scr xs] => some (.shr (.int xs.length))
  | _ => none
abbrev rLen (K : PySem.W.Frag) : List V → Hp → VK → Prop := fun xs H Q => ∃ x n, xs = [x] ∧ LenV K x H n ∧ Q (.int n) H
theorem os_len : OpSn T (rLen T.K) oLen := by
  intro B H xs vs rv hs hx e Q hq
  unfold oLen at e
  split at e
  · split at e
    · rename_i z hl
      cases e
      obtain ⟨x, rfl, h⟩ := hx.one
      have ex := h.str
      subst ex
      exact ⟨_, z.length, rfl, ⟨line_ok (by show _root_.Array.size _ ≤ _; simpa using hl), by show _ = _root_.Array.size _; simp⟩, same0 hs (.int _) hq⟩
    · cases e
  · cases e
    obtain ⟨x, rfl, h⟩ := hx.one
    obtain ⟨a, ys, rfl, h1, r⟩ := h.lst hs
    exact ⟨_, _, rfl, .inl ⟨ys, .of h1, r.length.symm⟩, same0 hs (.int _) hq⟩
  · cases e
    obtain ⟨x, rfl, h⟩ := hx.one
    obtain ⟨a, ys, rfl, h1, r⟩ := h.tup hs
    exact ⟨_, _, rfl, .inr ⟨ys, .of h1, r.length.symm⟩, same0 hs (.int _) hq⟩
  · cases e
    obtain ⟨x, rfl, h⟩ := hx.one
    obtain ⟨a, rfl, h1⟩ := h.scr hs
    exact ⟨_, _, rfl, .inl ⟨_, h1, by rw [List.length_map]⟩, same0 hs (.int _) hq⟩
  · cases e
def tyN : Val → Option String
  | .non => some "NoneType" | .bl _ => some "bool" | .int _ => some "int" | .str _ => some "str" | .lst _ => some "list" | .tup _ => some "tuple" | _ => none
def oIsi : List Val → Option RV
  | [v, .ty n] => (match tyN v with
    | some t => (kitB t n).map fun b => .shr (.bl b)
    | none => none)
  | _ => none
theorem tyN_ok {B H : Hp} (hs : Same B H) {x : V} {v : Val} {t : String} (h : OprR T B H x v) (e : tyN v = some t) : TyX T.K H x (.type t) := by
  unfold tyN at e
  split at e
  · cases e; rw [h.non]; exact .base .non
  · cases e; rw [h.bl]; exact .base (.bl _)
  · cases e; rw [h.int]; exact .base (.int _)
  · cases e; rw [h.str]; exact .base (.str _)
  · cases e; obtain ⟨a, ys, rfl, h1, r⟩ := h.lst hs; exact .base (.lst h1)
  · cases e; obtain ⟨a, ys, rfl, h1, r⟩ := h.tup hs; exact .base (.tup h1)
  · cases e
theorem os_isi : OpSn T (rIsi T.K) oIsi := by
  intro B H xs vs rv hs hx e Q hq
  unfold oIsi at e
  split at e
  · rename_i v n
    split at e
    · rename_i t ht
      obtain ⟨b, hb, rfl⟩ := Option.map_eq_some_iff.mp e
      obtain ⟨x, y, rfl, h1, h2⟩ := hx.two
      have ey : y = .ty n := by
        have := h2.flat rfl
        cases this; rfl
      subst ey
      exact ⟨x, _, _, _, b, rfl, .ty n, tyN_ok hs h1 ht, kit_ty hb, same0 hs (.bl _) hq⟩
    · cases e
  · cases e
def oAll : List Val → Option RV
  | [.lst xs] => (bls? xs).map fun bs => .shr (.bl (bs.all id))
  | _ => none
def oAny : List Val → Option RV
  | [.lst xs] => (bls? xs).map fun bs => .shr (.bl (bs.any id))
  | _ => none
theorem os_all : OpSn T (rAll T.K) oAll := by
  intro B H xs vs rv hs hx e Q hq
  unfold oAll at e
  split at e
  · obtain ⟨b, hb, rfl⟩ := Option.map_eq_some_iff.mp e
    obtain ⟨x, rfl, h⟩ := hx.one
    obtain ⟨a, ys, rfl, h1, r⟩ := h.seq hs
    have := r.bls? hb
    subst this
    exact ⟨a, b, rfl, h1, same0 hs (.bl _) hq⟩
  · cases e
theorem os_any : OpSn T (rAny T.K) oAny := by
  intro B H xs vs rv hs hx e Q hq
  unfold oAny at e
  split at e
  · obtain ⟨b, hb, rfl⟩ := Option.map_eq_some_iff.mp e
    obtain ⟨x, rfl, h⟩ := hx.one
    obtain ⟨a, ys, rfl, h1, r⟩ := h.seq hs
    have := r.bls? hb
    subst this
    exact ⟨a, b, rfl, h1, same0 hs (.bl _) hq⟩
  · cases e
def maxL : List Int → Option Int
  | [] => none
  | [x] => some x
  | x :: xs => (maxL xs).map fun y => max x y
theorem maxL_ok : ∀ {xs : List Int} {m : Int}, maxL xs = some m → m ∈ xs ∧ ∀ y ∈ xs, y ≤ m
  | [], _, e => by cases e
  | [x], _, e => by cases e; simp
  | x :: y :: zs, m, e => by
    unfold maxL at e
    obtain ⟨n, h, rfl⟩ := Option.map_eq_some_iff.mp e
    obtain ⟨h1, h2⟩ := maxL_ok h
    refine ⟨?_, fun z hz => ?_⟩
    · by_cases c : x ≤ n
      · rw [Int.max_eq_right c]; exact List.mem_cons_of_mem _ h1
      · rw [Int.max_eq_left (by omega)]; exact List.mem_cons_self
    · rcases List.mem_cons.mp hz with rfl | hz
      · exact Int.le_max_left _ _
      · exact Int.le_trans (h2 z hz) (Int.le_max_right _ _)
def oMax : List Val → Option RV
  | [.lst xs] => (match ints? xs with
    | some ns => (maxL ns).map fun m => .shr (.int m)
    | none => none)
  | [.int i, .int j] => some (.shr (.int (max i j)))
  | _ => none
abbrev rMaxA (K : PySem.W.Frag) : List V → Hp → VK → Prop := fun xs H Q => rMax K xs H Q ∨ ∃ i j, xs = [.int i, .int j] ∧ Q (.int (if j > i then j else i)) H
theorem CallR.or' {f : Value} {r r' : List V → Hp → VK → Prop} (h : CallR X f r) (h' : CallR X f r') : CallR X f (fun x H Q => r x H Q ∨ r' x H Q) := by
  intro pins s σ H xs us Q I r q
  rcases q with q | q
  · exact h pins s σ H xs us Q I r q
  · exact h' pins s σ H xs us Q I r q
theorem hc_max (hc : X.calm = true) : CallR X (.builtin "max") (rMaxA X.K) := CallR.or' (cr_max hc) (call_max2 hc)
theorem os_max : OpSn T (rMaxA T.K) oMax := by
  intro B H xs vs rv hs hx e Q hq
  unfold oMax at e
  split at e
  · split at e
    · rename_i ns hns
      obtain ⟨m, hm, rfl⟩ := Option.map_eq_some_iff.mp e
      obtain ⟨x, rfl, h⟩ := hx.one
      obtain ⟨a, ys, rfl, h1, r⟩ := h.seq hs
      have := r.ints? hns
      subst this
      obtain ⟨k1, k2⟩ := maxL_ok hm
      refine .inl ⟨a, ns, rfl, h1, List.length_pos_of_mem k1, fun m' h2 h3 => ?_⟩
      have : m' = m := Int.le_antisymm (k2 _ h2) (h3 _ k1)
      subst this
      exact same0 hs (.int _) hq
    · cases e
  · cases e
    obtain ⟨x, y, rfl, h1, h2⟩ := hx.two
    have e1 := h1.int
    have e2 := h2.int
    subst e1 e2
    rename_i i j
    refine .inr ⟨i, j, rfl, ?_⟩
    have : (if j > i then j else i) = max i j := by
      by_cases c : j > i
      · rw [if_pos c, Int.max_eq_right (by omega)]
      · rw [if_neg c, Int.max_eq_left (by omega)]
    rw [this]
    exact same0 hs (.int _) hq
  · cases e
def oMin : List Val → Option RV
  | [.int i, .int j] => some (.shr (.int (min i j)))
  | _ => none
abbrev rMin2 : List V → Hp → VK → Prop := fun xs H Q => ∃ i j, xs = [.int i, .int j] ∧ Q (.int (if j < i then j else i)) H
theorem os_min : OpSn T rMin2 oMin := by
  intro B H xs vs rv hs hx e Q hq
  unfold oMin at e
  split at e
  · cases e
    obtain ⟨x, y, rfl, h1, h2⟩ := hx.two
    have e1 := h1.int
    have e2 := h2.int
    subst e1 e2
    rename_i i j
    refine ⟨i, j, rfl, ?_⟩
    have : (if j < i then j else i) = min i j := by
      by_cases c : j < i
      · rw [if_pos c, Int.min_eq_right (by omega)]
      · rw [if_neg c, Int.min_eq_left (by omega)]
    rw [this]
    exact same0 hs (.int _) hq
  · cases e
def oInt : List Val → Option RV
  | [.str z] => if z.length ≤ 640 then (PySem.intText? ⟨z.toArray⟩).map fun n => .shr (.int n) else none
  | _ => none
abbrev rIntS : List V → Hp → VK → Prop := fun xs H Q => ∃ a n, xs = [.str a] ∧ PySem.intText? a = some n ∧ a.length ≤ 640 ∧ Q (.int n) H
theorem os_int : OpSn T rIntS oInt := by
  intro B H xs vs rv hs hx e Q hq
  unfold oInt at e
  split at e
  · split at e
    · rename_i z hl
      obtain ⟨n, hn, rfl⟩ := Option.map_eq_some_iff.mp e
      obtain ⟨x, rfl, h⟩ := hx.one
      have ex := h.str
      subst ex
      exact ⟨_, n, rfl, hn, by show _root_.Array.size _ ≤ _; simpa using hl, same0 hs (.int _) hq⟩
    · cases e
  · cases e
def oStr : List Val → Option RV
  | [.int i] => if -1000000000000 ≤ i ∧ i ≤ 1000000000000 then some (.shr (.str (Str.ofString (toString i)).cps.toList)) else none
  | _ => none
def oTupleOf : List Val → Option RV
  | [.lst xs] => some (.shr (.tup xs))
  | [.tup xs] => some (.shr (.tup xs))
  | _ => none
abbrev rTupleOf (K : PySem.W.Frag) : List V → Hp → VK → Prop := fun xs H Q => ∃ p ys, xs = [.ref p] ∧ ((SqL K H p ys ∧ ∀ l, H l = none → Q (.ref l) (upd H l (.tup ys))) ∨ (SqT K H p ys ∧ Q (.ref p) H))
theorem os_tupleOf : OpSn T (rTupleOf T.K) oTupleOf := by
  intro B H xs vs rv hs hx e Q hq
  unfold oTupleOf at e
  split at e
  · cases e
    obtain ⟨x, rfl, h⟩ := hx.one
    obtain ⟨a, ys, rfl, h1, r⟩ := h.seq hs
    exact ⟨a, ys, rfl, .inl ⟨h1, newT hs r hq⟩⟩
  · cases e
    obtain ⟨x, rfl, h⟩ := hx.one
    obtain ⟨a, ys, rfl, h1, r⟩ := h.tupS
    exact ⟨a, ys, rfl, .inr ⟨.of (hs _ _ h1), same0 hs (.tup h1 r) hq⟩⟩
  · cases e
def oListOf : List Val → Option RV
  | [.lst xs] => some (.new (.lst xs))
  | [.tup xs] => some (.new (.lst xs))
  | _ => none
abbrev rListOf (K : PySem.W.Frag) : List V → Hp → VK → Prop := fun xs H Q => ∃ p ys, xs = [.ref p] ∧ (SqL K H p ys ∨ SqT K H p ys) ∧ ∀ l, H l = none → Q (.ref l) (upd H l (.lst ys))
theorem os_listOf : OpSn T (rListOf T.K) oListOf := by
  intro B H xs vs rv hs hx e Q hq
  unfold oListOf at e
  split at e
  · cases e
    obtain ⟨x, rfl, h⟩ := hx.one
    obtain ⟨a, ys, rfl, h1, r⟩ := h.seq hs
    exact ⟨a, ys, rfl, .inl h1, newL hs r hq⟩
  · cases e
    obtain ⟨x, rfl, h⟩ := hx.one
    obtain ⟨a, ys, rfl, h1, r⟩ := h.tup hs
    exact ⟨a, ys, rfl, .inr (.of h1), newL hs r hq⟩
  · cases e

/-! ### methods of texts -/
def S (l : List Nat) : Str := ⟨l.toArray⟩
theorem S_len (l : List Nat) : (S l).length = l.length := by show _root_.Array.size _ = _; simp [S]
theorem S_back (x : Str) : S x.cps.toList = x := by cases x; rfl
def oJoin : Val → List Val → Option RV
  | .str a, [.lst vs] => (match strs? vs with
    | some ls => if (ls.map List.length).sum + ls.length * a.length ≤ 16000000 then some (.shr (.str (TL.joinL a ls))) else none
    | none => none)
  | _, _ => none
abbrev rJoin (K : PySem.W.Frag) : V → List V → Hp → VK → Prop := fun x xs H Q => ∃ a p, ∃ ys : List Str, x = .str a ∧ xs = [.ref p] ∧ (SqL K H p (ys.map V.str) ∨ SqT K H p (ys.map V.str)) ∧
    (ys.map (·.length)).sum + ys.length * a.length ≤ 16777216 ∧ Q (.str (Txt.join a ys)) H
theorem os_join : OpSm T (rJoin T.K) oJoin := by
  intro B H x xs v vs rv hs h hx e Q hq
  unfold oJoin at e
  split at e
  · rename_i a ws
    split at e
    · rename_i ls hls
      split at e
      · rename_i hz
        cases e
        obtain ⟨y, rfl, h1⟩ := hx.one
        obtain ⟨p, ys, rfl, h2, r⟩ := h1.seq hs
        have e3 := r.strs? hls
        subst e3
        refine ⟨_, p, _, h.str, rfl, .inl h2, ?_, same0 hs ?_ hq⟩
        · have e1 : (List.map (fun x : Str => x.length) (List.map (fun l => (⟨l.toArray⟩ : Str)) ls)) = ls.map List.length := by
            rw [List.map_map]; apply List.map_congr_left; intro l _; exact S_len l
          rw [e1, List.length_map]
          have e2 : (⟨a.toArray⟩ : Str).length = a.length := S_len a
          rw [e2]; omega
        · refine Rep.of_str ?_
          rw [TL.join_eq]
          have := TL.tl_join (⟨a.toArray⟩ : Str) (ls.map fun l => (⟨l.toArray⟩ : Str))
          unfold TL.tl at this
          rw [this, List.map_map]
          congr 1
          exact (List.map_congr_left fun l _ => rfl).trans (List.map_id ls)
      · cases e
    · cases e
  · cases e
def oEnds : Val → List Val → Option RV
  | .str a, [.str b] => some (.shr (.bl (Txt.endswith (S a) (S b))))
  | _, _ => none
def oStarts : Val → List Val → Option RV
  | .str a, [.str b] => some (.shr (.bl (Txt.startswith (S a) (S b))))
  | .str a, [.str b, .int i] => some (.shr (.bl (Txt.startswith3 (S a) (S b) i)))
  | _, _ => none
def oCount : Val → List Val → Option RV
  | .str a, [.str b] => some (.shr (.int (Txt.count (S a) (S b))))
  | _, _ => none
abbrev rEnds : V → List V → Hp → VK → Prop := fun x xs H Q => ∃ a b, x = .str a ∧ xs = [.str b] ∧ Q (.bl (Txt.endswith a b)) H
abbrev rStarts : V → List V → Hp → VK → Prop := fun x xs H Q => (∃ a b, x = .str a ∧ xs = [.str b] ∧ Q (.bl (Txt.startswith a b)) H) ∨ ∃ (a b : Str) (i : Int), x = .str a ∧ xs = [.str b, .int i] ∧ Q (.bl (Txt.startswith3 a b i)) H
abbrev rCount' : V → List V → Hp → VK → Prop := fun x xs H Q => ∃ a b, x = .str a ∧ xs = [.str b] ∧ Q (.int (Txt.count a b)) H
theorem hm_starts : MtR X "str.startswith" rStarts := mt_startswith.or mt_startswith3
theorem os_ends : OpSm T rEnds oEnds := by
  intro B H x xs v vs rv hs h hx e Q hq
  unfold oEnds at e
  split at e
  · rename_i a b
    cases e
    obtain ⟨y, rfl, h1⟩ := hx.one
    exact ⟨S a, S b, h.str, by rw [h1.str]; rfl, same0 hs (.bl _) hq⟩
  · cases e
theorem os_count : OpSm T rCount' oCount := by
  intro B H x xs v vs rv hs h hx e Q hq
  unfold oCount at e
  split at e
  · rename_i a b
    cases e
    obtain ⟨y, rfl, h1⟩ := hx.one
    exact ⟨S a, S b, h.str, by rw [h1.str]; rfl, same0 hs (.int _) hq⟩
  · cases e
theorem os_starts : OpSm T rStarts oStarts := by
  intro B H x xs v vs rv hs h hx e Q hq
  unfold oStarts at e
  split at e
  · rename_i a b
    cases e
    obtain ⟨y, rfl, h1⟩ := hx.one
    exact .inl ⟨S a, S b, h.str, by rw [h1.str]; rfl, same0 hs (.bl _) hq⟩
  · rename_i a b i
    cases e
    obtain ⟨y, z, rfl, h1, h2⟩ := hx.two
    exact .inr ⟨S a, S b, i, h.str, by rw [h1.str, h2.int]; rfl, same0 hs (.bl _) hq⟩
  · cases e
def oSplit : Val → List Val → Option RV
  | .str a, [.str b] => if b.length ≠ 0 ∧ a.length ≤ 1000000 then some (.new (.lst ((Txt.split (S a) (S b)).map fun x => .str x.cps.toList))) else none
  | _, _ => none
abbrev rSplit : V → List V → Hp → VK → Prop := fun x xs H Q => ∃ a b, x = .str a ∧ xs = [.str b] ∧ (b.length == 0) = false ∧ a.length + 2 ≤ sizeLine ∧ rNewStrs (Txt.split a b) H Q
theorem rep_strs {B : Hp} : ∀ ys : List Str, RepAll T B (ys.map V.str) (ys.map fun x => Val.str x.cps.toList)
  | [] => .nil
  | y :: ys => .cons (.str y) (rep_strs ys)
theorem os_split : OpSm T rSplit oSplit := by
  intro B H x xs v vs rv hs h hx e Q hq
  unfold oSplit at e
  split at e
  · rename_i a b
    split at e
    · rename_i hc
      cases e
      obtain ⟨y, rfl, h1⟩ := hx.one
      refine ⟨S a, S b, h.str, by rw [h1.str]; rfl, ?_, ?_, newL hs (rep_strs _) hq⟩
      · rw [S_len]; exact beq_eq_false_iff_ne.mpr hc.1
      · rw [S_len]; exact line_ok (by omega)
    · cases e
  · cases e
end
end Lw

end
section
set_option Elab.async false
set_option linter.all false
set_option maxRecDepth 100000
set_option maxHeartbeats 3200000
set_option autoImplicit false
/-! Lw: len(set(texts)). -/
namespace Lw.ST
open PySem PySem.Spec PyProof.Rows
def put (ms : List Str) (x : Str) : List Str := if x ∈ ms then ms else x :: ms
def puts (ms xs : List Str) : List Str := xs.foldl put ms
theorem put_len (ms : List Str) (x : Str) : (put ms x).length ≤ ms.length + 1 := by
  unfold put; split
  · exact Nat.le_succ _
  · exact Nat.le_refl _
theorem puts_len : ∀ (xs ms : List Str), (puts ms xs).length ≤ ms.length + xs.length
  | [], _ => Nat.le_refl _
  | x :: xs, ms => by
    have h1 := puts_len xs (put ms x)
    have h2 := put_len ms x
    show (puts (put ms x) xs).length ≤ _
    rw [List.length_cons]; omega
section
variable {prog : Program} {w : World} {A : Around} {R : Result → Shared → Prop} {I : Addr} {fp wr : List Addr} {G : Array GenState → Array GenState → Prop} {n : Nat} {P : Nat → Value → Prop} {St : Nat → Shared → Prop}
abbrev Has (prog : Program) (w : World) (h : Heap) (S : Addr) (ms : List Str) : Prop := h.SetOf (PySem.strKind prog w) S (fun k => decide (k ∈ ms)) ms.length
theorem Has.keep {h h' : Heap} {S : Addr} {ms : List Str} (a : Has prog w h S ms) (k : ∀ o, h.get? S = some o → h'.get? S = some o) : Has prog w h' S ms := by
  obtain ⟨o, es, ep, t, ho, r⟩ := a
  exact ⟨o, es, ep, t, k o ho, r⟩
/-- the loop of set's start, by what is still to come -/
theorem fill (W : WalksS prog w A.in1 I fp wr G n P St) (S : Addr) (hS : S ∉ fp) (xs : List Str) (hval : ∀ i v, P i v → ∃ x t, xs[i]? = some x ∧ v = .str x t) (hn : n = xs.length) :
    ∀ (todo : List Str) (i : Nat) (ms : List Str) (s : Shared), xs.drop i = todo → i ≤ n → ms.length + todo.length + 1 < scanBound → St i s → Has prog w s.heap S ms →
      (∀ s', Moved (S :: wr) G s s' → Has prog w s'.heap S (puts ms todo) → R (.ok (.ret .none)) s') →
      codeAny (model prog w) A (.builtin "set.update.loop" ⟨[.ref S, .ref I], []⟩) R s := by
  have nw : S ∉ wr := fun h => hS (W.sub _ h)
  have up : ∀ b ∈ wr, b ∈ S :: wr := fun b hb => List.mem_cons_of_mem _ hb
  intro todo
  induction todo with
  | nil =>
    intro i ms s hd hi hb st hs hR
    have e : i = n := by
      have := congrArg List.length hd
      rw [List.length_drop, List.length_nil] at this
      omega
    subst e
    refine codeAny_builtin F.entry_set_update_loop ?_
    rw [Around.under_plainId F.plain_set_update_loop _]
    show wpAny _ A.in1 (pyNext (.ref I) >>= _) _ _ s
    refine wpAny_bind (W.done s _ _ st fun s1 m => ?_)
    show wpAny _ A.in1 (ret Value.none) _ _ s1
    exact wpAny_pure (hR s1 (m.mono up) (hs.keep fun o e => m.heap S o nw e))
  | cons x todo ih =>
    intro i ms s hd hi hb st hs hR
    have hx : xs[i]? = some x := by
      have := congrArg (fun l => l[0]?) hd
      simpa using this
    have hlt : i < n := by rw [hn]; exact (List.getElem?_eq_some_iff.mp hx).1
    refine codeAny_builtin F.entry_set_update_loop ?_
    rw [Around.under_plainId F.plain_set_update_loop _]
    show wpAny _ A.in1 (pyNext (.ref I) >>= _) _ _ s
    refine wpAny_bind (W.item i s _ _ hlt st fun v s1 hv st1 m => ?_)
    obtain ⟨y, t, hy, rfl⟩ := hval i v hv
    rw [hx] at hy
    cases hy
    have hs1 := hs.keep (h' := s1.heap) fun o e => m.heap S o nw e
    show wpAny _ A.in1 (holding [Value.str x t] (setAdd S (.str x t)) >>= _) _ _ s1
    refine wpAny_bind (wpAny_holding ?_)
    unfold setAdd
    refine wpAny_holding (wpAny_bind ((PySem.strKind prog w).pyHash (k := x) (strKind_is _ _ _ _) ?_))
    rw [List.length_cons] at hb
    refine wpAny_setAddHashed_of (knd := PySem.strKind prog w) (s := { s1 with toks := s1.toks + 1 }) (strKind_is _ _ _ _) rfl hs1 (by omega) fun h2 sb new => ?_
    have hs2 : Has prog w h2 S (put ms x) := by
      refine SetOf_congr new (fun k => ?_) ?_
      · show (decide (k ∈ ms) || decide (k = x)) = decide (k ∈ put ms x)
        unfold put
        by_cases c : x ∈ ms
        · rw [if_pos c]
          by_cases d : k = x
          · subst d; simp [c]
          · simp [d]
        · rw [if_neg c]
          by_cases d : k = x
          · subst d; simp
          · simp [d]
      · show (if decide (x ∈ ms) = true then ms.length else ms.length + 1) = (put ms x).length
        unfold put
        by_cases c : x ∈ ms
        · simp [c]
        · simp [c]
    have oth : ∀ b, b ≠ S → h2.get? b = s1.heap.get? b := fun b hb => sb.2 b hb
    refine wpAny_pure ⟨plainId_quiet F.plain_set_update_loop _, ih (i + 1) (put ms x) _ ?_ hlt ?_ (W.frame _ s1 _ _ st1 (Nat.le_succ _) fun b hb o e => ?_) hs2 fun s3 m3 hs3 => ?_⟩
    · have := congrArg List.tail hd
      simpa using this
    · have := put_len ms x
      omega
    · exact (oth b fun h => hS (h ▸ hb)).trans e
    · refine hR s3 (Moved.trans W.gtrans ((m.mono up).then_heap (Nat.le_succ _) fun b o hb e => ?_) m3) hs3
      exact (oth b fun h => hb (h ▸ List.mem_cons_self)).trans e
end
section
variable {prog : Program} {w : World} {A : Around} {E : Value → Shared → Prop} {s : Shared}
/-- what of the state is left behind set(l) -/
def After (prog : Program) (w : World) (s : Shared) (xs : List Str) (s1 : Shared) : Prop :=
  ∃ h tk, s1 = { s with heap := h, toks := tk } ∧ Has prog w h s.heap.objs.size (puts [] xs) ∧ ∀ b o, s.heap.get? b = some o → h.get? b = some o
theorem init_texts {l : Addr} {items : Array Value} {xs : List Str} {led : Bool} (hh : A.handled = none) (hl : s.heap.IsList l items) (hi : StrsAre items.toList xs) (hb : xs.length + 1 < scanBound)
    {s1 : Shared} (e1 : s1 = { s with heap := s.heap.push { cls := .type "set", dict := none, data := .set #[] 0 (.fresh 0 0 led) } }) :
    codeAny (model prog w) A (.call (.builtin "set.__init__") ⟨[.ref s.heap.objs.size, .ref l], []⟩) (wants (fun r s2 => r = .none ∧ After prog w s xs s2) E) s1 := by
  subst e1
  have hS : (s.heap.push { cls := .type "set", dict := none, data := .set #[] 0 (.fresh 0 0 led) }).get? s.heap.objs.size = some { cls := .type "set", dict := none, data := .set #[] 0 (.fresh 0 0 led) } := Heap.get?_push_size _ rfl
  refine codeAny_call_builtin F.called_set.init.plain F.entry_set_init (check_set_init_1 ⟨_, hS, rfl⟩ ?_)
  obtain ⟨⟨oc, od, odata, osl⟩, hol, hcl, nl, hdl⟩ := hl
  simp only at hcl hdl
  subst hcl hdl
  have hol1 : (s.heap.push { cls := .type "set", dict := none, data := .set #[] 0 (.fresh 0 0 led) }).get? l = some { cls := .type "list", dict := od, data := .seq items nl, slots := osl } := Heap.get?_push_of_some _ hol
  have hsub1 := F.sub_list_set
  have hsub2 := F.sub_list_frozenset
  have hne : (Value.type "list" == Value.type "dict") = false := by decide
  have hl1 : (s.heap.push { cls := .type "set", dict := none, data := .set #[] 0 (.fresh 0 0 led) }).IsList l items := ⟨_, hol1, rfl, nl, rfl⟩
  unfold Builtin.«set.__init__» noKeywords Builtin.Frozenset.updateFrom
  generalize hPI : pyIter = PI
  wp_walk
  subst hPI
  refine wpAny_pyIter_list hl1 (wpAny_bind (wpAny_runValue ?_))
  have lS : l < s.heap.objs.size := Heap.lt_size hol
  have z1 : (s.heap.push { cls := .type "set", dict := none, data := .set #[] 0 (.fresh 0 0 led) }).objs.size = s.heap.objs.size + 1 := Heap.size_push ..
  have nI : l ≠ (s.heap.push { cls := .type "set", dict := none, data := .set #[] 0 (.fresh 0 0 led) }).objs.size := by rw [z1]; exact Nat.ne_of_lt (Nat.lt_succ_of_lt lS)
  have hlen : items.size = xs.length := by rw [← Array.length_toList]; exact StrsAre.len_eq hi
  refine fill ((Walks.list (by simp [hh]) _ l nI items).toS) s.heap.objs.size ?_ xs (fun i v hv => ?_) hlen xs 0 [] _ List.drop_zero (Nat.zero_le _) (by simpa using hb) ⟨⟨_, Heap.get?_push_size _ rfl, rfl, rfl⟩, hl1.push _⟩ ?_ fun s2 m hs => ?_
  · rw [z1]
    intro hm
    rcases List.mem_cons.mp hm with h | h
    · exact Nat.ne_of_lt (Nat.lt_succ_self _) h
    · rw [List.mem_singleton] at h
      exact Nat.ne_of_gt lS h
  · have hv' : items.toList[i]? = some v := by rw [Array.getElem?_toList]; exact hv
    obtain ⟨t, e⟩ := SS.strs_at hi i v hv'
    have hlt : i < xs.length := by rw [← hlen]; exact (Array.getElem?_eq_some_iff.mp hv).1
    refine ⟨xs.getD i Str.empty, t, ?_, e⟩
    rw [List.getD_eq_getElem?_getD, List.getElem?_eq_getElem hlt]; rfl
  · have hg : ((s.heap.push { cls := .type "set", dict := none, data := .set #[] 0 (.fresh 0 0 led) }).push { cls := .type "list_iterator", data := .fields #[.ref l, .int 0 0] }).get? s.heap.objs.size = some { cls := .type "set", dict := none, data := .set #[] 0 (.fresh 0 0 led) } := Heap.get?_push_of_some _ hS
    exact SetOf_congr ((setObjOf_fresh (knd := PySem.strKind prog w) led).setOf hg (by unfold scanBound; omega)) (fun _ => rfl) rfl
  · obtain ⟨h2, g2, d2, tk2, os2⟩ := s2
    have eg : g2 = s.gens := m.gens
    have ed : d2 = s.drawn := m.drawn
    have eo : os2 = s.os := m.os
    subst eg ed eo
    show wpAny _ _ _ _ _ _
    refine wpAny_pure ?_
    show wpAny _ _ (ret Value.none) _ _ _
    refine wpAny_pure ⟨rfl, h2, tk2, rfl, hs, fun b o e => ?_⟩
    have hb1 : b < s.heap.objs.size := Heap.lt_size e
    refine m.heap b o (fun hm => ?_) (Heap.get?_push_of_some _ (Heap.get?_push_of_some _ e))
    rcases List.mem_cons.mp hm with h | hm
    · exact Nat.ne_of_lt hb1 h
    · rw [List.mem_singleton, z1] at hm
      exact Nat.ne_of_lt (Nat.lt_succ_of_lt hb1) hm
/-- set(x), x a text -/
theorem init_str {x : Str} {t : Tok} {led : Bool} (hh : A.handled = none) (ha : x.cps.all (· < 128) = true) (hb : x.length + 1 < scanBound)
    {s1 : Shared} (e1 : s1 = { s with heap := s.heap.push { cls := .type "set", dict := none, data := .set #[] 0 (.fresh 0 0 led) } }) :
    codeAny (model prog w) A (.call (.builtin "set.__init__") ⟨[.ref s.heap.objs.size, .str x t], []⟩) (wants (fun r s2 => r = .none ∧ After prog w s (x.cps.toList.map fun c => (⟨#[c]⟩ : Str)) s2) E) s1 := by
  subst e1
  have hS : (s.heap.push { cls := .type "set", dict := none, data := .set #[] 0 (.fresh 0 0 led) }).get? s.heap.objs.size = some { cls := .type "set", dict := none, data := .set #[] 0 (.fresh 0 0 led) } := Heap.get?_push_size _ rfl
  refine codeAny_call_builtin F.called_set.init.plain F.entry_set_init (check_set_init_1 ⟨_, hS, rfl⟩ ?_)
  have hsub1 := F.sub_str_set
  have hsub2 := F.sub_str_frozenset
  have hne : (Value.type "str" == Value.type "dict") = false := by decide
  unfold Builtin.«set.__init__» noKeywords Builtin.Frozenset.updateFrom
  generalize hPI : pyIter = PI
  wp_walk
  subst hPI
  refine wpAny_pyIter_ascii ha (wpAny_bind (wpAny_runValue ?_))
  have z1 : (s.heap.push { cls := .type "set", dict := none, data := .set #[] 0 (.fresh 0 0 led) }).objs.size = s.heap.objs.size + 1 := Heap.size_push ..
  have hlen : x.length = (x.cps.toList.map fun c => (⟨#[c]⟩ : Str)).length := by rw [List.length_map]; exact Array.length_toList.symm
  refine fill ((Walks.strAscii (by simp [hh]) _ x t).toS) s.heap.objs.size ?_ (x.cps.toList.map fun c => (⟨#[c]⟩ : Str)) (fun i v hv => ?_) hlen _ 0 [] _ List.drop_zero (Nat.zero_le _) (by rw [← hlen]; simpa using hb) ⟨_, Heap.get?_push_size _ rfl, rfl, rfl⟩ ?_ fun s2 m hs => ?_
  · rw [z1]
    intro hm
    rw [List.mem_singleton] at hm
    exact Nat.ne_of_lt (Nat.lt_succ_self _) hm
  · obtain ⟨c, u, hc, rfl⟩ := hv
    exact ⟨⟨#[c]⟩, u, by rw [List.getElem?_map, Array.getElem?_toList, hc]; rfl, rfl⟩
  · have hg : ((s.heap.push { cls := .type "set", dict := none, data := .set #[] 0 (.fresh 0 0 led) }).push { cls := .type "str_ascii_iterator", data := .fields #[.str x t, .int 0 0] }).get? s.heap.objs.size = some { cls := .type "set", dict := none, data := .set #[] 0 (.fresh 0 0 led) } := Heap.get?_push_of_some _ hS
    exact SetOf_congr ((setObjOf_fresh (knd := PySem.strKind prog w) led).setOf hg (by unfold scanBound; omega)) (fun _ => rfl) rfl
  · obtain ⟨h2, g2, d2, tk2, os2⟩ := s2
    have eg : g2 = s.gens := m.gens
    have ed : d2 = s.drawn := m.drawn
    have eo : os2 = s.os := m.os
    subst eg ed eo
    show wpAny _ _ _ _ _ _
    refine wpAny_pure ?_
    show wpAny _ _ (ret Value.none) _ _ _
    refine wpAny_pure ⟨rfl, h2, tk2, rfl, hs, fun b o e => ?_⟩
    have hb1 : b < s.heap.objs.size := Heap.lt_size e
    refine m.heap b o (fun hm => ?_) (Heap.get?_push_of_some _ (Heap.get?_push_of_some _ e))
    rcases List.mem_cons.mp hm with h | hm
    · exact Nat.ne_of_lt hb1 h
    · rw [List.mem_singleton, z1] at hm
      exact Nat.ne_of_lt (Nat.lt_succ_of_lt hb1) hm
theorem call_texts {l : Addr} {items : Array Value} {xs : List Str} {Q : Value → Shared → Prop} (hh : A.handled = none) (hl : s.heap.IsList l items) (hi : StrsAre items.toList xs) (hb : xs.length + 1 < scanBound)
    (h : ∀ s1, After prog w s xs s1 → Q (.ref s.heap.objs.size) s1) : wpAny (model prog w) A (call (.type "set") [.ref l]) Q E s := by
  obtain ⟨c, tl, hmro⟩ := F.called_set.mro
  have hmade := F.called_set.made
  have hsub := F.called_set.sub
  refine wpAny_call (codeAny_of_tree ?_)
  show wpAny _ _ (callAny (.type "set") _) _ _ _
  refine wpAny_pure ⟨Code.quiet_builtin _ (by decide +kernel), codeAny_builtin F.entry_type_call ?_⟩
  rw [Around.under_plain (weight_type_call_type "set" [.ref l] []) rfl]
  have h1 := F.called_set.notType
  have h2 := F.called_set.canCreate
  have h3 := F.typeCall_set_1 (.ref l)
  repeat (any_goals (first | assumption | wp_step))
  refine codeAny_mono (code_set_new_1 (.ref l) (E := E) (Q₁ := fun obj s₁ => ∃ led : Bool, obj = .ref s.heap.objs.size ∧ s₁ = { s with heap := s.heap.push { cls := .type "set", dict := none, data := .set #[] 0 (.fresh 0 0 led) } }) fun led => ⟨led, rfl, rfl⟩) fun r s1 hr => ?_
  cases r with
  | error e => exact hr
  | ok fl =>
    cases fl with
    | ret obj =>
      obtain ⟨led, rfl, e1⟩ := hr
      have hT : s1.TypeIs (.ref s.heap.objs.size) "set" := by
        subst e1
        exact ⟨_, Heap.get?_push_size _ rfl, rfl⟩
      have hli := F.called_set.init.lookup
      have hbi := F.called_set.init.bind (.ref s.heap.objs.size)
      repeat (any_goals (first | assumption | wp_step))
      refine codeAny_mono (init_texts (E := E) (by simp [hh]) hl hi hb e1) fun r2 s2 hr2 => ?_
      cases r2 with
      | error e => exact hr2
      | ok fl2 =>
        cases fl2 with
        | ret r =>
          obtain ⟨rfl, a⟩ := hr2
          repeat (any_goals (first | assumption | wp_step))
          exact h s2 a
        | _ => exact hr2.elim
    | _ => exact hr.elim
theorem call_str {x : Str} {t : Tok} {Q : Value → Shared → Prop} (hh : A.handled = none) (ha : x.cps.all (· < 128) = true) (hb : x.length + 1 < scanBound)
    (h : ∀ s1, After prog w s (x.cps.toList.map fun c => (⟨#[c]⟩ : Str)) s1 → Q (.ref s.heap.objs.size) s1) : wpAny (model prog w) A (call (.type "set") [.str x t]) Q E s := by
  obtain ⟨c, tl, hmro⟩ := F.called_set.mro
  have hmade := F.called_set.made
  have hsub := F.called_set.sub
  refine wpAny_call (codeAny_of_tree ?_)
  show wpAny _ _ (callAny (.type "set") _) _ _ _
  refine wpAny_pure ⟨Code.quiet_builtin _ (by decide +kernel), codeAny_builtin F.entry_type_call ?_⟩
  rw [Around.under_plain (weight_type_call_type "set" [.str x t] []) rfl]
  have h1 := F.called_set.notType
  have h2 := F.called_set.canCreate
  have h3 := F.typeCall_set_1 (.str x t)
  repeat (any_goals (first | assumption | wp_step))
  refine codeAny_mono (code_set_new_1 (.str x t) (E := E) (Q₁ := fun obj s₁ => ∃ led : Bool, obj = .ref s.heap.objs.size ∧ s₁ = { s with heap := s.heap.push { cls := .type "set", dict := none, data := .set #[] 0 (.fresh 0 0 led) } }) fun led => ⟨led, rfl, rfl⟩) fun r s1 hr => ?_
  cases r with
  | error e => exact hr
  | ok fl =>
    cases fl with
    | ret obj =>
      obtain ⟨led, rfl, e1⟩ := hr
      have hT : s1.TypeIs (.ref s.heap.objs.size) "set" := by
        subst e1
        exact ⟨_, Heap.get?_push_size _ rfl, rfl⟩
      have hli := F.called_set.init.lookup
      have hbi := F.called_set.init.bind (.ref s.heap.objs.size)
      repeat (any_goals (first | assumption | wp_step))
      refine codeAny_mono (init_str (E := E) (by simp [hh]) ha hb e1) fun r2 s2 hr2 => ?_
      cases r2 with
      | error e => exact hr2
      | ok fl2 =>
        cases fl2 with
        | ret r =>
          obtain ⟨rfl, a⟩ := hr2
          repeat (any_goals (first | assumption | wp_step))
          exact h s2 a
        | _ => exact hr2.elim
    | _ => exact hr.elim
end
end Lw.ST
namespace Lw
open PySem L2
/-- how many different -/
def uniqN (ls : List (List Nat)) : Nat := (ST.puts [] (ls.map S)).length
def oLenSet : Val → Option RV
  | .lst vs => (match strs? vs with
    | some ls => if ls.length ≤ 4000 then some (.shr (.int (uniqN ls))) else none
    | none => none)
  | .str z => if z.all (fun c => decide (c < 128)) = true ∧ z.length ≤ 4000 then some (.shr (.int (uniqN (z.map fun c => [c])))) else none
  | _ => none
def tLenS (K : PySem.W.Frag) : V → Hp → VK → Prop := fun x H Q => (∃ l, ∃ ls : List (List Nat), x = .ref l ∧ SqL K H l ((ls.map S).map V.str) ∧ ls.length ≤ 4000 ∧ Q (.int (uniqN ls)) H) ∨
  ∃ z : List Nat, x = .str (S z) ∧ z.all (fun c => decide (c < 128)) = true ∧ z.length ≤ 4000 ∧ Q (.int (uniqN (z.map fun c => [c]))) H
section
variable {X : Cx} {W : WX} {a : Expr} {f : EF} {p p2 q pos : Pos}
theorem pe_lenSetS {ta : TE} (hc : X.calm = true) (hg : Gl X "len") (hm : X.mg "len" = none) (hg2 : Gl X "set") (hm2 : X.mg "set" = none) (ha : PE X a ta)
    (na : starEach [a] X.env = (false, eval a X.env) :: starEach [] X.env := by rfl) : PE X (.Call (.Name "len" p) [.Call (.Name "set" p2) [a] [] q] [] pos) (fun σ H Q => ta σ H fun x H1 => tLenS X.K x H1 Q) := by
  refine ⟨fun pins s σ H Q I h => ?_⟩
  refine PyProof.Rows.Call_ (ld_blt I hg hm boot_len ?_)
  refine PyProof.Rows.callWith_builtin1 (PyProof.Rows.args_cons ?_ rfl) rfl rfl
  refine PyProof.Rows.Call_ (ld_blt I hg2 hm2 PyProof.Rows.boot_set ?_)
  refine PyProof.Rows.callWith_type1 (PyProof.Rows.args_cons (thn (ha.run pins s σ H _ I h) fun v s1 ⟨x, H1, I1, r1, q1⟩ => PyProof.Rows.args_nil ?_) na) na rfl
  rcases q1 with ⟨l, ls, rfl, hq, h4, q1⟩ | ⟨z, rfl, h5, h4, q1⟩
  case inr =>
    obtain ⟨tz, rfl⟩ := r1
    have hall : (S z).cps.all (· < 128) = true := by
      show z.toArray.all (· < 128) = true
      rw [List.all_toArray]
      exact h5
    refine ST.call_str (I1.ok.hd hc) hall (by rw [S_len]; unfold scanBound; omega) fun s2 af => ?_
    obtain ⟨h', tk, rfl, ⟨o, es, ep, t, ho, hex, hd, _, _, _, hf, hn⟩, hk⟩ := af
    refine PyProof.Rows.args_nil ?_
    have I2 : Inv X pins σ H1 { s1 with heap := h', toks := tk } := I1.kept fun b o e => hk b o e
    have em : ((S z).cps.toList.map fun c => (⟨#[c]⟩ : Str)) = (z.map fun c => [c]).map S := by rw [List.map_map]; rfl
    rw [em] at hn
    have hl := ST.puts_len ((z.map fun c => [c]).map S) []
    rw [List.length_map, List.length_map, List.length_nil] at hl
    exact call_len_set ho hex hd hf (by rw [hn] <;> omega) ⟨.int (uniqN (z.map fun c => [c])), H1, I2.tok _, ⟨_, by rw [hn]; rfl⟩, q1⟩
  cases r1
  obtain ⟨its, r, pl, hz⟩ := I1.list hq
  refine ST.call_texts (I1.ok.hd hc) pl.isList (xs := ls.map S) (by simpa using strsAre_of r) (by rw [List.length_map]; unfold scanBound; omega) fun s2 af => ?_
  obtain ⟨h', tk, rfl, ⟨o, es, ep, t, ho, hex, hd, _, _, _, hf, hn⟩, hk⟩ := af
  refine PyProof.Rows.args_nil ?_
  have I2 : Inv X pins σ H1 { s1 with heap := h', toks := tk } := I1.kept fun b o e => hk b o e
  have hl := ST.puts_len (ls.map S) []
  rw [List.length_map, List.length_nil] at hl
  refine call_len_set ho hex hd hf (by rw [hn] <;> omega) ⟨.int (uniqN ls), H1, I2.tok _, ⟨_, by rw [hn]; rfl⟩, q1⟩
def sLenSet (f : EF) : EF := sUn oLenSet f
theorem se_lenSet (hc : X.calm = true) (hg : Gl X "len") (hm : X.mg "len" = none) (hg2 : Gl X "set") (hm2 : X.mg "set" = none) (ha : SE X W a f)
    (na : starEach [a] X.env = (false, eval a X.env) :: starEach [] X.env := by rfl) : SE X W (.Call (.Name "len" p) [.Call (.Name "set" p2) [a] [] q] [] pos) (sLenSet f) := by
  refine PE.mono (pe_lenSetS hc hg hm hg2 hm2 ha na) fun σ H Q q => ?_
  refine un_mono (X := X) (r := tLenS X.K) (fun B H1 x v rv hs hx e Q hq => ?_) σ H Q q
  unfold oLenSet at e
  split at e
  · split at e
    · rename_i ls hls
      split at e
      · rename_i hz
        cases e
        obtain ⟨p, ys, rfl, h2, r⟩ := hx.seq hs
        have e3 := r.strs? hls
        subst e3
        exact .inl ⟨p, ls, rfl, h2, hz, same0 hs (.int _) hq⟩
      · cases e
    · cases e
  · rename_i z
    split at e
    · rename_i hz
      cases e
      exact .inr ⟨z, hx.str, hz.1, hz.2, same0 hs (.int _) hq⟩
    · cases e
  · cases e
end
end Lw

end
section
set_option Elab.async false
set_option linter.all false
set_option maxRecDepth 100000
set_option maxHeartbeats 3200000
set_option autoImplicit false
/-! Lw: zip and enumerate over lists, tuples, texts. -/
namespace Lw.ZE
open PySem PySem.Spec PyProof.Rows L2

/-- what is walked: a list, a tuple, a text -/
inductive Sr where
  | l (a : Addr) (xs : List V) | t (a : Addr) (xs : List V) | s (z : Str)
def Sr.items : Sr → List V
  | .l _ xs => xs
  | .t _ xs => xs
  | .s z => z.cps.toList.map fun c => .str ⟨#[c]⟩
def Sr.has (K : PySem.W.Frag) (H : Hp) : Sr → Prop
  | .l a xs => SqL K H a xs
  | .t a xs => SqT K H a xs
  | .s _ => True
def Sr.ads : Sr → List Addr
  | .l a _ => [a]
  | .t a _ => [a]
  | .s _ => []
def Sr.isV : Sr → V → Prop
  | .l a _, x => x = .ref a
  | .t a _, x => x = .ref a
  | .s z, x => x = .str z
/-- the iterator behind i items -/
def Sr.st (r : Sr) (it : Addr) (i : Nat) (h : Heap) : Prop := match r with
  | .l a _ => h.IsListIter it a i
  | .t a _ => h.IsTupleIter it a i
  | .s z => ∃ t, h.IsStrIter it (strIterType z) z t i
theorem Sr.st_at {r : Sr} {it : Addr} {i : Nat} {h h' : Heap} (s : r.st it i h) (k : ∀ o, h.get? it = some o → h'.get? it = some o) : r.st it i h' := by
  cases r with
  | l a xs => exact Heap.IsListIter.at s k
  | t a xs => exact Heap.IsTupleIter.at s k
  | s z =>
    obtain ⟨t, o, ho, r⟩ := s
    exact ⟨t, o, k o ho, r⟩
theorem Sr.st_obj {r : Sr} {it : Addr} {i : Nat} {h : Heap} (s : r.st it i h) : ∃ o, h.get? it = some o ∧ ∀ v, o.data ≠ .cell v := by
  cases r with
  | l a xs => obtain ⟨o, ho, hc, hd⟩ := s; exact ⟨o, ho, fun v e => by rw [hd] at e; cases e⟩
  | t a xs => obtain ⟨o, ho, hc, hd⟩ := s; exact ⟨o, ho, fun v e => by rw [hd] at e; cases e⟩
  | s z => obtain ⟨t, o, ho, hc, hd⟩ := s; exact ⟨o, ho, fun v e => by rw [hd] at e; cases e⟩
section
variable {X : Cx} {pins : List (Addr × Obj)} {σ : L2.St} {H : Hp} {s : Shared}
/-- the iterator draws the items -/
theorem draws (I : Inv X pins σ H s) (hc : X.calm = true) {r : Sr} {it : Addr} {i : Nat} (h : r.has X.K H) (st : r.st it i s.heap) (hn : ∀ a ∈ r.ads, a ≠ it) :
    ∃ (Pv : Nat → Value → Prop) (St : Nat → Heap → Prop), Draws X.prog X.w X.A.in1 it (it :: r.ads) r.items.length Pv St ∧ St i s.heap ∧ (∀ j h', St j h' → r.st it j h') ∧ (∀ j v, Pv j v → ∃ y, r.items[j]? = some y ∧ RelV y v) := by
  have hh : X.A.in1.handled = none := by
    have := I.ok.hd hc
    simpa using this
  cases r with
  | l a xs =>
    obtain ⟨its, rv, p, _⟩ := I.list h
    refine ⟨fun i v => its.toArray[i]? = some v, fun i h => h.IsListIter it a i ∧ h.IsList a its.toArray, ?_, ⟨st, p.isList⟩, fun j h' z => z.1, fun j v hv => ?_⟩
    · show Draws _ _ _ _ [it, a] xs.length _ _
      have e : xs.length = its.toArray.size := by rw [rv.length]; simp
      rw [e]
      exact Draws.list hh it a (hn a (by simp [Sr.ads])) its.toArray
    · have hv' : its[j]? = some v := by simpa using hv
      have hj : j < xs.length := by rw [rv.length]; exact (List.getElem?_eq_some_iff.mp hv').1
      have hx : xs[j]? = some xs[j] := List.getElem?_eq_getElem hj
      obtain ⟨u, hu, ru⟩ := rv.get hx
      rw [hv'] at hu
      cases hu
      exact ⟨xs[j], hx, ru⟩
  | t a xs =>
    obtain ⟨its, rv, p, _⟩ := I.tuple h
    refine ⟨fun i v => its.toArray[i]? = some v, fun i h => h.IsTupleIter it a i ∧ h.IsTuple a its.toArray, ?_, ⟨st, p⟩, fun j h' z => z.1, fun j v hv => ?_⟩
    · show Draws _ _ _ _ [it, a] xs.length _ _
      have e : xs.length = its.toArray.size := by rw [rv.length]; simp
      rw [e]
      exact Draws.tuple hh it a (hn a (by simp [Sr.ads])) its.toArray
    · have hv' : its[j]? = some v := by simpa using hv
      have hj : j < xs.length := by rw [rv.length]; exact (List.getElem?_eq_some_iff.mp hv').1
      have hx : xs[j]? = some xs[j] := List.getElem?_eq_getElem hj
      obtain ⟨u, hu, ru⟩ := rv.get hx
      rw [hv'] at hu
      cases hu
      exact ⟨xs[j], hx, ru⟩
  | s z =>
    obtain ⟨t, st⟩ := st
    refine ⟨fun i v => ∃ c u, z.cps[i]? = some c ∧ v = .str ⟨#[c]⟩ u, fun i h => h.IsStrIter it (strIterType z) z t i, ?_, st, fun j h' z => ⟨t, z⟩, fun j v hv => ?_⟩
    · show Draws _ _ _ _ [it] _ _ _
      have e : (Sr.s z).items.length = z.cps.size := by simp [Sr.items]
      rw [e]
      exact Draws.text hh it z t
    · obtain ⟨c, u, h1, rfl⟩ := hv
      refine ⟨.str ⟨#[c]⟩, ?_, u, rfl⟩
      show (List.map _ _)[j]? = _
      rw [List.getElem?_map, show z.cps.toList[j]? = some c by simpa using h1]
      rfl
/-- iter(v) for such a v -/
theorem begins (I : Inv X pins σ H s) {r : Sr} {x : V} {v : Value} (h : r.has X.K H) (hx : r.isV x) (rx : RelV x v) :
    ∃ (o : Obj) (Hc : Heap → Prop), Begins v o Hc ∧ Hc s.heap ∧ (∀ h' it, h'.get? it = some o → r.st it 0 h') ∧ (∀ a ∈ r.ads, a < s.heap.objs.size) := by
  cases r with
  | l a xs =>
    cases hx
    cases (show v = Value.ref a from rx)
    obtain ⟨its, rv, p, _⟩ := I.list h
    refine ⟨_, _, begins_list a its.toArray, p.isList, fun h' it e => ⟨_, e, rfl, rfl⟩, fun b hb => ?_⟩
    have : b = a := by simpa [Sr.ads] using hb
    subst this
    exact p.lt
  | t a xs =>
    cases hx
    cases (show v = Value.ref a from rx)
    obtain ⟨its, rv, p, _⟩ := I.tuple h
    refine ⟨_, _, begins_tuple a its.toArray, p, fun h' it e => ⟨_, e, rfl, rfl⟩, fun b hb => ?_⟩
    have : b = a := by simpa [Sr.ads] using hb
    subst this
    obtain ⟨o, ho, _⟩ := p
    exact Heap.lt_size ho
  | s z =>
    cases hx
    obtain ⟨t, rfl⟩ := rx
    exact ⟨_, _, begins_text z t, trivial, fun h' it e => ⟨t, _, e, rfl, rfl⟩, fun b hb => by cases hb⟩
end

theorem z24 (z : Nat) : z + 2 ≠ z + 4 := by omega
theorem z34 (z : Nat) : z + 3 ≠ z + 4 := by omega
theorem z04 (z : Nat) : z ≠ z + 4 := by omega
theorem z14 (z : Nat) : z + 1 ≠ z + 4 := by omega
theorem z23 (z : Nat) : z + 2 ≠ z + 3 := by omega
theorem z20 (z : Nat) : z + 2 ≠ z := by omega
theorem z21 (z : Nat) : z + 2 ≠ z + 1 := by omega
theorem z10 (z : Nat) : z + 1 ≠ z := by omega
theorem below5 {z n c : Nat} (h : z + 4 < n) (e : c = z + 4 ∨ c = z + 2 ∨ c = z + 3 ∨ c = z ∨ c = z + 1) : c < n := by omega
theorem below2 {z n c : Nat} (h : z + 1 < n) (e : c = z + 1 ∨ c = z) : c < n := by omega
theorem above5 {z c : Nat} (e : c = z + 4 ∨ c = z + 2 ∨ c = z + 3 ∨ c = z ∨ c = z + 1) : z ≤ c := by omega
theorem above2 {z c : Nat} (e : c = z + 1 ∨ c = z) : z ≤ c := by omega
theorem z10' {z : Nat} (h : z + 1 < z) : False := by omega
/-! ### zip -/
def ItZ (K : PySem.W.Frag) (p q : Sr) : It :=
  ⟨fun i H => p.has K H ∧ q.has K H ∧ i < p.items.length ∧ i < q.items.length,
    fun i H v H' => ∃ T x y, v = .ref T ∧ H T = none ∧ H' = upd H T (.tup [x, y]) ∧ p.items[i]? = some x ∧ q.items[i]? = some y,
    fun i H => p.has K H ∧ q.has K H ∧ (p.items.length ≤ i ∨ q.items.length ≤ i)⟩
/-- the five cells of a zip -/
structure Zp (z : Addr) (p q : Sr) : Prop where
  p : ∀ a ∈ p.ads, a < z
  q : ∀ a ∈ q.ads, a < z
theorem Zp.sep {z : Addr} {p q : Sr} (h : Zp z p q) : ZipSep2 (z + 4) (z + 2) (z + 3) z (z + 1) (z :: p.ads) ((z + 1) :: q.ads) := zip_sep2 h.p h.q
theorem turn_zip {P : Program} {w : World} {K : PySem.W.Frag} {elts : List Expr} {kk : Nat} {tpos : Pos} {z : Addr} {p q : Sr} (D : Zp z p q) :
    Turn P w K (.Tuple elts kk tpos) (ItZ K p q) [z + 4, z + 2, z + 3, z, z + 1] (z + 4)
      (fun i h => IsZip h (z + 4) (z + 2) (z + 3) .none ∧ IsTupOf2 h (z + 2) (.ref z) (.ref (z + 1)) ∧ (∃ x y, IsTupOf2 h (z + 3) x y) ∧ p.st z i h ∧ q.st (z + 1) i h ∧ i ≤ p.items.length ∧ i ≤ q.items.length) where
  mem := by simp
  obj := fun i h st c hc => by
    obtain ⟨hz, hTI, ⟨x, y, hTO⟩, h1, h2, _⟩ := st
    have e' : c = z + 4 ∨ c = z + 2 ∨ c = z + 3 ∨ c = z ∨ c = z + 1 := by simpa using hc
    rcases e' with q | q | q | q | q
    · rw [q]; exact ⟨_, hz, fun v q => nomatch q⟩
    · rw [q]; exact ⟨_, hTI, fun v q => nomatch q⟩
    · rw [q]; exact ⟨_, hTO, fun v q => nomatch q⟩
    · rw [q]; exact Sr.st_obj h1
    · rw [q]; exact Sr.st_obj h2
  keep := fun i h h' st k => by
    obtain ⟨hz, hTI, ⟨x, y, hTO⟩, h1, h2, l1, l2⟩ := st
    exact ⟨k (z + 4) (by simp) _ hz, k (z + 2) (by simp) _ hTI, ⟨x, y, k (z + 3) (by simp) _ hTO⟩, Sr.st_at h1 fun o q => k z (by simp) o q, Sr.st_at h2 fun o q => k (z + 1) (by simp) o q, l1, l2⟩
  item := by
    intro X hP hw hK hc i pins s σ H E I hf st hg
    subst hP hw hK
    obtain ⟨hz, hTI, ⟨x0, y0, hTO⟩, h1, h2, _, _⟩ := st
    obtain ⟨hp, hq, li, lj⟩ := hg
    obtain ⟨P1, St1, D1, s1, b1, v1⟩ := draws I hc hp h1 fun a ha => Nat.ne_of_lt (D.p a ha)
    obtain ⟨P2, St2, D2, s2, b2, v2⟩ := draws I hc hq h2 fun a ha => Nat.ne_of_lt (Nat.lt_succ_of_lt (D.q a ha))
    have hzl : z + 4 < s.heap.objs.size := Heap.lt_size hz
    refine wpAny_pyNext_zipD2_item D.sep D1 D2 hz hTI hTO s1 s2 li lj fun u1 u2 h' tk e1 e2 z' TO' d1 d2 hT hsz hk => ?_
    obtain ⟨x, hx, rx⟩ := v1 _ _ e1
    obtain ⟨y, hy, ry⟩ := v2 _ _ e2
    refine ⟨_, rfl, wpAny_letOwnedTupleGo_zip (s := { s with heap := h', toks := tk }) z' fun h'' z'' sb => ?_⟩
    have hT2 : h''.get? s.heap.objs.size = some { cls := .type "tuple", data := .seq #[u1, u2] } := (sb.2 _ (Nat.ne_of_gt hzl)).trans hT
    have new : ObjOk X.prog X.w (upd H s.heap.objs.size (.tup [x, y])) h'' s.heap.objs.size (.tup [x, y]) :=
      ⟨by show 2 ≤ sizeLine; decide, [u1, u2], .cons rx (.cons ry .nil), ⟨_, hT2, rfl, _, rfl⟩⟩
    have I1 : Inv X pins σ (upd H s.heap.objs.size (.tup [x, y])) { s with heap := h'', toks := tk } :=
      I.turnedNew (ch := [z + 4, z + 2, z + 3, z, z + 1]) (fun c o hb q => (sb.2 c (fun q' => hb (by simp [q']))).trans (hk c o (fun q' => hb (by simp [q'])) (fun q' => hb (by simp [q'])) (fun q' => hb (by simp [q'])) (fun q' => hb (by simp [q'])) q)) hf (Nat.le_refl _) new
    refine ⟨.ref s.heap.objs.size, _, I1, rfl, ⟨_, x, y, rfl, I.hok.fresh (Nat.le_refl _), rfl, hx, hy⟩, ⟨z'', ?_, ⟨u1, u2, ?_⟩, ?_, ?_, li, lj⟩, fun c hcm => ?_⟩
    · exact (sb.2 (z + 2) (z24 z)).trans (hk (z + 2) _ (z24 z) (z23 z) (z20 z) (z21 z) hTI)
    · exact (sb.2 (z + 3) (z34 z)).trans TO'
    · exact Sr.st_at (b1 _ _ d1) fun o q => (sb.2 z (z04 z)).trans q
    · exact Sr.st_at (b2 _ _ d2) fun o q => (sb.2 (z + 1) (z14 z)).trans q
    · have hlt : c < s.heap.objs.size := by
        exact below5 hzl (by simpa using hcm)
      rw [upd_ne (Nat.ne_of_lt hlt)]
      exact (hf c hcm).1
  done := by
    intro X hP hw hK hc i pins s σ H E I hf st hg
    subst hP hw hK
    obtain ⟨hz, hTI, ⟨x0, y0, hTO⟩, h1, h2, l1, l2⟩ := st
    obtain ⟨hp, hq, hend⟩ := hg
    obtain ⟨P1, St1, D1, s1, b1, v1⟩ := draws I hc hp h1 fun a ha => Nat.ne_of_lt (D.p a ha)
    obtain ⟨P2, St2, D2, s2, b2, v2⟩ := draws I hc hq h2 fun a ha => Nat.ne_of_lt (Nat.lt_succ_of_lt (D.q a ha))
    exact wpAny_pyNext_zipD2_end D.sep D1 D2 hz hTI hTO s1 s2 l1 l2 (by omega) fun h' tk hk => ⟨rfl, I.turnedL (t' := tk) (ch := [z + 4, z + 2, z + 3, z, z + 1]) (fun c o hb q =>
      hk c o (fun q' => hb (by simp [q'])) (fun q' => hb (by simp [q'])) (fun q' => hb (by simp [q'])) (fun q' => hb (by simp [q'])) q) hf⟩
  self := fun A i s Q E st h => wpAny_pyIter_zip st.1 h
def iZG (K : PySem.W.Frag) (ta : TA) : TI := fun σ H R => ta σ H fun vs H1 => ∃ x y p q, vs = [x, y] ∧ Sr.isV p x ∧ Sr.isV q y ∧ p.has K H1 ∧ q.has K H1 ∧ R (ItZ K p q) H1
theorem pi_zipG {X : Cx} {e e2 : Expr} {ta : TA} {p pos tpos : Pos} {elts : List Expr} {kk : Nat} (hg : Gl X "zip") (hm : X.mg "zip" = none) (ha : PA X [e, e2] ta)
    (hs : starEach [e, e2] X.env = (false, eval e X.env) :: starEach [e2] X.env := by rfl) (hpl : (backTo pos (starEach [e2] X.env)).any (·.1) = false := by rfl) :
    PI X (.Tuple elts kk tpos) (.Call (.Name "zip" p) [e, e2] [] pos) (iZG X.K ta) := by
  refine ⟨fun pins s σ H R I h => ?_⟩
  refine Call_ (ld_blt I hg hm PyProof.Rows.boot_zip (PyProof.Rows.callWith_type1 (thn (ha.run pos pins s σ H _ I h) fun us s1 ⟨vs, H1, I1, r1, q1⟩ => ?_) hs hpl))
  obtain ⟨x, y, p, q, rfl, px, qy, hp, hq, qq⟩ := q1
  cases r1 with
  | cons rx rr =>
    cases rr with
    | cons ry rr =>
      cases rr
      obtain ⟨o1, H1', B1, hB1, st1, lt1⟩ := begins I1 hp px rx
      obtain ⟨o2, H2', B2, hB2, st2, lt2⟩ := begins I1 hq qy ry
      refine zip_begins2 B1 B2 hB1 hB2 fun h' hz hTI hTO g1 g2 hsz hk => wpAny_pyIter_zip hz ?_
      have I2 : Inv X pins σ H1 { s1 with heap := h' } := I1.kept (t' := s1.toks) hk
      refine ⟨_, _, _, _, H1, rfl, I2, turn_zip (z := s1.heap.objs.size) ⟨lt1, lt2⟩, ⟨hz, hTI, ⟨_, _, hTO⟩, st1 _ _ g1, st2 _ _ g2, Nat.zero_le _, Nat.zero_le _⟩, fun c hcm => ?_, qq⟩
      have e' : c = s1.heap.objs.size + 4 ∨ c = s1.heap.objs.size + 2 ∨ c = s1.heap.objs.size + 3 ∨ c = s1.heap.objs.size ∨ c = s1.heap.objs.size + 1 := by simpa using hcm
      exact I1.fpOk (above5 e') (I1.hok.fresh (above5 e'))

/-! ### enumerate -/
theorem meets_enum {v : Value} {o : Obj} {H : Heap → Prop} (B : Begins v o H) :
    Meets (Builtin.«enumerate.__new__» ⟨[.type "enumerate", v], []⟩) (fun _ R s => H s.heap ∧
      R (.ok (.ret (.ref (s.heap.push o).objs.size))) { s with heap := (s.heap.push o).push { cls := .type "enumerate", data := .fields #[.none, .bool false, .ref s.heap.objs.size, rawInt 0, .none, .none] } }) :=
  .of_wp fun prog w A R s h => by
    obtain ⟨hp, g, d, tk, os⟩ := s
    obtain ⟨h1, h⟩ := h
    have hsub := sub_enumerate
    have it : ∀ {A' : Around} {E : Value → Shared → Prop} {Q : Value → Shared → Prop}, Q (.ref hp.objs.size) ⟨hp.push o, g, d, tk, os⟩ → wpAny (model prog w) A' (pyIter v) Q E ⟨hp, g, d, tk, os⟩ :=
      fun q => B.iter prog w _ _ ⟨hp, g, d, tk, os⟩ _ h1 q
    wp_walk using it
    refine wpAny_stack_any fun st => wpAny_pure ?_
    split
    · rename_i c _ _ _ _ _
      cases (c == Value.type "enumerate") <;>
      · wp_walk using it
        exact ⟨_, rfl, h⟩
    · wp_walk using it
      exact ⟨_, rfl, h⟩
theorem call_enum {prog : Program} {w : World} {A : Around} {E : Value → Shared → Prop} {s : Shared} {v : Value} {o : Obj} {H : Heap → Prop} {Q : Value → Shared → Prop} (B : Begins v o H) (h1 : H s.heap)
    (h : ∀ h', IsEnum h' (s.heap.objs.size + 1) s.heap.objs.size 0 .none → h'.get? s.heap.objs.size = some o → (∀ b o, s.heap.get? b = some o → h'.get? b = some o) → Q (.ref (s.heap.objs.size + 1)) { s with heap := h' }) :
    wpAny (model prog w) A (call (.type "enumerate") [v]) Q E s := by
  refine callType_new F.called_enumerate (by decide) (F.typeCall_enumerate_1 _) (F.newCall_enumerate_1 _) (fun obj => F.args_object_init_2 obj _) F.entry_enumerate_new (meets_enum B) ⟨h1, ?_⟩
  have hz : (s.heap.push o).objs.size = s.heap.objs.size + 1 := Heap.size_push ..
  show _ ∧ _
  rw [hz]
  have he : IsEnum ((s.heap.push o).push { cls := .type "enumerate", data := .fields #[.none, .bool false, .ref s.heap.objs.size, rawInt 0, .none, .none] }) (s.heap.objs.size + 1) s.heap.objs.size 0 .none := by
    have := Heap.get?_push_size (s.heap.push o) (o := { cls := .type "enumerate", data := .fields #[.none, .bool false, .ref s.heap.objs.size, rawInt 0, .none, .none] }) rfl
    rw [hz] at this
    exact this
  exact ⟨⟨_, he, rfl⟩, h _ he (Heap.get?_push_of_some _ (Heap.get?_push_size _ B.free)) fun b o x => Heap.get?_push_of_some _ (Heap.get?_push_of_some _ x)⟩
def ItE (K : PySem.W.Frag) (p : Sr) : It :=
  ⟨fun i H => p.has K H ∧ i < p.items.length, fun i H v H' => ∃ T x, v = .ref T ∧ H T = none ∧ H' = upd H T (.tup [.int (i : Nat), x]) ∧ p.items[i]? = some x, fun i H => p.has K H ∧ p.items.length ≤ i⟩
theorem turn_enum {P : Program} {w : World} {K : PySem.W.Frag} {elts : List Expr} {kk : Nat} {tpos : Pos} {z : Addr} {p : Sr} (D : ∀ a ∈ p.ads, a < z) :
    Turn P w K (.Tuple elts kk tpos) (ItE K p) [z + 1, z] (z + 1) (fun i h => (∃ old, IsEnum h (z + 1) z ((i : Nat) : Int) old) ∧ p.st z i h ∧ i ≤ p.items.length) where
  mem := by simp
  obj := fun i h st b hb => by
    obtain ⟨⟨old, he⟩, hi, _⟩ := st
    have e' : b = z + 1 ∨ b = z := by simpa using hb
    rcases e' with q | q
    · rw [q]; exact ⟨_, he, fun v q => nomatch q⟩
    · rw [q]; exact Sr.st_obj hi
  keep := fun i h h' st k => let ⟨⟨old, he⟩, hi, hl⟩ := st; ⟨⟨old, k (z + 1) (by simp) _ he⟩, Sr.st_at hi fun o q => k z (by simp) o q, hl⟩
  item := by
    intro X hP hw hK hc i pins s σ H E I hf st hg
    subst hP hw hK
    obtain ⟨⟨old, he⟩, hi, _⟩ := st
    obtain ⟨hp, li⟩ := hg
    obtain ⟨P1, St1, D1, s1, b1, v1⟩ := draws I hc hp hi fun a ha => Nat.ne_of_lt (D a ha)
    have hel : z + 1 < s.heap.objs.size := Heap.lt_size he
    have hef : z + 1 ∉ z :: p.ads := fun hm => by
      rcases List.mem_cons.mp hm with q | q
      · exact z10 z q
      · exact z10' (D _ q)
    refine wpAny_pyNext_enum_itemC D1 he s1 li (z10 z) hef fun u h' tk e1 ho s2 hT hsz hk => ?_
    obtain ⟨x, hx, rx⟩ := v1 _ _ e1
    refine ⟨_, rfl, wpAny_letOwnedTupleGo_enum (s := { s with heap := h', toks := tk + 1 }) ho fun h'' he' sb => ?_⟩
    have hT2 : h''.get? s.heap.objs.size = some { cls := .type "tuple", data := .seq #[.int i tk, u] } := (sb.2 _ (Nat.ne_of_gt hel)).trans hT
    have new : ObjOk X.prog X.w (upd H s.heap.objs.size (.tup [.int (i : Nat), x])) h'' s.heap.objs.size (.tup [.int (i : Nat), x]) :=
      ⟨by show 2 ≤ sizeLine; decide, [.int i tk, u], .cons ⟨_, rfl⟩ (.cons rx .nil), ⟨_, hT2, rfl, _, rfl⟩⟩
    have I1 : Inv X pins σ (upd H s.heap.objs.size (.tup [.int (i : Nat), x])) { s with heap := h'', toks := tk + 1 } :=
      I.turnedNew (ch := [z + 1, z]) (fun b ob hb q => (sb.2 b (fun z => hb (by simp [z]))).trans (hk b ob (fun z => hb (by simp [z])) (fun z => hb (by simp [z])) q)) hf (Nat.le_refl _) new
    refine ⟨.ref s.heap.objs.size, _, I1, rfl, ⟨_, x, rfl, I.hok.fresh (Nat.le_refl _), rfl, hx⟩, ⟨⟨u, ?_⟩, Sr.st_at (b1 _ _ s2) fun o q => (sb.2 z (z10 z).symm).trans q, li⟩, fun b hb => ?_⟩
    · have e1 : ((i + 1 : Nat) : Int) = (i : Int) + 1 := by omega
      rw [e1]; exact he'
    · have hb' : b < s.heap.objs.size := by
        exact below2 hel (by simpa using hb)
      rw [upd_ne (Nat.ne_of_lt hb')]
      exact (hf b hb).1
  done := by
    intro X hP hw hK hc i pins s σ H E I hf st hg
    subst hP hw hK
    obtain ⟨⟨old, he⟩, hi, hl⟩ := st
    obtain ⟨hp, li⟩ := hg
    have ei : i = p.items.length := by omega
    obtain ⟨P1, St1, D1, s1, b1, v1⟩ := draws I hc hp hi fun a ha => Nat.ne_of_lt (D a ha)
    rw [ei] at s1
    exact wpAny_pyNext_enum_endD D1 he s1 fun h' eb => ⟨rfl, I.turnedL (t' := s.toks) (ch := [z + 1, z]) (fun b o hb q => eb b o (fun z => hb (by simp [z])) q) hf⟩
  self := fun A i s Q E st h => let ⟨⟨_, he⟩, _⟩ := st; wpAny_pyIter_enum he h
def iEG (K : PySem.W.Frag) (ta : TA) : TI := fun σ H R => ta σ H fun vs H1 => ∃ x p, vs = [x] ∧ Sr.isV p x ∧ p.has K H1 ∧ R (ItE K p) H1
theorem pi_enumG {X : Cx} {e : Expr} {ta : TA} {p pos tpos : Pos} {elts : List Expr} {kk : Nat} (hg : Gl X "enumerate") (hm : X.mg "enumerate" = none) (ha : PA X [e] ta) (hs : starEach [e] X.env = [(false, eval e X.env)] := by rfl) :
    PI X (.Tuple elts kk tpos) (.Call (.Name "enumerate" p) [e] [] pos) (iEG X.K ta) := by
  refine ⟨fun pins s σ H R I h => ?_⟩
  refine Call_ (ld_blt I hg hm boot_enumerate (PyProof.Rows.callWith_type1 (thn (ha.run pos pins s σ H _ I h) fun us s1 ⟨vs, H1, I1, r1, q1⟩ => ?_) hs rfl))
  obtain ⟨x, p, rfl, px, hp, qq⟩ := q1
  cases r1 with
  | cons rx rr =>
    cases rr
    obtain ⟨o1, H1', B1, hB1, st1, lt1⟩ := begins I1 hp px rx
    refine call_enum B1 hB1 fun h' he g1 hk => wpAny_pyIter_enum he ?_
    have I2 : Inv X pins σ H1 { s1 with heap := h' } := I1.kept (t' := s1.toks) hk
    refine ⟨_, _, _, _, H1, rfl, I2, turn_enum (z := s1.heap.objs.size) lt1, ⟨⟨_, he⟩, st1 _ _ g1, Nat.zero_le _⟩, fun c hcm => ?_, qq⟩
    have e' : c = s1.heap.objs.size + 1 ∨ c = s1.heap.objs.size := by simpa using hcm
    exact I1.fpOk (above2 e') (I1.hok.fresh (above2 e'))
end Lw.ZE

end
section
set_option Elab.async false
set_option linter.all false
set_option maxRecDepth 100000
set_option maxHeartbeats 1600000
set_option autoImplicit false
/-! Lw: zip, enumerate as values. -/
namespace Lw
open PySem L2
def itemsA : Val → Option (List Val)
  | .lst vs => some vs
  | .tup vs => some vs
  | .str cs => some (cs.map fun c => .str [c])
  | _ => none
section
variable {T : Tx} {B : Hp}
theorem rep_signs : ∀ cs : List Nat, RepAll T B (cs.map fun c => V.str ⟨#[c]⟩) (cs.map fun c => Val.str [c])
  | [] => .nil
  | c :: cs => .cons (Rep.str_mk [c]) (rep_signs cs)
theorem src {x : V} {v : Val} {vs : List Val} (h : Rep T B x v) (e : itemsA v = some vs) : ∃ p : ZE.Sr, p.isV x ∧ (∀ H, Same B H → p.has T.K H) ∧ RepAll T B p.items vs := by
  cases h with
  | lst q r => cases e; exact ⟨.l _ _, rfl, fun H s => .of (s _ _ q), r⟩
  | tup q r => cases e; exact ⟨.t _ _, rfl, fun H s => .of (s _ _ q), r⟩
  | str z => cases e; exact ⟨.s z, rfl, fun H s => trivial, rep_signs _⟩
  | _ => cases e
def enumV (vs : List Val) : List Val := vs.mapIdx fun i v => .tup [.int (i : Nat), v]
def zipV (xs ys : List Val) : List Val := List.zipWith (fun x y => .tup [x, y]) xs ys
theorem it_zip {p q : ZE.Sr} {xs ys : List Val} (hp : ∀ H, Same B H → p.has T.K H) (hq : ∀ H, Same B H → q.has T.K H) (r : RepAll T B p.items xs) (r' : RepAll T B q.items ys) : ItOk T (ZE.ItZ T.K p q) B B (zipV xs ys) where
  go := fun i H s hi => by
    unfold zipV at hi
    rw [List.length_zipWith] at hi
    exact ⟨hp H s, hq H s, by rw [r.length]; omega, by rw [r'.length]; omega⟩
  stop := fun i H s hi => by
    unfold zipV at hi
    rw [List.length_zipWith] at hi
    exact ⟨hp H s, hq H s, by rw [r.length, r'.length]; omega⟩
  yld := fun i H x H' B' s s0 s1 hi hy => by
    obtain ⟨t, a, b, rfl, n, rfl, ha, hb⟩ := hy
    obtain ⟨v, hv, hr⟩ := r.get' ha
    obtain ⟨w, hw, hr'⟩ := r'.get' hb
    have g := PG.new s1 (HO.tup [a, b]) n
    refine ⟨.tup [v, w], _, ?_, g, .tup upd_same (.cons ((hr.mono s0).mono g.kn) (.cons ((hr'.mono s0).mono g.kn) .nil))⟩
    unfold zipV
    rw [List.getElem?_zipWith, hv, hw]
theorem it_enum {p : ZE.Sr} {xs : List Val} (hp : ∀ H, Same B H → p.has T.K H) (r : RepAll T B p.items xs) : ItOk T (ZE.ItE T.K p) B B (enumV xs) where
  go := fun i H s hi => by
    unfold enumV at hi
    rw [List.length_mapIdx] at hi
    exact ⟨hp H s, by rw [r.length]; exact hi⟩
  stop := fun i H s hi => by
    unfold enumV at hi
    rw [List.length_mapIdx] at hi
    exact ⟨hp H s, by rw [r.length]; exact hi⟩
  yld := fun i H x H' B' s s0 s1 hi hy => by
    obtain ⟨t, a, rfl, n, rfl, ha⟩ := hy
    obtain ⟨v, hv, hr⟩ := r.get' ha
    have g := PG.new s1 (HO.tup [.int (i : Nat), a]) n
    refine ⟨.tup [.int (i : Nat), v], _, ?_, g, .tup upd_same (.cons (.int _) (.cons ((hr.mono s0).mono g.kn) .nil))⟩
    unfold enumV
    rw [List.getElem?_mapIdx, hv]; rfl
end
def sZip (fs : List EF) : IF := iargs (fs.map esh) fun os env => match shrs os with
  | some [v, w] => (match itemsA v, itemsA w with
    | some xs, some ys => some (.items (zipV xs ys), env)
    | _, _ => none)
  | _ => none
def sEnum (fs : List EF) : IF := iargs (fs.map esh) fun os env => match shrs os with
  | some [v] => (match itemsA v with
    | some xs => some (.items (enumV xs), env)
    | _ => none)
  | _ => none
section
variable {X : Cx} {W : WX} {a b : Expr} {fs : List EF} {p pos tpos : Pos} {elts : List Expr} {kk : Nat}
theorem si_zip (hg : Gl X "zip") (hm : X.mg "zip" = none) (ha : SA X W [a, b] (fs.map esh))
    (hs : starEach [a, b] X.env = (false, eval a X.env) :: starEach [b] X.env := by rfl) (hpl : (backTo pos (starEach [b] X.env)).any (·.1) = false := by rfl) :
    SI X W (.Tuple elts kk tpos) (.Call (.Name "zip" p) [a, b] [] pos) (sZip fs) := by
  refine PI.mono (ZE.pi_zipG hg hm ha hs hpl) fun σ H R q => ?_
  obtain ⟨env, F, B, r, env2, S, e, p⟩ := q
  refine iargs_cut S e p fun os env1 H1 F1 B1 xs e1 S1 G1 xs1 p1 => ?_
  try dsimp only at e1
  split at e1
  · rename_i v w hvs
    have R1 := xs1.shrs hvs
    split at e1
    · rename_i is js h1 h2
      cases e1
      cases R1 with
      | cons r1 R1 =>
        cases R1 with
        | cons r2 R1 =>
          cases R1
          obtain ⟨p, i1, i2, i3⟩ := src r1 h1
          obtain ⟨q, j1, j2, j3⟩ := src r2 h2
          exact ⟨_, _, p, q, rfl, i1, j1, i2 H1 S1.sub, j2 H1 S1.sub, p1 H1 F1 B1 S1 .refl _ B1 (it_zip i2 j2 i3 j3) S1.sub (nof S1)⟩
    · cases e1
  · cases e1
theorem si_enum (hg : Gl X "enumerate") (hm : X.mg "enumerate" = none) (ha : SA X W [a] (fs.map esh)) (hs : starEach [a] X.env = [(false, eval a X.env)] := by rfl) :
    SI X W (.Tuple elts kk tpos) (.Call (.Name "enumerate" p) [a] [] pos) (sEnum fs) := by
  refine PI.mono (ZE.pi_enumG hg hm ha hs) fun σ H R q => ?_
  obtain ⟨env, F, B, r, env2, S, e, p⟩ := q
  refine iargs_cut S e p fun os env1 H1 F1 B1 xs e1 S1 G1 xs1 p1 => ?_
  try dsimp only at e1
  split at e1
  · rename_i v hvs
    have R1 := xs1.shrs hvs
    split at e1
    · rename_i is h1
      cases e1
      cases R1 with
      | cons r1 R1 =>
        cases R1
        obtain ⟨p, i1, i2, i3⟩ := src r1 h1
        exact ⟨_, p, rfl, i1, i2 H1 S1.sub, p1 H1 F1 B1 S1 .refl _ B1 (it_enum i2 i3) S1.sub (nof S1)⟩
    · cases e1
  · cases e1
end
end Lw

end
section
set_option Elab.async false
set_option linter.all false
set_option maxRecDepth 100000
set_option maxHeartbeats 1600000
set_option autoImplicit false
/-! Lw: a walk over any of list, tuple, text; a tuple taken apart; names for what is built in. -/
namespace Lw
open PySem L2
section
variable {X : Cx} {W : WX} {tg a : Expr} {f : EF}
theorem PI.or {t t' : TI} (h : PI X tg a t) (h' : PI X tg a t') : PI X tg a (fun σ H R => t σ H R ∨ t' σ H R) := ⟨fun pins s σ H R I q => q.elim (h.run pins s σ H R I) (h'.run pins s σ H R I)⟩
theorem iG_case {T : Tx} {σ : L2.St} {H : Hp} {R : It → Hp → Prop} (h : iG T W (ibind f itemsA) σ H R) : iG T W (ibind f itemsL) σ H R ∨ iG T W (ibind f itemsT) σ H R ∨ iG T W (ibind f itemsS) σ H R := by
  obtain ⟨env, F, B, r, env2, S, e, p⟩ := h
  unfold ibind at e
  split at e
  · rename_i v env1 hf
    split at e
    · rename_i vs hv
      cases v with
      | lst ws => exact .inl ⟨env, F, B, r, env2, S, by unfold ibind; rw [hf]; cases hv; exact e, p⟩
      | tup ws => exact .inr (.inl ⟨env, F, B, r, env2, S, by unfold ibind; rw [hf]; cases hv; exact e, p⟩)
      | str ws => exact .inr (.inr ⟨env, F, B, r, env2, S, by unfold ibind; rw [hf]; cases hv; exact e, p⟩)
      | _ => cases hv
    · cases e
  · rename_i c env1 hf
    exact .inl ⟨env, F, B, r, env2, S, by unfold ibind; rw [hf]; exact e, p⟩
  · cases e
/-- a list, a tuple or a text -/
def sAny (f : EF) : IF := ibind (esh f) itemsA
theorem si_any (h : SE X W a f) : SI X W tg a (sAny f) := PI.mono (PI.or (si_list h) (PI.or (si_tup h) (si_str h))) fun _ _ _ q => iG_case q
/-- a, b, .. = e, e a tuple -/
def sUnp (is : List Nat) (f : EF) : SF := obind (esh f) fun o env => match o with
  | .shr v => (tgSet (.many is) v env).map (FRes.nx, ·)
  | _ => none
theorem ss_unp {ts : List Expr} {is : List Nat} {e : Expr} {k : Nat} {tpos pos : Pos} (hc : X.calm = true) (hg : PGs X ts (gNames is)) (he : SE X W e f)
    (hn : (assignEach ts X.env).length = is.length := by rfl) (hst : (assignEach ts X.env).findIdx? (·.1) = none := by rfl)
    (hs : swapsWithSole [.Tuple ts k tpos] e pos.line X.env = pure false := by rfl) (hw : swappedStores [.Tuple ts k tpos] e X.env = pure none := by rfl)
    (h1 : (assignEach [.Tuple ts k tpos] X.env).map (·.2) = [assign (.Tuple ts k tpos) X.env] := by rfl) : SS X W (.Assign [.Tuple ts k tpos] e pos) (sUnp is f) := by
  refine PS.mono (ps_asg (se_esh he) (pg_tup hc hg hn hst) hs hw h1) fun D σ H h => ?_
  obtain ⟨env, F, B, r, env2, S, e, p⟩ := h
  refine ocut S e p fun o env1 H1 F1 B1 x e1 S1 G1 x1 => ?_
  try dsimp only at e1
  cases o with
  | shr v =>
    obtain ⟨env3, h3, h4⟩ := Option.map_eq_some_iff.mp e1
    cases h4
    refine tg_ok (t := .many is) S1 x1 h3 fun xs F2 S2 G2 => ?_
    exact p _ H1 F2 B1 S2 (G1.trans S S1 G2)
  | new v => cases e1
  | var i => cases e1
end
theorem b_len : bootBuiltins "len" = some (.builtin "len") := by decide +kernel
theorem b_all : bootBuiltins "all" = some (.builtin "all") := by decide +kernel
theorem b_any : bootBuiltins "any" = some (.builtin "any") := by decide +kernel
theorem b_max : bootBuiltins "max" = some (.builtin "max") := by decide +kernel
theorem b_min : bootBuiltins "min" = some (.builtin "min") := by decide +kernel
theorem b_isi : bootBuiltins "isinstance" = some (.builtin "isinstance") := by decide +kernel
theorem b_int : bootBuiltins "int" = some (.type "int") := by decide +kernel
theorem b_str : bootBuiltins "str" = some (.type "str") := by decide +kernel
theorem b_bool : bootBuiltins "bool" = some (.type "bool") := by decide +kernel
theorem b_list : bootBuiltins "list" = some (.type "list") := by decide +kernel
theorem b_tuple : bootBuiltins "tuple" = some (.type "tuple") := by decide +kernel
theorem b_set : bootBuiltins "set" = some (.type "set") := by decide +kernel
theorem b_dict : bootBuiltins "dict" = some (.type "dict") := by decide +kernel
theorem u64 {k : Nat} {A : Around} (h : Room k A) : A.units + 64 < cLine := by have := h.un; omega
theorem u65 {k : Nat} {A : Around} (h : Room k A) : A.units + 65 < cLine := by have := h.un; omega
end Lw

end
section
set_option Elab.async false
set_option linter.all false
set_option maxRecDepth 100000
set_option maxHeartbeats 1600000
set_option autoImplicit false
/-! Lw: a law's end. -/
namespace Lw
open PySem L2
/-- a law's promise, from its semantic function's answer -/
theorem law_sp {T : Tx} {φ : Fn} {H : Hp} {a : Addr} {ns : List Int} (h : SqL T.K H a (ns.map V.int)) {ss : List Slot} (e : φ [.shr (.scr ns)] = some (.ret (.shr (.bl true)), ss)) :
    spF T 1 φ [.ref a] H (fun v _ => v = .bl true) fun _ _ _ => False := by
  refine ⟨rfl, [.shr (.scr ns)], H, (fun _ => []), _, ss, ⟨Same.refl _, rfl, fun i v e1 => ?_, fun i v e1 => ?_, fun _ _ => rfl, (fun i b hb => by cases hb), (fun i j b hb => by cases hb)⟩, rfl, e, fun H1 B1 F1 S1 G1 x hx => Rep.bl_inv hx⟩
  · cases i with
    | zero => cases e1; exact ⟨_, rfl, .scr h⟩
    | succ i => simp at e1
  · cases i with
    | zero => cases e1
    | succ i => unfold own? at e1; simp at e1
theorem walk_ofW {l : PySem.W.OpenLaw} {n k : Nat} {q : Program} {loose : List Str} {XP : (Str → Option Value) → Heap → Prop} {YP : World → Heap → Prop} {d : DefRec} {x : Str} (hn : l.most = some n) (hn2 : n ≤ sizeLine) (hdf : d.params.defaults = []) (hr : Room k callerA)
    (F : ∀ (w : World) (mg : Str → Option Value) (fa : Addr) (h : Heap), YP w h → h.Ns mainGlobals mg → mg d.name = some (.ref fa) → ∃ (K : PySem.W.Frag) (fd : FuncData) (sp : Sp), K.In h ∧ (∀ (s : Shared) (u : Value), BindsTo s fd ⟨[u], []⟩ [(x, u)]) ∧
        (∀ (H : Hp) (a : Addr) (ns : List Int), ns.length ≤ n → SqL K H a (ns.map V.int) → sp [.ref a] H (fun v _ => v = .bl true) fun _ _ _ => False) ∧ ∀ base : Heap, K.In base → base.Ns mainGlobals mg → FnOk l.prog w K mg base (L2.CX l.prog w) k fa fd [x] sp) :
    PySem.W.WalkO q loose XP YP l.row.toRowW d [] (fun f vs => PySem.call f vs) := by
  refine Att.attach_call hn hdf fun w s₀ s₁ mg mb fa o pm cd doc a vs ns G Y ho hd hcd hmg hobj hints hlen hg => ?_
  obtain ⟨K, fd, sp, KX, hb, hsp, hF⟩ := F w mg fa _ Y G.T.g hmg
  refine law_call KX G.T.g G.T.b G.T.builtins G.T.nolimit hg hobj hints (Nat.le_trans hlen hn2) hr hF hb (fun H _ hS => hsp H a ns hlen hS) fun H e s' z => ?_
  obtain ⟨_, _, _, _, _, _, _, _, _, _, _, _, z⟩ := z
  exact z
end Lw

end
section
set_option Elab.async false
set_option linter.all false
set_option maxRecDepth 100000
set_option maxHeartbeats 1600000
set_option autoImplicit false
/-! Lw: where a token is out: replace. -/
namespace Lw
open PySem PySem.Spec PyProof.Rows L2 CwR
/-- the first thing that a run does (positions aside) gives a token out -/
def heads {α : Type} : Nat → Sem α → Bool
  | 0, _ => false
  | n + 1, .rule _ k => heads n (k ())
  | n + 1, .at _ k => heads n (k ())
  | n + 1, .point _ k => heads n (k ())
  | _ + 1, .fresh _ => true
  | _ + 1, _ => false
theorem heads_wp {α : Type} {M : Model} {Γ : PySem.Ctx} : ∀ (n : Nat) (t : Sem α) (Q : α → Pos → Shared → Prop) (E : Value → Pos → Shared → Prop) (p : Pos) (s : Shared), heads n t = true → Sem.wp M Γ t Q E p s → Sem.wp M Γ t (fun a p' s' => 1 ≤ s'.toks ∧ Q a p' s') (fun e p' s' => 1 ≤ s'.toks ∧ E e p' s') p s
  | 0, _, _, _, _, _, h, _ => by cases h
  | n + 1, t, Q, E, p, s, h, q => by
    cases t with
    | rule tg k => exact heads_wp n (k ()) Q E p s h q
    | «at» p' k => exact heads_wp n (k ()) Q E p' s h q
    | point l k => exact heads_wp n (k ()) Q E p s h q
    | fresh k => exact Sem.wp_toks M Γ 1 (k s.toks) Q E p { s with toks := s.toks + 1 } (by show 1 ≤ s.toks + 1; omega) q
    | _ => cases h
theorem heads_any {α : Type} {M : Model} {A : Around} {s : Shared} {t : Sem α} {Q : α → Shared → Prop} {E : Value → Shared → Prop} (n : Nat) (hu : heads n t = true) (h : wpAny M A t Q E s) : wpAny M A t (fun a s' => 1 ≤ s'.toks ∧ Q a s') (fun e s' => 1 ≤ s'.toks ∧ E e s') s :=
  fun Γ p hΓ => heads_wp n t _ _ p s hu (h Γ p hΓ)
section
variable {X : Cx} {W : WX} {st : Stmt} {rest : List Stmt} {t u : TS} {g g1 g2 : SF} {a b e : Expr} {f f2 : EF} {pos : Pos}
theorem PSsT.mono {t' : TS} (h : PSsT X rest t) (k : ∀ D σ H, t' D σ H → t D σ H) : PSsT X rest t' := fun pins s σ H D h0 I q => h pins s σ H D h0 I (k D σ H q)
theorem PST.mono {t' : TS} (h : PST X st t) (k : ∀ D σ H, t' D σ H → t D σ H) : PST X st t' := fun pins s σ H D h0 I q => h pins s σ H D h0 I (k D σ H q)
theorem PET.mono {te te' : TE} (h : PET X e te) (k : ∀ σ H Q, te' σ H Q → te σ H Q) : PET X e te' := fun pins s σ H Q h0 I q => h pins s σ H Q h0 I (k σ H Q q)
/-- a block whose first statement gives a token out -/
theorem pss_up (h1 : PS X st t) (hu : heads 60 (exec st X.env) = true) (h2 : PSsT X rest u) : PSs X (st :: rest) (tSeq t u) := by
  refine ⟨fun pins s σ H D I h => ?_⟩
  refine wpAny_execs_cons (wpAny_mono (heads_any 60 hu (h1.run pins s σ H { D with nx := u D } I h)) (fun f s1 q => ?_) fun _ _ x => x.2)
  obtain ⟨hk, q⟩ := q
  cases f with
  | next =>
    obtain ⟨σ', H', I', q⟩ := q
    exact h2 pins s1 σ' H' D hk I' q
  | ret v => exact q
  | brk => exact q
  | cont => exact q
abbrev SET (X : Cx) (W : WX) (e : Expr) (f : EF) : Prop := PET X e (eG (tx X) W f)
abbrev SST (X : Cx) (W : WX) (st : Stmt) (g : SF) : Prop := PST X st (sG (tx X) W g)
abbrev SSsT (X : Cx) (W : WX) (st : List Stmt) (g : SF) : Prop := PSsT X st (sG (tx X) W g)
def PTT (X : Cx) (e : Expr) (t : TT) : Prop := ∀ (pins : List (Addr × Obj)) (s : Shared) (σ : L2.St) (H : Hp) (Q : Bool → Hp → Prop), 1 ≤ s.toks → Inv X pins σ H s → t σ H Q → wpAny (model X.prog X.w) X.A (isTrue e X.env (eval e X.env)) (TP X pins σ Q) X.xe s
abbrev STT (X : Cx) (W : WX) (e : Expr) (f : EF) : Prop := PTT X e (tG (tx X) W f)
theorem set_of (h : SE X W e f) : SET X W e f := PET.of h
theorem sssT_of (h : SSs X W rest g) : SSsT X W rest g := PSsT.of h
theorem sstT_of (h : SS X W st g) : SST X W st g := PST.of h
theorem sss_up (h1 : SS X W st g1) (h2 : SSsT X W rest g2) (hu : heads 60 (exec st X.env) = true := by rfl) : SSs X W (st :: rest) (sSeq g1 g2) := PSs.mono (pss_up h1 hu h2) fun _ _ _ h => seq_mono h
theorem sssT_cons (h1 : SST X W st g1) (h2 : SSsT X W rest g2) : SSsT X W (st :: rest) (sSeq g1 g2) := PSsT.mono (psst_cons h1 h2) fun _ _ _ h => seq_mono h
theorem sssT_one (h1 : SST X W st g1) : SSsT X W [st] g1 := psst_one h1
theorem pst_ifT {c : Expr} {x y : List Stmt} {tc : TT} (hc : PTT X c tc) (ha : PSsT X x t) (hb : PSsT X y u) : PST X (.If c x y pos) (tIfS tc t u) := by
  intro pins s σ H D h0 I h
  refine wpAny_If (wpAny_mono (PySem.wpAny_toks (hc pins s σ H _ h0 I h)) (fun d s1 q => ?_) fun _ _ z => z.2)
  obtain ⟨hk, H1, I1, q1⟩ := q
  cases d with
  | true => exact ha pins s1 σ H1 D (Nat.le_trans h0 hk) I1 q1
  | false => exact hb pins s1 σ H1 D (Nat.le_trans h0 hk) I1 q1
theorem sstT_if {c : Expr} {x y : List Stmt} (hc : STT X W c f) (ha : SSsT X W x g1) (hb : SSsT X W y g2) : SST X W (.If c x y pos) (sIfS f g1 g2) := by
  refine PST.mono (pst_ifT hc ha hb) fun D σ H h => ?_
  obtain ⟨env, F, B, r, env2, S, e, p⟩ := h
  refine ocutT S e p (fun o env1 e1 => ?_) fun b env1 H1 F1 B1 e1 S1 G1 => ?_
  · try dsimp only at e1
    split at e1
    · exact ⟨_, rfl⟩
    · exact ⟨_, rfl⟩
    · cases e1
  · cases b with
    | true => exact iteT ⟨env1, F1, B1, r, env2, S1, e1, p.shift S S1 G1⟩
    | false => exact iteF ⟨env1, F1, B1, r, env2, S1, e1, p.shift S S1 G1⟩
theorem ptt_cmp {op : CmpOp} {r : R2} {ta tb : TE} (ho : OpR X (compareOp op) r) (ha : PET X a ta) (hb : PET X b tb) (hm : behindInMarks op b = false) : PTT X (.Compare a [op] [b] pos) (tTest (tOp r ta tb)) := by
  intro pins s σ H Q h0 I h
  refine wpAny_isTrue_Compare1 (wpAny_mono (PySem.wpAny_toks (ha pins s σ H _ h0 I h)) (fun v s1 ⟨hk, x, H1, I1, r1, q1⟩ => thn (hb pins s1 σ H1 _ (Nat.le_trans h0 hk) I1 q1) fun u s2 ⟨y, H2, I2, r2, q2⟩ =>
    thn (ho pins s2 σ H2 x y v u _ I2 r1 r2 q2) fun c s3 ⟨z, H3, I3, r3, k, e, q3⟩ => ?_) fun _ _ z => z.2) hm
  subst e
  cases r3
  exact wpAny_truthy_bool ⟨H3, I3, q3⟩
theorem stt_cmp {op : CmpOp} {r : R2} {opv : Val → Val → Option RV} (ho : OpR X (compareOp op) r) (hs : OpS (tx X) r opv) (ha : SET X W a f) (hb : SET X W b f2) (hm : behindInMarks op b = false) : STT X W (.Compare a [op] [b] pos) (sBin opv f f2) :=
  fun pins s σ H Q h0 I q => ptt_cmp ho ha hb hm pins s σ H Q h0 I (bin_mono hs _ _ _ (eG_of_tG q))
def replL (y z x : List Nat) : List Nat := (Txt.replace (S x) (S y) (S z)).cps.toList
def oRepl (y z : List Nat) : Val → Option RV
  | .str x => if x.length + (x.length + 1) * z.length ≤ 16000000 then some (.shr (.str (replL y z x))) else none
  | _ => none
def sRepl (y z : List Nat) (f : EF) : EF := sUn (oRepl y z) f
theorem set_repl {o : Expr} {y z : Str} {ly lz : List Nat} {j k : Nat} {c0 c1 apos : Pos} (ho : SE X W o f) (ey' : y.cps.toList = ly) (ez' : z.cps.toList = lz) (hyz : (y == z) = false := by decide)
    (hst : starEach [.Constant (.str y) j c0, .Constant (.str z) k c1] X.env = [(false, eval (.Constant (.str y) j c0) X.env), (false, eval (.Constant (.str z) k c1) X.env)] := by rfl)
    (hbase : attributeBase o "replace" X.env (eval o X.env) = eval o X.env := by rfl) (hline : (apos.endLine == pos.line) = true := by rfl) :
    SET X W (.Call (.Attribute o "replace" apos) [.Constant (.str y) j c0, .Constant (.str z) k c1] [] pos) (sRepl ly lz f) := by
  have ey : S ly = y := by rw [← ey']; exact S_back y
  have ez : S lz = z := by rw [← ez']; exact S_back z
  clear ey' ez'
  subst ey ez
  refine PET.mono (pet_replC ho hyz hst hbase hline) fun σ H Q q => ?_
  refine un_mono (X := X) (r := fun v H1 Q => ∃ x, v = .str x ∧ x.length + (x.length + 1) * (S lz).length ≤ 16777216 ∧ Q (.str (Txt.replace x (S ly) (S lz))) H1) (fun B H1 x v rv hs hx e Q hq => ?_) σ H Q q
  unfold oRepl at e
  split at e
  · rename_i w
    split at e
    · rename_i hl
      cases e
      refine ⟨S w, hx.str, ?_, same0 hs (Rep.of_str rfl) hq⟩
      rw [S_len, S_len]; omega
    · cases e
  · cases e
end
end Lw

end
section
set_option Elab.async false
set_option linter.all false
set_option maxRecDepth 100000
set_option maxHeartbeats 1600000
set_option autoImplicit false
/-! Lw: dicts: get, in. -/
namespace Lw
open PySem PySem.Spec PyProof.Rows L2
section
variable {T : Tx} {B H : Hp}
mutual
theorem rep_key {x : V} {v : Val} {k : NestedKey} (h : Rep T B x v) (e : nk v = some k) : KeyIs B k x := by
  cases h with
  | int i => cases e; exact .int i
  | str z => cases e; exact .str z
  | tup q r =>
    unfold nk at e
    obtain ⟨ks, e1, rfl⟩ := Option.map_eq_some_iff.mp e
    exact .tup q (reps_key r e1)
  | _ => cases e
theorem reps_key {ys : List V} {vs : List Val} {ks : List NestedKey} (h : RepAll T B ys vs) (e : nks vs = some ks) : KeysAre B ks ys := by
  cases h with
  | nil => cases e; exact .nil
  | cons a b =>
    unfold nks at e
    split at e
    · rename_i k ks' e1 e2
      cases e
      exact .cons (rep_key a e1) (reps_key b e2)
    · cases e
end
theorem OprR.dct (s : Same B H) {x : V} {ks vs : List Val} (h : OprR T B H x (.dct ks vs)) : ∃ a o kys vys, x = .ref a ∧ H a = some o ∧ IsDct T a o ks kys vys ∧ RepAll T B kys ks ∧ RepAll T B vys vs := by
  rcases h with h | ⟨a, fp, rfl, h, _⟩
  · cases h with
    | dct q d r1 r2 => exact ⟨_, _, _, _, rfl, s _ _ q, d, r1, r2⟩
  · cases h with
    | dct q d r1 r2 => exact ⟨_, _, _, _, rfl, q, d, r1, r2⟩
def ROpt (T : Tx) (B : Hp) : Option V → Option Val → Prop
  | some x, some v => Rep T B x v
  | none, none => True
  | _, _ => False
/-- what stands at a key -/
def dfind (ks vs : List Val) (k : NestedKey) : Option Val := ((ks.zip vs).find? fun p => decide (nk p.1 = some k)).map (·.2)
theorem find_n (k : NestedKey) : ∀ (xs : List Ent) (ks vs : List Val), RepAll T B (xs.map (·.2.2)) vs → ks.map nk = xs.map (fun e => some e.1) → ROpt T B (valN xs k) (dfind ks vs k)
  | [], ks, vs, r, e => by
    cases r
    cases ks with
    | nil => exact True.intro
    | cons a b => cases e
  | x :: xs, ks, vs, r, e => by
    cases r with
    | cons r1 r2 =>
      cases ks with
      | nil => cases e
      | cons q ks =>
        rw [List.map_cons, List.map_cons] at e
        injection e with e1 e2
        have ih := find_n k xs ks _ r2 e2
        by_cases h : x.1 = k
        · have a1 : valN (x :: xs) k = some x.2.2 := by simp [valN, h]
          rw [a1]
          unfold dfind
          rw [List.zip_cons_cons, List.find?_cons_of_pos (by simp [e1, h])]
          exact r1
        · have a1 : valN (x :: xs) k = valN xs k := by simp [valN, h]
          rw [a1]
          unfold dfind
          rw [List.zip_cons_cons, List.find?_cons_of_neg (by simp [e1, h])]
          exact ih
/-- an int or a text as a key -/
def kq : Val → Option Key
  | .int i => some (.inl i)
  | .str z => some (.inr ⟨z.toArray⟩)
  | _ => none
def nkK : Key → NestedKey
  | .inl i => .num i
  | .inr z => .text z
theorem nkK_inj {a b : Key} (h : nkK a = nkK b) : a = b := by
  cases a <;> cases b <;> first | (cases h; rfl) | cases h
theorem kV_nk {k : Key} {v : Val} (r : Rep T B (kV k) v) : nk v = some (nkK k) := by
  cases k with
  | inl i => cases r with | int i => rfl
  | inr z => cases r with | str z => rfl
theorem kq_rep {v : Val} {k : Key} {x : V} (e : kq v = some k) (h : Rep T B x v) : x = kV k ∧ nk v = some (nkK k) := by
  unfold kq at e
  split at e
  · cases e
    cases h
    exact ⟨rfl, rfl⟩
  · cases e
    cases h with
    | str z => exact ⟨rfl, rfl⟩
  · cases e
theorem find_k (k : Key) : ∀ (kvs : List (Key × V)) (ks vs : List Val), RepAll T B (kvs.map fun p => kV p.1) ks → RepAll T B (kvs.map (·.2)) vs → ROpt T B (valV kvs k) (dfind ks vs (nkK k))
  | [], ks, vs, r1, r2 => by cases r1; cases r2; exact True.intro
  | p :: kvs, ks, vs, r1, r2 => by
    cases r1 with
    | cons a1 b1 =>
      cases r2 with
      | cons a2 b2 =>
        have ih := find_k k kvs _ _ b1 b2
        have n1 := kV_nk a1
        by_cases h : p.1 = k
        · rw [valV_pos h]
          unfold dfind
          rw [List.zip_cons_cons, List.find?_cons_of_pos (by simp [n1, h])]
          exact a2
        · rw [valV_neg h]
          unfold dfind
          rw [List.zip_cons_cons, List.find?_cons_of_neg (by simp [n1]; exact fun z => h (nkK_inj z))]
          exact ih
theorem ks_non {xs : List Ent} {ks : List Val} (h : RepAll T B (V.non :: xs.map (fun e => V.ref e.2.1)) ks) : ∃ ks', ks = .non :: ks' ∧ RepAll T B (xs.map fun e => V.ref e.2.1) ks' := by
  cases h with
  | cons a b => cases a; exact ⟨_, rfl, b⟩
theorem ks_not {kvs : List (Key × V)} {ks : List Val} (h : RepAll T B (kvs.map fun p => kV p.1) (.non :: ks)) : False := by
  cases kvs with
  | nil => cases h
  | cons p kvs =>
    cases h with
    | cons a b =>
      obtain ⟨k, v⟩ := p
      cases k <;> cases a
theorem keys_ok (s : Same B H) : ∀ (xs : List Ent) (ks : List Val), RepAll T B (xs.map fun e => V.ref e.2.1) ks → ks.map nk = xs.map (fun e => some e.1) → (∀ e ∈ xs, e.1.depth ≤ 8) → KsOk H xs
  | [], _, _, _, _ => fun x hx => nomatch hx
  | x :: xs, ks, r, e, d => by
    cases r with
    | cons a b =>
      rw [List.map_cons, List.map_cons] at e
      injection e with e1 e2
      intro y hy
      rcases List.mem_cons.mp hy with rfl | hy
      · exact ⟨(rep_key a e1).mono s, d _ (List.mem_cons_self ..)⟩
      · exact keys_ok s xs _ b e2 (fun z hz => d z (List.mem_cons_of_mem _ hz)) y hy
/-- a dict of tuple keys, at a key -/
theorem OprR.nget (s : Same B H) {x y : V} {ks vs qs : List Val} {k : NestedKey} (h : OprR T B H x (.dct (.non :: ks) vs)) (hy : OprR T B H y (.tup qs)) (e : nk (.tup qs) = some k) :
    ∃ a b o, x = .ref a ∧ y = .ref b ∧ KeyIs H k y ∧ NGet T.P T.w H a k o ∧ ROpt T B o (dfind ks vs k) := by
  obtain ⟨a, o, kys, vys, rfl, ho, d, r1, r2⟩ := h.dct s
  obtain ⟨b, ys, rfl, hb, rb⟩ := hy.tupS
  have hk : KeyIs H k (.ref b) := (rep_key (.tup hb rb) e).mono s
  rcases d with ⟨kvs, rfl, rfl, rfl⟩ | ⟨ob, xs, rfl, rfl, rfl, e1, e2⟩
  · exact (ks_not r1).elim
  · obtain ⟨ks', e3, r3⟩ := ks_non r1
    cases e3
    exact ⟨a, b, _, rfl, rfl, hk, .inl ⟨ob, xs, ho, keys_ok s xs ks r3 e1 e2, rfl⟩, find_n k xs ks vs r2 e1⟩
def isNs : List Val → Bool
  | .non :: _ => true
  | _ => false
theorem OprR.kget (s : Same B H) {x y : V} {ks vs : List Val} {q : Val} {k : Key} (h : OprR T B H x (.dct ks vs)) (hn : isNs ks = false) (hy : OprR T B H y q) (e : kq q = some k) :
    ∃ a o, x = .ref a ∧ DGet H a y o ∧ ROpt T B o (dfind ks vs (nkK k)) := by
  obtain ⟨a, o, kys, vys, rfl, ho, d, r1, r2⟩ := h.dct s
  have hq : y = kV k := by
    rcases hy with hy | ⟨_, _, _, hy, _⟩
    · exact (kq_rep e hy).1
    · cases hy <;> cases e
  rcases d with ⟨kvs, rfl, rfl, rfl⟩ | ⟨ob, xs, rfl, rfl, rfl, e1, e2⟩
  · exact ⟨a, _, rfl, by rw [hq]; exact DGet.k ho, find_k k kvs ks vs r1 r2⟩
  · obtain ⟨ks', rfl, _⟩ := ks_non r1
    cases hn
end
/-! ### values -/
def atN (ks vs : List Val) (q : List Val) : Option (Option Val) := match nk (.tup q) with
  | some k => if k.depth ≤ 8 then some (dfind ks vs k) else none
  | none => none
def atK (ks vs : List Val) (q : Val) : Option (Option Val) := if isNs ks = false then (kq q).map fun k => dfind ks vs (nkK k) else none
def oIxN : Val → Val → Option RV
  | .dct (.non :: ks) vs, .tup q => ((atN ks vs q).bind id).map .shr
  | _, _ => none
def oIxK : Val → Val → Option RV
  | .dct ks vs, q => ((atK ks vs q).bind id).map .shr
  | _, _ => none
def oInN (n : Bool) : Val → Val → Option RV
  | .tup q, .dct (.non :: ks) vs => (atN ks vs q).map fun o => .shr (.bl (n ^^ o.isSome))
  | _, _ => none
def oInK (n : Bool) : Val → Val → Option RV
  | q, .dct ks vs => (atK ks vs q).map fun o => .shr (.bl (n ^^ o.isSome))
  | _, _ => none
section
variable {T : Tx}
theorem ROpt.isSome {T : Tx} {B : Hp} {o : Option V} {o' : Option Val} (h : ROpt T B o o') : o.isSome = o'.isSome := by
  cases o <;> cases o' <;> first | rfl | cases h
theorem atN_some {ks vs q : List Val} {o : Option Val} (h : atN ks vs q = some o) : ∃ k, nk (.tup q) = some k ∧ k.depth ≤ 8 ∧ o = dfind ks vs k := by
  unfold atN at h
  split at h
  · rename_i k e
    split at h
    · rename_i d
      cases h
      exact ⟨k, e, d, rfl⟩
    · cases h
  · cases h
theorem atK_some {ks vs : List Val} {q : Val} {o : Option Val} (h : atK ks vs q = some o) : isNs ks = false ∧ ∃ k, kq q = some k ∧ o = dfind ks vs (nkK k) := by
  unfold atK at h
  split at h
  · rename_i hn
    obtain ⟨k, e, rfl⟩ := Option.map_eq_some_iff.mp h
    exact ⟨hn, k, e, rfl⟩
  · cases h
theorem os_ixN : OpS T (rNIx T.P T.w) oIxN := by
  intro B H x y vx vy rv hs hx hy e Q hq
  unfold oIxN at e
  split at e
  · rename_i ks vs q
    obtain ⟨v, e1, rfl⟩ := Option.map_eq_some_iff.mp e
    obtain ⟨o, e2, e3⟩ := Option.bind_eq_some_iff.mp e1
    obtain ⟨k, e4, d, rfl⟩ := atN_some e2
    have e3 : dfind ks vs k = some v := e3
    obtain ⟨a, b, o, rfl, rfl, hk, g, ro⟩ := hx.nget hs hy e4
    rw [e3] at ro
    cases o with
    | none => cases ro
    | some z => exact ⟨a, b, k, z, rfl, rfl, hk, d, g, same0 hs ro hq⟩
  · cases e
theorem os_ixK : OpS T rKIx oIxK := by
  intro B H x y vx vy rv hs hx hy e Q hq
  unfold oIxK at e
  split at e
  · rename_i ks vs
    obtain ⟨v, e1, rfl⟩ := Option.map_eq_some_iff.mp e
    obtain ⟨o, e2, e3⟩ := Option.bind_eq_some_iff.mp e1
    obtain ⟨hn, k, e4, rfl⟩ := atK_some e2
    have e3 : dfind ks vs (nkK k) = some v := e3
    obtain ⟨a, o, rfl, g, ro⟩ := hx.kget hs hn hy e4
    rw [e3] at ro
    cases o with
    | none => cases ro
    | some z => exact ⟨a, z, rfl, g, same0 hs ro hq⟩
  · cases e
theorem os_inN (n : Bool) : OpS T (rNIn T.P T.w n) (oInN n) := by
  intro B H y x vy vx rv hs hy hx e Q hq
  unfold oInN at e
  split at e
  · rename_i q ks vs
    obtain ⟨o', e1, rfl⟩ := Option.map_eq_some_iff.mp e
    obtain ⟨k, e4, d, rfl⟩ := atN_some e1
    obtain ⟨a, b, o, rfl, rfl, hk, g, ro⟩ := hx.nget hs hy e4
    refine ⟨a, b, k, o, rfl, rfl, hk, d, g, ?_⟩
    rw [ro.isSome]
    exact same0 hs (.bl _) hq
  · cases e
theorem os_inK (n : Bool) : OpS T (rKIn n) (oInK n) := by
  intro B H y x vy vx rv hs hy hx e Q hq
  unfold oInK at e
  split at e
  · rename_i ks vs
    obtain ⟨o', e1, rfl⟩ := Option.map_eq_some_iff.mp e
    obtain ⟨hn, k, e4, rfl⟩ := atK_some e1
    obtain ⟨a, o, rfl, g, ro⟩ := hx.kget hs hn hy e4
    refine ⟨a, o, rfl, g, ?_⟩
    rw [ro.isSome]
    exact same0 hs (.bl _) hq
  · cases e
end
end Lw

end
section
set_option Elab.async false
set_option linter.all false
set_option maxRecDepth 100000
set_option maxHeartbeats 1600000
set_option autoImplicit false
/-! Lw: dicts: stored into, made. -/
namespace Lw
open PySem PySem.Spec PyProof.Rows L2
/-- the keys and values behind d[q] = v -/
def dput (ks vs : List Val) (k : NestedKey) (q v : Val) : List Val × List Val :=
  if (dfind ks vs k).isSome = true then (ks, List.zipWith (fun a b => if nk a = some k then v else b) ks vs) else (ks ++ [q], vs ++ [v])
section
variable {T : Tx} {B H : Hp}
theorem repl_n (k : NestedKey) {v : Val} {x : V} (rx : Rep T B x v) : ∀ (xs : List Ent) (ks vs : List Val), RepAll T B (xs.map (·.2.2)) vs → ks.map nk = xs.map (fun e => some e.1) →
    RepAll T B ((xs.map fun e => if e.1 = k then (e.1, e.2.1, x) else e).map (·.2.2)) (List.zipWith (fun a b => if nk a = some k then v else b) ks vs)
  | [], ks, vs, r, e => by
    cases r
    cases ks with
    | nil => exact .nil
    | cons a b => cases e
  | y :: xs, ks, vs, r, e => by
    cases r with
    | cons r1 r2 =>
      cases ks with
      | nil => cases e
      | cons q ks =>
        rw [List.map_cons, List.map_cons] at e
        injection e with e1 e2
        rw [List.map_cons, List.map_cons, List.zipWith_cons_cons]
        refine .cons ?_ (repl_n k rx xs ks _ r2 e2)
        by_cases h : y.1 = k
        · rw [if_pos h, if_pos (by rw [e1, h])]; exact rx
        · rw [if_neg h, if_neg (by rw [e1]; exact fun z => h (Option.some.inj z))]; exact r1
theorem put_n {xs : List Ent} {ks vs : List Val} {k : NestedKey} {b : Addr} {x : V} {q v : Val} (r1 : RepAll T B (xs.map fun e => V.ref e.2.1) ks) (r2 : RepAll T B (xs.map (·.2.2)) vs) (e : ks.map nk = xs.map fun e => some e.1) (d : ∀ e ∈ xs, e.1.depth ≤ 8)
    (rq : Rep T B (.ref b) q) (eq : nk q = some k) (dk : k.depth ≤ 8) (rx : Rep T B x v) :
    RepAll T B ((putN xs k b x).map fun e => V.ref e.2.1) (dput ks vs k q v).1 ∧ RepAll T B ((putN xs k b x).map (·.2.2)) (dput ks vs k q v).2 ∧ (dput ks vs k q v).1.map nk = (putN xs k b x).map (fun e => some e.1) ∧ ∀ e ∈ putN xs k b x, e.1.depth ≤ 8 := by
  have fs := (find_n k xs ks vs r2 e).isSome
  unfold putN dput
  rw [fs]
  by_cases h : (dfind ks vs k).isSome = true
  · rw [if_pos h, if_pos h]
    have m1 : (xs.map fun e => if e.1 = k then (e.1, e.2.1, x) else e).map (fun e => V.ref e.2.1) = xs.map fun e => V.ref e.2.1 := by
      rw [List.map_map]
      apply List.map_congr_left
      intro e _
      show V.ref (if e.1 = k then (e.1, e.2.1, x) else e).2.1 = _
      split <;> rfl
    have m2 : (xs.map fun e => if e.1 = k then (e.1, e.2.1, x) else e).map (fun e => some e.1) = xs.map fun e => some e.1 := by
      rw [List.map_map]
      apply List.map_congr_left
      intro e _
      show some (if e.1 = k then (e.1, e.2.1, x) else e).1 = _
      split <;> rfl
    refine ⟨by rw [m1]; exact r1, repl_n k rx xs ks vs r2 e, by rw [m2]; exact e, fun z hz => ?_⟩
    obtain ⟨y, hy, rfl⟩ := List.mem_map.mp hz
    have := d y hy
    split <;> exact this
  · rw [if_neg h, if_neg h]
    refine ⟨by rw [List.map_append]; exact r1.append (.cons rq .nil), by rw [List.map_append]; exact r2.append (.cons rx .nil), ?_, fun z hz => ?_⟩
    · rw [List.map_append, List.map_append, e]
      show _ ++ [nk q] = _
      rw [eq]; rfl
    · rcases List.mem_append.mp hz with hz | hz
      · exact d z hz
      · rw [List.mem_singleton] at hz; subst hz; exact dk
theorem repl_k (k : Key) {v : Val} {x : V} (rx : Rep T B x v) : ∀ (kvs : List (Key × V)) (ks vs : List Val), RepAll T B (kvs.map fun p => kV p.1) ks → RepAll T B (kvs.map (·.2)) vs →
    RepAll T B ((kvs.map fun p => if p.1 = k then (p.1, x) else p).map (·.2)) (List.zipWith (fun a b => if nk a = some (nkK k) then v else b) ks vs)
  | [], ks, vs, r1, r2 => by cases r1; cases r2; exact .nil
  | p :: kvs, ks, vs, r1, r2 => by
    cases r1 with
    | cons a1 b1 =>
      cases r2 with
      | cons a2 b2 =>
        have n1 := kV_nk a1
        rw [List.map_cons, List.map_cons, List.zipWith_cons_cons]
        refine .cons ?_ (repl_k k rx kvs _ _ b1 b2)
        by_cases h : p.1 = k
        · rw [if_pos h, if_pos (by rw [n1, h])]; exact rx
        · rw [if_neg h, if_neg (by rw [n1]; exact fun z => h (nkK_inj (Option.some.inj z)))]; exact a2
theorem put_k {kvs : List (Key × V)} {ks vs : List Val} {k : Key} {x : V} {q v : Val} (r1 : RepAll T B (kvs.map fun p => kV p.1) ks) (r2 : RepAll T B (kvs.map (·.2)) vs) (rq : Rep T B (kV k) q) (rx : Rep T B x v) :
    RepAll T B ((putK kvs k x).map fun p => kV p.1) (dput ks vs (nkK k) q v).1 ∧ RepAll T B ((putK kvs k x).map (·.2)) (dput ks vs (nkK k) q v).2 := by
  have fs := (find_k k kvs ks vs r1 r2).isSome
  unfold putK dput
  rw [valV_any, fs]
  by_cases h : (dfind ks vs (nkK k)).isSome = true
  · rw [if_pos h, if_pos h]
    have m1 : (kvs.map fun p => if p.1 = k then (p.1, x) else p).map (fun p => kV p.1) = kvs.map fun p => kV p.1 := by
      rw [List.map_map]
      apply List.map_congr_left
      intro e _
      show kV (if e.1 = k then (e.1, x) else e).1 = _
      split <;> rfl
    exact ⟨by rw [m1]; exact r1, repl_k k rx kvs ks vs r1 r2⟩
  · rw [if_neg h, if_neg h]
    exact ⟨by rw [List.map_append]; exact r1.append (.cons rq .nil), by rw [List.map_append]; exact r2.append (.cons rx .nil)⟩
theorem RS.dct {env : Env} {σ : L2.St} {F : Nat → List Addr} {i : Nat} (S : RS T env σ B H F) {ks vs : List Val} (ho : own? env i = some (.dct ks vs)) :
    ∃ a o kys vys, σ[i]? = some (some (.ref a)) ∧ F i = [a] ∧ H a = some o ∧ IsDct T a o ks kys vys ∧ RepAll T B kys ks ∧ RepAll T B vys vs := by
  obtain ⟨a, h1, h2⟩ := S.own i _ ho
  generalize hF : F i = fp at h2
  cases h2 with
  | dct h d r1 r2 => exact ⟨a, _, _, _, h1, rfl, h, d, r1, r2⟩
end
/-! ### d[k] = v -/
abbrev rSetN (P : Program) (w : World) : TSet := fun x y v H Q => ∃ a b k xs ob, x = .ref a ∧ y = .ref b ∧ KeyIs H k y ∧ k.depth ≤ 8 ∧ H a = some (DN P w a ob xs) ∧ KsOk H xs ∧ xs.length < sizeLine ∧ ∀ ob', Q (upd H a (DN P w a ob' (putN xs k b v)))
abbrev rSetK : TSet := fun x y v H Q => ∃ a H', x = .ref a ∧ DPut H a y v H' ∧ Q H'
theorem set_n {X : Cx} (hu : X.A.units + 16 < cLine) : PSet X (rSetN X.prog X.w) := by
  intro pins s σ H o i v ov iv u Q I ro ri rv h
  obtain ⟨a, b, k, xs, ob, rfl, rfl, hk, hd, e, z, hl, q⟩ := h
  cases ro
  cases ri
  exact n_setItem hu I (.inl ⟨ob, e⟩) z hl hk hd rv fun ob' s1 I1 => ⟨_, I1, q ob'⟩
theorem set_k {X : Cx} (hu : X.A.units + 16 < cLine) : PSet X rSetK := by
  intro pins s σ H o i v ov iv u Q I ro ri rv h
  obtain ⟨a, H', rfl, g, q⟩ := h
  cases ro
  exact d_setItem (by omega) I g ri rv fun s1 I1 => ⟨_, I1, q⟩
def stN (d q v : Val) : Option Val := match d, q with
  | .dct (.non :: ks) vs, .tup qs => (match nk (.tup qs) with
    | some k => if k.depth ≤ 8 ∧ ks.length < 16777216 then some (.dct (.non :: (dput ks vs k (.tup qs) v).1) (dput ks vs k (.tup qs) v).2) else none
    | none => none)
  | _, _ => none
def stK (d q v : Val) : Option Val := match d with
  | .dct ks vs => if isNs ks = false ∧ ks.length < 16000000 then (kq q).map fun k => .dct (dput ks vs (nkK k) q v).1 (dput ks vs (nkK k) q v).2 else none
  | _ => none
/-- d[k] = v, by what the dict becomes -/
def sSetD (st : Val → Val → Val → Option Val) (i : Nat) (fk fv : EF) : SF := obind (esh fv) fun ov env1 => match own? env1 i with
  | some (.dct _ _) => obind (esh fk) (fun ok env => match own? env i, ov, ok with
    | some (.dct ks vs), .shr v, .shr q => (match st (.dct ks vs) q v with
      | some d1 => some (.nx, updOwn env i d1)
      | none => none)
    | _, _, _ => none) env1
  | _ => none
/-- a store into a dict on values is what the rule says -/
def StS (T : Tx) (r : TSet) (st : Val → Val → Val → Option Val) : Prop := ∀ B H a ks vs o kys vys x y q v d1, Same B H → H a = some o → IsDct T a o ks kys vys → RepAll T B kys ks → RepAll T B vys vs → Rep T B y q → Rep T B x v → st (.dct ks vs) q v = some d1 → B a = none →
  ∀ Q : Hp → Prop, (∀ o1, OwnR T B (upd H a o1) [a] a d1 → Q (upd H a o1)) → r (.ref a) y x H Q
theorem st_n {T : Tx} : StS T (rSetN T.P T.w) stN := by
  intro B H a ks vs o kys vys x y q v d1 hs ho d r1 r2 ry rx e hb Q hq
  unfold stN at e
  split at e
  · rename_i ks1 vs1 qs hd
    cases hd
    split at e
    · rename_i k hk
      split at e
      · rename_i hl
        cases e
        rcases d with ⟨kvs, rfl, rfl, rfl⟩ | ⟨ob, xs, rfl, rfl, rfl, e1, e2⟩
        · exact (ks_not r1).elim
        · obtain ⟨ks', e3, r3⟩ := ks_non r1
          cases e3
          have hy := rep_key ry hk
          cases ry with
          | @tup b ys _ q1 q2 =>
            have rq : Rep T B (.ref b) (.tup qs) := .tup q1 q2
            have lx : xs.length = ks1.length := by
              have := r3.length
              rw [List.length_map] at this
              exact this
            have p := put_n r3 r2 e1 e2 rq hk hl.1 rx
            refine ⟨a, b, k, xs, ob, rfl, rfl, hy.mono hs, hl.1, ho, keys_ok hs xs ks1 r3 e1 e2, by rw [lx]; exact Nat.lt_of_lt_of_le hl.2 (by decide), fun ob' => hq _ ?_⟩
            exact .dct upd_same (.inr ⟨ob', _, rfl, rfl, rfl, p.2.2.1, p.2.2.2⟩) (.cons .non p.1) p.2.1
      · cases e
    · cases e
  · cases e
theorem st_k {T : Tx} : StS T rSetK stK := by
  intro B H a ks vs o kys vys x y q v d1 hs ho d r1 r2 ry rx e hb Q hq
  unfold stK at e
  dsimp only at e
  split at e
  · rename_i hl
    obtain ⟨k, hk, rfl⟩ := Option.map_eq_some_iff.mp e
    rcases d with ⟨kvs, rfl, rfl, rfl⟩ | ⟨ob, xs, rfl, rfl, rfl, e1, e2⟩
    · obtain ⟨rfl, nq⟩ := kq_rep hk ry
      have lx : kvs.length = ks.length := by
        have := r1.length
        rw [List.length_map] at this
        exact this
      have p := put_k r1 r2 ry rx
      exact ⟨a, _, rfl, DPut.k ho (by rw [lx]; exact Nat.lt_of_lt_of_le hl.2 (by decide)), hq _ (.dct upd_same (.inl ⟨_, rfl, rfl, rfl⟩) p.1 p.2)⟩
    · obtain ⟨ks', rfl, _⟩ := ks_non r1
      cases hl.1
  · cases e
theorem setD_mono {T : Tx} {r : TSet} {st : Val → Val → Val → Option Val} (hst : StS T r st) {i : Nat} {fk fv : EF} {D : Ends} {σ : L2.St} {H : Hp} {W : WX} (h : sG T W (sSetD st i fk fv) D σ H) : tAsg (eG T W (esh fv)) (gSub (tVar i) (eG T W (esh fk)) r) D σ H := by
  obtain ⟨env, F, B, r0, env2, S, e, p⟩ := h
  refine ocut S e p fun ov env1 H1 F1 B1 x e1 S1 G1 x1 => ?_
  try dsimp only at e1
  split at e1
  · rename_i ks0 vs0 ho
    obtain ⟨l, o0, _, _, h1, _⟩ := S1.dct ho
    refine ⟨.ref l, h1, ?_⟩
    refine ocut S1 e1 (p.shift S S1 G1) fun ok env3 H2 F2 B2 y e2 S2 G2 y2 => ?_
    try dsimp only at e2
    split at e2
    · rename_i ks vs v q ho2
      split at e2
      · rename_i d1 hd1
        cases e2
        have xr : Rep T B2 x v := Rep.mono G2.kn x1
        obtain ⟨l', o, kys, vys, k1, kF, k2, k3, k4, k5⟩ := S2.dct ho2
        rw [h1] at k1
        cases k1
        have hb : B2 l = none := S2.free i l (by rw [kF]; exact List.mem_cons_self)
        refine hst B2 H2 l ks vs o kys vys x y q v d1 S2.sub k2 k3 k4 k5 y2 xr hd1 hb _ fun o1 hn => ?_
        have hm : ∀ b, b ∉ F2 i → upd H2 l o1 b = H2 b := fun b hb => upd_ne fun q => hb (by rw [kF, q]; exact List.mem_singleton.mpr rfl)
        have hn' : OwnR T B2 (upd H2 l o1) (F2 i) l d1 := by rw [kF]; exact hn
        exact p σ _ F2 B2 (S2.mut ho2 h1 hm hn') ((G1.trans S S1 G2).trans S S2 (Go.mut S2 ho2 hm hn'))
      · cases e2
    · cases e2
  · cases e1
end Lw

end
section
set_option Elab.async false
set_option linter.all false
set_option maxRecDepth 100000
set_option maxHeartbeats 1600000
set_option autoImplicit false
/-! Lw: dicts: statements, displays, walks, d.get. -/
namespace Lw
open PySem PySem.Spec PyProof.Rows L2
section
variable {X : Cx} {W : WX} {a b : Expr} {f fk fv fx : EF} {pos : Pos}
theorem ss_setD {r : TSet} {st : Val → Val → Val → Option Val} (hp : PSet X r) (hst : StS (tx X) r st) {i : Nat} {o ix e : Expr} {tpos : Pos} (ho : PE X o (tVar i)) (hi : SE X W ix fk) (he : SE X W e fv)
    (hg : ∀ v, assign (.Subscript o ix tpos) X.env v = (do
      let ov ← holding [v] (eval o X.env)
      let iv ← holding [v, ov] (eval ix X.env)
      standAt tpos
      holding [v, ov, iv] (setItem ov iv v)
      release [v, ov, iv] []) := by intro _; rfl)
    (hs : swapsWithSole [.Subscript o ix tpos] e pos.line X.env = pure false := by rfl) (hw : swappedStores [.Subscript o ix tpos] e X.env = pure none := by rfl)
    (h1 : (assignEach [.Subscript o ix tpos] X.env).map (·.2) = [assign (.Subscript o ix tpos) X.env] := by rfl) :
    SS X W (.Assign [.Subscript o ix tpos] e pos) (sSetD st i fk fv) := PS.mono (ps_asg (se_esh he) (pg_sub ho (se_esh hi) hp hg) hs hw h1) fun _ _ _ h => setD_mono hst h
/-! ### {} -/
def obD0 : PySem.Obj := { cls := .type "dict", data := .dict #[] }
theorem dns_nil {P : Program} {w : World} {p : Addr} (hp : sysModules < p) : DNs P w p obD0 [] :=
  ⟨beq_eq_false_iff_ne.mpr (Ne.symm (Nat.ne_of_lt hp)), ⟨rfl, rfl, rfl⟩, Nat.zero_le _, #[], 0, [], rfl, .nil, rfl, List.nodup_nil⟩
def tNew0 (P : Program) (w : World) : TE := fun _ H Q => ∀ p, H p = none → Q (.ref p) (upd H p (DN P w p obD0 []))
theorem laid_n {pins : List (Addr × PySem.Obj)} {σ : L2.St} {H : Hp} {s : Shared} (I : Inv X pins σ H s) : Inv X pins σ (upd H s.heap.objs.size (DN X.prog X.w s.heap.objs.size obD0 [])) { s with heap := s.heap.push obD0 } :=
  I.laid (a := s.heap.objs.size) (t' := s.toks) (fun _ _ q => Heap.get?_push_of_some _ q) (Nat.le_refl _) (dn_ok (Heap.get?_push_size _ rfl) (dns_nil I.big))
theorem pe_new0 : PE X (.Dict [] [] pos) (tNew0 X.prog X.w) := ⟨fun pins s σ H Q I h => wpAny_Dict_empty ⟨.ref s.heap.objs.size, _, laid_n I, rfl, h _ (I.hok.fresh (Nat.le_refl _))⟩⟩
def sDct0 (ks : List Val) : EF := fun env => some (.val (.new (.dct ks [])), env)
theorem se_dct0N : SE X W (.Dict [] [] pos) (sDct0 [.non]) := by
  refine PE.mono pe_new0 fun σ H Q q p hp => ?_
  obtain ⟨env, F, B, r, env1, S, e, k⟩ := q
  cases e
  have g := PG.fresh S.sub (DN X.prog X.w p obD0 []) hp
  exact k.done (rv := .new (.dct [.non] [])) S (fun _ z => z) g ⟨p, [p], rfl, .dct upd_same (.inr ⟨_, [], rfl, rfl, rfl, rfl, fun _ h => nomatch h⟩) (.cons .non .nil) .nil, fun b hb => by
    rw [List.mem_singleton] at hb; subst hb; exact ⟨hp, S.sub.free hp⟩⟩
theorem se_dct0K : SE X W (.Dict [] [] pos) (sDct0 []) := by
  refine PE.mono pe_dnewK fun σ H Q q p hp => ?_
  obtain ⟨env, F, B, r, env1, S, e, k⟩ := q
  cases e
  have g := PG.fresh S.sub (HO.dK []) hp
  exact k.done (rv := .new (.dct [] [])) S (fun _ z => z) g ⟨p, [p], rfl, .dct upd_same (.inl ⟨[], rfl, rfl, rfl⟩) .nil .nil, fun b hb => by
    rw [List.mem_singleton] at hb; subst hb; exact ⟨hp, S.sub.free hp⟩⟩
/-! ### {k: v} -/
def tNew1 (P : Program) (w : World) (tk tv : TE) : TE := fun σ H Q => ∀ p, H p = none → tk σ (upd H p (DN P w p obD0 [])) fun x H1 => tv σ H1 fun y H2 =>
  ∃ b k, x = .ref b ∧ KeyIs H2 k x ∧ k.depth ≤ 8 ∧ H2 p = some (DN P w p obD0 []) ∧ ∀ ob, Q (.ref p) (upd H2 p (DN P w p ob [(k, b, y)]))
theorem pe_new1 {tk tv : TE} (hu : X.A.units + 16 < cLine) (hk : PE X a tk) (hv : PE X b tv) : PE X (.Dict [some a] [b] pos) (tNew1 X.prog X.w tk tv) := by
  refine ⟨fun pins s σ H Q I h => ?_⟩
  have hn := I.hok.fresh (Nat.le_refl s.heap.objs.size)
  refine wpAny_Dict_any rfl rfl (by simp) (by show 1 ≤ 15; decide) ?_
  refine pairTrees_cons_walk (thn (hk.run pins _ σ _ _ (laid_n I) (h _ hn)) fun u s1 ⟨x, H1, I1, rx, q1⟩ => thn (hv.run pins s1 σ H1 _ I1 q1) fun u2 s2 ⟨y, H2, I2, ry, q2⟩ => pairTrees_nil_walk ?_)
  obtain ⟨c, k, rfl, kk, kd, e, q⟩ := q2
  obtain rfl : u = Value.ref c := rx
  obtain ⟨hs, hl, ws, r, d⟩ := dn_dict I2.hok e (fun z hz => nomatch hz)
  cases r
  unfold storeAll
  rw [List.forIn_cons]
  have hroom : (nestedKind X.prog X.w).room X.A := by show X.A.units + 8 < cLine; omega
  refine wpAny_bind (wpAny_bind (wpAny_dictSet_heap (hsz := by show 0 ≤ sizeLine; omega) hroom (n_is I2 kk kd) d fun h' d' sb => wpAny_pure ?_))
  show wpAny _ _ (forIn ([] : List (Value × Value)) PUnit.unit _) _ _ _
  rw [List.forIn_nil]
  obtain ⟨ob, es, ep, hg, hx, hdt, he, _, hnd⟩ := d'
  have mu : Mut (H2 s.heap.objs.size) := by rw [e]; exact True.intro
  have I3 := d_write (t' := s2.toks + (nestedKind X.prog X.w).draws k) I2 mu sb ⟨ob, hg⟩ (dn_ok (xs := [(k, c, y)]) hg ⟨hs, hx, by show 1 ≤ sizeLine; decide, es, ep, _, hdt, .cons ⟨rfl, rfl, ry⟩ .nil, he, hnd⟩)
  exact wpAny_pure ⟨.ref s.heap.objs.size, _, I3, rfl, q ob⟩
/-- {k: v}, k a tuple -/
def sDct1 (fk fv : EF) : EF := ebind (esh fk) fun ok => ebind (esh fv) fun ov env => match ok, ov with
  | .shr (.tup qs), .shr v => (match nk (.tup qs) with
    | some k => if k.depth ≤ 8 then some (.val (.new (.dct [.non, .tup qs] [v])), env) else none
    | none => none)
  | _, _ => none
theorem se_dct1 (hu : X.A.units + 16 < cLine) (hk : SE X W a fk) (hv : SE X W b fv) : SE X W (.Dict [some a] [b] pos) (sDct1 fk fv) := by
  refine PE.mono (pe_new1 hu (se_esh hk) (se_esh hv)) fun σ H Q q p hp => ?_
  obtain ⟨env, F, B, r, env9, S, e, k⟩ := q
  have g0 := PG.fresh S.sub (DN X.prog X.w p obD0 []) hp
  have S0 := g0.rs S
  have G0 : Go env σ H F B env σ (upd H p (DN X.prog X.w p obD0 [])) F B := g0.go
  refine run_cut S0 e (k.shift S S0 G0) fun ok env1 H1 F1 B1 x e1 S1 G1 x1 p1 => ?_
  refine run_cut S1 e1 p1 fun ov env2 H2 F2 B2 y e2 S2 G2 y2 p2 => ?_
  try dsimp only at e2
  split at e2
  · rename_i qs v
    split at e2
    · rename_i kk hkk
      split at e2
      · rename_i hd
        cases e2
        have G := G1.trans S0 S1 G2
        have hF : ∀ i, p ∉ F i := S.fresh hp
        have hup : upd H p (DN X.prog X.w p obD0 []) p = some (DN X.prog X.w p obD0 []) := upd_same
        have xr : Rep (tx X) B2 x (.tup qs) := Rep.mono G2.kn x1
        have yr : Rep (tx X) B2 y v := y2
        have hF2 : ∀ i, p ∉ F2 i := fun i q => by
          rcases G.ow i p q with ⟨j, z⟩ | z
          · exact hF j z
          · rw [hup] at z; cases z
        have hB2 : B2 p = none := by
          cases h : B2 p with
          | none => rfl
          | some o =>
            rcases G.nb p o h with z | z | ⟨i, _, _, z⟩
            · rw [S.sub.free hp] at z; cases z
            · rw [hup] at z; cases z
            · exact absurd z (hF i)
        have hk2 : KeyIs H2 kk x := (rep_key xr hkk).mono S2.sub
        cases xr with
        | @tup c ys _ q1 q2 =>
          refine ⟨c, kk, rfl, hk2, hd, G.fr p _ hup hF, fun ob => ?_⟩
          have ne : ∀ b o, b ≠ p → upd H2 p o b = H2 b := fun b o h => upd_ne h
          have S3 : RS (tx X) env9 σ B2 (upd H2 p (DN X.prog X.w p ob [(kk, c, y)])) F2 := ⟨fun b o h => by
              rw [ne b _ fun z => by rw [z, hB2] at h; cases h]
              exact S2.sub b o h, S2.len, S2.shr, fun i u h => by
              obtain ⟨l, s1, s2⟩ := S2.own i u h
              exact ⟨l, s1, s2.mono (Same.refl _) fun b hb o z => by rw [ne b _ fun w => hF2 i (w ▸ hb)]; exact z⟩, S2.non, S2.free, S2.disj⟩
          have G3 : Go env σ H F B env9 σ (upd H2 p (DN X.prog X.w p ob [(kk, c, y)])) F2 B2 :=
            { fr := fun l o h n => by
                have hl : l ≠ p := fun z => by rw [z, hp] at h; cases h
                rw [ne l _ hl]
                exact G.fr l o (by rw [upd_ne hl]; exact h) n
              al := fun l h => by
                by_cases hl : l = p
                · rw [hl]; exact hp
                · rw [ne l _ hl] at h
                  have := G.al l h
                  rwa [upd_ne hl] at this
              kn := G.kn
              nb := fun l o h => by
                rcases G.nb l o h with z | z | z
                · exact .inl z
                · refine .inr (.inl ?_)
                  by_cases hl : l = p
                  · rw [hl]; exact hp
                  · rwa [upd_ne hl] at z
                · exact .inr (.inr z)
              ow := fun i l h => by
                rcases G.ow i l h with z | z
                · exact .inl z
                · refine .inr ?_
                  by_cases hl : l = p
                  · rw [hl]; exact hp
                  · rwa [upd_ne hl] at z
              io := G.io
              iw := G.iw
              ln := G.ln }
          refine k _ F2 B2 S3 G3 (.ref p) ?_
          refine ⟨p, [p], rfl, .dct upd_same (.inr ⟨ob, [(kk, c, y)], rfl, rfl, rfl, ?_, fun z hz => ?_⟩) (.cons .non (.cons (.tup q1 q2) .nil)) (.cons yr .nil), fun b hb => ?_⟩
          · show [nk (.tup qs)] = [some kk]
            rw [hkk]
          · rw [List.mem_singleton] at hz; subst hz; exact hd
          · rw [List.mem_singleton] at hb; subst hb; exact ⟨hp, hB2, hF2⟩
      · cases e2
    · cases e2
  · cases e2
end
end Lw

end
section
set_option Elab.async false
set_option linter.all false
set_option maxRecDepth 100000
set_option maxHeartbeats 1600000
set_option autoImplicit false
/-! Lw: dicts: walked; d.get(k, x). -/
namespace Lw
open PySem PySem.Spec PyProof.Rows L2
/-- the keys of a dict, one by one -/
def Itn (P : Program) (w : World) (d : Addr) (ob : PySem.Obj) (xs : List Ent) : It :=
  ⟨fun i H => H d = some (DN P w d ob xs) ∧ i < xs.length, fun i H x H' => H' = H ∧ ∃ e, xs[i]? = some e ∧ x = .ref e.2.1, fun i H => H d = some (DN P w d ob xs) ∧ xs.length ≤ i⟩
theorem dn_ent {P : Program} {w : World} {H : Hp} {h : Heap} {d : Addr} {ob : PySem.Obj} {xs : List Ent} (ok : HOk P w H h) (e : H d = some (DN P w d ob xs)) :
    (d == sysModules) = false ∧ h.get? d = some ob ∧ ob.ExactDict ∧ ∃ es ep, ob.data = .dict es ep ∧ es.size = xs.length ∧ ∀ (i : Nat) (z : Ent), xs[i]? = some z → ∃ en : DictEntry, es[i]? = some en ∧ en.key = .ref z.2.1 := by
  obtain ⟨g, hs, hx, _, es, ep, ws, hd, r, he, _⟩ := dn_rd ok e
  refine ⟨hs, g, hx, es, ep, hd, ?_, fun i z hz => ?_⟩
  · rw [size_of_entries he, Paired.length r]
  · obtain ⟨y, hy, _, y2, _⟩ := paired_get r hz
    have q := entry_at he i
    rw [hy] at q
    exact ⟨_, q, by show Value.ref y.2.1 = _; rw [y2]⟩
theorem turn_n {P : Program} {w : World} {K : PySem.W.Frag} {tg : Expr} {d : Addr} {ob : PySem.Obj} {xs : List Ent} {es : Array DictEntry} {ep : Nat} (it : Addr) (hod : ob.data = .dict es ep) :
    Turn P w K tg (Itn P w d ob xs) [it] it (fun i h => h.IsKeyIter it d i xs.length ep) where
  mem := by simp
  obj := fun i h st b hb => by
    rw [List.mem_singleton] at hb
    subst hb
    obtain ⟨oi, e, c, dd⟩ := st
    refine ⟨oi, e, fun v z => ?_⟩
    rw [dd] at z
    cases z
  keep := fun i h h' st k => st.at fun oi e => k it (List.mem_singleton.mpr rfl) oi e
  item := by
    intro X hP hw hK hc i pins s σ H E I hf st hg
    subst hP hw hK
    obtain ⟨hd, hi⟩ := hg
    obtain ⟨f0, f1, f2, f3, f4, f5⟩ := hf it (List.mem_singleton.mpr rfl)
    obtain ⟨hs, g, hx, es', ep', hdt, hsz, ent⟩ := dn_ent I.hok hd
    obtain ⟨rfl, rfl⟩ := dict_ep hod hdt
    obtain ⟨en, hen, hkey⟩ := ent i _ (List.getElem?_eq_getElem hi)
    refine next_key_item st g hdt hsz hen fun h1 st1 sb => ?_
    have I1 : Inv X pins σ H { s with heap := h1 } := I.turned (t' := s.toks) (fun b o hb z => (sb.2 b hb).trans z) f0 f1 f3 f4 f5
    obtain ⟨oi, e, c, dd⟩ := id st1
    refine ⟨en.key, rfl, go_of (s := { s with heap := h1 }) e c dd (by decide) ⟨.ref xs[i].2.1, H, I1, hkey, ⟨rfl, xs[i], List.getElem?_eq_getElem hi, rfl⟩, st1, fun b hb => ?_⟩⟩
    exact (hf b hb).1
  done := by
    intro X hP hw hK hc i pins s σ H E I hf st hg
    subst hP hw hK
    obtain ⟨hd, hi⟩ := hg
    obtain ⟨f0, f1, f2, f3, f4, f5⟩ := hf it (List.mem_singleton.mpr rfl)
    obtain ⟨hs, g, hx, es', ep', hdt, hsz, ent⟩ := dn_ent I.hok hd
    obtain ⟨rfl, rfl⟩ := dict_ep hod hdt
    refine next_key_end (I.ok.hd hc) st g hdt hsz hi fun h1 eb => ⟨rfl, ?_⟩
    exact I.turned (t' := s.toks) (fun b o hb z => eb b o hb z) f0 f1 f3 f4 f5
  self := fun A i s Q E st h => by
    refine wpAny_pyIter_slot st.typeIs F.slot_dict_keyiterator_iter ?_
    refine wpAny_call_entry F.slot_dict_keyiterator_iter st.typeIs F.entry_dict_keyiterator_iter ?_ (F.args_dict_keyiterator_iter_1 _)
    show wpAny _ _ (ret (.ref it)) _ _ s
    exact wpAny_pure ⟨_, rfl, "dict_keyiterator", _, st.typeIs, F.slot_dict_keyiterator_next.lookup, h⟩
def iN (P : Program) (w : World) (td : TE) : TI := fun σ H R => td σ H fun x H1 => ∃ d ob xs, x = .ref d ∧ H1 d = some (DN P w d ob xs) ∧ R (Itn P w d ob xs) H1
section
variable {X : Cx} {W : WX} {tg a b c : Expr} {td ty tx : TE} {f fk fx : EF} {apos cpos : Pos}
theorem pi_n (he : PE X a td) : PI X tg a (iN X.prog X.w td) := by
  refine ⟨fun pins s σ H R I h => ?_⟩
  refine thn (he.run pins s σ H _ I h) fun u s1 ⟨x, H1, I1, rx, d, ob, xs, ex, hd, q⟩ => ?_
  subst ex
  obtain rfl : u = Value.ref d := rx
  obtain ⟨hs, g, hx, es, ep, hdt, hsz, _⟩ := dn_ent I1.hok hd
  refine iter_keys hs g hx hdt ?_
  refine pi_one (tk := s1.toks) I1 _ (turn_n _ hdt) ⟨_, Heap.get?_push_size _ rfl, rfl, ?_⟩ q
  rw [hsz] <;> rfl
def itemsN : Val → Option (List Val)
  | .dct (.non :: ks) _ => some ks
  | _ => none
/-- for k in d, d a dict of tuple keys -/
def sKeysN (f : EF) : IF := ibind (esh f) itemsN
theorem si_keysN (h : SE X W a f) : SI X W tg a (sKeysN f) := by
  refine PI.mono (pi_n (se_esh h)) fun σ H R q => ?_
  refine icut q fun v vs env1 H1 F1 B1 x hk S1 hx hR => ?_
  unfold itemsN at hk
  split at hk
  · rename_i ks ws
    cases hk
    cases hx with
    | dct q d r1 r2 =>
      rcases d with ⟨kvs, rfl, rfl, rfl⟩ | ⟨ob, xs, rfl, rfl, rfl, e1, e2⟩
      · exact (ks_not r1).elim
      · obtain ⟨ks', e3, r3⟩ := ks_non r1
        injection e3 with _ e4
        subst e4
        have hl : xs.length = vs.length := by
          have := r3.length
          rw [List.length_map] at this
          exact this
        refine ⟨_, ob, xs, rfl, S1.sub _ _ q, hR _ ⟨fun i H2 s2 hi => ⟨s2 _ _ q, by omega⟩, fun i H2 s2 hi => ⟨s2 _ _ q, by omega⟩, fun i H2 y H3 B3 s2 s3 s4 hi hy => ?_⟩⟩
        obtain ⟨rfl, e, he, rfl⟩ := hy
        have hm : (xs.map fun e => V.ref e.2.1)[i]? = some (V.ref e.2.1) := by rw [List.getElem?_map, he]; rfl
        obtain ⟨v, hv, hr⟩ := r3.get' hm
        exact ⟨v, B3, hv, .refl s4, hr.mono s3⟩
  · cases hk
/-! ### d.get(k, x) -/
def tNGet2 (P : Program) (w : World) (td ty tx : TE) : TE := fun σ H Q => td σ H fun x H1 => ∃ a ob xs, x = .ref a ∧ H1 a = some (DN P w a ob xs) ∧ ty σ H1 fun y H2 => tx σ H2 fun z H3 => ∃ b k o, y = .ref b ∧ KeyIs H3 k y ∧ k.depth ≤ 8 ∧ NGet P w H3 a k o ∧ Q (o.getD z) H3
theorem pe_nget2 (hu : X.A.units + 16 < cLine) (ho : PE X a td) (he : PE X b ty) (hf : PE X c tx) (m : M2 X a "get" apos b c cpos) : PE X (.Call (.Attribute a "get" apos) [b, c] [] cpos) (tNGet2 X.prog X.w td ty tx) := by
  refine ⟨fun pins s σ H Q I h => ?_⟩
  refine wpAny_Call_method m.base m.few m.line F.plainAttrs_dict F.slot_dict_get F.type_dict_get ?_
  refine thn (ho.run pins s σ H _ I h) fun u s1 ⟨x, H1, I1, rx, d, ob, xs, ex, e, q1⟩ => ?_
  subst ex
  obtain rfl : u = Value.ref d := rx
  obtain ⟨hs, g, hx, _⟩ := dn_ent I1.hok e
  refine ⟨⟨ob, g, hx.1⟩, fun b' q => ?_, ?_⟩
  · cases q
    exact ⟨ob, g, hx.2.1⟩
  rw [m.trees]
  refine Calls.callWith_builtin rfl (Calls.evalArgs_plain (Calls.spliced_cons ?_))
  refine thn (he.run pins s1 σ H1 _ I1 q1) fun iv s2 ⟨y, H2, I2, ry, q2⟩ => Calls.spliced_cons ?_
  refine thn (hf.run pins s2 σ H2 _ I2 q2) fun fv s3 ⟨z, H3, I3, rz, kb, k, o, ey, hk, hd, gg, q3⟩ => Calls.spliced_nil ?_
  subst ey
  obtain rfl : iv = Value.ref kb := ry
  exact n_get2 hu I3 gg hk hd rz fun w' s4 I4 rw' => ⟨_, H3, I4, rw', q3⟩
/-- d.get(k, x) of a dict of tuple keys -/
def sGetN (f fk fx : EF) : EF := ebind f fun od env1 => match od.get env1 with
  | some (.dct (.non :: _) _) => ebind (esh fk) (fun ok => ebind (esh fx) fun ox env => match od.get env, ok, ox with
    | some (.dct (.non :: ks) vs), .shr (.tup q), .shr v => (match atN ks vs q with
      | some o => some (.val (.shr (o.getD v)), env)
      | none => none)
    | _, _, _ => none) env1
  | _ => none
theorem se_getN (hu : X.A.units + 16 < cLine) (ho : SE X W a f) (he : SE X W b fk) (hf : SE X W c fx) (m : M2 X a "get" apos b c cpos) : SE X W (.Call (.Attribute a "get" apos) [b, c] [] cpos) (sGetN f fk fx) := by
  refine PE.mono (pe_nget2 hu ho (se_esh he) (se_esh hf) m) fun σ H Q q => ?_
  obtain ⟨env, F, B, r, env9, S, e, p⟩ := q
  refine run_cut S e p fun od env1 H1 F1 B1 x e1 S1 G1 x1 p1 => ?_
  try dsimp only at e1
  split at e1
  · rename_i ks0 vs0 h0
    obtain ⟨d, o, kys, vys, rfl, hd, id0, r1, r2⟩ := (x1.opr S1 h0).dct S1.sub
    rcases id0 with ⟨kvs, rfl, rfl, rfl⟩ | ⟨ob, xs, rfl, rfl, rfl, _, _⟩
    · exact (ks_not r1).elim
    · refine ⟨d, ob, xs, rfl, hd, ?_⟩
      refine run_cut S1 e1 p1 fun ok env2 H2 F2 B2 y e2 S2 G2 y2 p2 => ?_
      refine run_cut S2 e2 p2 fun ox env3 H3 F3 B3 z e3 S3 G3 z3 p3 => ?_
      try dsimp only at e3
      split at e3
      · rename_i ks vs q v h3
        split at e3
        · rename_i o' ho'
          cases e3
          obtain ⟨k, e4, dk, rfl⟩ := atN_some ho'
          have G := G2.trans S1 S2 G3
          have xo := ((x1.go S1 S2 G2).go S2 S3 G3).opr S3 h3
          have yo : Rep (tx X) B3 y (.tup q) := Rep.mono G3.kn y2
          obtain ⟨a', b', o, e5, e6, hk, g, ro⟩ := xo.nget S3.sub (.inl yo) e4
          cases e5
          refine ⟨b', k, o, e6, hk, dk, g, ?_⟩
          refine p3 H3 F3 B3 S3 .refl _ ?_
          show Rep (tx X) B3 (o.getD z) ((dfind ks vs k).getD v)
          cases o with
          | none =>
            cases h : dfind ks vs k with
            | none => exact z3
            | some w => rw [h] at ro; cases ro
          | some u =>
            cases h : dfind ks vs k with
            | none => rw [h] at ro; cases ro
            | some w => rw [h] at ro; exact ro
        · cases e3
      · cases e3
  · cases e1
end
end Lw

end
section
set_option Elab.async false
set_option linter.all false
set_option maxRecDepth 100000
set_option maxHeartbeats 1600000
set_option autoImplicit false
/-! Lw: {k: v} with an int or a text as key. -/
namespace Lw
open PySem PySem.Spec PyProof.Rows L2
theorem u16 {k : Nat} {A : Around} (hr : Room k A) : A.units + 16 < cLine := by have := u65 hr; omega
section
variable {T : Tx} {env env2 : Env} {σ : L2.St} {B B2 H H2 : Hp} {F F2 : Nat → List Addr} {p : Addr} {o0 : HO}
/-- what was new at the start is changed at the end -/
theorem new_at (S : RS T env σ B H F) (S2 : RS T env2 σ B2 H2 F2) (G : Go env σ (upd H p o0) F B env2 σ H2 F2 B2) (hp : H p = none) :
    H2 p = some o0 ∧ B2 p = none ∧ (∀ i, p ∉ F2 i) ∧ ∀ o1, RS T env2 σ B2 (upd H2 p o1) F2 ∧ Go env σ H F B env2 σ (upd H2 p o1) F2 B2 := by
  have hF : ∀ i, p ∉ F i := S.fresh hp
  have hup : upd H p o0 p = some o0 := upd_same
  have hF2 : ∀ i, p ∉ F2 i := fun i q => by
    rcases G.ow i p q with ⟨j, z⟩ | z
    · exact hF j z
    · rw [hup] at z; cases z
  have hB2 : B2 p = none := by
    cases h : B2 p with
    | none => rfl
    | some o =>
      rcases G.nb p o h with z | z | ⟨i, _, _, z⟩
      · rw [S.sub.free hp] at z; cases z
      · rw [hup] at z; cases z
      · exact absurd z (hF i)
  refine ⟨G.fr p _ hup hF, hB2, hF2, fun o1 => ?_⟩
  have ne : ∀ b o, b ≠ p → upd H2 p o b = H2 b := fun b o h => upd_ne h
  constructor
  · refine ⟨fun b o h => ?_, S2.len, S2.shr, fun i u h => ?_, S2.non, S2.free, S2.disj⟩
    · rw [ne b _ fun z => by rw [z, hB2] at h; cases h]
      exact S2.sub b o h
    · obtain ⟨l, s1, s2⟩ := S2.own i u h
      exact ⟨l, s1, s2.mono (Same.refl _) fun b hb o z => by rw [ne b _ fun w => hF2 i (w ▸ hb)]; exact z⟩
  · refine { fr := fun l o h n => ?_, al := fun l h => ?_, kn := G.kn, nb := fun l o h => ?_, ow := fun i l h => ?_, io := G.io, iw := G.iw, ln := G.ln }
    · have hl : l ≠ p := fun z => by rw [z, hp] at h; cases h
      rw [ne l _ hl]
      exact G.fr l o (by rw [upd_ne hl]; exact h) n
    · by_cases hl : l = p
      · rw [hl]; exact hp
      · rw [ne l _ hl] at h
        have := G.al l h
        rwa [upd_ne hl] at this
    · rcases G.nb l o h with z | z | z
      · exact .inl z
      · refine .inr (.inl ?_)
        by_cases hl : l = p
        · rw [hl]; exact hp
        · rwa [upd_ne hl] at z
      · exact .inr (.inr z)
    · rcases G.ow i l h with z | z
      · exact .inl z
      · refine .inr ?_
        by_cases hl : l = p
        · rw [hl]; exact hp
        · rwa [upd_ne hl] at z
end
def sDct1K (fk fv : EF) : EF := ebind (esh fk) fun ok => ebind (esh fv) fun ov env => match ok, ov with
  | .shr q, .shr v => (match kq q with
    | some k => some (.val (.new (.dct [q] [v])), env)
    | none => none)
  | _, _ => none
theorem se_dct1K {X : Cx} {W : WX} {a b : Expr} {fk fv : EF} {pos : Pos} (hk : SE X W a fk) (hv : SE X W b fv) : SE X W (.Dict [some a] [b] pos) (sDct1K fk fv) := by
  refine PE.mono (pe_disp (pps_cons (se_esh hk) (se_esh hv) pps_nil) rfl rfl (by simp) (by show 1 ≤ 15; decide)) fun σ H Q q p hp => ?_
  obtain ⟨env, F, B, r, env9, S, e, k⟩ := q
  have g0 := PG.fresh S.sub (HO.dK []) hp
  have S0 := g0.rs S
  have G0 : Go env σ H F B env σ (upd H p (.dK [])) F B := g0.go
  refine run_cut S0 e (k.shift S S0 G0) fun ok env1 H1 F1 B1 x e1 S1 G1 x1 p1 => ?_
  refine run_cut S1 e1 p1 fun ov env2 H2 F2 B2 y e2 S2 G2 y2 p2 => ?_
  try dsimp only at e2
  split at e2
  · rename_i qv v
    split at e2
    · rename_i kk hkk
      cases e2
      have xr : Rep (tx X) B2 x qv := Rep.mono G2.kn x1
      have yr : Rep (tx X) B2 y v := y2
      obtain ⟨n1, n2, n3, n4⟩ := new_at S S2 (G1.trans S0 S1 G2) hp
      obtain ⟨rfl, nq⟩ := kq_rep hkk xr
      refine ⟨n1, [(kk, y)], rfl, by show 1 ≤ 15; decide, ?_⟩
      obtain ⟨S3, G3⟩ := n4 (.dK (mergeK [] [(kk, y)]))
      refine k _ F2 B2 S3 G3 (.ref p) ?_
      have em : mergeK [] [(kk, y)] = [(kk, y)] := by
        show putK [] kk y = _
        unfold putK
        simp
      refine ⟨p, [p], rfl, .dct upd_same (.inl ⟨_, rfl, rfl, rfl⟩) ?_ ?_, fun b hb => ?_⟩
      · rw [em]; exact .cons xr .nil
      · rw [em]; exact .cons yr .nil
      · rw [List.mem_singleton] at hb; subst hb; exact ⟨hp, n2, n3⟩
    · cases e2
  · cases e2
end Lw

end
section
set_option Elab.async false
set_option linter.all false
set_option maxRecDepth 100000
set_option maxHeartbeats 1000000
set_option autoImplicit false
/-! Lw: what is turned about, of a list, a tuple or a text. -/
namespace Lw
open PySem PySem.Spec PyProof.Rows L2
section
variable {prog : Program} {w : World} {A : Around} {E : Value → Shared → Prop} {s : Shared}
theorem applied_rev {sl : Addr} {vs : Value} {n : Nat} {Q : Int × Int × Nat → Shared → Prop} (hs : s.heap.IsSliceOf sl .none .none vs) (ps : IsPart vs (some (-1)))
    (h : Q ((n : Int) - 1, -1, n) s) : wpAny (model prog w) A (Builtin.Slice.sliceApplied (.ref sl) (pure (n : Int))) Q E s := by
  obtain ⟨os, hos, hcs, hds⟩ := id hs
  unfold Builtin.Slice.sliceApplied Builtin.Slice.sliceFields
  refine wpAny_bind (wpAny_bind (wpAny_field hos hds (x := .none) rfl (wpAny_bind (wpAny_field hos hds (x := .none) rfl (wpAny_bind (wpAny_field hos hds (x := vs) rfl (wpAny_pure ?_)))))))
  refine wpAny_bind (HT.slicePart_ ps ?_)
  show wpAny _ _ (if ((-1 : Int) == 0) = true then _ else _) _ _ s
  rw [if_neg (by decide)]
  refine wpAny_bind (HT.slicePart_ .none (wpAny_bind (HT.slicePart_ .none (wpAny_bind (wpAny_pure ?_)))))
  show wpAny _ _ (pure ((n : Int) - 1, (-1 : Int), Builtin.Slice.slicePlaces ((n : Int) - 1) (-1) (-1))) _ _ s
  have e : Builtin.Slice.slicePlaces ((n : Int) - 1) (-1) (-1) = n := by
    unfold Builtin.Slice.slicePlaces
    have h1 : ¬ ((-1 : Int) > 0) := by decide
    simp only [h1, if_false]
    by_cases h : (n : Int) - 1 > -1
    · rw [if_pos h]
      have : ((n : Int) - 1 - -1 - 1) / (- -1) + 1 = (n : Int) := by
        rw [show (- -1 : Int) = 1 by decide, Int.ediv_one]
        omega
      rw [this]; rfl
    · rw [if_neg h]
      have : n = 0 := by omega
      subst this; rfl
  rw [e]
  exact wpAny_pure h
theorem fmc {α β : Type} {f g : α → Option β} : ∀ (l : List α), (∀ x ∈ l, f x = g x) → l.filterMap f = l.filterMap g
  | [], _ => rfl
  | x :: l, h => by
    have ih := fmc l fun y hy => h y (List.mem_cons_of_mem _ hy)
    rw [List.filterMap_cons, List.filterMap_cons, h x (List.mem_cons_self ..), ih]
theorem pick_rev (xs : Array Value) : ((List.range xs.size).filterMap fun (m : Nat) => xs[(((xs.size : Int) - 1) + (m : Int) * (-1)).toNat]?).toArray = xs.toList.reverse.toArray := by
  have e : (List.range xs.size).filterMap (fun (m : Nat) => xs[(((xs.size : Int) - 1) + (m : Int) * (-1)).toNat]?) = ((List.range xs.size).map fun m => xs.size - 1 - m).filterMap (xs[·]?) := by
    rw [List.filterMap_map]
    refine fmc _ fun m hm => ?_
    have hm := List.mem_range.mp hm
    have : (((xs.size : Int) - 1) + (m : Int) * (-1)).toNat = xs.size - 1 - m := by omega
    show xs[(((xs.size : Int) - 1) + (m : Int) * (-1)).toNat]? = xs[xs.size - 1 - m]?
    rw [this]
  rw [e, PySem.W.krv_range, List.filterMap_reverse, PySem.W.krv_all]
theorem tuple_rev {t sl : Addr} {items : Array Value} {vs : Value} {Q : Value → Shared → Prop} (ht : IsTup s.heap t items) (hs : s.heap.IsSliceOf sl .none .none vs) (ps : IsPart vs (some (-1)))
    (h : Q (.ref s.heap.objs.size) { s with heap := s.heap.push { cls := .type "tuple", data := .seq items.toList.reverse.toArray } })
    (hsz : items.size ≤ sizeLine) : wpAny (model prog w) A (getItem (.ref t) (.ref sl)) Q E s := by
  have htake : sizeOk (.seq items.toList.reverse.toArray) := by
    show items.toList.reverse.toArray.size ≤ sizeLine
    rw [List.size_toArray, List.length_reverse, Array.length_toList]
    exact hsz
  obtain ⟨os, hos, hcs, hds⟩ := id hs
  have hTs : s.TypeIs (.ref sl) "slice" := ⟨os, hos, hcs⟩
  unfold getItem
  try with_reducible refine wpAny_holding ?_
  first | refine wpAny_bind (wpAny_pure ?_) | skip
  refine wpAny_bind (wpAny_sequenceKey ht.typeIs (by decide) ?_)
  refine wpAny_bind (wpAny_callSpecial?_slot (name := Str.ofString "__getitem__") ht.typeIs PyProof.Rows.slot_tuple_getitem
    (wpAny_call_entry PyProof.Rows.slot_tuple_getitem ht.typeIs entry_tuple_getitem ?_ (args_tuple_getitem _ _)))
  show wpAny _ _ (Builtin.Tuple.tupleItemsOf (.ref t) >>= _) _ _ s
  refine wpAny_bind (tupleItemsOf_ ht ?_)
  refine wpAny_bind (wpAny_typeOf hTs ?_)
  rw [if_pos (by decide)]
  refine wpAny_bind (applied_rev hs ps ?_)
  have hno : ¬ (((((items.size : Int) - 1) == 0) && ((-1 : Int) == 1) && (items.size == items.size)) = true) := by
    intro q
    rw [Bool.and_eq_true, Bool.and_eq_true] at q
    exact absurd q.1.2 (by decide)
  show wpAny _ _ (if ((((items.size : Int) - 1) == 0) && ((-1 : Int) == 1) && (items.size == items.size)) = true then _ else _) _ _ s
  rw [if_neg hno, pick_rev]
  first
    | exact wpAny_bind (m := Builtin.Tuple.tupleExact _) (wpAny_newObj_type (wpAny_pure ⟨_, rfl, wpAny_pure h⟩) htake)
    | exact wpAny_bind (m := Builtin.Tuple.tupleExact _) (wpAny_newObj_type (wpAny_bind (wpAny_pure (wpAny_pure ⟨_, rfl, wpAny_pure h⟩))) htake)
    | exact wpAny_bind (wpAny_bind (m := Builtin.Tuple.tupleExact _) (wpAny_newObj_type (wpAny_pure (wpAny_pure ⟨_, rfl, wpAny_pure h⟩)) htake))
    | exact wpAny_bind (wpAny_bind (m := Builtin.Tuple.tupleExact _) (wpAny_newObj_type (wpAny_pure ⟨_, rfl, wpAny_pure h⟩) htake))
end
/-- a text turned about -/
def revS (z : Str) : Str := ⟨z.cps.toList.reverse.toArray⟩
theorem ssi_rev (n : Nat) : Builtin.Str.strSliceIndices none none (-1) n = (List.range n).reverse := by
  have e : Builtin.Str.strSliceIndices none none (-1) n = sliceRange ((n : Int) - 1) (-1) (-1) := by
    first
    | rfl
    | simp [Builtin.Str.strSliceIndices]
  rw [e, PySem.W.krv_sliceRange, PySem.W.krv_range]
/-- x[::-1]: a list, a tuple, a text -/
def rRev (K : PySem.W.Frag) : V → Hp → VK → Prop := fun x H Q =>
  (∃ a xs, x = .ref a ∧ SqL K H a xs ∧ ∀ p, H p = none → Q (.ref p) (upd H p (.lst xs.reverse))) ∨
  (∃ a xs, x = .ref a ∧ SqT K H a xs ∧ ∀ p, H p = none → Q (.ref p) (upd H p (.tup xs.reverse))) ∨
  ∃ z : Str, x = .str z ∧ z.length ≤ sizeLine ∧ Q (.str (revS z)) H
def tRevA (K : PySem.W.Frag) (te : TE) : TE := fun σ H Q => te σ H fun x H1 => rRev K x H1 Q
section
variable {X : Cx}
theorem pe_revA {e : Expr} {te : TE} {k : Nat} {p1 p2 p3 pos : Pos} (he : PE X e te) : PE X (.Subscript e (.Slice none none (some (.UnaryOp .USub (.Constant (.int 1) k p1) p2)) p3) pos) (tRevA X.K te) := by
  refine ⟨fun pins s σ H Q I h => ?_⟩
  refine Subscript_ (thn (he.run pins s σ H _ I h) fun v s1 ⟨x, H1, I1, r1, q1⟩ => ?_)
  have hst : PO X (some (.UnaryOp .USub (.Constant (.int 1) k p1) p2)) (tPart (tUn (rU fun i => .int (-i)) (tC (.int 1)))) := po_some (pe_un un_neg pe_int)
  refine wpAny_Slice (thn (po_none.run pins s1 σ H1 (fun o H2 => o = none ∧ H2 = H1) I1 ⟨rfl, rfl⟩) fun vl s2 ⟨l, H2, I2, pl, el, e2⟩ => ?_)
  subst el e2
  refine thn (po_none.run pins s2 σ H2 (fun o H3 => o = none ∧ H3 = H2) I2 ⟨rfl, rfl⟩) fun vu s3 ⟨u, H3, I3, pu, eu, e3⟩ => ?_
  subst eu e3
  refine thn (hst.run pins s3 σ H3 (fun o H4 => o = some (-1) ∧ H4 = H3) I3 ⟨1, rfl, -1, rfl, rfl, rfl⟩) fun vs s4 ⟨o, H4, I4, ps, eo, e4⟩ => ?_
  subst eo e4
  have I5 : Inv X pins σ H4 { s4 with heap := s4.heap.push { cls := .type "slice", data := .fields #[vl, vu, vs] } } := I4.kept (t' := s4.toks) fun b ob q => Heap.get?_push_of_some _ q
  have nl : vl = .none := by cases pl; rfl
  have nu : vu = .none := by cases pu; rfl
  subst nl nu
  show wpAny (model X.prog X.w) X.A (subscriptTail e (.Slice none none (some (.UnaryOp .USub (.Constant (.int 1) k p1) p2)) p3) v (.ref s4.heap.objs.size)) (EP X pins σ Q) X.xe { s4 with heap := s4.heap.push { cls := .type "slice", data := .fields #[.none, .none, vs] } }
  rcases q1 with ⟨a, xs, ex, hx, q⟩ | ⟨a, xs, ex, hx, q⟩ | ⟨z, ex, hz, q⟩
  · subst ex
    cases r1
    obtain ⟨its, r, ht, hz⟩ := I5.list hx
    have hlen := r.length
    refine tail_any (ops := [.ref a, .ref s4.heap.objs.size]) ht.isList.typeIs (PySem.slot_list_getitem.lookup) ?_ (by with_unfolding_all rfl)
    refine wpAny_getItem_list_slice ht.isList (Heap.IsSliceOf.new _ _ _ vs) pl pu ps (by decide) ?_ (by rw [List.size_toArray]; omega)
    rw [PySem.W.krv_pick]
    refine ⟨.ref _, _, I5.laid (t' := s4.toks) (o := .lst xs.reverse) (fun b ob q => Heap.get?_push_of_some _ q) (Nat.le_refl _) ?_, rfl, q _ (I5.hok.fresh (Nat.le_refl _))⟩
    exact ⟨by rw [List.length_reverse]; exact hz, _, 0, r.reverse, Heap.get?_push_size _ rfl⟩
  · subst ex
    cases r1
    obtain ⟨its, r, ht, hz⟩ := I5.tuple hx
    have hlen := r.length
    refine tail_any (ops := [.ref a, .ref s4.heap.objs.size]) ht.typeIs (PyProof.Rows.slot_tuple_getitem.lookup) ?_ (by with_unfolding_all rfl)
    refine tuple_rev ht (Heap.IsSliceOf.new _ _ _ vs) ps ?_ (by rw [List.size_toArray]; omega)
    refine ⟨.ref _, _, I5.laid (t' := s4.toks) (o := .tup xs.reverse) (fun b ob q => Heap.get?_push_of_some _ q) (Nat.le_refl _) ?_, rfl, q _ (I5.hok.fresh (Nat.le_refl _))⟩
    exact ⟨by rw [List.length_reverse]; exact hz, _, r.reverse, IsTup.new _ _⟩
  · subst ex
    obtain ⟨t, rfl⟩ := r1
    obtain ⟨st, rfl, e1⟩ := IsPart.raw ps
    refine tail_any (ops := [.str z t, .ref s4.heap.objs.size]) (typeIs_str _ _ _) F.slot_str_getitem.lookup ?_ (by with_unfolding_all rfl)
    obtain ⟨os, hos, hcs, hds⟩ := Heap.IsSliceOf.new s4.heap .none .none (partValue st)
    have e1 : st.map (·.1) = some (-1) := by first | exact e1 | exact e1.symm
    refine wpAny_getItem_str_slice (l := none) (u := none) (st := st) ⟨os, hos, hcs, hds⟩ (by rw [e1]; rfl) ?_
    unfold sliceMade slicePicked
    rw [e1]
    show Made.post (if ((-1 : Int) == 1 && (Builtin.Str.strSliceIndices none none (-1) z.length).length == z.length) = true then Made.val (.str z t)
      else Made.str ⟨((Builtin.Str.strSliceIndices none none (-1) z.length).filterMap (z.cps[·]?)).toArray⟩) (EP X pins σ Q) _
    rw [if_neg (by rw [show ((-1 : Int) == 1) = false from rfl, Bool.false_and]; exact Bool.false_ne_true), ssi_rev]
    have ea : (⟨((List.range z.length).reverse.filterMap (z.cps[·]?)).toArray⟩ : Str) = revS z := by
      unfold revS
      rw [List.filterMap_reverse]
      have := PySem.W.krv_all z.cps
      rw [show z.length = z.cps.size from rfl, this]
    rw [ea]
    refine ⟨?_, .str _, H4, I5.tok _, ⟨_, rfl⟩, q⟩
    show z.cps.toList.reverse.toArray.size ≤ sizeLine
    rw [List.size_toArray, List.length_reverse, Array.length_toList]
    exact hz
end
/-- x[::-1] -/
def oRevA : Val → Option RV
  | .lst xs => some (.new (.lst xs.reverse))
  | .tup xs => some (.shr (.tup xs.reverse))
  | .str z => if z.length ≤ 16000000 then some (.shr (.str z.reverse)) else none
  | _ => none
def sRevA (f : EF) : EF := sUn oRevA f
section
variable {X : Cx} {W : WX} {a : Expr} {f : EF} {pos : Pos}
theorem se_revA {k : Nat} {p1 p2 p3 : Pos} (he : SE X W a f) : SE X W (.Subscript a (.Slice none none (some (.UnaryOp .USub (.Constant (.int 1) k p1) p2)) p3) pos) (sRevA f) := by
  refine PE.mono (pe_revA he) fun σ H Q q => ?_
  exact un_mono (X := X) (r := fun x H1 Q => rRev X.K x H1 Q) (fun B H1 x v rv hs hx e Q hq => by
    unfold oRevA at e
    split at e
    · cases e
      obtain ⟨a, ys, rfl, h1, r⟩ := hx.lst hs
      exact .inl ⟨a, ys, rfl, .of h1, newL hs r.reverse hq⟩
    · cases e
      obtain ⟨a, ys, rfl, h1, r⟩ := hx.tupS
      exact .inr (.inl ⟨a, ys, rfl, .of (hs _ _ h1), newT hs r.reverse hq⟩)
    · rename_i z
      split at e
      · rename_i hz
        cases e
        refine .inr (.inr ⟨_, hx.str, line_ok (by show _root_.Array.size _ ≤ _; simpa using hz), same0 hs ?_ hq⟩)
        refine Rep.of_str ?_
        unfold revS
        simp
      · cases e
    · cases e) σ H Q q
end
end Lw

end
section
set_option Elab.async false
set_option linter.all false
set_option maxRecDepth 100000
set_option maxHeartbeats 1000000
set_option autoImplicit false
/-! Lw: sorted, of ints. -/
namespace Lw
open PySem PySem.Spec PyProof.Rows L2
/-- ints in order -/
def insI (a : Int) : List Int → List Int
  | [] => [a]
  | b :: xs => if a ≤ b then a :: b :: xs else b :: insI a xs
def sortI : List Int → List Int
  | [] => []
  | a :: xs => insI a (sortI xs)
theorem insI_perm (a : Int) : ∀ xs, (insI a xs).Perm (a :: xs)
  | [] => List.Perm.refl _
  | b :: xs => by
    unfold insI
    split
    · exact List.Perm.refl _
    · exact ((insI_perm a xs).cons b).trans (List.Perm.swap a b xs)
theorem sortI_perm : ∀ xs, (sortI xs).Perm xs
  | [] => List.Perm.refl _
  | a :: xs => (insI_perm a _).trans ((sortI_perm xs).cons a)
theorem insI_pw (a : Int) : ∀ xs : List Int, xs.Pairwise (· ≤ ·) → (insI a xs).Pairwise (· ≤ ·)
  | [], _ => List.pairwise_singleton ..
  | b :: xs, h => by
    obtain ⟨h1, h2⟩ := List.pairwise_cons.mp h
    unfold insI
    split
    · rename_i hab
      refine List.pairwise_cons.mpr ⟨fun y hy => ?_, h⟩
      rcases List.mem_cons.mp hy with rfl | hy
      · exact hab
      · exact Int.le_trans hab (h1 y hy)
    · rename_i hab
      refine List.pairwise_cons.mpr ⟨fun y hy => ?_, insI_pw a xs h2⟩
      rcases List.mem_cons.mp ((insI_perm a xs).mem_iff.mp hy) with rfl | hy
      · omega
      · exact h1 y hy
theorem sortI_pw : ∀ xs, (sortI xs).Pairwise (· ≤ ·)
  | [] => List.Pairwise.nil
  | a :: xs => insI_pw a _ (sortI_pw xs)
theorem pw_uniq : ∀ xs ys : List Int, xs.Perm ys → xs.Pairwise (· ≤ ·) → ys.Pairwise (· ≤ ·) → xs = ys
  | [], ys, h, _, _ => (List.nil_perm.mp h).symm
  | x :: xs, [], h, _, _ => by have := h.length_eq; cases this
  | x :: xs, y :: ys, h, h1, h2 => by
    obtain ⟨a1, a2⟩ := List.pairwise_cons.mp h1
    obtain ⟨b1, b2⟩ := List.pairwise_cons.mp h2
    have e : x = y := by
      have mx : x ∈ y :: ys := h.mem_iff.mp (List.mem_cons_self ..)
      have my : y ∈ x :: xs := h.mem_iff.mpr (List.mem_cons_self ..)
      rcases List.mem_cons.mp mx with e | q
      · exact e
      · rcases List.mem_cons.mp my with e | p
        · exact e.symm
        · have := a1 y p
          have := b1 x q
          omega
    subst e
    rw [pw_uniq xs ys (List.perm_cons x |>.mp h) a2 b2]
def oSorted : List Val → Option RV
  | [.lst vs] => (match ints? vs with
    | some ns => if ns.length < 64 then some (.new (.lst ((sortI ns).map .int))) else none
    | none => none)
  | _ => none
theorem rep_ints {T : Tx} {B : Hp} : ∀ ns : List Int, RepAll T B (ns.map V.int) (ns.map Val.int)
  | [] => .nil
  | n :: ns => .cons (.int n) (rep_ints ns)
theorem os_sorted {T : Tx} : OpSn T (rSorted T.K) oSorted := by
  intro B H xs vs rv hs hx e Q hq
  unfold oSorted at e
  split at e
  · rename_i ws
    cases hn : ints? ws with
    | none => rw [hn] at e; cases e
    | some ns =>
      rw [hn] at e
      dsimp only at e
      split at e
      · rename_i h64
        cases e
        obtain ⟨x, rfl, h⟩ := hx.one
        obtain ⟨a, ys, rfl, h1, r⟩ := h.seq hs
        have ey := r.ints? hn
        subst ey
        refine ⟨a, ns, rfl, h1, h64, fun ns' p hp hw hn => ?_⟩
        have en : ns' = sortI ns := pw_uniq _ _ (hp.trans (sortI_perm ns).symm) hw (sortI_pw ns)
        subst en
        exact newL hs (rep_ints _) hq p hn
      · cases e
  · cases e
theorem b_sorted : bootBuiltins "sorted" = some (.builtin "sorted") := boot_sorted
end Lw

end
section
set_option Elab.async false
set_option linter.all false
set_option maxRecDepth 100000
set_option maxHeartbeats 1600000
set_option autoImplicit false
/-! Lw: instances: made, their fields read and set, methods that only read. -/
namespace Lw
open PySem PySem.Spec PyProof.Rows L2
theorem pass0 {X : Cx} : Passes (L2.CX X.prog X.w) X (fun _ _ _ => False) := fun _ _ _ _ _ _ _ c => by
  obtain ⟨_, _, _, _, _, _, _, _, _, _, _, _, z⟩ := c
  exact z.elim
/-- a field's value -/
def fget (f : Str) : List Str → List Val → Option Val
  | n :: ns, v :: vs => if n = f then some v else fget f ns vs
  | _, _ => none
/-- a shared value (no dict) put into a field -/
def fput (f : Str) (v : Val) : List Str → List Val → Option (List Str × List Val)
  | [], [] => some ([f], [v])
  | n :: ns, w :: ws => if n = f then (if notD w = true then some (n :: ns, v :: ws) else none) else (fput f v ns ws).map fun z => (n :: z.1, w :: z.2)
  | _, _ => none
/-- the one dict among the fields -/
def oneD (f : Str) : List Str → List Val → Option (List Val × List Val)
  | n :: ns, .dct ks ws :: vs => if n = f ∧ vs.all notD = true then some (ks, ws) else none
  | n :: ns, _ :: vs => if n = f then none else oneD f ns vs
  | _, _ => none
def setD1 (d : Val) : List Val → List Val
  | .dct _ _ :: vs => d :: vs
  | v :: vs => v :: setD1 d vs
  | [] => []
theorem look_hit {f k : Str} {x : V} {fs : List (Str × V)} (q : k = f) : List.lookup f ((k, x) :: fs) = some x := by
  have hb : (f == k) = true := beq_iff_eq.mpr q.symm
  simp only [List.lookup, hb]
theorem look_go {f k : Str} {x : V} {fs : List (Str × V)} (q : ¬k = f) : List.lookup f ((k, x) :: fs) = List.lookup f fs := by
  have hb : (f == k) = false := beq_eq_false_iff_ne.mpr fun z => q z.symm
  simp only [List.lookup, hb]
theorem look_none {m : Str} : ∀ {fs : List (Str × V)}, m ∉ fs.map (·.1) → fs.lookup m = none
  | [], _ => rfl
  | (k, x) :: fs, h => by
    rw [List.map_cons, List.mem_cons] at h
    rw [look_go fun q => h (.inl q.symm)]
    exact look_none fun q => h (.inr q)
section
variable {T : Tx} {B H : Hp} {f : Str}
theorem fget_rep : ∀ {fs : List (Str × V)} {ns : List Str} {vs : List Val} {v : Val}, fs.map (·.1) = ns → RepAll T B (fs.map (·.2)) vs → fget f ns vs = some v → ∃ y, fs.lookup f = some y ∧ Rep T B y v
  | [], ns, vs, v, e, r, h => by subst e; cases r; cases h
  | (k, x) :: fs, ns, vs, v, e, r, h => by
    subst e
    cases r with
    | @cons _ _ v0 vs0 r1 r2 =>
      have h : (if k = f then some v0 else fget f (fs.map (·.1)) vs0) = some v := h
      by_cases q : k = f
      · rw [if_pos q] at h
        cases h
        exact ⟨x, look_hit q, r1⟩
      · rw [if_neg q] at h
        obtain ⟨y, h1, h2⟩ := fget_rep rfl r2 h
        exact ⟨y, (look_go q).trans h1, h2⟩
theorem fget_fld : ∀ {fs : List (Str × V)} {ns : List Str} {vs : List Val} {v : Val} {fp : List Addr}, fs.map (·.1) = ns → FldR T B H fp (fs.map (·.2)) vs → fget f ns vs = some v → notD v = true → ∃ y, fs.lookup f = some y ∧ Rep T B y v
  | [], ns, vs, v, fp, e, r, h, _ => by subst e; cases r; cases h
  | (k, x) :: fs, ns, vs, v, fp, e, r, h, hd => by
    subst e
    cases r with
    | @shr _ _ v0 vs0 _ r1 _ r2 =>
      have h : (if k = f then some v0 else fget f (fs.map (·.1)) vs0) = some v := h
      by_cases q : k = f
      · rw [if_pos q] at h
        cases h
        exact ⟨x, look_hit q, r1⟩
      · rw [if_neg q] at h
        obtain ⟨y, h1, h2⟩ := fget_fld rfl r2 h hd
        exact ⟨y, (look_go q).trans h1, h2⟩
    | @own a _ vs0 _ _ _ _ ks ws _ _ _ _ _ r2 =>
      have h : (if k = f then some (Val.dct ks ws) else fget f (fs.map (·.1)) vs0) = some v := h
      by_cases q : k = f
      · rw [if_pos q] at h
        cases h
        cases hd
      · rw [if_neg q] at h
        obtain ⟨y, h1, h2⟩ := fget_fld rfl r2 h hd
        exact ⟨y, (look_go q).trans h1, h2⟩
theorem fput_fld {y : V} {v : Val} (ry : Rep T B y v) (hv : notD v = true) : ∀ {fs : List (Str × V)} {ns : List Str} {vs : List Val} {z : List Str × List Val} {fp : List Addr}, fs.map (·.1) = ns → FldR T B H fp (fs.map (·.2)) vs → fput f v ns vs = some z →
    (putF f y fs).map (·.1) = z.1 ∧ FldR T B H fp ((putF f y fs).map (·.2)) z.2
  | [], ns, vs, z, fp, e, r, h => by
    subst e
    cases r
    cases h
    exact ⟨rfl, .shr ry hv .nil⟩
  | (k, x) :: fs, ns, vs, z, fp, e, r, h => by
    subst e
    have e0 : putF f y ((k, x) :: fs) = if k = f then (k, y) :: fs else (k, x) :: putF f y fs := rfl
    rw [e0]
    cases r with
    | @shr _ _ v0 vs0 _ r1 d r2 =>
      have h : (if k = f then (if notD v0 = true then some (k :: fs.map (·.1), v :: vs0) else none) else (fput f v (fs.map (·.1)) vs0).map fun z => (k :: z.1, v0 :: z.2)) = some z := h
      by_cases q : k = f
      · rw [if_pos q, if_pos d] at h
        cases h
        rw [if_pos q]
        exact ⟨rfl, .shr ry hv r2⟩
      · rw [if_neg q] at h
        obtain ⟨z0, h0, rfl⟩ := Option.map_eq_some_iff.mp h
        obtain ⟨i1, i2⟩ := fput_fld ry hv rfl r2 h0
        rw [if_neg q]
        exact ⟨by rw [List.map_cons, i1], .shr r1 d i2⟩
    | @own a _ vs0 _ _ _ _ ks ws h1 d r3 r4 n r2 =>
      have h : (if k = f then (if notD (.dct ks ws) = true then some (k :: fs.map (·.1), v :: vs0) else none) else (fput f v (fs.map (·.1)) vs0).map fun z => (k :: z.1, .dct ks ws :: z.2)) = some z := h
      by_cases q : k = f
      · rw [if_pos q, if_neg (fun z => nomatch z)] at h
        cases h
      · rw [if_neg q] at h
        obtain ⟨z0, h0, rfl⟩ := Option.map_eq_some_iff.mp h
        obtain ⟨i1, i2⟩ := fput_fld ry hv rfl r2 h0
        rw [if_neg q]
        exact ⟨by rw [List.map_cons, i1], .own h1 d r3 r4 n i2⟩
theorem fld_nil : ∀ {ys : List V} {vs : List Val} {fp : List Addr}, FldR T B H fp ys vs → vs.all notD = true → fp = []
  | [], vs, fp, r, _ => by cases r; rfl
  | y :: ys, vs, fp, r, h => by
    cases r with
    | shr r1 d r2 =>
      rw [List.all_cons, Bool.and_eq_true_iff] at h
      exact fld_nil r2 h.2
    | own =>
      rw [List.all_cons, Bool.and_eq_true_iff] at h
      cases h.1
theorem fld_one : ∀ {fs : List (Str × V)} {ns : List Str} {vs : List Val} {ks ws : List Val} {fp : List Addr}, fs.map (·.1) = ns → FldR T B H fp (fs.map (·.2)) vs → oneD f ns vs = some (ks, ws) →
    ∃ b o kys vys, fp = [b] ∧ fs.lookup f = some (.ref b) ∧ H b = some o ∧ IsDct T b o ks kys vys ∧ RepAll T B kys ks ∧ RepAll T B vys ws ∧
      ∀ H1 d1, OwnR T B H1 [b] b d1 → (∃ k1 w1, d1 = .dct k1 w1) → FldR T B H1 [b] (fs.map (·.2)) (setD1 d1 vs)
  | [], ns, vs, ks, ws, fp, e, r, h => by subst e; cases r; cases h
  | (k, x) :: fs, ns, vs, ks, ws, fp, e, r, h => by
    subst e
    cases r with
    | @shr _ _ v0 vs0 _ r1 d r2 =>
      have h : (if k = f then none else oneD f (fs.map (·.1)) vs0) = some (ks, ws) := by cases v0 <;> first | exact h | (cases d)
      by_cases q : k = f
      · rw [if_pos q] at h; cases h
      · rw [if_neg q] at h
        obtain ⟨b, o, kys, vys, h1, h2, h3, h4, h5, h6, h7⟩ := fld_one rfl r2 h
        refine ⟨b, o, kys, vys, h1, (look_go q).trans h2, h3, h4, h5, h6, fun H1 d1 q1 q2 => ?_⟩
        have e1 : setD1 d1 (v0 :: vs0) = v0 :: setD1 d1 vs0 := by cases v0 <;> first | rfl | (cases d)
        rw [e1]
        exact .shr r1 d (h7 H1 d1 q1 q2)
    | @own a _ vs0 _ o _ _ ks0 ws0 h1 d r3 r4 n r2 =>
      have h : (if k = f ∧ vs0.all notD = true then some (ks0, ws0) else none) = some (ks, ws) := h
      by_cases q : k = f ∧ vs0.all notD = true
      · rw [if_pos q] at h
        cases h
        have e0 := fld_nil r2 q.2
        subst e0
        refine ⟨a, o, _, _, rfl, look_hit q.1, h1, d, r3, r4, fun H1 d1 q1 q2 => ?_⟩
        obtain ⟨k1, w1, rfl⟩ := q2
        have e1 : setD1 (Val.dct k1 w1) (.dct ks ws :: vs0) = .dct k1 w1 :: vs0 := rfl
        rw [e1]
        cases q1 with
        | dct g1 g2 g3 g4 =>
          refine .own g1 g2 g3 g4 (fun z => nomatch z) ?_
          exact r2.mono (Same.refl _) fun b hb => nomatch hb
      · rw [if_neg q] at h; cases h
theorem fld_app : ∀ {ys : List V} {vs : List Val} {fp : List Addr} {b : Addr} {o : HO} {kys vys : List V} {ks ws : List Val}, FldR T B H fp ys vs → H b = some o → IsDct T b o ks kys vys → RepAll T B kys ks → RepAll T B vys ws → b ∉ fp →
    FldR T B H (fp ++ [b]) (ys ++ [.ref b]) (vs ++ [.dct ks ws])
  | [], vs, fp, b, o, kys, vys, ks, ws, r, h1, h2, h3, h4, n => by
    cases r
    exact .own h1 h2 h3 h4 (fun z => nomatch z) .nil
  | y :: ys, vs, fp, b, o, kys, vys, ks, ws, r, h1, h2, h3, h4, n => by
    cases r with
    | shr r1 d r2 => exact .shr r1 d (fld_app r2 h1 h2 h3 h4 n)
    | own g1 g2 g3 g4 g5 r2 =>
      refine .own g1 g2 g3 g4 (fun z => ?_) (fld_app r2 h1 h2 h3 h4 fun z => n (List.mem_cons_of_mem _ z))
      rcases List.mem_append.mp z with z | z
      · exact g5 z
      · rw [List.mem_singleton] at z
        subst z
        exact n (List.mem_cons_self ..)
theorem put_new {y : V} : ∀ {fs : List (Str × V)}, f ∉ fs.map (·.1) → putF f y fs = fs ++ [(f, y)]
  | [], _ => rfl
  | (k, x) :: fs, h => by
    rw [List.map_cons, List.mem_cons] at h
    have e0 : putF f y ((k, x) :: fs) = if k = f then (k, y) :: fs else (k, x) :: putF f y fs := rfl
    rw [e0, if_neg fun q => h (.inl q.symm), put_new fun q => h (.inr q)]; rfl
end
/-! ### a slot's object that owns more than before -/
section
variable {T : Tx} {env env0 : Env} {σ σ0 : L2.St} {B B0 H H0 H1 : Hp} {F F0 : Nat → List Addr} {i : Nat} {v v1 : Val} {a : Addr} {fp : List Addr}
theorem RS.grow (S : RS T env σ B H F) (ho : own? env i = some v) (hσ : σ[i]? = some (some (.ref a))) (hnw : ∀ b ∈ fp, b ∉ F i → B b = none ∧ ∀ j, b ∉ F j) (hm : ∀ b, b ∉ F i → H1 b = H b) (hn : OwnR T B H1 fp a v1) : RS T (updOwn env i v1) σ B H1 (setF F i fp) where
  sub := fun b o e => by rw [hm b fun z => by rw [S.free i b z] at e; cases e]; exact S.sub b o e
  len := by rw [upd_len]; exact S.len
  shr := fun j u e => by
    rw [upd_get] at e
    by_cases hj : j = i
    · rw [if_pos hj] at e
      rcases own_cases ho with q | q <;> rw [q] at e <;> cases e
    · rw [if_neg hj] at e
      exact S.shr j u e
  own := fun j u e => by
    rw [own_upd ho] at e
    by_cases hj : j = i
    · rw [if_pos hj] at e
      cases e
      subst hj
      exact ⟨a, hσ, by rw [setF_at]; exact hn⟩
    · rw [if_neg hj] at e
      obtain ⟨c, h2, h3⟩ := S.own j u e
      refine ⟨c, h2, ?_⟩
      rw [setF_ne hj]
      exact h3.mono (Same.refl _) fun b hb o q => by rw [hm b fun z => hj (S.disj j i b hb z)]; exact q
  non := fun j e => by
    rw [own_upd ho] at e
    by_cases hj : j = i
    · rw [if_pos hj] at e; cases e
    · rw [if_neg hj] at e; rw [setF_ne hj]; exact S.non j e
  free := fun j c h => by
    rcases mem_setF h with ⟨_, h⟩ | ⟨_, h⟩
    · by_cases q : c ∈ F i
      · exact S.free i c q
      · exact (hnw c h q).1
    · exact S.free j c h
  disj := fun j l c h1 h2 => by
    rcases mem_setF h1 with ⟨e1, m1⟩ | ⟨e1, m1⟩
    · rcases mem_setF h2 with ⟨e2, m2⟩ | ⟨e2, m2⟩
      · rw [e1, e2]
      · by_cases q : c ∈ F i
        · rw [e1]; exact S.disj i l c q m2
        · exact absurd m2 ((hnw c m1 q).2 l)
    · rcases mem_setF h2 with ⟨e2, m2⟩ | ⟨e2, m2⟩
      · by_cases q : c ∈ F i
        · rw [e2]; exact S.disj j i c m1 q
        · exact absurd m1 ((hnw c m2 q).2 j)
      · exact S.disj j l c m1 m2
theorem Go.grow (G : Go env0 σ0 H0 F0 B0 env σ H F B) (ho : own? env i = some v) (hs : ∀ b ∈ F i, b ∈ fp) (hnw : ∀ b ∈ fp, b ∉ F i → H0 b = none) (hm : ∀ b, b ∉ F i → H1 b = H b) (hn : OwnR T B H1 fp a v1) : Go env0 σ0 H0 F0 B0 (updOwn env i v1) σ H1 (setF F i fp) B where
  fr := fun b o e n => by
    rw [hm b fun z => ?_]
    · exact G.fr b o e n
    · rcases G.ow i b z with ⟨j, q⟩ | q
      · exact n j q
      · rw [e] at q; cases q
  al := fun b e => by
    by_cases q : b ∈ F i
    · obtain ⟨u, z⟩ := hn.there b (hs b q)
      rw [e] at z; cases z
    · rw [hm b q] at e; exact G.al b e
  kn := G.kn
  nb := G.nb
  ow := fun j b h => by
    rcases mem_setF h with ⟨_, h⟩ | ⟨_, h⟩
    · by_cases q : b ∈ F i
      · exact G.ow i b q
      · exact .inr (hnw b h q)
    · exact G.ow j b h
  io := fun j u e => by
    obtain ⟨u1, e1, s1, m1⟩ := G.io j u e
    by_cases hj : j = i
    · subst hj
      exact ⟨v1, by rw [upd_get, if_pos rfl, e1], s1, fun c q => by rw [setF_at]; exact hs c (m1 c q)⟩
    · exact ⟨u1, by rw [upd_get, if_neg hj]; exact e1, s1, fun c q => by rw [setF_ne hj]; exact m1 c q⟩
  iw := fun j u e => by
    rw [upd_get] at e
    by_cases hj : j = i
    · rw [if_pos hj] at e
      subst hj
      rcases own_cases ho with q | q
      · rw [q] at e; cases e
      · exact G.iw j v q
    · rw [if_neg hj] at e; exact G.iw j u e
  ln := upd_len.trans G.ln
end
/-! ### a field, read -/
abbrev rFldV (K : PySem.W.Frag) (f : Str) : V → Hp → VK → Prop := fun x H1 Q => ∃ a C dx fs v, x = .ref a ∧ H1 a = some (.ins C dx fs) ∧ Cls K C ∧ NoAttr K C f ∧ fs.lookup f = some v ∧ Q v H1
def oFld (c f : Str) : Val → Option RV
  | .ins c' ns vs => if c' = c then (match fget f ns vs with
    | some v => if notD v = true then some (.shr v) else none
    | none => none) else none
  | _ => none
def sFldO (c f : Str) (fe : EF) : EF := sUn (oFld c f) fe
theorem os_fld {T : Tx} {c f : Str} (hc : Cls T.K (He.ga T.K c)) (hn : NoAttr T.K (He.ga T.K c) f) : OpS1 T (rFldV T.K f) (oFld c f) := by
  intro B H x vx rv hs hx e Q hq
  unfold oFld at e
  split at e
  · rename_i c' ns vs
    split at e
    · rename_i ec
      subst ec
      split at e
      · rename_i v hv
        split at e
        · rename_i hd
          cases e
          rcases hx with hx | ⟨a, fp, rfl, hx, _⟩
          · cases hx with
            | ins h1 h2 h3 h4 =>
              subst h2
              obtain ⟨y, l, ry⟩ := fget_rep h3 h4 hv
              exact ⟨_, _, _, _, y, rfl, hs _ _ h1, hc, hn, l, hq y H B (.refl hs) ry⟩
          · cases hx with
            | ins h1 h2 h3 h4 _ =>
              subst h2
              obtain ⟨y, l, ry⟩ := fget_fld h3 h4 hv hd
              exact ⟨_, _, _, _, y, rfl, h1, hc, hn, l, hq y H B (.refl hs) ry⟩
        · cases e
      · cases e
    · cases e
  · cases e
section
variable {X : Cx} {W : WX} {a : Expr} {es : List Expr} {fe fk fv : EF} {fs : List EF} {pos : Pos} {c f m : Str}
theorem se_fldO (hc : Cls X.K (He.ga X.K c)) (hn : NoAttr X.K (He.ga X.K c) f) (ha : SE X W a fe) (hb : attributeBase a f X.env (eval a X.env) = eval a X.env := by rfl) : SE X W (.Attribute a f pos) (sFldO c f fe) :=
  PE.mono (pe_fld ha hb) fun σ H Q q => un_mono (X := X) (r := rFldV X.K f) (os_fld (T := tx X) hc hn) σ H Q q
/-- a field of a shared instance -/
def sFldS (c f : Str) (fe : EF) : EF := ebind (esh fe) fun o env => match o with
  | .shr (.ins c' ns vs) => if c' = c then (match fget f ns vs with
    | some v => some (.val (.shr v), env)
    | none => none) else none
  | _ => none
theorem se_fldS (hc : Cls X.K (He.ga X.K c)) (hn : NoAttr X.K (He.ga X.K c) f) (ha : SE X W a fe) (hb : attributeBase a f X.env (eval a X.env) = eval a X.env := by rfl) : SE X W (.Attribute a f pos) (sFldS c f fe) := by
  refine PE.mono (pe_fld (se_esh ha) hb) fun σ H Q q => ?_
  obtain ⟨env, F, B, r0, env2, S, e, p⟩ := q
  refine run_cut S e p fun o env1 H1 F1 B1 x e1 S1 G1 x1 p1 => ?_
  try dsimp only at e1
  split at e1
  · rename_i c' ns vs
    split at e1
    · rename_i ec
      subst ec
      split at e1
      · rename_i v hv
        cases e1
        have x1 : Rep (tx X) B1 x (.ins c' ns vs) := x1
        cases x1 with
        | ins h1 h2 h3 h4 =>
          subst h2
          obtain ⟨y, l, ry⟩ := fget_rep h3 h4 hv
          exact ⟨_, _, _, _, y, rfl, S1.sub _ _ h1, hc, hn, l, p1 H1 F1 B1 S1 .refl y ry⟩
      · cases e1
    · cases e1
  · cases e1
/-! ### a field, set -/
def sSetF (i : Nat) (c f : Str) (fe : EF) : SF := obind (esh fe) fun o env => match own? env i, o with
  | some (.ins c' ns vs), .shr v => if c' = c ∧ ns.length < 1000 ∧ notD v = true then (match fput f v ns vs with
    | some z => some (.nx, updOwn env i (.ins c' z.1 z.2))
    | none => none) else none
  | _, _ => none
theorem setF_mono {T : Tx} {i : Nat} {D : Ends} {σ : L2.St} {H : Hp} (hc : Cls T.K (He.ga T.K c)) (hn : NoAttr T.K (He.ga T.K c) f) (h : sG T W (sSetF i c f fe) D σ H) : sFld T.K (tVar i) (eG T W (esh fe)) f D σ H := by
  obtain ⟨env, F, B, r0, env2, S, e, p⟩ := h
  refine ocut S e p fun o env1 H1 F1 B1 y e1 S1 G1 y1 => ?_
  try dsimp only at e1
  split at e1
  · rename_i c' ns vs v ho
    split at e1
    · rename_i hk
      obtain ⟨ec, hl, hd⟩ := hk
      subst ec
      split at e1
      · rename_i z hz
        cases e1
        obtain ⟨a, h1, h2⟩ := S1.own i _ ho
        generalize hF : F1 i = fp at h2
        cases h2 with
        | @ins _ _ dx fs _ _ _ fp g1 g2 g3 g4 na =>
          subst g2
          obtain ⟨m1, m2⟩ := fput_fld (f := f) y1 hd g3 g4 hz
          have hm : ∀ b, b ∉ F1 i → upd H1 a (.ins (He.ga T.K c') dx (putF f y fs)) b = H1 b := fun b hb => upd_ne fun q => hb (by rw [hF, q]; exact List.mem_cons_self)
          have hn' : OwnR T B1 (upd H1 a (.ins (He.ga T.K c') dx (putF f y fs))) (F1 i) a (.ins c' z.1 z.2) := by
            rw [hF]
            exact .ins upd_same rfl m1 (m2.mono (Same.refl _) fun b hb o q => by
              have nb : b ≠ a := fun u => na (by rw [← u]; exact hb)
              rw [upd_ne nb]; exact q) na
          refine ⟨.ref a, h1, a, _, _, _, rfl, g1, hc, hn, by rw [← List.length_map (f := (·.1)), g3]; exact hl, ?_⟩
          exact p σ _ F1 B1 (S1.mut ho h1 hm hn') (G1.trans S S1 (Go.mut S1 ho hm hn'))
      · cases e1
    · cases e1
  · cases e1
/-- a new dict -/
def sSetFN (i : Nat) (c f : Str) (fe : EF) : SF := obind fe fun o env => match own? env i, o with
  | some (.ins c' ns vs), .new (.dct ks ws) => if c' = c ∧ ns.length < 1000 ∧ f ∉ ns then some (.nx, updOwn env i (.ins c' (ns ++ [f]) (vs ++ [.dct ks ws]))) else none
  | _, _ => none
theorem setFN_mono {T : Tx} {i : Nat} {D : Ends} {σ : L2.St} {H : Hp} (hc : Cls T.K (He.ga T.K c)) (hn : NoAttr T.K (He.ga T.K c) f) (h : sG T W (sSetFN i c f fe) D σ H) : sFld T.K (tVar i) (eG T W fe) f D σ H := by
  obtain ⟨env, F, B, r0, env2, S, e, p⟩ := h
  refine ocut S e p fun o env1 H1 F1 B1 y e1 S1 G1 y1 => ?_
  try dsimp only at e1
  split at e1
  · rename_i c' ns vs ks ws ho
    split at e1
    · rename_i hk
      obtain ⟨ec, hl, hf⟩ := hk
      subst ec
      cases e1
      obtain ⟨b, fq, rfl, o1, o2⟩ := y1
      obtain ⟨a, h1, h2⟩ := S1.own i _ ho
      have hF : ∃ fp, F1 i = fp := ⟨_, rfl⟩
      obtain ⟨fp, hF⟩ := hF
      rw [hF] at h2
      cases h2 with
      | @ins _ _ dx fs _ _ _ fp g1 g2 g3 g4 na =>
        subst g2
        cases o1 with
        | dct k1 k2 k3 k4 =>
          obtain ⟨n0, n1, n2⟩ := o2 b List.mem_cons_self
          have nb : b ∉ a :: fp := by rw [← hF]; exact n2 i
          have nba : b ≠ a := fun q => nb (by rw [q]; exact List.mem_cons_self)
          have nbf : b ∉ fp := fun q => nb (List.mem_cons_of_mem _ q)
          have ep : putF f (.ref b) fs = fs ++ [(f, .ref b)] := put_new (by rw [g3]; exact hf)
          have hm : ∀ d, d ∉ F1 i → upd H1 a (.ins (He.ga T.K c') dx (putF f (.ref b) fs)) d = H1 d := fun d hd => upd_ne fun q => hd (by rw [hF, q]; exact List.mem_cons_self)
          have hn' : OwnR T B1 (upd H1 a (.ins (He.ga T.K c') dx (putF f (.ref b) fs))) (a :: (fp ++ [b])) a (.ins c' (ns ++ [f]) (vs ++ [.dct ks ws])) := by
            refine .ins upd_same rfl (by rw [ep, List.map_append, g3]; rfl) ?_ fun q => ?_
            · rw [ep, List.map_append]
              refine (fld_app g4 k1 k2 k3 k4 nbf).mono (Same.refl _) fun d hd o q => ?_
              rw [upd_ne fun z => ?_]
              · exact q
              · rcases List.mem_append.mp hd with hd | hd
                · exact na (z ▸ hd)
                · rw [List.mem_singleton] at hd; exact nba (hd ▸ z)
            · rcases List.mem_append.mp q with q | q
              · exact na q
              · rw [List.mem_singleton] at q; exact nba q.symm
          have cs : ∀ d ∈ a :: (fp ++ [b]), d ∉ F1 i → d = b := fun d hd n => by
            rw [hF] at n
            rcases List.mem_cons.mp hd with q | hd
            · exact absurd (by rw [q]; exact List.mem_cons_self) n
            · rcases List.mem_append.mp hd with q | q
              · exact absurd (List.mem_cons_of_mem _ q) n
              · exact List.mem_singleton.mp q
          have sub : ∀ d ∈ F1 i, d ∈ a :: (fp ++ [b]) := fun d hd => by
            rw [hF] at hd
            rcases List.mem_cons.mp hd with q | q
            · rw [q]; exact List.mem_cons_self
            · exact List.mem_cons_of_mem _ (List.mem_append_left _ q)
          refine ⟨.ref a, h1, a, _, _, _, rfl, g1, hc, hn, by rw [← List.length_map (f := (·.1)), g3]; exact hl, ?_⟩
          exact p σ _ _ B1 (S1.grow ho h1 (fun d hd n => by rw [cs d hd n]; exact ⟨n1, n2⟩) hm hn') (G1.grow ho sub (fun d hd n => by rw [cs d hd n]; exact n0) hm hn')
    · cases e1
  · cases e1
end
end Lw

end
section
set_option Elab.async false
set_option linter.all false
set_option maxRecDepth 100000
set_option maxHeartbeats 1600000
set_option autoImplicit false
/-! Lw: instances: a dict in a field, stored into; methods; made. -/
namespace Lw
open PySem PySem.Spec PyProof.Rows L2
section
variable {X : Cx} {W : WX} {a : Expr} {es : List Expr} {fe fk fv : EF} {fs : List EF} {pos : Pos} {c f m : Str}
theorem ss_setF {i : Nat} {o value : Expr} {pos' : Pos} (hc : Cls X.K (He.ga X.K c)) (hn : NoAttr X.K (He.ga X.K c) f) (ho : PE X o (tVar i)) (hv : SE X W value fe) (hs : swapsWith value (some (.Attribute o f pos')) pos.line X.env = pure false := by rfl) :
    SS X W (.Assign [.Attribute o f pos'] value pos) (sSetF i c f fe) := PS.mono (ps_fld ho (se_esh hv) hs) fun _ _ _ h => setF_mono hc hn h
theorem ss_setFN {i : Nat} {o value : Expr} {pos' : Pos} (hc : Cls X.K (He.ga X.K c)) (hn : NoAttr X.K (He.ga X.K c) f) (ho : PE X o (tVar i)) (hv : SE X W value fe) (hs : swapsWith value (some (.Attribute o f pos')) pos.line X.env = pure false := by rfl) :
    SS X W (.Assign [.Attribute o f pos'] value pos) (sSetFN i c f fe) := PS.mono (ps_fld ho hv hs) fun _ _ _ h => setFN_mono hc hn h
/-! ### i.f[k] = v, the field a dict of its own, the only one -/
def sSetFD (st : Val → Val → Val → Option Val) (i : Nat) (c f : Str) (fk fv : EF) : SF := obind (esh fv) fun ov env1 => match env1[i]? with
  | some (.io (.ins c1 ns vs)) => if c1 = c ∧ (oneD f ns vs).isSome = true then obind (esh fk) (fun ok env => match env[i]?, ov, ok with
    | some (.io (.ins c2 ns vs)), .shr v, .shr q => if c2 = c then (match oneD f ns vs with
      | some (ks, ws) => (match st (.dct ks ws) q v with
        | some (.dct k1 w1) => some (.nx, updOwn env i (.ins c2 ns (setD1 (.dct k1 w1) vs)))
        | _ => none)
      | none => none) else none
    | _, _, _ => none) env1 else none
  | _ => none
theorem setFD_mono {T : Tx} {r : TSet} {st : Val → Val → Val → Option Val} (hst : StS T r st) {i : Nat} {D : Ends} {σ : L2.St} {H : Hp} (hc : Cls T.K (He.ga T.K c)) (hn : NoAttr T.K (He.ga T.K c) f) (h : sG T W (sSetFD st i c f fk fv) D σ H) :
    tAsg (eG T W (esh fv)) (gSub (tFld T.K (tVar i) f) (eG T W (esh fk)) r) D σ H := by
  obtain ⟨env, F, B, r0, env2, S, e, p⟩ := h
  refine ocut S e p fun ov env1 H1 F1 B1 x e1 S1 G1 x1 => ?_
  try dsimp only at e1
  split at e1
  · rename_i c1 ns vs hio
    split at e1
    · rename_i hk
      obtain ⟨ec, hd⟩ := hk
      subst ec
      obtain ⟨d0, hd0⟩ := Option.isSome_iff_exists.mp hd
      obtain ⟨ks0, ws0⟩ := d0
      obtain ⟨a, h1, h2⟩ := S1.own i _ (own_io hio)
      have hF : ∃ fp, F1 i = fp := ⟨_, rfl⟩
      obtain ⟨fp, hF⟩ := hF
      rw [hF] at h2
      cases h2 with
      | @ins _ _ dx fs _ _ _ fp g1 g2 g3 g4 na =>
        subst g2
        obtain ⟨b, o0, _, _, eb, lb, _, _, _, _, _⟩ := fld_one g3 g4 hd0
        subst eb
        have nab : a ≠ b := fun z => na (by rw [z]; exact List.mem_cons_self)
        refine ⟨.ref a, h1, a, _, _, _, _, rfl, g1, hc, hn, lb, ?_⟩
        refine ocut S1 e1 (p.shift S S1 G1) fun ok env3 H2 F2 B2 y e2 S2 G2 y2 => ?_
        try dsimp only at e2
        split at e2
        · rename_i c2 ns2 vs2 v q hio2
          split at e2
          · rename_i ec2
            subst ec2
            split at e2
            · rename_i ks ws hd2
              split at e2
              · rename_i k1 w1 hd1
                cases e2
                have xr : Rep T B2 x v := Rep.mono G2.kn x1
                have ho2 := own_io hio2
                obtain ⟨a', h1', k2⟩ := S2.own i _ ho2
                rw [h1] at h1'
                cases h1'
                obtain ⟨_, _, _, mem⟩ := G2.io i _ hio
                have hF2 : ∃ fp, F2 i = fp := ⟨_, rfl⟩
                obtain ⟨fp2, hF2⟩ := hF2
                rw [hF2] at k2
                cases k2 with
                | @ins _ _ dx2 fs2 _ _ _ fp2 j1 j2 j3 j4 na2 =>
                  obtain ⟨b', o, kys, vys, eb', lb', m3, m4, m5, m6, m7⟩ := fld_one j3 j4 hd2
                  subst eb'
                  have hb1 : b ∈ F2 i := mem b (by rw [hF]; exact List.mem_cons_of_mem _ List.mem_cons_self)
                  have ebb : b = b' := by
                    rw [hF2] at hb1
                    rcases List.mem_cons.mp hb1 with z | z
                    · exact absurd z.symm nab
                    · exact List.mem_singleton.mp z
                  subst ebb
                  have hb : B2 b = none := S2.free i b hb1
                  refine hst B2 H2 b ks ws o kys vys x y q v _ S2.sub m3 m4 m5 m6 y2 xr hd1 hb _ fun o1 hw => ?_
                  have hm : ∀ d, d ∉ F2 i → upd H2 b o1 d = H2 d := fun d hd => upd_ne fun z => hd (by rw [z]; exact hb1)
                  have hn' : OwnR T B2 (upd H2 b o1) (F2 i) a (.ins c2 ns2 (setD1 (.dct k1 w1) vs2)) := by
                    rw [hF2]
                    exact .ins (by rw [upd_ne nab]; exact j1) j2 j3 (m7 _ _ hw ⟨k1, w1, rfl⟩) na2
                  exact p σ _ F2 B2 (S2.mut ho2 h1 hm hn') ((G1.trans S S1 G2).trans S S2 (Go.mut S2 ho2 hm hn'))
              · cases e2
            · cases e2
          · cases e2
        · cases e2
    · cases e1
  · cases e1
theorem ss_setFD {r : TSet} {st : Val → Val → Val → Option Val} (hp : PSet X r) (hst : StS (tx X) r st) {i : Nat} {o ix e : Expr} {tpos apos : Pos} (hc : Cls X.K (He.ga X.K c)) (hn : NoAttr X.K (He.ga X.K c) f) (ho : PE X o (tVar i)) (hi : SE X W ix fk) (he : SE X W e fv)
    (hb : attributeBase o f X.env (eval o X.env) = eval o X.env := by rfl)
    (hg : ∀ v, assign (.Subscript (.Attribute o f apos) ix tpos) X.env v = (do
      let ov ← holding [v] (eval (.Attribute o f apos) X.env)
      let iv ← holding [v, ov] (eval ix X.env)
      standAt tpos
      holding [v, ov, iv] (setItem ov iv v)
      release [v, ov, iv] []) := by intro _; rfl)
    (hs : swapsWithSole [.Subscript (.Attribute o f apos) ix tpos] e pos.line X.env = pure false := by rfl) (hw : swappedStores [.Subscript (.Attribute o f apos) ix tpos] e X.env = pure none := by rfl)
    (h1 : (assignEach [.Subscript (.Attribute o f apos) ix tpos] X.env).map (·.2) = [assign (.Subscript (.Attribute o f apos) ix tpos) X.env] := by rfl) :
    SS X W (.Assign [.Subscript (.Attribute o f apos) ix tpos] e pos) (sSetFD st i c f fk fv) := PS.mono (ps_asg (se_esh he) (pg_sub (pe_fld ho hb) (se_esh hi) hp hg) hs hw h1) fun _ _ _ h => setFD_mono (T := tx X) hst hc hn h
/-! ### methods that only read -/
def sRun (φ : Fn) (vs : List Val) : EF := fun env => match φ (vs.map Slot.shr) with
  | some (.ret r, _) => some (.val r.opd, env)
  | _ => none
theorem run_mono {T : Tx} {k : Nat} {φ : Fn} {σ : L2.St} {H1 Hs B1 : Hp} {F1 : Nat → List Addr} {Q : VK} {env1 env2 : Env} {r : ERes} {vs : List Val} {xs : List V} {E : XK} (hk : ∀ slots z, φ slots = some z → slots.length = k) (e1 : sRun φ vs env1 = some (r, env2)) (S1 : RS T env1 σ B1 H1 F1) (R : RepAll T B1 xs vs)
    (al : ∀ a, H1 a = none → Hs a = none) (p1 : Post T W Q Hs env1 σ H1 F1 B1 env2 r) : spF T k φ xs H1 Q E := by
  unfold sRun at e1
  cases hφ : φ (vs.map Slot.shr) with
  | none => rw [hφ] at e1; cases e1
  | some z =>
    obtain ⟨o, slots1⟩ := z
    rw [hφ] at e1
    have hlen := hk _ _ hφ
    have hx : xs.length = k := by rw [R.length]; simpa using hlen
    cases o with
    | exc c => cases e1
    | ret rv =>
      cases e1
      refine ⟨hx, _, B1, _, _, slots1, shr_slots R S1.sub, nown_shr vs, hφ, fun H2 B2 F2 S2 G2 => ?_⟩
      have g : PG B1 H1 B2 H2 := ⟨fun a o q => G2.fr a o q (fun i z => nomatch z), G2.kn, S2.sub, fun a o q => by
        rcases G2.nb a o q with z | z | ⟨i, v, z, _⟩
        · exact .inl z
        · exact .inr z
        · exact absurd z (nown_ne (nown_shr vs))⟩
      refine fun x hx => p1.done S1 al g ?_
      cases rv with
      | shr v => exact hx
      | new v =>
        obtain ⟨b, fp, h1, h2, h3⟩ := hx
        refine ⟨b, fp, h1, h2, fun c hc => ⟨?_, (h3 c hc).1⟩⟩
        rcases (h3 c hc).2.1 with ⟨j, w, z, _⟩ | z
        · exact absurd z (nown_ne (nown_shr vs))
        · exact z
def sCallM (c m : Str) (φ : Fn) (fo : EF) (fs : List EF) : EF := ebind (esh fo) fun o env => match o with
  | .shr (.ins c' ns vs) => if c' = c ∧ m ∉ ns then sArgs fs (fun os env => match shrs os with
    | some ws => sRun φ (.ins c' ns vs :: ws) env
    | none => none) env else none
  | _ => none
theorem methM_mono {T : Tx} {k : Nat} {φ : Fn} {fo : EF} {σ : L2.St} {H : Hp} {Q : VK} (hk : ∀ slots z, φ slots = some z → slots.length = k) (h : eG T W (sCallM c m φ fo fs) σ H Q) : tMeth (He.ga T.K c) m (spF T k φ) [] (fun _ _ _ => False) (eG T W (esh fo)) (aR T W fs) σ H Q := by
  obtain ⟨env, F, B, r, env2, S, e, p⟩ := h
  refine run_cut S e p fun o env1 H1 F1 B1 x e1 S1 G1 x1 p1 => ?_
  try dsimp only at e1
  split at e1
  · rename_i c' ns vs
    split at e1
    · rename_i hk1
      obtain ⟨ec, hm⟩ := hk1
      subst ec
      have x1' : Rep T B1 x (.ins c' ns vs) := x1
      cases x1 with
      | @ins a _ dx fs' _ _ _ h1 h2 h3 h4 =>
        subst h2
        refine ⟨a, dx, fs', rfl, S1.sub _ _ h1, look_none (by rw [h3]; exact hm), ?_⟩
        refine args_cut S1 e1 p1 fun os env3 H2 F2 B2 xs e2 S2 G2 xs2 p2 => ?_
        try dsimp only at e2
        split at e2
        · rename_i ws hw
          rw [List.append_nil]
          exact run_mono hk e2 S2 (.cons (x1'.mono G2.kn) (OpdsR.shrs xs2 hw)) (fun a q => G1.al a (G2.al a q)) p2
        · cases e2
    · cases e1
  · cases e1
section
variable {k kk : Nat} {φ : Fn} {fo : EF} {g : Addr} {fd : FuncData} {ps : List Str} {o : Expr} {apos : Pos} {pl : Sem Bool}
theorem se_meth (ho : SE X W o fo) (hc : Cls X.K (He.ga X.K c)) (hm : Meth X.K (He.ga X.K c) m g) (F : FnOk X.prog X.w X.K X.mg X.base (L2.CX X.prog X.w) kk g fd ps (spF (tx X) k φ)) (hk : ∀ slots z, φ slots = some z → slots.length = k) (hr : Room kk X.A) (hb : Binds X.K fd ps [])
    (ha : SA X W (a :: es) fs)
    (hst : starEach (a :: es) X.env = (false, eval a X.env) :: starEach es X.env := by rfl) (hpl : (backTo pos (starEach es X.env)).any (·.1) = false := by rfl)
    (ht : eval (.Call (.Attribute o m apos) (a :: es) [] pos) X.env = (do
      let ov ← eval o X.env
      standAt apos.atName
      let (f, first) ← holding [ov] (getMethod ov m pl)
      callWith pos f first (backTo pos (starEach (a :: es) X.env)) (backToKw pos (keywordEach [] X.env))) := by rfl) :
    SE X W (.Call (.Attribute o m apos) (a :: es) [] pos) (sCallM c m φ fo fs) := PE.mono (pe_meth (se_esh ho) hc hm F hr hb .nil pass0 ha hst hpl ht) fun σ H Q h => methM_mono (T := tx X) hk h
theorem se_meth0 (ho : SE X W o fo) (hc : Cls X.K (He.ga X.K c)) (hm : Meth X.K (He.ga X.K c) m g) (F : FnOk X.prog X.w X.K X.mg X.base (L2.CX X.prog X.w) kk g fd ps (spF (tx X) k φ)) (hk : ∀ slots z, φ slots = some z → slots.length = k) (hr : Room kk X.A) (hb : Binds X.K fd ps [])
    (ht : eval (.Call (.Attribute o m apos) [] [] pos) X.env = (do
      let ov ← eval o X.env
      standAt apos.atName
      let (f, first) ← holding [ov] (getMethod ov m pl)
      callWith pos f first (backTo pos (starEach [] X.env)) (backToKw pos (keywordEach [] X.env))) := by rfl) :
    SE X W (.Call (.Attribute o m apos) [] [] pos) (sCallM c m φ fo []) := PE.mono (pe_meth0 (se_esh ho) hc hm F hr hb .nil pass0 ht) fun σ H Q h => methM_mono (T := tx X) hk h
end
/-! ### made -/
def sMake (c : Str) (φ : Fn) (fs : List EF) : EF := sArgs fs fun os env => match shrs os with
  | some ws => (match φ (.io (.ins c [] []) :: ws.map Slot.shr) with
    | some (.ret (.shr .non), .io v1 :: _) => some (.val (.new v1), env)
    | _ => none)
  | none => none
theorem make_mono {T : Tx} {k : Nat} {φ : Fn} {σ : L2.St} {H : Hp} {Q : VK} (hk : ∀ slots z, φ slots = some z → slots.length = k) (h : eG T W (sMake c φ fs) σ H Q) : tMake (He.ga T.K c) (spF T k φ) [] (fun _ _ _ => False) (aR T W fs) σ H Q := by
  obtain ⟨env, F, B, r, env2, S, e, p⟩ := h
  refine args_cut S e p fun os env1 H1 F1 B1 xs e1 S1 G1 xs1 p1 => ?_
  try dsimp only at e1
  split at e1
  · rename_i ws hw
    split at e1
    · rename_i v1 rest hφ
      cases e1
      intro x dx nx ndx nxd
      have R := OpdsR.shrs xs1 hw
      have hlen := hk _ _ hφ
      rw [List.append_nil]
      generalize hH : upd (upd H1 dx (.own x)) x (.ins (He.ga T.K c) dx []) = H1'
      have s1 : Same H1 H1' := fun a o q => by
        have n1 : a ≠ x := fun z => by rw [z, nx] at q; cases q
        have n2 : a ≠ dx := fun z => by rw [z, ndx] at q; cases q
        rw [← hH, upd_ne n1, upd_ne n2]
        exact q
      have sub : Same B1 H1' := fun a o q => s1 a o (S1.sub a o q)
      have bx : B1 x = none := S1.sub.free nx
      have at_ : H1' x = some (.ins (He.ga T.K c) dx []) := by rw [← hH]; exact upd_same
      have Rs := shr_slots R sub
      have gi : ∀ (i : Nat), (Slot.io (Val.ins c [] []) :: ws.map Slot.shr)[i + 1]? = (ws.map Slot.shr)[i]? := fun _ => rfl
      have own1 : ∀ (i : Nat), own? (Slot.io (Val.ins c [] []) :: ws.map Slot.shr) (i + 1) = own? (ws.map Slot.shr) i := fun _ => rfl
      have S0 : RS T (Slot.io (Val.ins c [] []) :: ws.map Slot.shr) ((V.ref x :: xs).map some) B1 H1' (fun i => if i = 0 then [x] else []) := by
        refine ⟨sub, by simp [R.length], fun i v q => ?_, fun i v q => ?_, fun i q => ?_, fun i a ha => ?_, fun i j a h1 h2 => ?_⟩
        · cases i with
          | zero => cases q
          | succ i => exact Rs.shr i v q
        · cases i with
          | zero =>
            cases q
            exact ⟨x, rfl, .ins at_ rfl rfl .nil (fun z => nomatch z)⟩
          | succ i =>
            rw [own1] at q
            obtain ⟨a, h1, h2⟩ := Rs.own i v q
            have := h2.mem
            cases this
        · cases i with
          | zero => cases q
          | succ i => rfl
        · try dsimp only at ha
          split at ha
          · rw [List.mem_singleton] at ha; subst ha; exact bx
          · cases ha
        · try dsimp only at h1 h2
          split at h1
          · split at h2
            · omega
            · cases h2
          · cases h1
      have hno : (Slot.io (Val.ins c [] []) :: ws.map Slot.shr).all nown = true := by
        rw [List.all_cons, nown_shr]; rfl
      refine ⟨by rw [List.length_cons, R.length]; simpa using hlen, _, B1, _, _, _, S0, hno, hφ, fun H2 B2 F2 S2 G2 => ?_⟩
      intro u hu
      have hu : Rep T B2 u .non := hu
      refine ⟨hu.non_inv, ?_⟩
      obtain ⟨a', h6, hown⟩ := S2.own 0 v1 rfl
      cases h6
      have ow2 : ∀ d, d ∈ F2 0 → H1 d = none := fun d hd => by
        rcases G2.ow 0 d hd with ⟨j, z⟩ | z
        · try dsimp only at z
          split at z
          · rw [List.mem_singleton] at z; rw [z]; exact nx
          · cases z
        · exact s1.free z
      have g : PG B1 H1 B2 H2 := ⟨fun a o q => G2.fr a o (s1 a o q) (fun i z => by
          try dsimp only at z
          split at z
          · rw [List.mem_singleton] at z; rw [z, nx] at q; cases q
          · cases z), G2.kn, S2.sub, fun a o q => by
        rcases G2.nb a o q with z | z | ⟨i, v, z, _⟩
        · exact .inl z
        · exact .inr (s1.free z)
        · exact absurd z (nown_ne hno)⟩
      exact p1.done (rv := .new v1) S1 G1.al g ⟨x, F2 0, rfl, hown, fun d hd => ⟨ow2 d hd, S2.free 0 d hd⟩⟩
    · cases e1
  · cases e1
theorem se_make {k kk : Nat} {φ : Fn} {g : Addr} {fd : FuncData} {ps : List Str} {x : Str} {p : Pos} (M : Mk X.K (He.ga X.K c) g) (F : FnOk X.prog X.w X.K X.mg X.base (L2.CX X.prog X.w) kk g fd ps (spF (tx X) k φ)) (hk : ∀ slots z, φ slots = some z → slots.length = k) (hr : Room (kk + 1) X.A) (hg : Gl X x) (hm : X.mg x = some (.ref (He.ga X.K c))) (hb : Binds X.K fd ps [])
    (ha : SA X W (a :: es) fs) (hdb : (x == ("__debug__" : Str)) = false := by decide) (he : starEach (a :: es) X.env = (false, eval a X.env) :: starEach es X.env := by rfl) (hpl : (backTo pos (starEach es X.env)).any (·.1) = false := by rfl) :
    SE X W (.Call (.Name x p) (a :: es) [] pos) (sMake c φ fs) := PE.mono (pe_make M F hr hg hm hb .nil pass0 ha hdb he hpl) fun σ H Q h => make_mono (T := tx X) hk h
end
end Lw

end
section
set_option Elab.async false
set_option linter.all false
set_option maxRecDepth 100000
set_option maxHeartbeats 3200000
set_option autoImplicit false
/-! Lw: sorted(set(texts)), texts of one sign. -/
namespace Lw.ST
open PySem PySem.Spec PyProof.Rows
/-- an entry that holds a text -/
def GoodS (w : World) (e : Int × Value) : Prop := ∃ x tk, e.2 = Value.str x tk ∧ e.1 = hashStr w x
def txtOf (e : Int × Value) : Str := match e.2 with
  | .str x _ => x
  | _ => Str.empty
/-- the set of the texts ms at S, whose table can be walked -/
def HasW (w : World) (h : Heap) (S : Addr) (ms : List Str) : Prop :=
  ∃ o es ep t, h.get? S = some o ∧ o.ExactSet ∧ o.data = .set es ep t ∧ (∀ e ∈ es.toList, GoodS w e) ∧ (es.toList.map txtOf).Perm ms ∧ ms.Nodup ∧ es.size < scanBound ∧ t.fits es.size = true ∧ L2.Ris t.place.toList ∧ (w.params.followText "set-order" = true ∨ t.led = true)
section
variable {prog : Program} {w : World} {A : Around} {E : Value → Shared → Prop} {s : Shared} {S : Addr} {ms : List Str}
theorem HasW.keep {h h' : Heap} (a : HasW w h S ms) (k : ∀ o, h.get? S = some o → h'.get? S = some o) : HasW w h' S ms := by
  obtain ⟨o, es, ep, t, ho, r⟩ := a
  exact ⟨o, es, ep, t, k o ho, r⟩
theorem goodS_el {l : List (Int × Value)} (g : ∀ e ∈ l, GoodS w e) : ElemsOf (PySem.strKind prog w) l := fun e he => by
  obtain ⟨x, tk, h1, h2⟩ := g e he
  refine ⟨⟨x, ?_, h2⟩, ?_⟩
  · rw [h1]; exact strKind_is _ _ _ _
  · rw [h1]; rfl
theorem goodS_is {e : Int × Value} (g : GoodS w e) (k : Str) : (PySem.strKind prog w).is k e.2 = true ↔ txtOf e = k := by
  obtain ⟨x, tk, h1, _⟩ := g
  unfold txtOf
  rw [h1]
  show (x == k) = true ↔ x = k
  exact beq_iff_eq
theorem set_tail {g : Bool → Sem Unit} (hg : ∀ (b : Bool) (s1 : Shared) (Q' : Unit → Shared → Prop), Q' () s1 → wpAny (model prog w) A (g b) Q' E s1)
    {o : Obj} {es : Array (Int × Value)} {ep : Nat} {t : SetTable} (ho : s.heap.get? S = some o) (hex : o.ExactSet) (hd : o.data = .set es ep t)
    {es1 : Array (Int × Value)} {t2 : SetTable} (g1 : ∀ e ∈ es1.toList, GoodS w e) (p1 : (es1.toList.map txtOf).Perm ms) (nd : ms.Nodup) (hb1 : es1.size < scanBound) (hf2 : t2.fits es1.size = true)
    (hr : L2.Ris t2.place.toList) (hl : w.params.followText "set-order" = true ∨ t2.led = true) {wasDummy : Bool} {R : Option Bool → Shared → Prop} (hR : ∀ h', Heap.SameBut S s.heap h' → HasW w h' S ms → R (some true) { s with heap := h' }) :
    wpAny (model prog w) A (do
        storeSet S es1 t2
        if (!wasDummy && t2.tooFull) = true then do
            g (relayAll t2 es1 (SetTable.grown es1.size)).2.2
            storeSet S (relayAll t2 es1 (SetTable.grown es1.size)).1 (relayAll t2 es1 (SetTable.grown es1.size)).2.1
            pure (some true)
          else pure (some true)) R E s := by
  have at1 := L2.store_at (es' := es1) (t' := t2) ho hd
  have same1 := Heap.SameBut.update s.heap S (Obj.putSet es1 t2)
  refine wpAny_bind (wpAny_storeSet_of ho hd ?_ (fits_of_scanBound hb1))
  by_cases full : (!wasDummy && t2.tooFull) = true
  · rw [if_pos full]
    have q1 := relayAll_perm t2 es1 (SetTable.grown es1.size)
    have q2 := relayAll_fits t2 es1 (SetTable.grown es1.size)
    have q3 := L2.relayAll_ris t2 es1 (SetTable.grown es1.size)
    have q4 := L2.relayAll_led t2 es1 (SetTable.grown es1.size)
    generalize relayAll t2 es1 (SetTable.grown es1.size) = Z at q1 q2 q3 q4 ⊢
    obtain ⟨es2, t3, gave⟩ := Z
    dsimp only at q1 q2 q3 q4 ⊢
    have sz : es2.size = es1.size := by rw [← Array.length_toList, q1.length_eq, Array.length_toList]
    have b2 : es2.size < scanBound := by rw [sz]; exact hb1
    have at2 := L2.store_at (es' := es2) (t' := t3) at1 rfl
    refine wpAny_bind (hg _ _ _ (wpAny_bind (wpAny_storeSet_of at1 rfl (wpAny_pure (hR _ (same1.trans (Heap.SameBut.update _ S _)) ?_)) (fits_of_scanBound b2))))
    exact ⟨_, es2, _, t3, at2, hex, rfl, fun e he => g1 e (q1.mem_iff.mp he), (q1.map txtOf).trans p1, nd, b2, q2, q3, hl.imp id fun z => q4.trans z⟩
  · rw [if_neg full]
    exact wpAny_pure (hR _ same1 ⟨_, es1, _, t2, at1, hex, rfl, g1, p1, nd, hb1, hf2, hr, hl⟩)
theorem add_text {x : Str} {tk : Tok} {Q : Bool → Shared → Prop} (R : HasW w s.heap S ms) (room : ms.length + 1 < scanBound) (hQ : ∀ h' b, Heap.SameBut S s.heap h' → HasW w h' S (put ms x) → Q b { s with heap := h' }) :
    wpAny (model prog w) A (setAddHashed S (.str x tk) ((PySem.strKind prog w).hash x)) Q E s := by
  obtain ⟨o, es, ep, t, ho, hex, hd, g, pm0, nd, hb, hf, hr, hl⟩ := R
  have isx : (PySem.strKind prog w).is x (.str x tk) = true := strKind_is _ _ _ _
  have scx : (Value.str x tk).scannable = true := rfl
  have el : ElemsOf (PySem.strKind prog w) es.toList := goodS_el g
  have mem : ∀ k, k ∈ ms ↔ ∃ e ∈ es.toList, (PySem.strKind prog w).is k e.2 = true := fun k => by
    rw [← pm0.mem_iff, List.mem_map]
    exact ⟨fun ⟨e, he, q⟩ => ⟨e, he, (goodS_is (g e he) k).2 q⟩, fun ⟨e, he, q⟩ => ⟨e, he, (goodS_is (g e he) k).1 q⟩⟩
  unfold setAddHashed setAddHashedIn
  refine wpAny_holding (wpAny_bind (wpAny_setState_of ho hd hf ?_))
  dsimp only
  rw [byScan_of scx hb el]
  simp only [↓reduceIte]
  unfold setAddByScan
  refine wpAny_bind (wpAny_bind (wpAny_rule (wpAny_bind (wpAny_setScan_of isx ho hd hf el ?_))))
  cases fi : List.findIdx? (fun e => (PySem.strKind prog w).is x e.2) es.toList with
  | some j =>
    dsimp only
    obtain ⟨hj, pj, _⟩ := List.findIdx?_eq_some_iff_getElem.mp fi
    have hx : x ∈ ms := (mem x).2 ⟨es.toList[j], List.getElem_mem hj, pj⟩
    refine wpAny_pure (wpAny_pure (hQ s.heap _ (Heap.SameBut.refl S s.heap) ?_))
    unfold put
    rw [if_pos hx]
    exact ⟨o, es, ep, t, ho, hex, hd, g, pm0, nd, hb, hf, hr, hl⟩
  | none =>
    dsimp only
    have hx : x ∉ ms := fun z => by
      obtain ⟨e, he, q⟩ := (mem x).1 z
      have c := List.findIdx?_eq_none_iff.mp fi e he
      rw [q] at c
      cases c
    have way : ∀ (b : Bool) {s1 : Shared} {Q' : Unit → Shared → Prop}, Q' () s1 → wpAny (model prog w) A (match b with | true => rule "set.scan.the-table-gave-way" | false => pure ()) Q' E s1 :=
      fun b s1 Q' q => by cases b <;> first | exact wpAny_pure q | exact wpAny_rule q
    have pm := layNew_perm t es ((PySem.strKind prog w).hash x) (.str x tk)
    have f1 := layNew_fits t es ((PySem.strKind prog w).hash x) (.str x tk)
    have r1 := L2.layNew_ris t es ((PySem.strKind prog w).hash x) (.str x tk) hr
    have l1 := L2.layNew_led t es ((PySem.strKind prog w).hash x) (.str x tk)
    generalize layNew t es ((PySem.strKind prog w).hash x) (.str x tk) = Z at pm f1 r1 l1 ⊢
    obtain ⟨es1, t1, wasDummy, gave⟩ := Z
    dsimp only at pm f1 r1 l1 ⊢
    rw [Array.toList_push] at pm
    have pc : es1.toList.Perm (((PySem.strKind prog w).hash x, Value.str x tk) :: es.toList) := pm.trans (List.perm_append_singleton _ _)
    have ep : put ms x = x :: ms := by unfold put; rw [if_neg hx]
    have pk : (es1.toList.map txtOf).Perm (put ms x) := by
      rw [ep]
      exact (pc.map txtOf).trans (pm0.cons x)
    have nd1 : (put ms x).Nodup := by rw [ep]; exact List.nodup_cons.mpr ⟨hx, nd⟩
    have g1 : ∀ e ∈ es1.toList, GoodS w e := fun e he => by
      rcases List.mem_cons.mp (pc.mem_iff.mp he) with z | z
      · rw [z]; exact ⟨x, tk, rfl, rfl⟩
      · exact g e z
    have b1 : es1.size < scanBound := by
      have := pk.length_eq
      rw [List.length_map, Array.length_toList, ep, List.length_cons] at this
      rw [this]; exact room
    have led : w.params.followText "set-order" = true ∨ t1.led = true := hl.imp id fun z => l1.trans z
    refine wpAny_bind (way _ ?_)
    split
    · refine wpAny_bind ?_
      rw [hashByValue_scannable 8 scx]
      refine wpAny_pure ?_
      refine set_tail ?_ ho hex hd g1 pk nd1 b1 ?_ ?_ ?_ ?_
      · intro b s1 Q' q; cases b <;> first | exact wpAny_pure q | exact wpAny_rule q
      · first | (split <;> first | exact f1 | exact SetTable.fits_plain_off f1) | exact f1
      · first | (split <;> exact r1) | exact r1
      · first | (split <;> exact led) | exact led
      · intro h' sb r; dsimp only; exact wpAny_pure (hQ h' _ sb r)
    · refine wpAny_bind (wpAny_pure ?_)
      simp only [↓reduceIte]
      refine set_tail ?_ ho hex hd g1 pk nd1 b1 f1 r1 led ?_
      · intro b s1 Q' q; cases b <;> first | exact wpAny_pure q | exact wpAny_rule q
      · intro h' sb r; dsimp only; exact wpAny_pure (hQ h' _ sb r)
end
section
variable {prog : Program} {w : World} {A : Around} {R : Result → Shared → Prop} {I : Addr} {fp wr : List Addr} {G : Array GenState → Array GenState → Prop} {n : Nat} {P : Nat → Value → Prop} {St : Nat → Shared → Prop}
theorem fillW (W : WalksS prog w A.in1 I fp wr G n P St) (S : Addr) (hS : S ∉ fp) (xs : List Str) (hval : ∀ i v, P i v → ∃ x t, xs[i]? = some x ∧ v = .str x t) (hn : n = xs.length) :
    ∀ (todo : List Str) (i : Nat) (ms : List Str) (s : Shared), xs.drop i = todo → i ≤ n → ms.length + todo.length + 1 < scanBound → St i s → HasW w s.heap S ms →
      (∀ s', Moved (S :: wr) G s s' → HasW w s'.heap S (puts ms todo) → R (.ok (.ret .none)) s') →
      codeAny (model prog w) A (.builtin "set.update.loop" ⟨[.ref S, .ref I], []⟩) R s := by
  have nw : S ∉ wr := fun h => hS (W.sub _ h)
  have up : ∀ b ∈ wr, b ∈ S :: wr := fun b hb => List.mem_cons_of_mem _ hb
  intro todo
  induction todo with
  | nil =>
    intro i ms s hd hi hb st hs hR
    have e : i = n := by
      have := congrArg List.length hd
      rw [List.length_drop, List.length_nil] at this
      omega
    subst e
    refine codeAny_builtin F.entry_set_update_loop ?_
    rw [Around.under_plainId F.plain_set_update_loop _]
    show wpAny _ A.in1 (pyNext (.ref I) >>= _) _ _ s
    refine wpAny_bind (W.done s _ _ st fun s1 m => ?_)
    show wpAny _ A.in1 (ret Value.none) _ _ s1
    exact wpAny_pure (hR s1 (m.mono up) (hs.keep fun o e => m.heap S o nw e))
  | cons x todo ih =>
    intro i ms s hd hi hb st hs hR
    have hx : xs[i]? = some x := by
      have := congrArg (fun l => l[0]?) hd
      simpa using this
    have hlt : i < n := by rw [hn]; exact (List.getElem?_eq_some_iff.mp hx).1
    refine codeAny_builtin F.entry_set_update_loop ?_
    rw [Around.under_plainId F.plain_set_update_loop _]
    show wpAny _ A.in1 (pyNext (.ref I) >>= _) _ _ s
    refine wpAny_bind (W.item i s _ _ hlt st fun v s1 hv st1 m => ?_)
    obtain ⟨y, t, hy, rfl⟩ := hval i v hv
    rw [hx] at hy
    cases hy
    have hs1 := hs.keep (h' := s1.heap) fun o e => m.heap S o nw e
    show wpAny _ A.in1 (holding [Value.str x t] (setAdd S (.str x t)) >>= _) _ _ s1
    refine wpAny_bind (wpAny_holding ?_)
    unfold setAdd
    refine wpAny_holding (wpAny_bind ((PySem.strKind prog w).pyHash (k := x) (strKind_is _ _ _ _) ?_))
    rw [List.length_cons] at hb
    refine add_text (s := { s1 with toks := s1.toks + 1 }) hs1 (by omega) fun h2 b0 sb hs2 => ?_
    have oth : ∀ b, b ≠ S → h2.get? b = s1.heap.get? b := fun b hb => sb.2 b hb
    refine wpAny_pure ⟨plainId_quiet F.plain_set_update_loop _, ih (i + 1) (put ms x) _ ?_ hlt ?_ (W.frame _ s1 _ _ st1 (Nat.le_succ _) fun b hb o e => ?_) hs2 fun s3 m3 hs3 => ?_⟩
    · have := congrArg List.tail hd
      simpa using this
    · have := put_len ms x
      omega
    · exact (oth b fun h => hS (h ▸ hb)).trans e
    · refine hR s3 (Moved.trans W.gtrans ((m.mono up).then_heap (Nat.le_succ _) fun b o hb e => ?_) m3) hs3
      exact (oth b fun h => hb (h ▸ List.mem_cons_self)).trans e
end
end Lw.ST

end
section
set_option Elab.async false
set_option linter.all false
set_option maxRecDepth 100000
set_option maxHeartbeats 3200000
set_option autoImplicit false
/-! Lw: set(..) of texts, made. -/
namespace Lw.ST
open PySem PySem.Spec PyProof.Rows
section
variable {prog : Program} {w : World} {A : Around} {E : Value → Shared → Prop} {s : Shared}
abbrev nset (w : World) : Obj := { cls := .type "set", dict := none, data := .set #[] 0 (.fresh 0 0 (!w.params.followText "set-order")) }
theorem nset_has {h : Heap} {S : Addr} (e : h.get? S = some (nset w)) : HasW w h S [] :=
  ⟨_, #[], 0, _, e, ⟨rfl, rfl, rfl⟩, rfl, (fun e he => by simp at he), List.Perm.refl _, List.nodup_nil, (by decide), (by rfl), List.Pairwise.nil, by
    show _ ∨ (!w.params.followText "set-order") = true
    cases w.params.followText "set-order"
    · exact .inr rfl
    · exact .inl rfl⟩
/-- what of the state is left behind set(l) -/
def AfterW (w : World) (s : Shared) (xs : List Str) (s1 : Shared) : Prop :=
  ∃ h tk, s1 = { s with heap := h, toks := tk } ∧ HasW w h s.heap.objs.size (puts [] xs) ∧ ∀ b o, s.heap.get? b = some o → h.get? b = some o
theorem initW_texts {l : Addr} {items : Array Value} {xs : List Str} (hh : A.handled = none) (hl : s.heap.IsList l items) (hi : StrsAre items.toList xs) (hb : xs.length + 1 < scanBound)
    {s1 : Shared} (e1 : s1 = { s with heap := s.heap.push (nset w) }) :
    codeAny (model prog w) A (.call (.builtin "set.__init__") ⟨[.ref s.heap.objs.size, .ref l], []⟩) (wants (fun r s2 => r = .none ∧ AfterW w s xs s2) E) s1 := by
  subst e1
  have hS : (s.heap.push (nset w)).get? s.heap.objs.size = some (nset w) := Heap.get?_push_size _ rfl
  refine codeAny_call_builtin F.called_set.init.plain F.entry_set_init (check_set_init_1 ⟨_, hS, rfl⟩ ?_)
  obtain ⟨⟨oc, od, odata, osl⟩, hol, hcl, nl, hdl⟩ := hl
  simp only at hcl hdl
  subst hcl hdl
  have hol1 : (s.heap.push (nset w)).get? l = some { cls := .type "list", dict := od, data := .seq items nl, slots := osl } := Heap.get?_push_of_some _ hol
  have hsub1 := F.sub_list_set
  have hsub2 := F.sub_list_frozenset
  have hne : (Value.type "list" == Value.type "dict") = false := by decide
  have hl1 : (s.heap.push (nset w)).IsList l items := ⟨_, hol1, rfl, nl, rfl⟩
  unfold Builtin.«set.__init__» noKeywords Builtin.Frozenset.updateFrom
  generalize hPI : pyIter = PI
  wp_walk
  subst hPI
  refine wpAny_pyIter_list hl1 (wpAny_bind (wpAny_runValue ?_))
  have lS : l < s.heap.objs.size := Heap.lt_size hol
  have z1 : (s.heap.push (nset w)).objs.size = s.heap.objs.size + 1 := Heap.size_push ..
  have nI : l ≠ (s.heap.push (nset w)).objs.size := by rw [z1]; exact Nat.ne_of_lt (Nat.lt_succ_of_lt lS)
  have hlen : items.size = xs.length := by rw [← Array.length_toList]; exact StrsAre.len_eq hi
  refine fillW ((Walks.list (by simp [hh]) _ l nI items).toS) s.heap.objs.size ?_ xs (fun i v hv => ?_) hlen xs 0 [] _ List.drop_zero (Nat.zero_le _) (by simpa using hb) ⟨⟨_, Heap.get?_push_size _ rfl, rfl, rfl⟩, hl1.push _⟩ (nset_has (Heap.get?_push_of_some _ hS)) fun s2 m hs => ?_
  · rw [z1]
    intro hm
    rcases List.mem_cons.mp hm with h | h
    · exact Nat.ne_of_lt (Nat.lt_succ_self _) h
    · rw [List.mem_singleton] at h
      exact Nat.ne_of_gt lS h
  · have hv' : items.toList[i]? = some v := by rw [Array.getElem?_toList]; exact hv
    obtain ⟨t, e⟩ := SS.strs_at hi i v hv'
    have hlt : i < xs.length := by rw [← hlen]; exact (Array.getElem?_eq_some_iff.mp hv).1
    refine ⟨xs.getD i Str.empty, t, ?_, e⟩
    rw [List.getD_eq_getElem?_getD, List.getElem?_eq_getElem hlt]; rfl
  · obtain ⟨h2, g2, d2, tk2, os2⟩ := s2
    have eg : g2 = s.gens := m.gens
    have ed : d2 = s.drawn := m.drawn
    have eo : os2 = s.os := m.os
    subst eg ed eo
    show wpAny _ _ _ _ _ _
    refine wpAny_pure ?_
    show wpAny _ _ (ret Value.none) _ _ _
    refine wpAny_pure ⟨rfl, h2, tk2, rfl, hs, fun b o e => ?_⟩
    have hb1 : b < s.heap.objs.size := Heap.lt_size e
    refine m.heap b o (fun hm => ?_) (Heap.get?_push_of_some _ (Heap.get?_push_of_some _ e))
    rcases List.mem_cons.mp hm with h | hm
    · exact Nat.ne_of_lt hb1 h
    · rw [List.mem_singleton, z1] at hm
      exact Nat.ne_of_lt (Nat.lt_succ_of_lt hb1) hm
theorem initW_str {x : Str} {t : Tok} (hh : A.handled = none) (ha : x.cps.all (· < 128) = true) (hb : x.length + 1 < scanBound)
    {s1 : Shared} (e1 : s1 = { s with heap := s.heap.push (nset w) }) :
    codeAny (model prog w) A (.call (.builtin "set.__init__") ⟨[.ref s.heap.objs.size, .str x t], []⟩) (wants (fun r s2 => r = .none ∧ AfterW w s (x.cps.toList.map fun c => (⟨#[c]⟩ : Str)) s2) E) s1 := by
  subst e1
  have hS : (s.heap.push (nset w)).get? s.heap.objs.size = some (nset w) := Heap.get?_push_size _ rfl
  refine codeAny_call_builtin F.called_set.init.plain F.entry_set_init (check_set_init_1 ⟨_, hS, rfl⟩ ?_)
  have hsub1 := F.sub_str_set
  have hsub2 := F.sub_str_frozenset
  have hne : (Value.type "str" == Value.type "dict") = false := by decide
  unfold Builtin.«set.__init__» noKeywords Builtin.Frozenset.updateFrom
  generalize hPI : pyIter = PI
  wp_walk
  subst hPI
  refine wpAny_pyIter_ascii ha (wpAny_bind (wpAny_runValue ?_))
  have z1 : (s.heap.push (nset w)).objs.size = s.heap.objs.size + 1 := Heap.size_push ..
  have hlen : x.length = (x.cps.toList.map fun c => (⟨#[c]⟩ : Str)).length := by rw [List.length_map]; exact Array.length_toList.symm
  refine fillW ((Walks.strAscii (by simp [hh]) _ x t).toS) s.heap.objs.size ?_ (x.cps.toList.map fun c => (⟨#[c]⟩ : Str)) (fun i v hv => ?_) hlen _ 0 [] _ List.drop_zero (Nat.zero_le _) (by rw [← hlen]; simpa using hb) ⟨_, Heap.get?_push_size _ rfl, rfl, rfl⟩ (nset_has (Heap.get?_push_of_some _ hS)) fun s2 m hs => ?_
  · rw [z1]
    intro hm
    rw [List.mem_singleton] at hm
    exact Nat.ne_of_lt (Nat.lt_succ_self _) hm
  · obtain ⟨c, u, hc, rfl⟩ := hv
    exact ⟨⟨#[c]⟩, u, by rw [List.getElem?_map, Array.getElem?_toList, hc]; rfl, rfl⟩
  · obtain ⟨h2, g2, d2, tk2, os2⟩ := s2
    have eg : g2 = s.gens := m.gens
    have ed : d2 = s.drawn := m.drawn
    have eo : os2 = s.os := m.os
    subst eg ed eo
    show wpAny _ _ _ _ _ _
    refine wpAny_pure ?_
    show wpAny _ _ (ret Value.none) _ _ _
    refine wpAny_pure ⟨rfl, h2, tk2, rfl, hs, fun b o e => ?_⟩
    have hb1 : b < s.heap.objs.size := Heap.lt_size e
    refine m.heap b o (fun hm => ?_) (Heap.get?_push_of_some _ (Heap.get?_push_of_some _ e))
    rcases List.mem_cons.mp hm with h | hm
    · exact Nat.ne_of_lt hb1 h
    · rw [List.mem_singleton, z1] at hm
      exact Nat.ne_of_lt (Nat.lt_succ_of_lt hb1) hm
/-- set(v), by what the start makes of v -/
theorem callW {v : Value} {Aft : Shared → Prop} {Q : Value → Shared → Prop}
    (hi : ∀ {R : Result → Shared → Prop} {A' : Around}, A'.handled = A.handled → (∀ r s2, wants (fun r s2 => r = .none ∧ Aft s2) E r s2 → R r s2) → codeAny (model prog w) A' (.call (.builtin "set.__init__") ⟨[.ref s.heap.objs.size, v], []⟩) R { s with heap := s.heap.push (nset w) })
    (h : ∀ s1, Aft s1 → Q (.ref s.heap.objs.size) s1) : wpAny (model prog w) A (call (.type "set") [v]) Q E s := by
  obtain ⟨c, tl, hmro⟩ := F.called_set.mro
  have hmade := F.called_set.made
  have hsub := F.called_set.sub
  refine wpAny_call (codeAny_of_tree ?_)
  show wpAny _ _ (callAny (.type "set") _) _ _ _
  refine wpAny_pure ⟨Code.quiet_builtin _ (by decide +kernel), codeAny_builtin F.entry_type_call ?_⟩
  rw [Around.under_plain (weight_type_call_type "set" [v] []) rfl]
  have h1 := F.called_set.notType
  have h2 := F.called_set.canCreate
  have h3 := F.typeCall_set_1 v
  repeat (any_goals (first | assumption | wp_step))
  refine codeAny_mono (L2.code_set_led1 v (E := E) (Q₁ := fun obj s₁ => obj = .ref s.heap.objs.size ∧ s₁ = { s with heap := s.heap.push (nset w) }) ⟨rfl, rfl⟩) fun r s1 hr => ?_
  cases r with
  | error e => exact hr
  | ok fl =>
    cases fl with
    | ret obj =>
      obtain ⟨rfl, e1⟩ := hr
      have hT : s1.TypeIs (.ref s.heap.objs.size) "set" := by
        subst e1
        exact ⟨_, Heap.get?_push_size _ rfl, rfl⟩
      have hli := F.called_set.init.lookup
      have hbi := F.called_set.init.bind (.ref s.heap.objs.size)
      repeat (any_goals (first | assumption | wp_step))
      subst e1
      refine hi (by rfl) fun r2 s2 hr2 => ?_
      cases r2 with
      | error e => exact hr2
      | ok fl2 =>
        cases fl2 with
        | ret r =>
          obtain ⟨rfl, a⟩ := hr2
          repeat (any_goals (first | assumption | wp_step))
          exact h s2 a
        | _ => exact hr2.elim
    | _ => exact hr.elim
theorem callW_texts {l : Addr} {items : Array Value} {xs : List Str} {Q : Value → Shared → Prop} (hh : A.handled = none) (hl : s.heap.IsList l items) (hi : StrsAre items.toList xs) (hb : xs.length + 1 < scanBound)
    (h : ∀ s1, AfterW w s xs s1 → Q (.ref s.heap.objs.size) s1) : wpAny (model prog w) A (call (.type "set") [.ref l]) Q E s :=
  callW (fun ha k => codeAny_mono (initW_texts (E := E) (by rw [ha]; exact hh) hl hi hb rfl) k) h
theorem callW_str {x : Str} {t : Tok} {Q : Value → Shared → Prop} (hh : A.handled = none) (ha : x.cps.all (· < 128) = true) (hb : x.length + 1 < scanBound)
    (h : ∀ s1, AfterW w s (x.cps.toList.map fun c => (⟨#[c]⟩ : Str)) s1 → Q (.ref s.heap.objs.size) s1) : wpAny (model prog w) A (call (.type "set") [.str x t]) Q E s :=
  callW (fun e k => codeAny_mono (initW_str (E := E) (by rw [e]; exact hh) ha hb rfl) k) h
/-- sorted(set) -/
theorem sort_set {S : Addr} {ms : List Str} {Q : Value → Shared → Prop} (R : HasW w s.heap S ms) (hh : A.handled = none) (h64 : ms.length < 64)
    (hQ : ∀ s' p (out : Array Value) (c : Nat) (ys : List Str), (∀ b o, s.heap.get? b = some o → s'.heap.get? b = some o) → s'.gens = s.gens → s'.os = s.os → s.heap.objs.size ≤ p →
      s'.heap.get? p = some (seqObj "list" out c) → StrsAre out.toList ys → ys.Perm ms → sortedS ys = true → Q (.ref p) s') :
    wpAny (model prog w) A (call (.builtin "sorted") [.ref S]) Q E s := by
  obtain ⟨o, es, ep, t, ho, hex, hd, g, pm0, nd, hb, hf, hr, hl⟩ := R
  refine Calls.call_function_entry kind_sorted plain_sorted entry_sorted (args_sorted1 _) ?_
  unfold Builtin.«sorted»
  refine wpAny_bind (m := checkCount "sorted" 1 1 _) (wpAny_pure ?_)
  refine wpAny_bind (L2.collect_set (A := A.in1) hh ⟨o, ho, hex.1, hd⟩ hf hb hr hl fun s1 vs k1 hz g1 o1 pm => ?_)
  have lv : vs.length = ms.length := by rw [pm.length_eq, List.length_map, ← pm0.length_eq, List.length_map]
  have all : ∀ l : List Value, (∀ v ∈ l, ∃ x tk, v = Value.str x tk) → StrsAre l (l.map fun v => txtOf (0, v)) := fun l => by
    induction l with
    | nil => intro _; exact .nil
    | cons v l ih =>
      intro h
      obtain ⟨x, tk, rfl⟩ := h v List.mem_cons_self
      exact .cons x tk (ih fun u hu => h u (List.mem_cons_of_mem _ hu))
  have hI := all vs fun v hv => by
    obtain ⟨e, he, q⟩ := List.mem_map.mp (pm.mem_iff.mp hv)
    obtain ⟨x, tk, h1, _⟩ := g e he
    exact ⟨x, tk, by rw [← q]; exact h1⟩
  have pk : (vs.map fun v => txtOf (0, v)).Perm ms := by
    have q := pm.map fun v => txtOf (0, v)
    rw [List.map_map] at q
    exact q.trans pm0
  refine wpAny_bind (wpAny_newList ?_ (by rw [lv, sizeLine_eq]; omega))
  have hoL : (s1.heap.push (seqObj "list" vs.toArray 0)).get? s1.heap.objs.size = some (seqObj "list" vs.toArray 0) := Heap.get?_push_size _ rfl
  refine wpAny_bind (wpAny_holding (wpAny_call_entry slot_list_sort ⟨_, hoL, rfl⟩ entry_list_sort (list_sort_treeK strKind_oneLt hoL hI.keysOf (fun v₁ v₂ rest e => keyKind_strs (by rw [← e]; exact hI)) (by rw [lv]; exact h64) fun st' a1 a2 => ⟨_, rfl, ?_⟩) (args_list_sort _)))
  obtain ⟨ys, y1, y2, y3⟩ := sorted_out_str hI a1 a2
  obtain ⟨c, hc⟩ := sortedHeap_at (vs := vs) (out := (arrOf st').map (·.2)) hoL
  refine wpAny_pure ⟨_, rfl, hQ _ s1.heap.objs.size _ c ys (fun b u e => ?_) g1 o1 hz hc y1 (y2.trans pk) y3⟩
  have q := k1 b u e
  have hlt := Heap.lt_size q
  show (sortedHeap (s1.heap.push (seqObj "list" vs.toArray 0)) s1.heap.objs.size vs ((arrOf st').map (·.2))).get? b = some u
  rw [sortedHeap_old (Nat.ne_of_lt hlt) (by rw [size_push']; exact Nat.lt_succ_of_lt hlt)]
  exact Heap.get?_push_of_some _ q
end
end Lw.ST

end
section
set_option Elab.async false
set_option linter.all false
set_option maxRecDepth 100000
set_option maxHeartbeats 3200000
set_option autoImplicit false
/-! Lw: sorted(set(..)) on values: texts of one sign. -/
namespace Lw
open PySem PySem.Spec PyProof.Rows L2
/-- the signs, each once, rising -/
def sortU (cs : List Nat) : List Nat := (List.range 128).filter fun c => decide (c ∈ cs)
theorem inc_ext : ∀ xs ys : List Nat, xs.Pairwise (· < ·) → ys.Pairwise (· < ·) → (∀ a, a ∈ xs ↔ a ∈ ys) → xs = ys
  | [], [], _, _, _ => rfl
  | [], y :: ys, _, _, h => nomatch (h y).mpr (List.mem_cons_self ..)
  | x :: xs, [], _, _, h => nomatch (h x).mp (List.mem_cons_self ..)
  | x :: xs, y :: ys, hx, hy, h => by
    obtain ⟨x1, x2⟩ := List.pairwise_cons.mp hx
    obtain ⟨y1, y2⟩ := List.pairwise_cons.mp hy
    have e : x = y := by
      rcases List.mem_cons.mp ((h x).mp (List.mem_cons_self ..)) with q | q
      · exact q
      · rcases List.mem_cons.mp ((h y).mpr (List.mem_cons_self ..)) with q' | q'
        · exact q'.symm
        · have := y1 x q; have := x1 y q'; omega
    subst e
    rw [inc_ext xs ys x2 y2 fun a => ⟨fun ha => ?_, fun ha => ?_⟩]
    · rcases List.mem_cons.mp ((h a).mp (List.mem_cons_of_mem _ ha)) with q | q
      · have := x1 a ha; omega
      · exact q
    · rcases List.mem_cons.mp ((h a).mpr (List.mem_cons_of_mem _ ha)) with q | q
      · have := y1 a ha; omega
      · exact q
theorem sortU_mem {cs : List Nat} (h : ∀ c ∈ cs, c < 128) {c : Nat} : c ∈ sortU cs ↔ c ∈ cs := by
  unfold sortU
  rw [List.mem_filter, List.mem_range, decide_eq_true_eq]
  exact ⟨fun q => q.2, fun q => ⟨h c q, q⟩⟩
theorem sortU_inc (cs : List Nat) : (sortU cs).Pairwise (· < ·) := List.pairwise_lt_range.filter _
theorem mem_puts {y : PySem.Str} : ∀ (xs ms : List PySem.Str), y ∈ ST.puts ms xs ↔ y ∈ ms ∨ y ∈ xs
  | [], ms => ⟨.inl, fun h => h.elim id fun z => nomatch z⟩
  | x :: xs, ms => by
    show y ∈ ST.puts (ST.put ms x) xs ↔ _
    rw [mem_puts xs]
    have e : y ∈ ST.put ms x ↔ y ∈ ms ∨ y = x := by
      unfold ST.put
      by_cases h : x ∈ ms
      · rw [if_pos h]
        exact ⟨.inl, fun q => q.elim id fun z => z ▸ h⟩
      · rw [if_neg h, List.mem_cons]
        exact Or.comm
    rw [e, List.mem_cons]
    exact or_assoc
theorem rise_le : ∀ (zs : List Nat) (a : Nat), risingS (S [a]) (zs.map fun c => S [c]) = true → ∀ z ∈ zs, a ≤ z
  | [], a, _, z, hz => nomatch hz
  | x :: zs, a, h, z, hz => by
    have h : (!ltCps [x] [a] && risingS (S [x]) (zs.map fun c => S [c])) = true := h
    obtain ⟨h1, h2⟩ := Bool.and_eq_true_iff.mp h
    rw [ltCps_eq] at h1
    have h1 : ¬([x] < [a]) := by simpa using h1
    have le : a ≤ x := by
      refine Nat.le_of_not_lt fun q => h1 ?_
      exact List.Lex.rel q
    rcases List.mem_cons.mp hz with rfl | hz
    · exact le
    · exact Nat.le_trans le (rise_le zs x h2 z hz)
theorem rise_pw : ∀ zs : List Nat, sortedS (zs.map fun c => S [c]) = true → zs.Nodup → zs.Pairwise (· < ·)
  | [], _, _ => List.Pairwise.nil
  | x :: zs, h, nd => by
    obtain ⟨n1, n2⟩ := List.nodup_cons.mp nd
    have h : risingS (S [x]) (zs.map fun c => S [c]) = true := h
    refine List.pairwise_cons.mpr ⟨fun z hz => ?_, rise_pw zs ?_ n2⟩
    · have := rise_le zs x h z hz
      have : x ≠ z := fun e => n1 (e ▸ hz)
      omega
    · cases zs with
      | nil => rfl
      | cons y zs => exact (Bool.and_eq_true_iff.mp (show (!ltCps [y] [x] && risingS (S [y]) (zs.map fun c => S [c])) = true from h)).2
/-- what is sorted is the signs, each once, rising -/
theorem srt_is {cs : List Nat} (h : ∀ c ∈ cs, c < 128) {ys : List PySem.Str} (nd : (ST.puts [] (cs.map fun c => S [c])).Nodup) (pm : ys.Perm (ST.puts [] (cs.map fun c => S [c]))) (hs : sortedS ys = true) : ys = (sortU cs).map fun c => S [c] := by
  have hy : ∀ y ∈ ys, ∃ c ∈ cs, S [c] = y := fun y q => by
    rcases (mem_puts _ _).mp (pm.mem_iff.mp q) with z | z
    · cases z
    · obtain ⟨c, hc, e⟩ := List.mem_map.mp z
      exact ⟨c, hc, e⟩
  have one : ∀ l : List PySem.Str, (∀ y ∈ l, ∃ c ∈ cs, S [c] = y) → ∃ zs : List Nat, l = zs.map fun c => S [c] := fun l => by
    induction l with
    | nil => intro _; exact ⟨[], rfl⟩
    | cons y l ih =>
      intro q
      obtain ⟨zs, e⟩ := ih fun u hu => q u (List.mem_cons_of_mem _ hu)
      obtain ⟨c, _, e2⟩ := q y (List.mem_cons_self ..)
      exact ⟨c :: zs, by rw [e, ← e2]; rfl⟩
  obtain ⟨zs, rfl⟩ := one ys hy
  have si : ∀ a b : Nat, S [a] = S [b] → a = b := fun a b e => by
    have : (S [a]).cps.toList = (S [b]).cps.toList := by rw [e]
    exact (List.cons.inj this).1
  have ndz : zs.Nodup := by
    have q := pm.nodup_iff.mpr nd
    refine List.Pairwise.of_map (fun c => S [c]) (fun a b hab e => hab (by rw [e])) q
  have mz : ∀ c, c ∈ zs ↔ c ∈ cs := fun c => by
    have q : S [c] ∈ zs.map (fun c => S [c]) ↔ S [c] ∈ cs.map fun c => S [c] := by
      rw [pm.mem_iff, mem_puts]
      exact ⟨fun z => z.elim (fun z => nomatch z) id, .inr⟩
    rw [List.mem_map, List.mem_map] at q
    constructor
    · intro hc
      obtain ⟨d, hd, e⟩ := q.mp ⟨c, hc, rfl⟩
      exact si _ _ e ▸ hd
    · intro hc
      obtain ⟨d, hd, e⟩ := q.mpr ⟨c, hc, rfl⟩
      exact si _ _ e ▸ hd
  rw [inc_ext zs (sortU cs) (rise_pw zs hs ndz) (sortU_inc cs) fun a => (mz a).trans (sortU_mem h).symm]
def oSrtSet : Val → Option RV
  | .lst vs => (match strs? vs with
    | some ls => if ls.all (fun z => decide (z.length = 1)) = true ∧ ls.flatten.all (fun c => decide (c < 128)) = true ∧ ls.length ≤ 4000 ∧ (sortU ls.flatten).length < 64 then some (.new (.lst ((sortU ls.flatten).map fun c => .str [c]))) else none
    | none => none)
  | .str z => if z.all (fun c => decide (c < 128)) = true ∧ z.length ≤ 4000 ∧ (sortU z).length < 64 then some (.new (.lst ((sortU z).map fun c => .str [c]))) else none
  | _ => none
def tSrt (K : PySem.W.Frag) : V → Hp → VK → Prop := fun x H Q => ∃ cs : List Nat, (∀ c ∈ cs, c < 128) ∧ cs.length ≤ 4000 ∧ (sortU cs).length < 64 ∧
  ((∃ l, x = .ref l ∧ SqL K H l ((cs.map fun c => S [c]).map V.str)) ∨ x = .str (S cs)) ∧ ∀ p, H p = none → Q (.ref p) (upd H p (.lst ((sortU cs).map fun c => V.str (S [c]))))
section
variable {X : Cx} {W : WX} {a : Expr} {f : EF} {p p2 q pos : Pos}
theorem pe_srtSet {ta : TE} (hc : X.calm = true) (hg : Gl X "sorted") (hm : X.mg "sorted" = none) (hg2 : Gl X "set") (hm2 : X.mg "set" = none) (ha : PE X a ta)
    (na : starEach [a] X.env = (false, eval a X.env) :: starEach [] X.env := by rfl) : PE X (.Call (.Name "sorted" p) [.Call (.Name "set" p2) [a] [] q] [] pos) (fun σ H Q => ta σ H fun x H1 => tSrt X.K x H1 Q) := by
  refine ⟨fun pins s σ H Q I h => ?_⟩
  refine PyProof.Rows.Call_ (ld_blt I hg hm boot_sorted ?_)
  refine PyProof.Rows.callWith_builtin1 (PyProof.Rows.args_cons ?_ rfl) rfl rfl
  refine PyProof.Rows.Call_ (ld_blt I hg2 hm2 PyProof.Rows.boot_set ?_)
  refine PyProof.Rows.callWith_type1 (PyProof.Rows.args_cons (thn (ha.run pins s σ H _ I h) fun v s1 ⟨x, H1, I1, r1, q1⟩ => PyProof.Rows.args_nil ?_) na) na rfl
  obtain ⟨cs, h128, h4, h64, hx, q1⟩ := q1
  have eF : ∀ xs : List Nat, (xs.map fun c => S [c]).map V.str = xs.map fun c => V.str (S [c]) := fun xs => by rw [List.map_map]; rfl
  have fin : ∀ s2, ST.AfterW X.w s1 (cs.map fun c => S [c]) s2 → wpAny (model X.prog X.w) X.A (call (.builtin "sorted") [.ref s1.heap.objs.size]) (EP X pins σ Q) X.xe s2 := by
    intro s2 af
    obtain ⟨h', tk, e2, hs, hk⟩ := af
    obtain ⟨o0, es0, ep0, t0, _, _, _, _, _, nd, _⟩ := id hs
    have I2 : Inv X pins σ H1 s2 := by rw [e2]; exact I1.kept fun b o e => hk b o e
    have hs : ST.HasW X.w s2.heap s1.heap.objs.size (ST.puts [] (cs.map fun c => S [c])) := by rw [e2]; exact hs
    have si : ∀ a b : Nat, S [a] = S [b] → a = b := fun a b e => by
      have : (S [a]).cps.toList = (S [b]).cps.toList := by rw [e]
      exact (List.cons.inj this).1
    have ndS : ((sortU cs).map fun c => S [c]).Nodup := by
      refine List.Pairwise.map (fun c => S [c]) (fun a b hab e => ?_) (sortU_inc cs)
      have := si a b e
      omega
    have pl : (ST.puts [] (cs.map fun c => S [c])).Perm ((sortU cs).map fun c => S [c]) := by
      refine (List.perm_ext_iff_of_nodup nd ndS).mpr fun y => ?_
      rw [mem_puts, List.mem_map, List.mem_map]
      constructor
      · rintro (z | ⟨c, hc, e⟩)
        · cases z
        · exact ⟨c, (sortU_mem h128).mpr hc, e⟩
      · rintro ⟨c, hc, e⟩
        exact .inr ⟨c, (sortU_mem h128).mp hc, e⟩
    refine ST.sort_set hs (I2.ok.hd hc) (by rw [pl.length_eq, List.length_map]; exact h64) fun s' p out c ys k g o hp hg hi pm so => ?_
    have ey := srt_is h128 nd pm so
    subst ey
    have hn : H1 p = none := I2.hok.fresh hp
    have hlen : (((sortU cs).map fun c => S [c]).map V.str).length ≤ sizeLine := by rw [List.length_map, List.length_map, sizeLine_eq]; omega
    have J : Inv X pins σ (upd H1 p (.lst (((sortU cs).map fun c => S [c]).map V.str))) { s2 with heap := s'.heap, gens := s'.gens, drawn := s'.drawn, toks := s'.toks } :=
      I2.call (ch := []) (Un.laid k hp hn) (I2.hok.laid k hp ⟨hlen, out.toList, c, vals_of_strs hi, hg⟩) (by rw [g]; exact I2.bare) (fun _ z => nomatch z)
    have e : s' = { s2 with heap := s'.heap, gens := s'.gens, drawn := s'.drawn, toks := s'.toks } := by
      cases s'
      cases o
      rfl
    rw [e]
    refine ⟨.ref p, _, J, rfl, ?_⟩
    rw [eF]
    exact q1 p hn
  rcases hx with ⟨l, rfl, hq⟩ | rfl
  · cases r1
    obtain ⟨its, r, pl, hz⟩ := I1.list hq
    exact ST.callW_texts (I1.ok.hd hc) pl.isList (xs := cs.map fun c => S [c]) (by simpa using strsAre_of r) (by rw [List.length_map]; unfold scanBound; omega) fun s2 af => PyProof.Rows.args_nil (fin s2 af)
  · obtain ⟨tz, rfl⟩ := r1
    have hall : (S cs).cps.all (· < 128) = true := by
      show cs.toArray.all (· < 128) = true
      rw [List.all_toArray, List.all_eq_true]
      exact fun c hc => decide_eq_true (h128 c hc)
    exact ST.callW_str (I1.ok.hd hc) hall (by rw [S_len]; unfold scanBound; omega) fun s2 af => PyProof.Rows.args_nil (fin s2 af)
theorem sing : ∀ ls : List (List Nat), ls.all (fun z => decide (z.length = 1)) = true → ls = ls.flatten.map fun c => [c]
  | [], _ => rfl
  | z :: ls, h => by
    rw [List.all_cons, Bool.and_eq_true_iff] at h
    have h1 := of_decide_eq_true h.1
    match z, h1 with
    | [c], _ =>
      rw [List.flatten_cons, List.singleton_append, List.map_cons, ← sing ls h.2]
theorem sing_len (ls : List (List Nat)) (h : ls.all (fun z => decide (z.length = 1)) = true) : ls.flatten.length = ls.length := by
  conv => rhs; rw [sing ls h, List.length_map]
def sSrtSet (f : EF) : EF := sUn oSrtSet f
theorem se_srtSet (hc : X.calm = true) (hg : Gl X "sorted") (hm : X.mg "sorted" = none) (hg2 : Gl X "set") (hm2 : X.mg "set" = none) (ha : SE X W a f)
    (na : starEach [a] X.env = (false, eval a X.env) :: starEach [] X.env := by rfl) : SE X W (.Call (.Name "sorted" p) [.Call (.Name "set" p2) [a] [] q] [] pos) (sSrtSet f) := by
  refine PE.mono (pe_srtSet hc hg hm hg2 hm2 ha na) fun σ H Q q => ?_
  refine un_mono (X := X) (r := tSrt X.K) (fun B H1 x v rv hs hx e Q hq => ?_) σ H Q q
  have out : ∀ cs : List Nat, rv = .new (.lst ((sortU cs).map fun c => .str [c])) → ∀ p, H1 p = none → Q (.ref p) (upd H1 p (.lst ((sortU cs).map fun c => V.str (S [c])))) := fun cs er p hp => by
    subst er
    refine newL hs ?_ hq p hp
    generalize sortU cs = us
    induction us with
    | nil => exact .nil
    | cons c us ih => exact .cons (Rep.str (S [c])) ih
  unfold oSrtSet at e
  split at e
  · split at e
    · rename_i ls hls
      split at e
      · rename_i hz
        obtain ⟨z1, z2, z3, z4⟩ := hz
        cases e
        obtain ⟨p, ys, rfl, h2, r⟩ := hx.seq hs
        have e3 := r.strs? hls
        subst e3
        refine ⟨ls.flatten, fun c hc => of_decide_eq_true (List.all_eq_true.mp z2 c hc), ?_, z4, .inl ⟨p, rfl, ?_⟩, out _ rfl⟩
        · rw [sing_len ls z1]; exact z3
        · have : (ls.flatten.map fun c => S [c]) = ls.map S := by
            conv => rhs; rw [sing ls z1, List.map_map]
            rfl
          rw [this]
          exact h2
      · cases e
    · cases e
  · rename_i z
    split at e
    · rename_i hz
      cases e
      exact ⟨z, fun c hc => of_decide_eq_true (List.all_eq_true.mp hz.1 c hc), hz.2.1, hz.2.2, .inr hx.str, out _ rfl⟩
    · cases e
  · cases e
end
end Lw

end
section
set_option Elab.async false
set_option linter.all false
set_option maxRecDepth 100000
set_option maxHeartbeats 1600000
set_option autoImplicit false
/-! Lw: a list unpacked by names; a tuple repeated. -/
namespace Lw
open PySem PySem.Spec PyProof.Rows L2
section
variable {X : Cx} {W : WX} {f : EF}
/-- a, b, .. = e, e a list -/
def sUnpL (is : List Nat) (f : EF) : SF := obind (esh f) fun o env => match o with
  | .shr (.lst vs) => (setSlots env is (vs.map Opd.shr)).map (FRes.nx, ·)
  | _ => none
theorem ss_unpL {ts : List Expr} {is : List Nat} {e : Expr} {k : Nat} {tpos pos : Pos} (hc : X.calm = true) (hg : PGs X ts (gNames is)) (he : SE X W e f)
    (hn : (assignEach ts X.env).length = is.length := by rfl) (hst : (assignEach ts X.env).findIdx? (·.1) = none := by rfl)
    (hs : swapsWithSole [.Tuple ts k tpos] e pos.line X.env = pure false := by rfl) (hw : swappedStores [.Tuple ts k tpos] e X.env = pure none := by rfl)
    (h1 : (assignEach [.Tuple ts k tpos] X.env).map (·.2) = [assign (.Tuple ts k tpos) X.env] := by rfl) : SS X W (.Assign [.Tuple ts k tpos] e pos) (sUnpL is f) := by
  refine PS.mono (ps_asg (se_esh he) (pg_unl hc hg hn hst) hs hw h1) fun D σ H h => ?_
  obtain ⟨env, F, B, r, env2, S, e, p⟩ := h
  refine ocut S e p fun o env1 H1 F1 B1 x e1 S1 G1 x1 => ?_
  try dsimp only at e1
  split at e1
  · rename_i vs
    obtain ⟨env3, h3, h4⟩ := Option.map_eq_some_iff.mp e1
    cases h4
    have x1 : Rep (tx X) B1 x (.lst vs) := x1
    cases x1 with
    | lst q ra =>
      rename_i a ys
      obtain ⟨fps, hf, _⟩ := opds_shr (H := H1) (F := F1) (Hs := H1) ra
      obtain ⟨F2, S2, G2⟩ := sets_ok S1 .refl hf h3
      have hl : is.length = ys.length := by rw [setSlots_len h3, List.length_map, ra.length]
      exact ⟨a, ys, rfl, SqL.of (S1.sub _ _ q), hl.symm, gNames_ok hl (p _ H1 F2 B1 S2 (G1.trans S S1 G2))⟩
  · cases e1
end
def oMulT : Val → Val → Option RV
  | .tup a, .int k => if 2 ≤ k ∧ k ≤ 1000 ∧ a.length ≤ 1000 ∧ a ≠ [] then some (.shr (.tup (List.replicate k.toNat a).flatten)) else none
  | _, _ => none
theorem os_mulT {T : Tx} : OpS T (rRepT T.K) oMulT := by
  intro B H x y vx vy rv hs hx hy e Q hq
  unfold oMulT at e
  split at e
  · rename_i a k
    split at e
    · rename_i hk
      cases e
      obtain ⟨k1, k2, k3, k4⟩ := hk
      obtain ⟨l, ys, rfl, h1, r⟩ := hx.tup hs
      have rl := r.length
      refine ⟨l, k, ys, rfl, hy.int, SqT.of h1, fun z => ?_, k1, k2, by omega, newT hs (r.rep k.toNat) hq⟩
      subst z
      cases r
      exact k4 rfl
    · cases e
  · cases e
end Lw

end
section
set_option Elab.async false
set_option linter.all false
set_option maxRecDepth 100000
set_option maxHeartbeats 4000000
set_option autoImplicit false
/-! Lw: a tuple once. -/
namespace Lw
open PySem PySem.Spec PyProof.Rows L2
theorem tuple_mul1 (l : Addr) (items : Array Value) (n : Nat) (dd : Option Addr) (sl : Array (Option Value)) (u : Tok) :
    Meets (Builtin.«tuple.__mul__» ⟨[.ref l, .int 1 u], []⟩) (fun _ R s => s.heap.get? l = some { cls := .type "tuple", dict := dd, data := .seq items n, slots := sl } ∧
      R (.ok (.ret (Value.ref l))) s) :=
  .of_wp fun prog w A R s h => by
    obtain ⟨hp, g, d, tk, os⟩ := s
    obtain ⟨hl, h⟩ := h
    have f1 := AutoSeq1.idx_int
    have c0 : (decide ((1 : Int) < -(2 ^ 63)) || decide ((1 : Int) ≥ 2 ^ 63)) = false := by decide
    have c1 : (items.isEmpty || (1 : Int) == 1) = true := by rw [show ((1 : Int) == 1) = true from rfl, Bool.or_true]
    wp_walk using wpAny_loadPart' hl
    repeat (first
      | (refine wpAny_ite_false (decide_eq_false (by rw [c0]; exact Bool.false_ne_true)) ?_; wp_walk using wpAny_loadPart' hl)
      | (refine wpAny_ite_true (decide_eq_true c1) ?_; wp_walk using wpAny_loadPart' hl))
    exact ⟨_, rfl, h⟩
def rRep1 (K : PySem.W.Frag) : R2 := fun x y H Q => ∃ l xs, x = .ref l ∧ y = .int 1 ∧ SqT K H l xs ∧ Q (.ref l) H
section
variable {X : Cx}
theorem op_rep1 : OpR X (binaryOp .Mult) (rRep1 X.K) := by
  intro pins s σ H x y v u Q I rx ry h
  obtain ⟨l, xs, rfl, rfl, hT, q⟩ := h
  cases rx
  obtain ⟨t, rfl⟩ := ry
  obtain ⟨its, r, ⟨⟨cls, dd, data, sl⟩, ho, hc, n, hd⟩, hs⟩ := I.tuple hT
  simp only at hc hd
  subst hc hd
  refine wpAny_binaryOp_repeat_ref (T := "tuple") (U := "int") (by decide) ⟨_, ho, rfl⟩ (fun s' => typeIs_int s' 1 t) noFill_tuple_mul F.fills_int_mul F.slot_int_rmul repeat_tuple F.slot_int_index.lookup
    (call_meets F.slot_int_rmul (typeIs_int s 1 t) F.entry_int_rmul (F.args_int_rmul_2 _ _) (int_rmul_tuple 1 t l its.toArray n dd sl)
      ⟨ho, rfl, ⟨_, ho, rfl⟩, call_meets F.slot_tuple_mul ⟨_, ho, rfl⟩ F.entry_tuple_mul (F.args_tuple_mul_2 _ _) (tuple_mul1 l its.toArray n dd sl t) ⟨ho, ?_⟩⟩)
  exact ⟨.ref l, H, I, rfl, q⟩
end
abbrev rRepA (K : PySem.W.Frag) : R2 := fun x y H Q => rRepT K x y H Q ∨ rRep1 K x y H Q
theorem op_repA {X : Cx} : OpR X (binaryOp .Mult) (rRepA X.K) := op_repT.or op_rep1
/-- a tuple, some times -/
def oMulA : Val → Val → Option RV
  | .tup a, .int k => if k = 1 then some (.shr (.tup a)) else if 2 ≤ k ∧ k ≤ 1000 ∧ a.length ≤ 1000 ∧ a ≠ [] then some (.shr (.tup (List.replicate k.toNat a).flatten)) else none
  | _, _ => none
theorem os_mulA {T : Tx} : OpS T (rRepA T.K) oMulA := by
  intro B H x y vx vy rv hs hx hy e Q hq
  unfold oMulA at e
  split at e
  · rename_i a k
    split at e
    · rename_i hk
      cases e
      subst hk
      obtain ⟨l, ys, rfl, h1, r⟩ := hx.tup hs
      refine .inr ⟨l, ys, rfl, hy.int, SqT.of h1, ?_⟩
      obtain ⟨l2, ys2, e2, h2, r2⟩ := hx.tupS
      cases e2
      exact same0 hs (.tup h2 r2) hq
    · split at e
      · rename_i hk
        cases e
        obtain ⟨k1, k2, k3, k4⟩ := hk
        obtain ⟨l, ys, rfl, h1, r⟩ := hx.tup hs
        have rl := r.length
        refine .inl ⟨l, k, ys, rfl, hy.int, SqT.of h1, fun z => ?_, k1, k2, by omega, newT hs (r.rep k.toNat) hq⟩
        subst z
        cases r
        exact k4 rfl
      · cases e
  · cases e
end Lw

end
section
set_option Elab.async false
set_option linter.all false
set_option maxRecDepth 100000
set_option maxHeartbeats 1000000
set_option autoImplicit false
/-! Lw: a range downward, str of a digit. -/
namespace Lw
open PySem PySem.Spec PyProof.Rows L2
def rangeD (lo : Int) (n : Nat) : List Val := (List.range n).map fun i => .int (lo - (i : Nat))
theorem rangeD_get {lo : Int} {n i : Nat} (h : i < n) : (rangeD lo n)[i]? = some (.int (lo - (i : Nat))) := by
  unfold rangeD
  rw [List.getElem?_map, List.getElem?_range h]
  rfl
theorem rangeD_len (lo : Int) (n : Nat) : (rangeD lo n).length = n := by unfold rangeD; simp
theorem it_rangeD {T : Tx} {B : Hp} (lo : Int) (n : Nat) : ItOk T (Itc lo (-1) n) B B (rangeD lo n) where
  go := fun i H s hi => by rw [rangeD_len] at hi; exact hi
  stop := fun i H s hi => by rw [rangeD_len] at hi; exact hi
  yld := fun i H x H' B' s s0 s1 hi hy => by
    obtain ⟨rfl, rfl⟩ := hy
    rw [rangeD_len] at hi
    refine ⟨_, B', rangeD_get hi, .refl s1, ?_⟩
    rw [show lo + (i : Int) * (-1) = lo - (i : Nat) by omega]
    exact .int _
/-- range(.., .., -1) -/
def sRange3 (f g h : EF) : IF := ibindO f fun o1 => ibindO g fun o2 => ibindO h fun o3 => fun env => match o1.get env, o2.get env, o3.get env with
  | some (.int i), some (.int j), some (.int k) => if (smallI i && smallI j && k == -1) = true then some (.items (rangeD i (i - j).toNat), env) else none
  | _, _, _ => none
section
variable {X : Cx} {W : WX} {tg a b c : Expr} {f g h : EF} {p pos : Pos}
theorem si_range3 (hg : Gl X "range") (hm : X.mg "range" = none) (ha : SA X W [a, b, c] [f, g, h]) (hs : starEach [a, b, c] X.env = (false, eval a X.env) :: starEach [b, c] X.env := by rfl) (hs2 : (backTo pos (starEach [b, c] X.env)).any (·.1) = false := by rfl) :
    SI X W tg (.Call (.Name "range" p) [a, b, c] [] pos) (sRange3 f g h) := by
  refine PI.mono (pi_range3 hg hm ha hs hs2) fun σ H R q => ?_
  obtain ⟨env, F, B, r, env2, S, e, p⟩ := q
  show eG _ _ f σ H _
  refine icutO S e p fun o1 env1 H1 F1 B1 x e1 S1 G1 x1 p1 => ?_
  show eG _ _ g σ H1 _
  refine icutO S1 e1 p1 fun o2 env3 H2 F2 B2 y e2 S2 G2 y2 p2 => ?_
  show eG _ _ h σ H2 _
  refine icutO S2 e2 p2 fun o3 env4 H3 F3 B3 z e3 S3 G3 z3 p3 => ?_
  try dsimp only at e3
  split at e3
  · rename_i i j k hi hj hk
    split at e3
    · rename_i hz
      cases e3
      obtain ⟨z12, zk⟩ := Bool.and_eq_true_iff.mp hz
      obtain ⟨z1, z2⟩ := Bool.and_eq_true_iff.mp z12
      have ek : k = -1 := eq_of_beq zk
      have ex := (((x1.go S1 S2 G2).go S2 S3 G3).opr S3 hi).int
      have ey := ((y2.go S2 S3 G3).opr S3 hj).int
      have ez := (z3.opr S3 hk).int
      subst ex ey ez ek
      exact ⟨i, j, -1, (i - j).toNat, rfl, RgC.neg (range_in z1).1 (range_in z1).2 (range_in z2).1 (range_in z2).2, p3 H3 F3 B3 S3 .refl _ B3 (it_rangeD i _) S3.sub (nof S3)⟩
    · cases e3
  · cases e3
end
/-- str(a digit) -/
def oStr1 : List Val → Option RV
  | [.int i] => if 0 ≤ i ∧ i ≤ 9 then some (.shr (.str [48 + i.toNat])) else none
  | _ => none
abbrev rStrI : List V → Hp → VK → Prop := fun xs H Q => ∃ i, xs = [.int i] ∧ i.natAbs.log2 < 1920 ∧ Q (.str (toString i)) H
theorem dig_str (n : Nat) (h : n ≤ 9) : (toString ((n : Nat) : Int) : String) = String.singleton (Char.ofNat (48 + n)) := by
  have : n = 0 ∨ n = 1 ∨ n = 2 ∨ n = 3 ∨ n = 4 ∨ n = 5 ∨ n = 6 ∨ n = 7 ∨ n = 8 ∨ n = 9 := by omega
  rcases this with rfl | rfl | rfl | rfl | rfl | rfl | rfl | rfl | rfl | rfl <;> decide
theorem os_str1 {T : Tx} : OpSn T rStrI oStr1 := by
  intro B H xs vs rv hs hx e Q hq
  unfold oStr1 at e
  split at e
  · split at e
    · rename_i i hi
      cases e
      obtain ⟨x, rfl, h⟩ := hx.one
      have ex := h.int
      subst ex
      obtain ⟨n, rfl⟩ := Int.eq_ofNat_of_zero_le hi.1
      have hn : n ≤ 9 := by omega
      refine ⟨n, rfl, ?_, same0 hs ?_ hq⟩
      · have h1 : Nat.log2 (Int.natAbs (n : Int)) ≤ n := by
          rw [Int.natAbs_natCast]
          exact Nat.log2_le_self n
        omega
      · refine Rep.of_str ?_
        have : n = 0 ∨ n = 1 ∨ n = 2 ∨ n = 3 ∨ n = 4 ∨ n = 5 ∨ n = 6 ∨ n = 7 ∨ n = 8 ∨ n = 9 := by omega
        rcases this with rfl | rfl | rfl | rfl | rfl | rfl | rfl | rfl | rfl | rfl <;> decide +kernel
    · cases e
  · cases e
end Lw

end
section
set_option Elab.async false
set_option linter.all false
set_option maxRecDepth 100000
set_option maxHeartbeats 6400000
set_option autoImplicit false
/-! Lw: sorted(set(..)) of ints that rise. -/
namespace Lw.ST
open PySem PySem.Spec PyProof.Rows L2
section
variable {prog : Program} {w : World} {A : Around} {E : Value → Shared → Prop} {s : Shared}
/-- what stands behind set(ints) -/
def AfterN (w : World) (s : Shared) (ns : List Int) (s1 : Shared) : Prop :=
  ∃ h tk c, s1 = { s with heap := h, toks := tk } ∧ SetR w h s.heap.objs.size (fun j => decide (j ∈ ns)) c ∧ c ≤ ns.length ∧ ∀ b o, s.heap.get? b = some o → h.get? b = some o
theorem initW_ints {l : Addr} {items : Array Value} {ns : List Int} (hh : A.handled = none) (hl : s.heap.IsList l items) (hi : PyProof.Rows.IntsAre items.toList ns) (hb : ns.length + 1 < scanBound)
    {s1 : Shared} (e1 : s1 = { s with heap := s.heap.push (nset w) }) :
    codeAny (model prog w) A (.call (.builtin "set.__init__") ⟨[.ref s.heap.objs.size, .ref l], []⟩) (wants (fun r s2 => r = .none ∧ AfterN w s ns s2) E) s1 := by
  subst e1
  have hS : (s.heap.push (nset w)).get? s.heap.objs.size = some (nset w) := Heap.get?_push_size _ rfl
  refine codeAny_call_builtin F.called_set.init.plain F.entry_set_init (check_set_init_1 ⟨_, hS, rfl⟩ ?_)
  obtain ⟨⟨oc, od, odata, osl⟩, hol, hcl, nl, hdl⟩ := hl
  simp only at hcl hdl
  subst hcl hdl
  have hol1 : (s.heap.push (nset w)).get? l = some { cls := .type "list", dict := od, data := .seq items nl, slots := osl } := Heap.get?_push_of_some _ hol
  have hsub1 := F.sub_list_set
  have hsub2 := F.sub_list_frozenset
  have hne : (Value.type "list" == Value.type "dict") = false := by decide
  have hl1 : (s.heap.push (nset w)).IsList l items := ⟨_, hol1, rfl, nl, rfl⟩
  unfold Builtin.«set.__init__» noKeywords Builtin.Frozenset.updateFrom
  generalize hPI : pyIter = PI
  wp_walk
  subst hPI
  refine wpAny_pyIter_list hl1 (wpAny_bind (wpAny_runValue ?_))
  have lS : l < s.heap.objs.size := Heap.lt_size hol
  have z1 : (s.heap.push (nset w)).objs.size = s.heap.objs.size + 1 := Heap.size_push ..
  have nI : l ≠ (s.heap.push (nset w)).objs.size := by rw [z1]; exact Nat.ne_of_lt (Nat.lt_succ_of_lt lS)
  have hlen : items.size = ns.length := by rw [← Array.length_toList]; exact IntsAre.length hi
  refine set_update_ints ((Walks.list (by simp [hh]) _ l nI items).toS) s.heap.objs.size ?_ ns hlen hb (fun i v hv => ?_) (items.size - 0) 0 _ (by omega) (Nat.zero_le _) ⟨⟨_, Heap.get?_push_size _ rfl, rfl, rfl⟩, hl1.push _⟩ ⟨0, Nat.le_refl 0, setR_new_at (Heap.get?_push_of_some _ hS)⟩ fun s2 c m hc hs => ?_
  · rw [z1]
    intro hm
    rcases List.mem_cons.mp hm with h | h
    · exact Nat.ne_of_lt (Nat.lt_succ_self _) h
    · rw [List.mem_singleton] at h
      exact Nat.ne_of_gt lS h
  · have hv1 : items.toList[i]? = some v := by rw [Array.getElem?_toList]; exact hv
    obtain ⟨t, e⟩ := IntsAre.int_at hi i v hv1
    have hlt : i < ns.length := by rw [← hlen]; exact (Array.getElem?_eq_some_iff.mp hv).1
    refine ⟨ns.getD i 0, t, ?_, e⟩
    rw [List.getD_eq_getElem?_getD, List.getElem?_eq_getElem hlt]; rfl
  · obtain ⟨h2, g2, d2, tk2, os2⟩ := s2
    have eg : g2 = s.gens := m.gens
    have ed : d2 = s.drawn := m.drawn
    have eo : os2 = s.os := m.os
    subst eg ed eo
    show wpAny _ _ _ _ _ _
    refine wpAny_pure ?_
    show wpAny _ _ (ret Value.none) _ _ _
    refine wpAny_pure ⟨rfl, h2, tk2, c, rfl, hs, by rw [← hlen]; exact hc, fun b o e => ?_⟩
    have hb1 : b < s.heap.objs.size := Heap.lt_size e
    refine m.heap b o (fun hm => ?_) (Heap.get?_push_of_some _ (Heap.get?_push_of_some _ e))
    rcases List.mem_cons.mp hm with h | hm
    · exact Nat.ne_of_lt hb1 h
    · rw [List.mem_singleton, z1] at hm
      exact Nat.ne_of_lt (Nat.lt_succ_of_lt hb1) hm
theorem callW_ints {l : Addr} {items : Array Value} {ns : List Int} {Q : Value → Shared → Prop} (hh : A.handled = none) (hl : s.heap.IsList l items) (hi : PyProof.Rows.IntsAre items.toList ns) (hb : ns.length + 1 < scanBound)
    (h : ∀ s1, AfterN w s ns s1 → Q (.ref s.heap.objs.size) s1) : wpAny (model prog w) A (call (.type "set") [.ref l]) Q E s :=
  callW (fun ha k => codeAny_mono (initW_ints (E := E) (by rw [ha]; exact hh) hl hi hb rfl) k) h
end
end Lw.ST
namespace Lw
open PySem PySem.Spec PyProof.Rows L2
theorem rise_ext : ∀ xs ys : List Int, xs.Pairwise (· < ·) → ys.Pairwise (· < ·) → (∀ a, a ∈ xs ↔ a ∈ ys) → xs = ys
  | [], [], _, _, _ => rfl
  | [], y :: ys, _, _, h => nomatch (h y).mpr (List.mem_cons_self ..)
  | x :: xs, [], _, _, h => nomatch (h x).mp (List.mem_cons_self ..)
  | x :: xs, y :: ys, hx, hy, h => by
    obtain ⟨x1, x2⟩ := List.pairwise_cons.mp hx
    obtain ⟨y1, y2⟩ := List.pairwise_cons.mp hy
    have e : x = y := by
      rcases List.mem_cons.mp ((h x).mp (List.mem_cons_self ..)) with q | q
      · exact q
      · rcases List.mem_cons.mp ((h y).mpr (List.mem_cons_self ..)) with q2 | q2
        · exact q2.symm
        · have := y1 x q; have := x1 y q2; omega
    subst e
    rw [rise_ext xs ys x2 y2 fun a => ⟨fun ha => ?_, fun ha => ?_⟩]
    · rcases List.mem_cons.mp ((h a).mp (List.mem_cons_of_mem _ ha)) with q | q
      · have := x1 a ha; omega
      · exact q
    · rcases List.mem_cons.mp ((h a).mpr (List.mem_cons_of_mem _ ha)) with q | q
      · have := y1 a ha; omega
      · exact q
/-- sorted(set(ints)), where the ints rise -/
def oSrtSetI : Val → Option RV
  | .lst vs => (match ints? vs with
    | some ns => if ns.length < 60 ∧ ns.Pairwise (· < ·) then some (.new (.lst vs)) else none
    | none => none)
  | _ => none
def tSrtI (K : PySem.W.Frag) : V → Hp → VK → Prop := fun x H Q => ∃ (ns : List Int) (l : Addr), ns.length < 60 ∧ ns.Pairwise (· < ·) ∧ x = .ref l ∧ SqL K H l (ns.map V.int) ∧ ∀ p, H p = none → Q (.ref p) (upd H p (.lst (ns.map V.int)))
section
variable {X : Cx} {W : WX} {a : Expr} {f : EF} {p p2 q pos : Pos}
theorem pe_srtSetI {ta : TE} (hc : X.calm = true) (hg : Gl X "sorted") (hm : X.mg "sorted" = none) (hg2 : Gl X "set") (hm2 : X.mg "set" = none) (ha : PE X a ta)
    (na : starEach [a] X.env = (false, eval a X.env) :: starEach [] X.env := by rfl) : PE X (.Call (.Name "sorted" p) [.Call (.Name "set" p2) [a] [] q] [] pos) (fun σ H Q => ta σ H fun x H1 => tSrtI X.K x H1 Q) := by
  refine ⟨fun pins s σ H Q I h => ?_⟩
  refine PyProof.Rows.Call_ (ld_blt I hg hm boot_sorted ?_)
  refine PyProof.Rows.callWith_builtin1 (PyProof.Rows.args_cons ?_ rfl) rfl rfl
  refine PyProof.Rows.Call_ (ld_blt I hg2 hm2 PyProof.Rows.boot_set ?_)
  refine PyProof.Rows.callWith_type1 (PyProof.Rows.args_cons (thn (ha.run pins s σ H _ I h) fun v s1 ⟨x, H1, I1, r1, q1⟩ => PyProof.Rows.args_nil ?_) na) na rfl
  obtain ⟨ns, l, n60, pw, rfl, hq, q1⟩ := q1
  cases r1
  obtain ⟨its, r, pl, hz⟩ := I1.list hq
  have ri : PyProof.Rows.IntsAre its ns := ints_of_vals r
  refine ST.callW_ints (I1.ok.hd hc) pl.isList (ns := ns) (by simpa using ri) (by unfold scanBound; omega) fun s2 af => PyProof.Rows.args_nil ?_
  obtain ⟨h', tk, c, e2, hs, hcn, hk⟩ := af
  have I2 : Inv X pins σ H1 s2 := by rw [e2]; exact I1.kept fun b o e => hk b o e
  have hs : SetR X.w s2.heap s1.heap.objs.size (fun j => decide (j ∈ ns)) c := by rw [e2]; exact hs
  refine sorted_set hs (I2.ok.hd hc) (by omega) fun s' p out c ns' k g o hp hg hi pw' hm' hl' => ?_
  have ey : ns' = ns := rise_ext _ _ pw' pw fun a => by rw [hm' a]; exact decide_eq_true_iff
  subst ey
  have hn : H1 p = none := I2.hok.fresh hp
  have hlen : (ns'.map V.int).length ≤ sizeLine := by rw [List.length_map, sizeLine_eq]; omega
  have J : Inv X pins σ (upd H1 p (.lst (ns'.map V.int))) { s2 with heap := s'.heap, gens := s'.gens, drawn := s'.drawn, toks := s'.toks } :=
    I2.call (ch := []) (Un.laid k hp hn) (I2.hok.laid k hp ⟨hlen, out.toList, c, vals_of_ints hi, hg⟩) (by rw [g]; exact I2.bare) (fun _ z => nomatch z)
  have e : s' = { s2 with heap := s'.heap, gens := s'.gens, drawn := s'.drawn, toks := s'.toks } := by
    cases s'
    cases o
    rfl
  rw [e]
  exact ⟨.ref p, _, J, rfl, q1 p hn⟩
def sSrtSetI (f : EF) : EF := sUn oSrtSetI f
theorem se_srtSetI (hc : X.calm = true) (hg : Gl X "sorted") (hm : X.mg "sorted" = none) (hg2 : Gl X "set") (hm2 : X.mg "set" = none) (ha : SE X W a f)
    (na : starEach [a] X.env = (false, eval a X.env) :: starEach [] X.env := by rfl) : SE X W (.Call (.Name "sorted" p) [.Call (.Name "set" p2) [a] [] q] [] pos) (sSrtSetI f) := by
  refine PE.mono (pe_srtSetI hc hg hm hg2 hm2 ha na) fun σ H Q q => ?_
  refine un_mono (X := X) (r := tSrtI X.K) (fun B H1 x v rv hs hx e Q hq => ?_) σ H Q q
  unfold oSrtSetI at e
  split at e
  · rename_i vs
    cases hn : ints? vs with
    | none => rw [hn] at e; cases e
    | some ns =>
      rw [hn] at e
      dsimp only at e
      split at e
      · rename_i hz
        cases e
        obtain ⟨p, ys, rfl, h2, r⟩ := hx.seq hs
        have ey := r.ints? hn
        subst ey
        refine ⟨ns, p, hz.1, hz.2, rfl, h2, newL hs ?_ hq⟩
        have em : ∀ (vs : List Val) (ns : List Int), ints? vs = some ns → vs = ns.map Val.int := fun vs => by
          induction vs with
          | nil => intro ns q; cases q; rfl
          | cons v vs ih =>
            intro ns q
            cases v with
            | int i =>
              obtain ⟨ms, q1, rfl⟩ := Option.map_eq_some_iff.mp (show (ints? vs).map (i :: ·) = some ns from q)
              rw [ih ms q1]; rfl
            | _ => cases q
        rw [em vs ns hn]
        exact rep_ints ns
      · cases e
  · cases e
end
end Lw

end
section
set_option Elab.async false
set_option linter.all false
set_option maxRecDepth 100000
set_option maxHeartbeats 1600000
set_option autoImplicit false
/-! Lw: runs that give a token out somewhere on their way. -/
namespace Lw
open PySem PySem.Spec PyProof.Rows L2 CwR
def Ups {α : Type} (t : Sem α) : Prop := ∀ (M : Model) (Γ : PySem.Ctx) (Q : α → Pos → Shared → Prop) (E : Value → Pos → Shared → Prop) (p : Pos) (s : Shared), Sem.wp M Γ t Q E p s → Sem.wp M Γ t (fun a p' s' => 1 ≤ s'.toks ∧ Q a p' s') E p s
theorem ups_heads {α : Type} {t : Sem α} (h : heads 60 t = true) : Ups t := fun M Γ Q E p s q =>
  Sem.wp_mono M Γ t (fun _ _ _ z => z) (fun _ _ _ z => z.2) p s (heads_wp 60 t Q E p s h q)
theorem ups_bindR {α β : Type} {t : Sem α} {k : α → Sem β} (h : ∀ a, Ups (k a)) : Ups (t >>= k) := fun M Γ Q E p s q => by
  have q : Sem.wp M Γ (t.bind k) Q E p s := q
  rw [Sem.wp_bind] at q
  show Sem.wp M Γ (t.bind k) _ E p s
  rw [Sem.wp_bind]
  exact Sem.wp_mono M Γ t (fun a p1 s1 z => h a M Γ Q E p1 s1 z) (fun _ _ _ z => z) p s q
theorem ups_bindL {α β : Type} {t : Sem α} {k : α → Sem β} (h : Ups t) : Ups (t >>= k) := fun M Γ Q E p s q => by
  have q : Sem.wp M Γ (t.bind k) Q E p s := q
  rw [Sem.wp_bind] at q
  show Sem.wp M Γ (t.bind k) _ E p s
  rw [Sem.wp_bind]
  refine Sem.wp_mono M Γ t (fun a p1 s1 z => ?_) (fun _ _ _ z => z) p s (h M Γ _ E p s q)
  exact Sem.wp_mono M Γ (k a) (fun _ _ _ y => y) (fun _ _ _ y => y.2) p1 s1 (Sem.wp_toks M Γ 1 (k a) Q E p1 s1 z.1 z.2)
theorem ups_holding {α : Type} {vs : List Value} {t : Sem α} (h : Ups t) : Ups (holding vs t) := fun M Γ Q E p s q => by
  rw [Sem.wp_holding] at q ⊢
  exact h M Γ Q E p s q
theorem ups_any {α : Type} {t : Sem α} {M : Model} {A : Around} {s : Shared} {Q : α → Shared → Prop} {E : Value → Shared → Prop} (hu : Ups t) (h : wpAny M A t Q E s) : wpAny M A t (fun a s' => 1 ≤ s'.toks ∧ Q a s') E s :=
  fun Γ p hΓ => hu M Γ _ _ p s (h Γ p hΓ)
section
variable {X : Cx} {W : WX} {st : Stmt} {rest : List Stmt} {t u : TS} {g1 g2 : SF}
theorem pss_upU (h1 : PS X st t) (hu : Ups (exec st X.env)) (h2 : PSsT X rest u) : PSs X (st :: rest) (tSeq t u) := by
  refine ⟨fun pins s σ H D I h => ?_⟩
  refine wpAny_execs_cons (wpAny_mono (ups_any hu (h1.run pins s σ H { D with nx := u D } I h)) (fun f s1 q => ?_) fun _ _ x => x)
  obtain ⟨hk, q⟩ := q
  cases f with
  | next =>
    obtain ⟨σ1, H1, I1, q⟩ := q
    exact h2 pins s1 σ1 H1 D hk I1 q
  | ret v => exact q
  | brk => exact q
  | cont => exact q
theorem sss_upU (h1 : SS X W st g1) (h2 : SSsT X W rest g2) (hu : Ups (exec st X.env)) : SSs X W (st :: rest) (sSeq g1 g2) := PSs.mono (pss_upU h1 hu h2) fun _ _ _ h => seq_mono h
end
/-- x op 'text' -/
theorem ups_binC {env : PySem.Env} {l : Expr} {op : Operator} {c : Str} {j : Nat} {cp pos : Pos} : Ups (eval (.BinOp l op (.Constant (.str c) j cp) pos) env) := by
  rw [eval_BinOp]
  refine ups_bindR fun a => ups_bindL (ups_holding (ups_heads ?_))
  rfl
/-- several values given, the first of them giving a token out -/
theorem ups_par {env : PySem.Env} {tgs es : List Expr} {e : Expr} {k2 : Nat} {p2 pos : Pos} (he : Ups (eval e env)) (hs : swapsWithSole tgs (.Tuple (e :: es) k2 p2) pos.line env = pure false)
    (hst : starEach (e :: es) env = (false, eval e env) :: starEach es env := by rfl) : Ups (exec (.Assign tgs (.Tuple (e :: es) k2 p2) pos) env) := by
  rw [exec_Assign_arm, hs]
  refine ups_bindR fun _ => ?_
  show Ups (eval (.Tuple (e :: es) k2 p2) env >>= _)
  refine ups_bindL ?_
  show Ups (standAt p2 >>= fun _ => spliced (backTo p2 (starEach (e :: es) env)) >>= fun vs => newTuple vs)
  refine ups_bindR fun _ => ups_bindL ?_
  rw [hst]
  show Ups (spliced ((false, eval e env) :: backTo p2 (starEach es env)))
  rw [spliced]
  exact ups_bindL he
end Lw

end
section
set_option Elab.async false
set_option linter.all false
set_option maxRecDepth 100000
set_option maxHeartbeats 4000000
set_option autoImplicit false
/-! Lw: what runs where a token is out. -/
namespace Lw
open PySem PySem.Spec PyProof.Rows L2 CwR
theorem thnT {α : Type} {t : Sem α} {Q Q' : α → Shared → Prop} {M : Model} {A : Around} {E : Value → Shared → Prop} {s : Shared} {n : Nat} (hn : n ≤ s.toks) (h : wpAny M A t Q E s) (hQ : ∀ a s1, n ≤ s1.toks → Q a s1 → Q' a s1) : wpAny M A t Q' E s :=
  wpAny_mono (PySem.wpAny_toks_of hn h) (fun a s1 q => hQ a s1 q.1 q.2) fun _ _ z => z.2
/-! ### calls of what is built in -/
section
variable {X : Cx} {W : WX} {a b e : Expr} {es : List Expr} {f f2 : EF} {fs : List EF} {pos : Pos}
abbrev SAT (X : Cx) (W : WX) (es : List Expr) (fs : List EF) : Prop := PAT X es (aR (tx X) W fs)
theorem sat_nil : SAT X W [] [] := fun pos pins s σ H Q _ I q => sa_nil.run pos pins s σ H Q I q
theorem sat_cons (ha : SET X W a f) (hr : SAT X W es fs) (hs : starEach (a :: es) X.env = (false, eval a X.env) :: starEach es X.env := by rfl) : SAT X W (a :: es) (f :: fs) := pat_cons ha hr hs
theorem pet_callB {id : String} {r : List V → Hp → VK → Prop} {x : Str} {p : Pos} {t : TA} (hc : CallR X (.builtin id) r) (hg : Gl X x) (hm : X.mg x = none) (hv : bootBuiltins x = some (.builtin id)) (ha : PAT X (e :: es) t) (hn : x ≠ "__name__" := by decide) (hdb : (x == ("__debug__" : Str)) = false := by decide)
    (he : starEach (e :: es) X.env = (false, eval e X.env) :: starEach es X.env := by rfl) (hpl : (backTo pos (starEach es X.env)).any (·.1) = false := by rfl) : PET X (.Call (.Name x p) (e :: es) [] pos) (tCB r t) := by
  intro pins s σ H Q h0 I h
  refine wpAny_Call_Name_kw (ld_blt I hg hm hv ?_ hn hdb)
  exact PyProof.Rows.callWith_builtin1 (thn (ha pos pins s σ H _ h0 I h) fun us s1 ⟨vs, H1, I1, r1, q1⟩ => hc pins s1 σ H1 vs us Q I1 r1 q1) he hpl
theorem set_callB {id : String} {r : List V → Hp → VK → Prop} {op : List Val → Option RV} {x : Str} {p : Pos} (hc : CallR X (.builtin id) r) (hs : OpSn (tx X) r op) (hg : Gl X x) (hm : X.mg x = none) (hv : bootBuiltins x = some (.builtin id)) (ha : SAT X W (a :: es) fs)
    (hn : x ≠ "__name__" := by decide) (hdb : (x == ("__debug__" : Str)) = false := by decide)
    (he : starEach (a :: es) X.env = (false, eval a X.env) :: starEach es X.env := by rfl) (hpl : (backTo pos (starEach es X.env)).any (·.1) = false := by rfl) : SET X W (.Call (.Name x p) (a :: es) [] pos) (sCallB op fs) :=
  PET.mono (pet_callB hc hg hm hv ha hn hdb he hpl) (callB_mono hs)
theorem set_bin {op : Operator} {r : R2} {opv : Val → Val → Option RV} (ho : OpR X (binaryOp op) r) (hs : OpS (tx X) r opv) (ha : SET X W a f) (hb : SET X W b f2) : SET X W (.BinOp a op b pos) (sBin opv f f2) :=
  PET.mono (pet_op ho ha hb) (bin_mono hs)
end
section
variable {X : Cx} {W : WX} {a b : Expr} {f f2 : EF} {pos : Pos}
theorem pet_cmp {op : CmpOp} {r : R2} {ta tb : TE} (ho : OpR X (compareOp op) r) (ha : PET X a ta) (hb : PET X b tb) (hm : behindInMarks op b = false) : PET X (.Compare a [op] [b] pos) (tOp r ta tb) := by
  intro pins s σ H Q h0 I h
  refine wpAny_Compare1 (thnT h0 (ha pins s σ H _ h0 I h) fun v s1 h1 ⟨x, H1, I1, r1, q1⟩ => ?_) hm
  exact thn (hb pins s1 σ H1 _ h1 I1 q1) fun u s2 ⟨y, H2, I2, r2, q2⟩ => ho pins s2 σ H2 x y v u _ I2 r1 r2 q2
theorem set_cmp {op : CmpOp} {r : R2} {opv : Val → Val → Option RV} (ho : OpR X (compareOp op) r) (hs : OpS (tx X) r opv) (ha : SET X W a f) (hb : SET X W b f2) (hm : behindInMarks op b = false) : SET X W (.Compare a [op] [b] pos) (sBin opv f f2) :=
  PET.mono (pet_cmp ho ha hb hm) (bin_mono hs)
end
/-! ### tests -/
section
variable {X : Cx} {W : WX} {a b : Expr} {f g : EF} {pos : Pos} {tA tB' : TT}
def PWT (X : Cx) (e : Expr) (t : TT) : Prop := ∀ (whole : Sem Value) (pins : List (Addr × Obj)) (s : Shared) (σ : L2.St) (H : Hp) (Q : Bool → Hp → Prop), 1 ≤ s.toks → Inv X pins σ H s → t σ H Q → wpAny (model X.prog X.w) X.A (isTrue e X.env whole) (TP X pins σ Q) X.xe s
abbrev SWT (X : Cx) (W : WX) (e : Expr) (f : EF) : Prop := PWT X e (tG (tx X) W f)
theorem PTT.mono {e : Expr} {t t' : TT} (h : PTT X e t) (k : ∀ σ H Q, t' σ H Q → t σ H Q) : PTT X e t' := fun pins s σ H Q h0 I q => h pins s σ H Q h0 I (k σ H Q q)
theorem PWT.mono {e : Expr} {t t' : TT} (h : PWT X e t) (k : ∀ σ H Q, t' σ H Q → t σ H Q) : PWT X e t' := fun wh pins s σ H Q h0 I q => h wh pins s σ H Q h0 I (k σ H Q q)
theorem PTT.of {e : Expr} {t : TT} (h : PT X e t) : PTT X e t := fun pins s σ H Q _ I q => h.run pins s σ H Q I q
theorem stt_of (h : ST X W a f) : STT X W a f := PTT.of h
theorem stt_val (h : SET X W a f) (he : ∀ whole, isTrue a X.env whole = (do let v ← whole; standAt a.pos; holding [v] (truthy v)) := by intro _; rfl) : STT X W a f := by
  refine PTT.mono (t := fun σ H Q => eG (tx X) W f σ H fun x H1 => ∃ b, x = .bl b ∧ Q b H1) ?_ fun _ _ _ q => eG_of_tG q
  intro pins s σ H Q h0 I hw
  refine isTrue_plain (thn (h pins s σ H _ h0 I hw) fun v s1 ⟨x, H1, I1, r1, q1⟩ => ?_) (he _)
  obtain ⟨d, rfl, q⟩ := q1
  cases r1
  exact wpAny_truthy_bool ⟨H1, I1, q⟩
theorem ptt_not (ha : PTT X a tA) : PTT X (.UnaryOp .Not a pos) (tNot tA) := by
  intro pins s σ H Q h0 I h
  exact isTrue_not (ha pins s σ H (fun c H1 => Q (!c) H1) h0 I h)
theorem stt_not (ha : STT X W a f) : STT X W (.UnaryOp .Not a pos) (sNot f) := by
  refine PTT.mono (ptt_not ha) fun σ H Q h => ?_
  obtain ⟨env, F, B, r0, env2, S, e, hb, p⟩ := h
  refine tG_cut S e p (fun o env1 e1 => ?_) fun b env1 H1 F1 B1 e1 S1 G1 p1 => ?_
  · try dsimp only at e1
    split at e1
    · exact ⟨_, rfl⟩
    · cases e1
  · cases e1
    obtain ⟨c, ec, q⟩ := p1 H1 F1 B1 S1 .refl (.bl !b) (.bl _)
    cases ec
    exact q
theorem pwt_and1 (ha : PTT X a tA) : PWT X (.BoolOp .And [a] pos) tA := by
  intro wh pins s σ H Q h0 I h
  refine isTrue_and (thn (ha pins s σ H Q h0 I h) fun c s1 e => ?_)
  cases c with
  | true => exact isTrue_and_nil e
  | false => exact e
theorem pwt_or1 (ha : PTT X a tA) : PWT X (.BoolOp .Or [a] pos) tA := by
  intro wh pins s σ H Q h0 I h
  refine isTrue_or (thn (ha pins s σ H Q h0 I h) fun c s1 e => ?_)
  cases c with
  | false => exact isTrue_or_nil e
  | true => exact e
theorem pwt_and {rest : List Expr} (ha : PTT X a tA) (hb : PWT X (.BoolOp .And (b :: rest) pos) tB') : PWT X (.BoolOp .And (a :: b :: rest) pos) (tAnd tA tB') := by
  intro wh pins s σ H Q h0 I h
  refine isTrue_and (thnT h0 (ha pins s σ H _ h0 I h) fun c s1 h1 ⟨H1, I1, q1⟩ => ?_)
  cases c with
  | true => exact hb wh pins s1 σ H1 Q h1 I1 q1
  | false => exact ⟨H1, I1, q1⟩
theorem pwt_or {rest : List Expr} (ha : PTT X a tA) (hb : PWT X (.BoolOp .Or (b :: rest) pos) tB') : PWT X (.BoolOp .Or (a :: b :: rest) pos) (tOr tA tB') := by
  intro wh pins s σ H Q h0 I h
  refine isTrue_or (thnT h0 (ha pins s σ H _ h0 I h) fun c s1 h1 ⟨H1, I1, q1⟩ => ?_)
  cases c with
  | true => exact ⟨H1, I1, q1⟩
  | false => exact hb wh pins s1 σ H1 Q h1 I1 q1
theorem swt_one (h : STT X W a f) : SWT X W (.BoolOp .And [a] pos) f := pwt_and1 h
theorem swt_one' (h : STT X W a f) : SWT X W (.BoolOp .Or [a] pos) f := pwt_or1 h
theorem swt_and {rest : List Expr} (ha : STT X W a f) (hb : SWT X W (.BoolOp .And (b :: rest) pos) g) : SWT X W (.BoolOp .And (a :: b :: rest) pos) (sAnd f g) := PWT.mono (pwt_and ha hb) fun _ _ _ => and_mono
theorem swt_or {rest : List Expr} (ha : STT X W a f) (hb : SWT X W (.BoolOp .Or (b :: rest) pos) g) : SWT X W (.BoolOp .Or (a :: b :: rest) pos) (sOr f g) := PWT.mono (pwt_or ha hb) fun _ _ _ => or_mono
theorem stt_w (h : SWT X W a f) : STT X W a f := fun pins s σ H Q h0 I q => h _ pins s σ H Q h0 I q
end
/-! ### statements -/
section
variable {X : Cx} {W : WX} {e : Expr} {f : EF} {pos : Pos}
theorem pst_expr {te : TE} (he : PET X e te) (hs : swapsWith e none pos.line X.env = pure false := by rfl) : PST X (.Expr e pos) (tDrop te) := by
  intro pins s σ H D h0 I h
  exact wpAny_Expr_any (thn (he pins s σ H _ h0 I h) fun v s1 ⟨x, H1, I1, r1, q1⟩ => ⟨σ, H1, I1, q1⟩) I.quiet hs
theorem sst_expr (he : SET X W e f) (hs : swapsWith e none pos.line X.env = pure false := by rfl) : SST X W (.Expr e pos) (sExpr f) := by
  refine PST.mono (pst_expr he hs) fun D σ H h => ?_
  obtain ⟨env, F, B, r, env2, S, e, p⟩ := h
  refine ocut S e p fun o env1 H1 F1 B1 x e1 S1 G1 x1 => ?_
  cases e1
  exact p σ H1 F1 B1 S1 G1
theorem pst_set {i : Nat} {x : Str} {te : TE} {pos' : Pos} (hN : X.N.Nodup) (hi : X.N[i]? = some x) (hx : Loc X.env.scope x) (he : PET X e te) (hs : swapsWith e (some (.Name x pos')) pos.line X.env = pure false := by rfl) (hf : X.fn x = true ∨ X.env.scope.names.lookup x = some .local := by first | exact .inl rfl | exact .inr rfl | assumption) :
    PST X (.Assign [.Name x pos'] e pos) (tAsg te (gName i)) := by
  intro pins s σ H D h0 I h
  refine wpAny_Assign_Name (thn (he pins s σ H _ h0 I h) fun v s1 ⟨y, H1, I1, r1, q1⟩ => ?_) hs
  exact store_ok I1 hN hi hx r1 (fun s2 I2 => ⟨_, _, I2, q1⟩) hf
theorem pet_eun (h : SET X W e f) : PET X e (eG (tx X) W (eun f)) := PET.mono h fun _ _ _ => eun_mono
theorem sst_asg {i : Nat} {x : Str} {pos' : Pos} (hN : X.N.Nodup) (hi : X.N[i]? = some x) (hx : Loc X.env.scope x) (he : SET X W e f) (hs : swapsWith e (some (.Name x pos')) pos.line X.env = pure false := by rfl) (hf : X.fn x = true ∨ X.env.scope.names.lookup x = some .local := by first | exact .inl rfl | exact .inr rfl | assumption) :
    SST X W (.Assign [.Name x pos'] e pos) (sAsg i f) := PST.mono (pst_set hN hi hx (pet_eun he) hs hf) fun _ _ _ h => asg_mono h
theorem sst_ret (he : SET X W e f) : SST X W (.Return (some e) pos) (sRet f) := by
  refine PST.mono (pst_ret he) fun D σ H h => ?_
  obtain ⟨env, F, B, r, env2, S, e, p⟩ := h
  refine ocut S e p fun o env1 H1 F1 B1 x e1 S1 G1 x1 => ?_
  try dsimp only at e1
  split at e1
  · rename_i rv hrv
    cases e1
    exact p σ H1 F1 B1 S1 G1 x (ret_ok S S1 G1 x1 hrv)
  · cases e1
end
end Lw

end
section
set_option Elab.async false
set_option linter.all false
set_option maxRecDepth 100000
set_option maxHeartbeats 4000000
set_option autoImplicit false
/-! Lw: defs, loops and comprehensions that run where a token is out. -/
namespace Lw
open PySem PySem.Spec PyProof.Rows L2 CwR
/-! ### loops -/
/-- between two turns -/
structure Btw (X : Cx) (pins : List (Addr × Obj)) (fp : List Addr) (tn : Nat → Heap → Prop) (W : Nat → Nat → L2.St → Hp → Prop) (n : Nat) (s : Shared) : Prop where
  tok : 1 ≤ s.toks
  rest : ∃ i τ G, Inv X pins τ G s ∧ tn i s.heap ∧ (∀ b ∈ fp, G b = none) ∧ W i n τ G
section
variable {X : Cx} {W : WX} {e : Expr} {f : EF} {pos : Pos}
theorem pst_forT {tg iter : Expr} {body : List Stmt} {wi : TI} {g : TG} {tb : TS} (own : PassesOwn (model X.prog X.w) X.A X.env X.xe) (calm : X.calm = true) (pit : PI X tg iter wi) (ptg : L2.PG X tg g) (pb : PSsT X body tb)
    (nf : ∀ x, foldedSetIterable iter X.env x = pure x := by intro _; rfl) : PST X (.For tg iter body [] pos) (tFor wi g tb) := by
  intro pins s0 τ0 G0 D k0 J0 q0
  refine wpAny_For (thnT k0 (pit.run pins s0 τ0 G0 _ J0 q0) fun _ _ k1 q1 => thnT k1 q1 fun _ s k q => ?_) nf
  obtain ⟨at_, fp, tn, It, G, rfl, J, T, st, ff, W, ⟨m, w⟩, go⟩ := q
  have foot : ∀ {G' : Hp}, (∀ b ∈ fp, G' b = none) → ∀ b ∈ fp, FpOk X pins G' b := fun z b hb => ⟨z b hb, (ff b hb).2⟩
  have once : ∀ n s, Btw X pins fp tn W n s → _ := fun n s (z : Btw X pins fp tn W n s) => z
  refine codeAny_forLoop_any (Btw X pins fp tn W) (fun n u z => ?_) m ⟨k, 0, τ0, G, J, st, fun b hb => (ff b hb).1, w⟩
  obtain ⟨ku, i, τ, Gu, Ju, tu, fu, wu⟩ := z
  cases go i n τ Gu wu with
  | inl z =>
    refine wpAny_passesOwn own (thn (T.done X rfl rfl rfl calm i pins u τ Gu X.xe Ju (foot fu) tu z.1) fun r u1 y => ?_)
    obtain ⟨rfl, J1⟩ := y
    exact wpAny_execs_nil ⟨τ, Gu, J1, z.2⟩
  | inr z =>
    obtain ⟨on, Nx, dn, each⟩ := z
    refine wpAny_passesOwn own (thnT ku (T.item X rfl rfl rfl calm i pins u τ Gu X.xe Ju (foot fu) tu on) fun r u1 ku1 y => ?_)
    obtain ⟨x, rfl, y⟩ := y
    refine wpAny_passesOwn own (thnT ku1 y fun _ u2 ku2 y2 => ?_)
    obtain ⟨vx, G2, J2, rx, yl, t2, f2⟩ := y2
    have P2 := J2.pinned (foot f2) (T.obj _ _ t2)
    refine wpAny_passesOwn own (thnT ku2 (ptg.run _ u2 τ G2 vx x _ P2 rx (each vx G2 yl)) fun _ u3 ku3 y3 => ?_)
    obtain ⟨τ3, G3, J3, q3⟩ := y3
    refine wpAny_passesOwn own (thnT ku3 (pb _ u3 τ3 G3 _ ku3 J3 q3) fun fl u4 ku4 y4 => ?_)
    have next : ∀ {τ4 : L2.St} {G4 : Hp}, Inv X (pins ++ pinsAt fp u2.heap) τ4 G4 u4 → Nx τ4 G4 → ∃ m, m < n ∧ Btw X pins fp tn W m u4 := fun {τ4 G4} J4 n4 => by
      obtain ⟨m', lt, w4⟩ := dn τ4 G4 n4
      have pin : ∀ b ∈ fp, ∀ o, u2.heap.get? b = some o → u4.heap.get? b = some o ∧ G4 b = none := fun b hb o eo => by
        have z := J4.pin (b, o) (List.mem_append_right _ (List.mem_append_right _ (mem_pinsAt hb eo)))
        exact ⟨z.1, z.2.1⟩
      refine ⟨m', lt, ku4, i + 1, τ4, G4, J4.unpinned, T.keep _ _ _ t2 fun b hb o eo => (pin b hb o eo).1, fun b hb => ?_, w4⟩
      obtain ⟨o, eo, _⟩ := T.obj _ _ t2 b hb
      exact (pin b hb o eo).2
    cases fl with
    | next =>
      obtain ⟨_, _, J4, n4⟩ := y4
      exact next J4 n4
    | cont =>
      obtain ⟨_, _, J4, n4⟩ := y4
      exact next J4 n4
    | brk =>
      obtain ⟨τ4, G4, J4, n4⟩ := y4
      exact ⟨τ4, G4, J4.unpinned, n4⟩
    | ret v =>
      obtain ⟨x4, τ4, G4, J4, r4, n4⟩ := y4
      exact ⟨x4, τ4, G4, J4.unpinned, r4, n4⟩
theorem sst_for {t : Tgt} {it : IF} {g : SF} {tg iter : Expr} {body : List Stmt} (own : PassesOwn (model X.prog X.w) X.A X.env X.xe) (calm : X.calm = true) (pit : SI X W tg iter it) (ptg : L2.PG X tg (gT X.K t)) (pb : SSsT X W body g)
    (nf : ∀ x, foldedSetIterable iter X.env x = pure x := by intro _; rfl) : SST X W (.For tg iter body [] pos) (sFor t it g) := PST.mono (pst_forT own calm pit ptg pb nf) fun _ _ _ h => for_mono h
end
/-! ### defs -/
structure FnOkT (P : Program) (w : World) (K : PySem.W.Frag) (mg : Str → Option Value) (base : Heap) (CX : CXT) (k : Nat) (f : Addr) (fd : FuncData) (ps : List Str) (sp : Sp) : Prop where
  many : ∀ vs H Q E, sp vs H Q E → vs.length = ps.length
  go : ∀ (A : Around) (above : List PySem.Env) (s : Shared) (G : Hp) (args : Args) (us : List Value) (vs : List V) (Q : VK) (E : XK), 1 ≤ s.toks → Room k A → Env0 P w K mg base A above s G → BindsTo s fd args (ps.zip us) → Vals vs us → sp vs G Q E →
    codeAny (model P w) A (.call (.ref f) args) (CR CX above P w G s Q E) s
section
variable {P : Program} {w : World} {K : PySem.W.Frag} {mg : Str → Option Value} {base : Heap} {x qual : Str} {params : Arguments} {body : List Stmt} {scope : Scope} {f : Addr} {fd : FuncData} {N ps : List Str} {k : Nat} {g : SF}
theorem FnOkT.of {CX : CXT} {sp : Sp} (F : FnOk P w K mg base CX k f fd ps sp) : FnOkT P w K mg base CX k f fd ps sp := ⟨F.len, fun A above s G args us vs Q E _ => F.run A above s G args us vs Q E⟩
theorem fn_okT (F : FunD K x qual params body scope [] [] f fd) (S : FnScope N ps scope)
    (hb : ∀ (cdv : Value) (A : Around) (above : List PySem.Env) (s : Shared) (H : Hp) (E : XK), Room k (A.deeper (PyProof.Rows.envOfC qual scope s.heap.objs.size f cdv)) → SSsT (cxOf (L2.CX P w) P w K mg base N qual scope f cdv A above s H E) (WD E) body g) :
    FnOkT P w K mg base (L2.CX P w) (k + 1) f fd ps (spF ⟨P, w, K⟩ ps.length (runF ps.length N.length g)) := by
  obtain ⟨c0, c1, c2, c3, c4, c5, c6, code, c7, c8, rfl, held, made, _, _⟩ := F.ex
  refine ⟨fun _ _ _ _ h => h.1, fun A above s G args us vs Q E tok room env bind vals spec => ?_⟩
  have many : vs.length = ps.length := spec.1
  have old : ∀ b o, base.get? b = some o → s.heap.get? b = some o := fun b o z => (env.bs b o z).1
  have frag : K.In s.heap := env.mod.kin.keeps old
  have kinds : ∀ y ∈ ps.zip us, scope.names.lookup y.1 = some .local ∨ (scope.names.lookup y.1 = some .cell ∧ ((cellsFrom (s.heap.objs.size + 1) scope.names []).lookup y.1).isSome = true) := by
    rintro ⟨n, v⟩ hy
    exact (S.par n (List.of_mem_zip hy).1).imp id fun c => ⟨c, PySem.W.cellsFrom_some _ _ _ (.inl c)⟩
  refine codeAny_call_function room.depth (frag _ _ held) rfl S.co S.gen rfl (PySem.W.codeRec_of frag made) (bind _ _ _ _ (wpAny_with_toks tok (wpAny_newFunctionEnv_cells S.kind kinds ?_)))
  rintro _ rfl s1 start tok1
  have J : Inv (cxOf (L2.CX P w) P w K mg base N qual scope f code A above s G E) [] (L2.start N vs) G s1 := inv_start S room.hd env many vals start
  refine ⟨(env.mod.nolimit.keeps old).keeps start.toInCall.keep, codeAny_func (wpAny_mono (hb code A above s G E (room.deeper _) [] s1 _ G _ tok1 J (fn_core S spec)) (fun fl s2 z => ?_) fun _ _ z => z)⟩
  cases fl with
  | ret u =>
    obtain ⟨y, τ, G2, J2, ry, q⟩ := z
    exact ⟨y, G2, J2.os, J2.bare, J2.base, J2.hok, ry, q⟩
  | next =>
    obtain ⟨τ, G2, J2, q⟩ := z
    exact ⟨V.non, G2, J2.os, J2.bare, J2.base, J2.hok, rfl, q⟩
  | brk => exact z.elim fun _ z => z.elim fun _ z => z.2.elim
  | cont => exact z.elim fun _ z => z.elim fun _ z => z.2.elim
end
/-! ### calls of defs -/
section
variable {X : Cx} {W : WX} {a : Expr} {es : List Expr} {fs : List EF} {pos : Pos}
theorem go_fnT {k : Nat} {f : Addr} {fd : FuncData} {ps : List Str} {sp : Sp} {pins : List (Addr × Obj)} {σ : L2.St} {H : Hp} {s : Shared} {Q : VK} {us : List Value} {vs : List V} (F : FnOkT X.prog X.w X.K X.mg X.base (L2.CX X.prog X.w) k f fd ps sp) (h0 : 1 ≤ s.toks) (room : Room k X.A) (hb : Binds X.K fd ps []) (tk : Takes X W)
    (J : Inv X pins σ H s) (r : Vals vs us) (h : sp vs H Q (WE W σ)) : wpAny (model X.prog X.w) X.A (call (.ref f) us) (EP X pins σ Q) X.xe s := by
  have hl : (us ++ []).length = ps.length := by rw [List.append_nil, ← r.length]; exact F.many _ _ _ _ h
  have b := hb s us J.kIn hl
  rw [List.append_nil] at b
  refine wpAny_call (codeAny_mono (F.go X.A X.stack s H ⟨us, []⟩ us vs Q _ h0 room J.env0 b r h) fun res s' z => ?_)
  match res, z with
  | .error e, z => exact passAt tk σ pins H s e s' J z
  | .ok (.ret u), z => exact J.after z
  | .ok .next, z => exact z.elim
  | .ok .brk, z => exact z.elim
  | .ok .cont, z => exact z.elim
theorem set_call {k kk : Nat} {φ : Fn} {f : Addr} {fd : FuncData} {ps : List Str} {x : Str} {p : Pos} (F : FnOkT X.prog X.w X.K X.mg X.base (L2.CX X.prog X.w) kk f fd ps (spF (tx X) k φ)) (hk : ∀ slots z, φ slots = some z → slots.length = k) (hr : Room kk X.A) (hg : Gl X x) (hm : X.mg x = some (.ref f)) (hkp : PySem.W.keepIn X.K (.ref f) = true) (hb : Binds X.K fd ps []) (tk : Takes X W)
    (ha : SAT X W (a :: es) fs) (hdb : (x == ("__debug__" : Str)) = false := by decide) (he : starEach (a :: es) X.env = (false, eval a X.env) :: starEach es X.env := by rfl) (hpl : (backTo pos (starEach es X.env)).any (·.1) = false := by rfl) :
    SET X W (.Call (.Name x p) (a :: es) [] pos) (sCall φ fs) := by
  refine PET.mono (te := tCallS (spF (tx X) k φ) (WE W) (aR (tx X) W fs)) ?_ fun _ _ _ h => call_mono hk h
  intro pins s σ H Q h0 J h
  refine wpAny_Call_Name_kw (ld_glob J hg hm (PySem.W.callWith_K (h₀ := X.base) J.ok.mod.kin hkp (thnT h0 (ha pos pins s σ H _ h0 J h) fun us s1 h1 z => ?_) he hpl) hdb)
  obtain ⟨vs, H1, J1, r, q⟩ := z
  exact ⟨J1.kIn, go_fnT F h1 hr hb tk J1 r q⟩
end
end Lw

end
section
set_option Elab.async false
set_option linter.all false
set_option maxRecDepth 100000
set_option maxHeartbeats 4000000
set_option autoImplicit false
/-! Lw: comprehensions where a token is out. -/
namespace Lw
open PySem PySem.Spec PyProof.Rows L2 CwR
/-- the tests behind a for -/
def PTsT (X : Cx) (es : List Expr) (t : TT) : Prop := ∀ (pins : List (Addr × Obj)) (s : Shared) (σ : L2.St) (H : Hp) (Q : Bool → Hp → Prop), 1 ≤ s.toks → Inv X pins σ H s → t σ H Q →
  wpAny (model X.prog X.w) X.A (forIn es true fun c r => if r = true then do let ok ← isTrue c X.env (eval c X.env); pure (ForInStep.yield ok) else pure (ForInStep.yield r)) (TP X pins σ Q) X.xe s
theorem ptst_of {X : Cx} {es : List Expr} {t : TT} (h : PTs X es t) : PTsT X es t := fun pins s σ H Q _ J q => h.run pins s σ H Q J q
theorem ptst_one {X : Cx} {c : Expr} {t : TT} (h : PTT X c t) : PTsT X [c] t := fun pins s σ H Q k J q => wpAny_tests_one (h pins s σ H Q k J q)
/-- nothing is let out, tokens kept -/
theorem thnN {α : Type} {t : Sem α} {Q Q' : α → Shared → Prop} {M : Model} {A : Around} {E : Value → Shared → Prop} {s : Shared} {n : Nat} (hn : n ≤ s.toks) (h : wpAny M A t Q (fun _ _ => False) s) (hQ : ∀ a s1, n ≤ s1.toks → Q a s1 → Q' a s1) : wpAny M A t Q' E s :=
  wpAny_mono (PySem.wpAny_toks_of hn h) (fun a s1 q => hQ a s1 q.1 q.2) fun _ _ z => z.2.elim
/-- a block between two turns: its names wiped -/
structure BtwB (B : Cx) (τ : L2.St) (fp : List Addr) (tn : Nat → Heap → Prop) (W : Nat → Nat → Hp → Prop) (n : Nat) (s : Shared) : Prop where
  tok : 1 ≤ s.toks
  rest : ∃ i G, Inv B [] τ G s ∧ tn i s.heap ∧ (∀ b ∈ fp, G b = none) ∧ W i n G
section
variable {B : Cx} {τ : L2.St} {fp : List Addr} {tn : Nat → Heap → Prop} {W : Nat → Nat → Hp → Prop} {Nx : Hp → Prop} {n i : Nat} {is : List Nat}
/-- a turn's end -/
theorem BtwB.next {σ1 : L2.St} {G : Hp} {s s1 : Shared} (k : 1 ≤ s1.toks) (J : Inv B ([] ++ pinsAt fp s.heap) σ1 G s1) (ew : L2.wipe σ1 is = L2.wipe τ is) (dn : ∀ G', Nx G' → ∃ m', m' < n ∧ W (i + 1) m' G') (nx : Nx G)
    (there : ∀ b ∈ fp, ∃ o, s.heap.get? b = some o ∧ ∀ v, o.data ≠ .cell v) (keep : (∀ b ∈ fp, ∀ o, s.heap.get? b = some o → s1.heap.get? b = some o) → tn (i + 1) s1.heap) : ∃ m, m < n ∧ BtwB B (L2.wipe τ is) fp tn W m s1 := by
  obtain ⟨m, lt, w⟩ := dn G nx
  have pin : ∀ b ∈ fp, ∀ o, s.heap.get? b = some o → s1.heap.get? b = some o ∧ G b = none := fun b hb o eo => by
    have z := J.pin (b, o) (List.mem_append_right _ (List.mem_append_right _ (mem_pinsAt hb eo)))
    exact ⟨z.1, z.2.1⟩
  have J0 : Inv B [] σ1 G s1 := J.unpinned (pins := [])
  refine ⟨m, lt, k, i + 1, G, J0.weak (by rw [← ew, wipe_length]) (fun j v e => ?_), keep fun b hb o eo => (pin b hb o eo).1, fun b hb => ?_, w⟩
  · rw [← ew] at e
    exact (wipe_some e).1
  · obtain ⟨o, eo, _⟩ := there b hb
    exact (pin b hb o eo).2
end
section
variable {X : Cx} {W : WX}
theorem pet_lc {elt tg iter : Expr} {ifs : List Expr} {scope : Scope} {own : List (Str × Nat)} {pos : Pos} {wi : TI} {g : TG} {tt : TT} {te : TE} (calm : X.calm = true) (nd : X.N.Nodup) (pit : PI X tg iter wi) (ok : BlkOk X.N X.env.scope scope own)
    (ptg : ∀ (s : Shared) (H : Hp) (C : Addr) (cl : List (Str × Addr)) (fp : List Addr), L2.PG (X.blk s H scope (compEnvC scope cl C X.env) fp) tg g) (ptt : ∀ (s : Shared) (H : Hp) (C : Addr) (cl : List (Str × Addr)) (fp : List Addr), PTsT (X.blk s H scope (compEnvC scope cl C X.env) fp) ifs tt)
    (pel : ∀ (s : Shared) (H : Hp) (C : Addr) (cl : List (Str × Addr)) (fp : List Addr), PET (X.blk s H scope (compEnvC scope cl C X.env) fp) elt te) (nf : ∀ x, foldedSetIterable iter X.env x = pure x := by intro _; rfl) :
    PET X (.ListComp elt [⟨tg, iter, ifs, 0⟩] scope pos) (tLc wi g tt te (own.map (·.2))) := by
  intro pins s0 σ G0 Q k0 J0 q0
  rw [eval_ListComp]
  have cellsOf : ∀ y ∈ scope.names, y.2 = .free → ∃ c, X.env.cells.lookup y.1 = some c := fun y hy e =>
    (ok.free y hy e).elim (fun c => J0.ok.has _ (.inl c)) fun c => J0.ok.has _ (.inr c)
  refine wpAny_comprehension_free (use := none) rfl nf (closure_ok cellsOf) ok.kind (fun y hy e => by rw [ok.uniq y hy, e]) (thnT k0 (pit.run pins s0 σ G0 _ J0 q0) fun _ _ k1 q1 => thnT k1 q1 fun _ s2 k2 q2 => ?_)
  obtain ⟨at_, fp, tn, It, G2, rfl, J2, T, st2, ff, todo⟩ := q2
  refine wpAny_newObj_type (newEnv_comp ?_) (Nat.zero_le _)
  -- the list that is made
  have fresh2 : G2 s2.heap.objs.size = none := J2.hok.fresh (Nat.le_refl _)
  obtain ⟨Wd, ⟨m, w0⟩, go⟩ := todo _ fresh2
  have small : ∀ b ∈ fp, b < s2.heap.objs.size := fun b hb => by
    obtain ⟨o, eo, _⟩ := T.obj _ _ st2 b hb
    exact Heap.lt_size eo
  obtain ⟨u, eu⟩ : ∃ u : Shared, u = { s2 with heap := s2.heap.push { cls := .type "list", data := .seq ([] : List Value).toArray } } := ⟨_, rfl⟩
  have ku : 1 ≤ u.toks := by rw [eu]; exact k2
  have hu : u.heap = s2.heap.push { cls := .type "list", data := .seq ([] : List Value).toArray } := by rw [eu]
  obtain ⟨GL, eG⟩ : ∃ GL : Hp, GL = upd G2 s2.heap.objs.size (.lst []) := ⟨_, rfl⟩
  have Ju : Inv X pins σ GL u := by
    rw [eG, eu]
    exact J2.laid (t' := s2.toks) (fun _ _ z => Heap.get?_push_of_some _ z) (Nat.le_refl _) ⟨Nat.zero_le _, [], 0, .nil, Heap.get?_push_size _ rfl⟩
  have fu : ∀ b ∈ fp, FpOk X pins GL b ∧ b < u.heap.objs.size := fun b hb => by
    have lt := small b hb
    refine ⟨⟨?_, (ff b hb).2⟩, by rw [hu, Heap.size_push]; exact Nat.lt_succ_of_lt lt⟩
    rw [eG, upd_ne (Nat.ne_of_lt lt)]
    exact (ff b hb).1
  have stu : tn 0 u.heap := T.keep _ _ _ st2 fun b _ o z => by rw [hu]; exact Heap.get?_push_of_some _ z
  rw [← eG] at w0
  have Jb := block_start Ju ok nd fu
  -- the block
  obtain ⟨env, ee⟩ : ∃ env, env = compEnvC scope (cellsFrom (u.heap.objs.size + 1) scope.names (cloFrom X.env.cells scope.names [])) u.heap.objs.size X.env := ⟨_, rfl⟩
  have pg := ptg u GL u.heap.objs.size (cellsFrom (u.heap.objs.size + 1) scope.names (cloFrom X.env.cells scope.names [])) fp
  have pt := ptt u GL u.heap.objs.size (cellsFrom (u.heap.objs.size + 1) scope.names (cloFrom X.env.cells scope.names [])) fp
  have pe := pel u GL u.heap.objs.size (cellsFrom (u.heap.objs.size + 1) scope.names (cloFrom X.env.cells scope.names [])) fp
  rw [← ee] at Jb pg pt pe
  have eL : env.locals = u.heap.objs.size := by rw [ee]; rfl
  obtain ⟨v, ev⟩ : ∃ v : Shared, v = { u with heap := pushCells (u.heap.push { cls := .type "dict", data := .dict #[] }) scope.names } := ⟨_, rfl⟩
  have kv : 1 ≤ v.toks := by rw [ev]; exact ku
  rw [← ev] at Jb
  have stv : tn 0 v.heap := T.keep _ _ _ stu fun b _ o z => by rw [ev]; exact pushCells_keeps _ _ _ _ (Heap.get?_push_of_some _ z)
  suffices fin : codeAny (model X.prog X.w) X.A (.compStart (.ListComp elt [⟨tg, iter, ifs, 0⟩] scope pos) 0 (.ref at_) (.ref s2.heap.objs.size) env) (compPost (model X.prog X.w) X.A X.xe none (EP X pins σ Q) (.ref s2.heap.objs.size) u.heap.objs.size) v by
    rw [ev, ee] at fin
    rw [← eu]
    exact fin
  clear ee ev eu
  have foot : ∀ {τ' : L2.St} {G' : Hp} {s' : Shared}, Inv (X.blk u GL scope env fp) [] τ' G' s' → (∀ b ∈ fp, G' b = none) → ∀ b ∈ fp, FpOk (X.blk u GL scope env fp) [] G' b := fun {τ' G' s'} J z b hb =>
    ⟨z b hb, (J.ok.exf b hb).1, J.ok.exfs b hb, .inl hb, (J.ok.exf b hb).2, fun p hp => absurd hp (List.not_mem_nil (a := p))⟩
  have loop : codeAny (model X.prog X.w) X.A (.compLoop (.ListComp elt [⟨tg, iter, ifs, 0⟩] scope pos) 0 (.ref at_) (.ref s2.heap.objs.size) env) (compPost (model X.prog X.w) X.A X.xe none (EP X pins σ Q) (.ref s2.heap.objs.size) u.heap.objs.size) v := by
    refine compLoop_any (BtwB (X.blk u GL scope env fp) (L2.wipe σ (own.map (·.2))) fp tn Wd) (fun n a z => ?_) m ⟨kv, 0, GL, Jb, stv, fun b hb => (fu b hb).1.1, w0⟩
    obtain ⟨ka, i, Ga, Ja, ta, fa, wa⟩ := z
    cases go i n Ga wa with
    | inl z =>
      refine thnF (T.done (X.blk u GL scope env fp) rfl rfl rfl calm i [] a _ Ga (fun _ _ => False) Ja (foot Ja fa) ta z.1) fun r b y => ?_
      obtain ⟨rfl, Jd⟩ := y
      -- out of the block
      have Jx : Inv X pins σ Ga b := Ju.call' (ch := fp) Jd.os Jd.base Jd.hok Jd.bare fun c hc => by
        obtain ⟨⟨_, f1, _, f3, f4, f5⟩, _⟩ := fu c hc
        exact ⟨f3, f1, f4, f5⟩
      have gone : Ga u.heap.objs.size = none := by
        have z : Ga env.locals = none := Jd.free
        rwa [eL] at z
      obtain ⟨mm, hn, _⟩ := Jd.loc
      have hn : b.heap.Ns env.locals mm := hn
      rw [eL] at hn
      obtain ⟨f0, f1, f2, f3, f4, f5⟩ := Ju.fpOk (Nat.le_refl _) gone
      exact ⟨mm, hn, fun h2 sb => ⟨.ref s2.heap.objs.size, Ga, Jx.turned (t' := b.toks) (fun c o hc e => (sb.2 c hc).trans e) f0 f1 f3 f4 f5, rfl, z.2⟩⟩
    | inr z =>
      obtain ⟨on, Nx, dn, each⟩ := z
      refine thnN ka (T.item (X.blk u GL scope env fp) rfl rfl rfl calm i [] a _ Ga (fun _ _ => False) Ja (foot Ja fa) ta on) fun r b kb y => ?_
      obtain ⟨x, rfl, y⟩ := y
      refine thnN kb y fun _ c kc y2 => ?_
      obtain ⟨vx, Gc, Jc, rx, yl, tc, fc⟩ := y2
      have Pc := Jc.pinned (foot Jc fc) (T.obj _ _ tc)
      refine thnN kc (pg.run _ c _ Gc vx x _ Pc rx (each vx Gc yl)) fun _ d kd y3 => ?_
      obtain ⟨σd, Gd, Jd, ew, qd⟩ := y3
      refine thnN kd (pt _ d σd Gd _ kd Jd qd) fun yes e ke y4 => ?_
      obtain ⟨Ge, Je, qe⟩ := y4
      have turn : ∀ {G' : Hp} {s' : Shared}, 1 ≤ s'.toks → Inv (X.blk u GL scope env fp) ([] ++ pinsAt fp c.heap) σd G' s' → Nx G' → ∃ m, m < n ∧ BtwB (X.blk u GL scope env fp) (L2.wipe σ (own.map (·.2))) fp tn Wd m s' := fun {G' s'} kz Jz nx => BtwB.next kz Jz ew dn nx (T.obj _ _ tc) fun kp => T.keep _ _ _ tc kp
      cases yes with
      | false => exact turn ke Je qe
      | true =>
        refine thnN ke (pe _ e σd Ge _ ke Je qe) fun val f kf y5 => ?_
        obtain ⟨vv, Gf, Jf, rv, acc, ha, hz, nx⟩ := y5
        exact wpAny_with_toks kf (L2.app_ok (X := X.blk u GL scope env fp) Jf ha hz rv fun h Jh kh => turn kh Jh nx)
  exact codeAny_compStart_list loop (T.self X.A 0 _ _ _ stv loop)
variable {tg iter elt : Expr} {ifs : List Expr} {scope : Scope} {own : List (Str × Nat)} {pos : Pos} {t : Tgt} {cl : List Nat} {it : IF} {tt te : EF}
theorem set_esh {a : Expr} {f : EF} (h : SET X W a f) : SET X W a (esh f) := by
  refine PET.mono h fun σ H Q q => ?_
  obtain ⟨env, F, B, r, env2, S, e, p⟩ := q
  refine run_cut S e p fun o env1 H1 F1 B1 x e1 S1 G1 x1 p1 => ?_
  cases o with
  | shr v => cases e1; exact p1 H1 F1 B1 S1 .refl x x1
  | new v =>
    cases e1
    obtain ⟨b, fp, rfl, h2, h3⟩ := x1
    have n : ∀ b ∈ fp, B1 b = none := fun b hb => (h3 b hb).2.1
    exact p H1 F1 _ (S1.add n fun b hb => (h3 b hb).2.2) (G1.add n fun b hb => (h3 b hb).1) _ (h2.rep (addK_same n) fun b hb => addK_in hb)
  | var i =>
    unfold efix at e1
    dsimp only at e1
    split at e1
    · rename_i v hv
      cases e1
      have S2 := S1.freeze hv
      obtain ⟨y, h1, h2⟩ := S2.shr i v (List.getElem?_set_self (lt_of_get hv))
      have x1' : σ[i]? = some (some x) := x1
      rw [h1] at x1'
      cases x1'
      exact p1 H1 _ _ S2 (Go.freeze S1 hv) _ h2
    · cases e1
theorem set_lc (calm : X.calm = true) (nd : X.N.Nodup) (hi : SI X W tg iter it) (ok : BlkOk X.N X.env.scope scope own)
    (hg : ∀ (s : Shared) (H : Hp) (C : Addr) (cs : List (Str × Addr)) (fp : List Addr), L2.PG (X.blk s H scope (compEnvC scope cs C X.env) fp) tg (gT X.K t)) (ht : ∀ (s : Shared) (H : Hp) (C : Addr) (cs : List (Str × Addr)) (fp : List Addr), PTsT (X.blk s H scope (compEnvC scope cs C X.env) fp) ifs (tG (tx X) W0 tt))
    (he : ∀ (s : Shared) (H : Hp) (C : Addr) (cs : List (Str × Addr)) (fp : List Addr), SET (X.blk s H scope (compEnvC scope cs C X.env) fp) W0 elt te) (hcl : own.map (·.2) = cl) (hsub : ∀ i ∈ t.is, i ∈ cl) (nf : ∀ x, foldedSetIterable iter X.env x = pure x := by intro _; rfl) :
    SET X W (.ListComp elt [⟨tg, iter, ifs, 0⟩] scope pos) (sLC t cl it tt te) := by
  refine PET.mono (pet_lc (tt := tG (tx X) W0 tt) (te := eG (tx X) W0 (esh te)) calm nd hi ok hg ht (fun s H C cs fp => set_esh (he s H C cs fp)) nf) fun σ H Q q => ?_
  rw [hcl]
  exact lc_mono hsub q
end
end Lw

end
section
set_option Elab.async false
set_option linter.all false
set_option maxRecDepth 100000
set_option maxHeartbeats 4000000
set_option autoImplicit false
/-! Lw: a def that calls itself; methods that change their instance. -/
namespace Lw
open PySem PySem.Spec PyProof.Rows L2 CwR
/-- where no step is left, nothing is promised -/
theorem fn_none {P : Program} {w : World} {K : PySem.W.Frag} {mg : Str → Option Value} {base : Heap} {CX : CXT} {k m : Nat} {f : Addr} {fd : FuncData} {ps : List Str} : FnOk P w K mg base CX k f fd ps (spF ⟨P, w, K⟩ m fun _ => none) :=
  ⟨fun vs H Q E h => (by
    obtain ⟨_, _, _, _, _, _, _, _, e, _⟩ := h
    cases e), fun _ _ _ _ _ _ _ _ _ _ _ _ _ h => (by
    obtain ⟨_, _, _, _, _, _, _, _, e, _⟩ := h
    cases e)⟩
/-! ### methods of one's own instance -/
def sCallIO (c m : Str) (φ : Fn) (i : Nat) (fs : List EF) : EF := fun env => match own? env i with
  | some (.ins c' ns _) => if c' = c ∧ m ∉ ns then sCall φ (sVar i :: fs) env else none
  | _ => none
def tMethIO (C : Addr) (m : Str) (sp : Sp) (E : L2.St → XK) (i : Nat) (ta : TA) : TE := fun σ H Q => ∃ a dx fl, σ[i]? = some (some (.ref a)) ∧ H a = some (.ins C dx fl) ∧ fl.lookup m = none ∧ ta σ H fun vs H1 => sp (.ref a :: vs) H1 Q (E σ)
section
variable {X : Cx} {W : WX} {fs : List EF} {c m : Str} {φ : Fn} {i k : Nat}
theorem methIO_mono {σ : L2.St} {H : Hp} {Q : VK} (hk : ∀ slots z, φ slots = some z → slots.length = k) (h : eG (tx X) W (sCallIO c m φ i fs) σ H Q) : tMethIO (He.ga X.K c) m (spF (tx X) k φ) (WE W) i (aR (tx X) W fs) σ H Q := by
  obtain ⟨env, F, B, r, env2, S, e, p⟩ := h
  unfold sCallIO at e
  split at e
  · rename_i c' ns vs ho
    split at e
    · rename_i hc
      obtain ⟨ec, hm⟩ := hc
      subst ec
      obtain ⟨a, h1, h2⟩ := S.own i _ ho
      have q : eG (tx X) W (sCall φ (sVar i :: fs)) σ H Q := ⟨env, F, B, r, env2, S, e, p⟩
      have q := call_mono hk q
      have q : eG (tx X) W (sVar i) σ H (fun x H1 => aR (tx X) W fs σ H1 fun vs H2 => spF (tx X) k φ (x :: vs) H2 Q (WE W σ)) := q
      obtain ⟨env', F', B', r', env2', S', e', p'⟩ := q
      obtain ⟨x, o, hx, rfl, rfl, ho'⟩ := S'.var (Hs := H) e'
      have q := p' H F' B' S' .refl x ho'
      have ex : x = .ref a := by
        rw [h1] at hx
        cases hx
        rfl
      subst ex
      generalize hF : F i = fp at h2
      cases h2 with
      | @ins _ _ dx fl _ _ _ fp g1 g2 g3 g4 na =>
        subst g2
        exact ⟨a, dx, fl, h1, g1, look_none (by rw [g3]; exact hm), q⟩
    · cases e
  · cases e
theorem set_methIO {kk : Nat} {o a : Expr} {es : List Expr} {pos apos : Pos} {pl : Sem Bool} {g : Addr} {fd : FuncData} {ps : List Str} (ho : PE X o (tVar i)) (hm : Meth X.K (He.ga X.K c) m g) (hc : Cls X.K (He.ga X.K c)) (F : FnOkT X.prog X.w X.K X.mg X.base (L2.CX X.prog X.w) kk g fd ps (spF (tx X) k φ)) (hk : ∀ slots z, φ slots = some z → slots.length = k) (room : Room kk X.A) (hb : Binds X.K fd ps []) (tk : Takes X W)
    (ha : SAT X W (a :: es) fs)
    (hst : starEach (a :: es) X.env = (false, eval a X.env) :: starEach es X.env := by rfl) (hpl : (backTo pos (starEach es X.env)).any (·.1) = false := by rfl)
    (ht : eval (.Call (.Attribute o m apos) (a :: es) [] pos) X.env = (do
      let ov ← eval o X.env
      standAt apos.atName
      let (f, first) ← holding [ov] (getMethod ov m pl)
      callWith pos f first (backTo pos (starEach (a :: es) X.env)) (backToKw pos (keywordEach [] X.env))) := by rfl) :
    SET X W (.Call (.Attribute o m apos) (a :: es) [] pos) (sCallIO c m φ i fs) := by
  refine PET.mono (te := tMethIO (He.ga X.K c) m (spF (tx X) k φ) (WE W) i (aR (tx X) W fs)) ?_ fun σ H Q h => methIO_mono hk h
  intro pins s σ H Q h0 J h
  obtain ⟨b, dx, fl, e1, e2, e3, q⟩ := h
  refine PySem.W.methodCall_KW (pl := pl) (thnT h0 (ho.run pins s σ H (fun x H1 => x = .ref b ∧ H1 = H) J ⟨.ref b, e1, rfl, rfl⟩) fun u s1 h1 z => ?_) ht
  obtain ⟨x, H1, J1, rx, rfl, rfl⟩ := z
  obtain rfl : u = Value.ref b := rx
  refine getmeth_ok J1 e2 hc hm e3 ?_
  refine PySem.W.callWith_K (first := [.ref b]) (h₀ := X.base) J1.ok.mod.kin hm.kp (thnT h1 (ha pos pins s1 σ H1 _ h1 J1 q) fun us s2 h2 z => ?_) hst hpl
  obtain ⟨vs, H2, J2, r, q2⟩ := z
  exact ⟨J2.kIn, go_fnT (us := .ref b :: us) (vs := .ref b :: vs) F h2 room hb tk J2 (.cons rfl r) q2⟩
end
/-! ### i.f[k] = v, the key wanting a token -/
section
variable {X : Cx} {W : WX} {fk fv : EF} {c f : Str}
theorem sst_setFD {r : TSet} {st : Val → Val → Val → Option Val} (hp : PSet X r) (hst : StS (tx X) r st) {i : Nat} {o ix e : Expr} {tpos apos pos : Pos} (hc : Cls X.K (He.ga X.K c)) (hn : NoAttr X.K (He.ga X.K c) f) (ho : PE X o (tVar i)) (hi : SET X W ix fk) (he : SE X W e fv)
    (hb : attributeBase o f X.env (eval o X.env) = eval o X.env := by rfl)
    (hg : ∀ v, assign (.Subscript (.Attribute o f apos) ix tpos) X.env v = (do
      let ov ← holding [v] (eval (.Attribute o f apos) X.env)
      let iv ← holding [v, ov] (eval ix X.env)
      standAt tpos
      holding [v, ov, iv] (setItem ov iv v)
      release [v, ov, iv] []) := by intro _; rfl)
    (hs : swapsWithSole [.Subscript (.Attribute o f apos) ix tpos] e pos.line X.env = pure false := by rfl) (hw : swappedStores [.Subscript (.Attribute o f apos) ix tpos] e X.env = pure none := by rfl)
    (h1 : (assignEach [.Subscript (.Attribute o f apos) ix tpos] X.env).map (·.2) = [assign (.Subscript (.Attribute o f apos) ix tpos) X.env] := by rfl) :
    SST X W (.Assign [.Subscript (.Attribute o f apos) ix tpos] e pos) (sSetFD st i c f fk fv) := by
  refine PST.mono (t := tAsg (eG (tx X) W (esh fv)) (gSub (tFld X.K (tVar i) f) (eG (tx X) W (esh fk)) r)) ?_ fun _ _ _ h => setFD_mono (T := tx X) hst hc hn h
  intro pins s σ H D k0 J h
  refine wpAny_Assign_stores (thnT k0 ((se_esh he).run pins s σ H _ J h) fun v s1 k1 z => ?_) hs hw
  obtain ⟨x, H1, J1, r1, q1⟩ := z
  have key : wpAny (model X.prog X.w) X.A (assign (.Subscript (.Attribute o f apos) ix tpos) X.env v) (fun _ s' => ∃ σ' H', Inv X pins σ' H' s' ∧ D.nx σ' H') X.xe s1 := by
    rw [hg]
    refine wpAny_bind (wpAny_holding (thnT k1 ((pe_fld ho hb).run pins s1 σ H1 _ J1 q1) fun ov s2 k2 z2 => ?_))
    obtain ⟨y, H2, J2, r2, q2⟩ := z2
    refine wpAny_bind (wpAny_holding (thn ((set_esh hi) pins s2 σ H2 _ k2 J2 q2) fun iv s3 z3 => ?_))
    obtain ⟨kk, H3, J3, r3, q3⟩ := z3
    refine wpAny_bind (wpAny_standAt (wpAny_bind (wpAny_holding (thn (hp pins s3 σ H3 y kk x ov iv v _ J3 r2 r3 r1 q3) fun _ s4 z4 => ?_))))
    obtain ⟨H4, J4, q4⟩ := z4
    exact wpAny_release ⟨σ, H4, J4, q4⟩
  rw [h1]
  exact thn key fun _ s2 q => q
/-- len(i.f), the field a dict of its own -/
def sLenFD (i : Nat) (c f : Str) : EF := fun env => match own? env i with
  | some (.ins c' ns vs) => if c' = c then (match oneD f ns vs with
    | some (ks, ws) => if isNs ks = false ∧ ks.length ≤ 1000000 then some (.val (.shr (.int (ks.length : Nat))), env) else none
    | none => none) else none
  | _ => none
theorem se_lenFD {i : Nat} {o : Expr} {p apos pos : Pos} (hg : Gl X "len") (hm : X.mg "len" = none) (hc : Cls X.K (He.ga X.K c)) (hn : NoAttr X.K (He.ga X.K c) f) (ho : PE X o (tVar i)) (hb : attributeBase o f X.env (eval o X.env) = eval o X.env := by rfl)
    (na : starEach [.Attribute o f apos] X.env = (false, eval (.Attribute o f apos) X.env) :: starEach [] X.env := by rfl) : SE X W (.Call (.Name "len" p) [.Attribute o f apos] [] pos) (sLenFD i c f) := by
  refine PE.mono (t := fun σ H Q => tFld X.K (tVar i) f σ H fun x H1 => ∃ b kvs, x = .ref b ∧ H1 b = some (.dK kvs) ∧ Q (.int (kvs.length : Nat)) H1) ?_ fun σ H Q h => ?_
  · refine ⟨fun pins s σ H Q J h => ?_⟩
    refine wpAny_Call_Name_kw (ld_blt J hg hm PySem.boot_len ?_)
    refine PyProof.Rows.callWith_builtin1 (PyProof.Rows.args_cons (thn ((pe_fld ho hb).run pins s σ H _ J h) fun v s1 z => PyProof.Rows.args_nil ?_) na) na rfl
    obtain ⟨x, H1, J1, r1, b, kvs, rfl, e, q⟩ := z
    obtain rfl : v = Value.ref b := r1
    exact d_len J1 (Rd.of e) fun t s' J2 => ⟨.int (kvs.length : Nat), H1, J2, ⟨t, rfl⟩, q⟩
  · obtain ⟨env, F, B, r, env2, S, e, p⟩ := h
    unfold sLenFD at e
    split at e
    · rename_i c' ns vs hown
      split at e
      · rename_i ec
        subst ec
        split at e
        · rename_i ks ws hd
          split at e
          · rename_i hk
            cases e
            obtain ⟨a, h1, h2⟩ := S.own i _ hown
            generalize hF : F i = fp at h2
            cases h2 with
            | @ins _ _ dx fl _ _ _ fp g1 g2 g3 g4 na =>
              subst g2
              obtain ⟨b, ob, kys, vys, _, lb, hb1, hd1, r1, _, _⟩ := fld_one g3 g4 hd
              refine ⟨.ref a, h1, a, _, _, _, _, rfl, g1, hc, hn, lb, ?_⟩
              rcases hd1 with ⟨kvs, rfl, rfl, rfl⟩ | ⟨ob2, xs, _, rfl, _, _, _⟩
              · have el : kvs.length = ks.length := by rw [← r1.length, List.length_map]
                refine ⟨b, kvs, rfl, hb1, ?_⟩
                rw [el]
                exact p H F B S .refl _ (.int _)
              · exfalso
                cases r1 with
                | cons z _ =>
                  cases z
                  exact absurd hk.1 (by simp [isNs])
          · cases e
        · cases e
      · cases e
    · cases e
end
end Lw

end
section
set_option Elab.async false
set_option linter.all false
set_option maxRecDepth 100000
set_option maxHeartbeats 1600000
set_option autoImplicit false
/-! Lw: isinstance of two classes. -/
namespace Lw
open PySem PySem.Spec PyProof.Rows L2
def oIsiT : List Val → Option RV
  | [v, .tup [.ty n, .ty m]] => (match tyN v with
    | some t => (match kitB t n, kitB t m with
      | some b, some c => some (.shr (.bl (b || c)))
      | _, _ => none)
    | none => none)
  | _ => none
theorem os_isiT {T : Tx} : OpSn T (rIsiT T.K) oIsiT := by
  intro B H xs vs rv hs hx e Q hq
  unfold oIsiT at e
  split at e
  · rename_i v n m
    split at e
    · rename_i t ht
      split at e
      · rename_i b c hb hc
        cases e
        obtain ⟨x, y, rfl, h1, h2⟩ := hx.two
        obtain ⟨a, ys, rfl, h3, r⟩ := h2.tup hs
        have ey : ys = [.ty n, .ty m] := by
          cases r with
          | cons r1 r2 =>
            cases r2 with
            | cons r3 r4 =>
              cases r4
              cases r1
              cases r3
              rfl
        subst ey
        refine ⟨x, a, _, _, [.type n, .type m], b || c, rfl, h3, .cons (.ty n) (.cons (.ty m) .nil), tyN_ok hs h1 ht, ?_, same0 hs (.bl _) hq⟩
        have k1 : PySem.W.kitOne T.K (.type t) (.type n) = some b := kit_ty hb
        have k2 : PySem.W.kitOne T.K (.type t) (.type m) = some c := kit_ty hc
        show (match PySem.W.kitOne T.K (.type t) (.type n) with
          | some true => some true
          | some false => (match PySem.W.kitOne T.K (.type t) (.type m) with
            | some true => some true
            | some false => some false
            | none => none)
          | none => none) = _
        rw [k1, k2]
        cases b <;> cases c <;> rfl
      · cases e
    · cases e
  · cases e
end Lw

end
section
set_option Elab.async false
set_option linter.all false
set_option maxRecDepth 100000
set_option maxHeartbeats 1600000
set_option autoImplicit false
/-! Lw: d.get(k), d.get(k, x) of int or text keys; a display of two entries. -/
namespace Lw
open PySem PySem.Spec PyProof.Rows L2
def sGetK1 (f fk : EF) : EF := ebind f fun od env1 => match od.get env1 with
  | some (.dct ks0 _) => if isNs ks0 = false then ebind (esh fk) (fun ok env => match od.get env, ok with
    | some (.dct ks vs), .shr q => (match atK ks vs q with
      | some o => some (.val (.shr (o.getD .non)), env)
      | none => none)
    | _, _ => none) env1 else none
  | _ => none
def sGetK2 (f fk fx : EF) : EF := ebind f fun od env1 => match od.get env1 with
  | some (.dct ks0 _) => if isNs ks0 = false then ebind (esh fk) (fun ok => ebind (esh fx) fun ox env => match od.get env, ok, ox with
    | some (.dct ks vs), .shr q, .shr v => (match atK ks vs q with
      | some o => some (.val (.shr (o.getD v)), env)
      | none => none)
    | _, _, _ => none) env1 else none
  | _ => none
section
variable {X : Cx} {W : WX} {f fk fx : EF} {a b c : Expr} {apos cpos : Pos}
theorem isD_of {T : Tx} {B H : Hp} (s : Same B H) {x : V} {ks vs : List Val} (h : OprR T B H x (.dct ks vs)) (hn : isNs ks = false) : ∃ d, x = .ref d ∧ IsD H d := by
  obtain ⟨d, o, kys, vys, rfl, hd, id0, r1, r2⟩ := h.dct s
  rcases id0 with ⟨kvs, rfl, rfl, rfl⟩ | ⟨ob, xs, rfl, rfl, rfl, _, _⟩
  · exact ⟨d, rfl, .inl ⟨kvs, Rd.of hd⟩⟩
  · obtain ⟨ks', rfl, _⟩ := ks_non r1
    cases hn
theorem ropt_getD {T : Tx} {B : Hp} {o : Option V} {o' : Option Val} {z : V} {v : Val} (ro : ROpt T B o o') (h : Rep T B z v) : Rep T B (o.getD z) (o'.getD v) := by
  cases o with
  | none =>
    cases o' with
    | none => exact h
    | some w => cases ro
  | some u =>
    cases o' with
    | none => cases ro
    | some w => exact ro
theorem se_getK1 (hu : X.A.units + 16 < cLine) (ho : SE X W a f) (he : SE X W b fk) (m : M1 X a "get" apos b cpos) : SE X W (.Call (.Attribute a "get" apos) [b] [] cpos) (sGetK1 f fk) := by
  refine PE.mono (pe_dget1 (by omega) ho (se_esh he) m) fun σ H Q q => ?_
  obtain ⟨env, F, B, r, env9, S, e, p⟩ := q
  refine run_cut S e p fun od env1 H1 F1 B1 x e1 S1 G1 x1 p1 => ?_
  try dsimp only at e1
  split at e1
  · rename_i ks0 vs0 h0
    split at e1
    · rename_i hn
      obtain ⟨d, rfl, hd⟩ := isD_of S1.sub (x1.opr S1 h0) hn
      refine ⟨d, rfl, hd, ?_⟩
      refine run_cut S1 e1 p1 fun ok env2 H2 F2 B2 y e2 S2 G2 y2 p2 => ?_
      try dsimp only at e2
      split at e2
      · rename_i ks vs q h3
        split at e2
        · rename_i o' ho'
          cases e2
          obtain ⟨hn2, k, e4, rfl⟩ := atK_some ho'
          have xo := (x1.go S1 S2 G2).opr S2 h3
          obtain ⟨a', o, e5, g, ro⟩ := xo.kget S2.sub hn2 (.inl y2) e4
          cases e5
          exact ⟨o, g, p2 H2 F2 B2 S2 .refl _ (ropt_getD ro .non)⟩
        · cases e2
      · cases e2
    · cases e1
  · cases e1
theorem se_getK2 (hu : X.A.units + 16 < cLine) (ho : SE X W a f) (he : SE X W b fk) (hf : SE X W c fx) (m : M2 X a "get" apos b c cpos) : SE X W (.Call (.Attribute a "get" apos) [b, c] [] cpos) (sGetK2 f fk fx) := by
  refine PE.mono (pe_dget2 (by omega) ho (se_esh he) (se_esh hf) m) fun σ H Q q => ?_
  obtain ⟨env, F, B, r, env9, S, e, p⟩ := q
  refine run_cut S e p fun od env1 H1 F1 B1 x e1 S1 G1 x1 p1 => ?_
  try dsimp only at e1
  split at e1
  · rename_i ks0 vs0 h0
    split at e1
    · rename_i hn
      obtain ⟨d, rfl, hd⟩ := isD_of S1.sub (x1.opr S1 h0) hn
      refine ⟨d, rfl, hd, ?_⟩
      refine run_cut S1 e1 p1 fun ok env2 H2 F2 B2 y e2 S2 G2 y2 p2 => ?_
      refine run_cut S2 e2 p2 fun ox env3 H3 F3 B3 z e3 S3 G3 z3 p3 => ?_
      try dsimp only at e3
      split at e3
      · rename_i ks vs q v h3
        split at e3
        · rename_i o' ho'
          cases e3
          obtain ⟨hn2, k, e4, rfl⟩ := atK_some ho'
          have xo := ((x1.go S1 S2 G2).go S2 S3 G3).opr S3 h3
          have yo : Rep (tx X) B3 y q := Rep.mono G3.kn y2
          obtain ⟨a', o, e5, g, ro⟩ := xo.kget S3.sub hn2 (.inl yo) e4
          cases e5
          exact ⟨o, g, p3 H3 F3 B3 S3 .refl _ (ropt_getD ro z3)⟩
        · cases e3
      · cases e3
    · cases e1
  · cases e1
end
/-- {k: v, l: w}: the keys differ -/
def sDct2K (fk fv gk gv : EF) : EF := ebind (esh fk) fun ok => ebind (esh fv) fun ov => ebind (esh gk) fun ol => ebind (esh gv) fun ow env => match ok, ov, ol, ow with
  | .shr q, .shr v, .shr r, .shr u => (match kq q, kq r with
    | some k, some l => if k = l then none else some (.val (.new (.dct [q, r] [v, u])), env)
    | _, _ => none)
  | _, _, _, _ => none
theorem se_dct2K {X : Cx} {W : WX} {a b c d : Expr} {fk fv gk gv : EF} {pos : Pos} (hk : SE X W a fk) (hv : SE X W b fv) (hl : SE X W c gk) (hw : SE X W d gv) : SE X W (.Dict [some a, some c] [b, d] pos) (sDct2K fk fv gk gv) := by
  refine PE.mono (pe_disp (pps_cons (se_esh hk) (se_esh hv) (pps_cons (se_esh hl) (se_esh hw) pps_nil)) rfl rfl (by simp) (by show 2 ≤ 15; decide)) fun σ H Q q p hp => ?_
  obtain ⟨env, F, B, r, env9, S, e, k⟩ := q
  have g0 := PG.fresh S.sub (HO.dK []) hp
  have S0 := g0.rs S
  have G0 : Go env σ H F B env σ (upd H p (.dK [])) F B := g0.go
  refine run_cut S0 e (k.shift S S0 G0) fun ok env1 H1 F1 B1 x e1 S1 G1 x1 p1 => ?_
  refine run_cut S1 e1 p1 fun ov env2 H2 F2 B2 y e2 S2 G2 y2 p2 => ?_
  refine run_cut S2 e2 p2 fun ol env3 H3 F3 B3 x' e3 S3 G3 x3 p3 => ?_
  refine run_cut S3 e3 p3 fun ow env4 H4 F4 B4 y' e4 S4 G4 y4 p4 => ?_
  try dsimp only at e4
  split at e4
  · rename_i qv v rv u
    split at e4
    · rename_i kk ll hkk hll
      split at e4
      · cases e4
      · rename_i hne
        cases e4
        have xr : Rep (tx X) B4 x qv := Rep.mono G4.kn (Rep.mono G3.kn (Rep.mono G2.kn x1))
        have yr : Rep (tx X) B4 y v := Rep.mono G4.kn (Rep.mono G3.kn y2)
        have xr' : Rep (tx X) B4 x' rv := Rep.mono G4.kn x3
        have yr' : Rep (tx X) B4 y' u := y4
        have G12 := G1.trans S0 S1 G2
        have G13 := G12.trans S0 S2 G3
        have G14 := G13.trans S0 S3 G4
        obtain ⟨n1, n2, n3, n4⟩ := new_at S S4 G14 hp
        obtain ⟨rfl, nq⟩ := kq_rep hkk xr
        obtain ⟨rfl, nq'⟩ := kq_rep hll xr'
        refine ⟨n1, [(kk, y), (ll, y')], rfl, by show 2 ≤ 15; decide, ?_⟩
        obtain ⟨S5, G5⟩ := n4 (.dK (mergeK [] [(kk, y), (ll, y')]))
        refine k _ F4 B4 S5 G5 (.ref p) ?_
        have em : mergeK [] [(kk, y), (ll, y')] = [(kk, y), (ll, y')] := by
          show putK (putK [] kk y) ll y' = _
          unfold putK
          simp [hne]
        refine ⟨p, [p], rfl, .dct upd_same (.inl ⟨_, rfl, rfl, rfl⟩) ?_ ?_, fun b hb => ?_⟩
        · rw [em]; exact .cons xr (.cons xr' .nil)
        · rw [em]; exact .cons yr (.cons yr' .nil)
        · rw [List.mem_singleton] at hb; subst hb; exact ⟨hp, n2, n3⟩
    · cases e4
  · cases e4
section
variable {X : Cx} {W : WX} {f : EF} {pos : Pos}
/-- e.replace(..) of written texts, e wanting a token -/
theorem set_replT {o : Expr} {y z : Str} {ly lz : List Nat} {j k : Nat} {c0 c1 apos : Pos} (ho : SET X W o f) (ey : S ly = y) (ez : S lz = z) (hyz : (y == z) = false := by decide) (hst : starEach [.Constant (.str y) j c0, .Constant (.str z) k c1] X.env = [(false, eval (.Constant (.str y) j c0) X.env), (false, eval (.Constant (.str z) k c1) X.env)] := by rfl) (hbase : attributeBase o "replace" X.env (eval o X.env) = eval o X.env := by rfl) (hline : (apos.endLine == pos.line) = true := by rfl) :
    SET X W (.Call (.Attribute o "replace" apos) [.Constant (.str y) j c0, .Constant (.str z) k c1] [] pos) (sRepl ly lz f) := by
  subst ey ez
  refine PET.mono (CwR.pet_replT ho hyz hst hbase hline) fun σ H Q q => ?_
  refine un_mono (X := X) (r := fun v H1 R => ∃ x, v = .str x ∧ x.length + (x.length + 1) * (S lz).length ≤ 16777216 ∧ R (.str (Txt.replace x (S ly) (S lz))) H1) (fun B Hh x v rv hs hx e R hq => ?_) σ H Q q
  cases v with
  | str w =>
    have e : (if w.length + (w.length + 1) * lz.length ≤ 16000000 then some (RV.shr (.str (replL ly lz w))) else none) = some rv := e
    by_cases hl : w.length + (w.length + 1) * lz.length ≤ 16000000
    · rw [if_pos hl] at e
      cases e
      refine ⟨S w, hx.str, ?_, same0 hs (Rep.of_str rfl) hq⟩
      rw [S_len, S_len]
      exact Nat.le_trans hl (by decide)
    · rw [if_neg hl] at e
      cases e
  | _ => cases e
end
end Lw

end
section
set_option Elab.async false
set_option linter.all false
set_option maxRecDepth 100000
set_option maxHeartbeats 4000000
set_option autoImplicit false
/-! Lw: sorted, of pairs of an int and a list of ints. -/
namespace Lw
open PySem PySem.Spec PyProof.Rows L2
/-- the pairs -/
abbrev IL := Int × List Int
def encP (k : IL) : PyData := .tuple [.int k.1, .list (k.2.map .int)]
def pV (k : IL) : Val := .tup [.int k.1, .lst (k.2.map Val.int)]
def leP (a b : IL) : Bool := decide (a.1 < b.1 ∨ (a.1 = b.1 ∧ a.2 ≤ b.2))
theorem leP_iff {a b : IL} : leP a b = true ↔ a.1 < b.1 ∨ (a.1 = b.1 ∧ a.2 ≤ b.2) := decide_eq_true_iff
theorem eqv_ints : ∀ xs ys : List Int, PyData.eqvAll (xs.map .int) (ys.map .int) = decide (xs = ys)
  | [], [] => by simp [PyData.eqvAll]
  | [], y :: ys => by simp [PyData.eqvAll]
  | x :: xs, [] => by simp [PyData.eqvAll]
  | x :: xs, y :: ys => by
    show PyData.eqvAll (.int x :: xs.map .int) (.int y :: ys.map .int) = _
    rw [PySem.W.eqv_all_cons, eqv_ints xs ys]
    have : PyData.eqv (.int x) (.int y) = decide (x = y) := by
      simp only [PyData.eqv]
      by_cases h : x = y <;> simp [h]
    rw [this]
    by_cases h : x = y <;> by_cases h2 : xs = ys <;> simp [h, h2]
theorem alikeP (a b : IL) : PySem.W.alike (encP a) (encP b) = true := by
  simp [encP, PySem.W.alike, PySem.W.alikeAll, PySem.W.alike_ints]
theorem le_encP {β : Type} (f : β → IL) : PySem.W.dataLe false (fun b => encP (f b)) = fun p q => leP (f p) (f q) := by
  funext p q
  show (!PySem.W.dataLt (encP (f q)) (encP (f p))) = _
  generalize f p = a
  generalize f q = b
  have e : PySem.W.dataLt (encP b) (encP a) = decide (b.1 < a.1 ∨ (b.1 = a.1 ∧ b.2 < a.2)) := by
    unfold encP
    rw [PySem.W.dataLt_pair (by simp [PySem.W.alike]) (by simp [PySem.W.alike, PySem.W.alike_ints]), PySem.W.dataLt_int, PySem.W.dataLt_list]
    have e1 : PyData.eqv (.list (b.2.map .int)) (.list (a.2.map .int)) = decide (b.2 = a.2) := by
      simp only [PyData.eqv]
      exact eqv_ints _ _
    have e2 : PySem.W.rowLt (b.2.map .int) (a.2.map .int) = decide (b.2 < a.2) := PySem.W.dataLt_ints _ _
    unfold PySem.W.rowLt at e2
    rw [e1, e2]
    simp only [PyData.eqv, beq_iff_eq]
    by_cases h1 : b.1 = a.1
    · by_cases h2 : b.2 = a.2
      · have : ¬ a.2 < a.2 := List.lt_irrefl a.2
        simp [h1, h2, this]
      · simp [h1, h2]
    · simp [h1]
  rw [e]
  unfold leP
  by_cases h : b.1 < a.1 ∨ (b.1 = a.1 ∧ b.2 < a.2)
  · have h' : ¬ (a.1 < b.1 ∨ (a.1 = b.1 ∧ a.2 ≤ b.2)) := by
      rintro (q | ⟨q1, q2⟩)
      · rcases h with h | ⟨h, _⟩ <;> omega
      · rcases h with h | ⟨_, h⟩
        · omega
        · exact List.not_lt.mpr q2 h
    rw [decide_eq_true h, decide_eq_false h']; rfl
  · have h' : a.1 < b.1 ∨ (a.1 = b.1 ∧ a.2 ≤ b.2) := by
      by_cases q : a.1 < b.1
      · exact .inl q
      · refine .inr ⟨?_, ?_⟩
        · have : ¬ b.1 < a.1 := fun z => h (.inl z)
          omega
        · refine List.not_lt.mp fun z => h (.inr ⟨?_, z⟩)
          have : ¬ b.1 < a.1 := fun z => h (.inl z)
          omega
    rw [decide_eq_false h, decide_eq_true h']; rfl
theorem leP_trans (a b c : IL) (h1 : leP a b = true) (h2 : leP b c = true) : leP a c = true := by
  rw [leP_iff] at h1 h2 ⊢
  rcases h1 with h1 | ⟨h1, g1⟩
  · rcases h2 with h2 | ⟨h2, _⟩
    · exact .inl (by omega)
    · exact .inl (by omega)
  · rcases h2 with h2 | ⟨h2, g2⟩
    · exact .inl (by omega)
    · exact .inr ⟨by omega, List.le_trans g1 g2⟩
theorem leP_total (a b : IL) : (leP a b || leP b a) = true := by
  rw [Bool.or_eq_true, leP_iff, leP_iff]
  by_cases h : a.1 < b.1
  · exact .inl (.inl h)
  · by_cases h2 : b.1 < a.1
    · exact .inr (.inl h2)
    · have e : a.1 = b.1 := by omega
      rcases List.le_total a.2 b.2 with q | q
      · exact .inl (.inr ⟨e, q⟩)
      · exact .inr (.inr ⟨e.symm, q⟩)
theorem leP_anti (a b : IL) (h1 : leP a b = true) (h2 : leP b a = true) : a = b := by
  rw [leP_iff] at h1 h2
  have e1 : a.1 = b.1 := by
    rcases h1 with h1 | ⟨h1, _⟩ <;> rcases h2 with h2 | ⟨h2, _⟩ <;> omega
  have e2 : a.2 = b.2 := by
    rcases h1 with h1 | ⟨_, h1⟩
    · omega
    · rcases h2 with h2 | ⟨_, h2⟩
      · omega
      · exact List.le_antisymm h1 h2
  exact Prod.ext e1 e2
/-- one sorted list only -/
theorem srtP_uniq : ∀ xs ys : List IL, xs.Perm ys → xs.Pairwise (fun a b => leP a b = true) → ys.Pairwise (fun a b => leP a b = true) → xs = ys
  | [], ys, h, _, _ => (List.nil_perm.mp h).symm
  | x :: xs, [], h, _, _ => by have := h.length_eq; cases this
  | x :: xs, y :: ys, h, h1, h2 => by
    obtain ⟨a1, a2⟩ := List.pairwise_cons.mp h1
    obtain ⟨b1, b2⟩ := List.pairwise_cons.mp h2
    have e : x = y := by
      have mx : x ∈ y :: ys := h.mem_iff.mp (List.mem_cons_self ..)
      have my : y ∈ x :: xs := h.mem_iff.mpr (List.mem_cons_self ..)
      rcases List.mem_cons.mp mx with e | q
      · exact e
      · rcases List.mem_cons.mp my with e | p
        · exact e.symm
        · exact leP_anti _ _ (a1 y p) (b1 x q)
    subst e
    rw [srtP_uniq xs ys (List.perm_cons x |>.mp h) a2 b2]
section
variable {X : Cx}
/-- sorted(xs): every item a pair of an int and a list of ints -/
def rSortD (K : PySem.W.Frag) : List V → Hp → VK → Prop := fun xs H Q => ∃ (a : Addr) (bs : List (V × IL)), xs = [.ref a] ∧ SqL K H a (bs.map (·.1)) ∧ (∀ b ∈ bs, Dp K H b.1 (encP b.2)) ∧ ∀ (cs : List (V × IL)) (p : Addr), cs.Perm bs → (cs.map (·.2)).Pairwise (fun a b => leP a b = true) → H p = none → Q (.ref p) (upd H p (.lst (cs.map (·.1))))
theorem each_of {R : Value → V × IL → Prop} : ∀ {us : List Value} {bs : List (V × IL)}, Vals (bs.map (·.1)) us → (∀ b ∈ bs, ∀ u, RelV b.1 u → R u b) → PySem.W.EachIs R us bs
  | _, [], r, _ => by
    have r : Vals [] _ := r
    cases r
    exact .nil
  | _, b :: bs, r, h => by
    have r : Vals (b.1 :: bs.map (·.1)) _ := r
    cases r with
    | cons r1 r2 => exact .cons (h b (List.mem_cons_self ..) _ r1) (each_of r2 fun c hc => h c (List.mem_cons_of_mem _ hc))
theorem vals_each : ∀ {us : List Value} {bs : List (V × IL)}, PySem.W.EachIs (fun u b => RelV b.1 u) us bs → Vals (bs.map (·.1)) us
  | _, _, .nil => .nil
  | _, _, .cons h t => .cons h (vals_each t)
theorem depthP (k : IL) : (encP k).depth ≤ 3 := by
  unfold encP
  simp [PyData.depth, PyData.depthAll, PySem.W.depth_ints]
theorem cr_sortedD (hu : X.A.units + 16 < cLine) : CallR X (.builtin "sorted") (rSortD X.K) := by
  intro pins s σ H vs us Q I r h
  obtain ⟨a, bs, rfl, hs, hd, q⟩ := h
  obtain ⟨its, rv, hl, hz⟩ := I.list hs
  rw [Vals.ref1 r]
  have e : PySem.W.EachIs (fun u (b : V × IL) => RelV b.1 u) its bs := each_of rv fun b _ u h => h
  have er : PySem.W.EachIs (fun u (b : V × IL) => ∃ as, Reads s.heap u (encP b.2) as) its bs := each_of rv fun b hb u h => Dp.reads I _ _ _ (hd b hb) h
  refine PySem.W.sorted_data (enc := fun b : V × IL => encP b.2) hl.isList e er (PySem.W.AllAlike.of fun _ _ => alikeP _ _) (PySem.W.Sortable.tuples fun _ => ⟨_, _, rfl⟩) (by rw [List.length_map] at hz; exact hz) (fun b _ => by have := depthP b.2; omega) fun out h1 h2 => ?_
  rw [le_encP (fun b : V × IL => b.2)] at h2
  have pm := List.mergeSort_perm bs fun p q : V × IL => leP p.2 q.2
  have pw := List.pairwise_mergeSort (le := fun p q : V × IL => leP p.2 q.2) (fun _ _ _ => leP_trans _ _ _) (fun _ _ => leP_total _ _) bs
  generalize bs.mergeSort (fun p q : V × IL => leP p.2 q.2) = cs at h2 pm pw
  obtain ⟨ep, he'⟩ := PyProof.Rows.sortedAll_at s.heap its out.toArray
  have hlen : (cs.map (·.1)).length ≤ sizeLine := by
    rw [List.length_map, pm.length_eq]
    rw [List.length_map] at hz
    exact hz
  exact ⟨.ref _, upd H (s.heap.objs.size + 1) (.lst (cs.map (·.1))), I.laid (t' := s.toks) (fun _ _ => PyProof.Rows.sortedAll_old) (Nat.le_succ _) ⟨hlen, out, ep, vals_each h2, he'⟩, rfl, q cs _ pm (List.pairwise_map.mpr pw) (I.hok.fresh (Nat.le_succ _))⟩
end
def insP (a : IL) : List IL → List IL
  | [] => [a]
  | b :: xs => if leP a b = true then a :: b :: xs else b :: insP a xs
def sortP : List IL → List IL
  | [] => []
  | a :: xs => insP a (sortP xs)
theorem insP_perm (a : IL) : ∀ xs, (insP a xs).Perm (a :: xs)
  | [] => List.Perm.refl _
  | b :: xs => by
    unfold insP
    split
    · exact List.Perm.refl _
    · exact ((insP_perm a xs).cons b).trans (List.Perm.swap a b xs)
theorem sortP_perm : ∀ xs, (sortP xs).Perm xs
  | [] => List.Perm.refl _
  | a :: xs => (insP_perm a _).trans ((sortP_perm xs).cons a)
theorem insP_pw (a : IL) : ∀ xs : List IL, xs.Pairwise (fun a b => leP a b = true) → (insP a xs).Pairwise (fun a b => leP a b = true)
  | [], _ => List.pairwise_singleton ..
  | b :: xs, h => by
    obtain ⟨h1, h2⟩ := List.pairwise_cons.mp h
    unfold insP
    split
    · rename_i hab
      refine List.pairwise_cons.mpr ⟨fun y hy => ?_, h⟩
      rcases List.mem_cons.mp hy with rfl | hy
      · exact hab
      · exact leP_trans _ _ _ hab (h1 y hy)
    · rename_i hab
      refine List.pairwise_cons.mpr ⟨fun y hy => ?_, insP_pw a xs h2⟩
      rcases List.mem_cons.mp ((insP_perm a xs).mem_iff.mp hy) with rfl | hy
      · have := leP_total y b
        rw [Bool.or_eq_true] at this
        exact this.resolve_left hab
      · exact h1 y hy
theorem sortP_pw : ∀ xs, (sortP xs).Pairwise (fun a b => leP a b = true)
  | [] => List.Pairwise.nil
  | a :: xs => insP_pw a _ (sortP_pw xs)
def prs? : List Val → Option (List IL)
  | [] => some []
  | v :: r => match v with
    | .tup [.int n, .lst vs] => (match ints? vs, prs? r with
      | some is, some ks => some ((n, is) :: ks)
      | _, _ => none)
    | _ => none
def oSortD : List Val → Option RV
  | [.lst ws] => (match prs? ws with
    | some ks => some (.new (.lst ((sortP ks).map pV)))
    | none => none)
  | _ => none
theorem ints_back : ∀ {vs : List Val} {is : List Int}, ints? vs = some is → vs = is.map Val.int
  | [], is, h => by cases h; rfl
  | v :: vs, is, h => by
    cases v with
    | int i =>
      have h : (ints? vs).map (i :: ·) = some is := h
      obtain ⟨js, h1, rfl⟩ := Option.map_eq_some_iff.mp h
      rw [ints_back h1]; rfl
    | _ => cases h
theorem prs_back : ∀ {ws : List Val} {ks : List IL}, prs? ws = some ks → ws = ks.map pV
  | [], ks, h => by cases h; rfl
  | v :: ws, ks, h => by
    unfold prs? at h
    split at h
    · split at h
      · rename_i n vs is ks' h1 h2
        cases h
        rw [ints_back h1, prs_back h2]; rfl
      · cases h
    · cases h
theorem zip_reps {T : Tx} {B : Hp} : ∀ {ys : List V} {ks : List IL}, RepAll T B ys (ks.map pV) → (ys.zip ks).map (·.1) = ys ∧ (ys.zip ks).map (·.2) = ks ∧ ∀ b ∈ ys.zip ks, Rep T B b.1 (pV b.2)
  | [], [], _ => ⟨rfl, rfl, fun b hb => nomatch hb⟩
  | [], k :: ks, h => nomatch h
  | y :: ys, [], h => nomatch h
  | y :: ys, k :: ks, h => by
    have h : RepAll T B (y :: ys) (pV k :: ks.map pV) := h
    cases h with
    | cons h1 h2 =>
      obtain ⟨i1, i2, i3⟩ := zip_reps h2
      refine ⟨by rw [List.zip_cons_cons, List.map_cons, i1], by rw [List.zip_cons_cons, List.map_cons, i2], fun b hb => ?_⟩
      rcases List.mem_cons.mp hb with rfl | hb
      · exact h1
      · exact i3 b hb
theorem reps_of {T : Tx} {B : Hp} : ∀ {cs : List (V × IL)}, (∀ b ∈ cs, Rep T B b.1 (pV b.2)) → RepAll T B (cs.map (·.1)) ((cs.map (·.2)).map pV)
  | [], _ => .nil
  | b :: cs, h => .cons (h b (List.mem_cons_self ..)) (reps_of fun c hc => h c (List.mem_cons_of_mem _ hc))
theorem toDs_ints : ∀ is : List Int, toDs (is.map Val.int) = some (is.map PyData.int)
  | [] => rfl
  | i :: is => by
    show (match toD (.int i), toDs (is.map Val.int) with
      | some d, some ds => some (d :: ds)
      | _, _ => none) = _
    rw [toDs_ints is]; rfl
theorem toD_pV (k : IL) : toD (pV k) = some (encP k) := by
  have e : toD (.lst (k.2.map Val.int)) = some (.list (k.2.map .int)) := by
    show (toDs (k.2.map Val.int)).map PyData.list = _
    rw [toDs_ints]; rfl
  show (toDs [.int k.1, .lst (k.2.map Val.int)]).map PyData.tuple = _
  simp only [toDs, e]
  rfl
theorem os_sortD {T : Tx} : OpSn T (rSortD T.K) oSortD := by
  intro B H xs vs rv hs hx e Q hq
  unfold oSortD at e
  split at e
  · rename_i ws
    split at e
    · rename_i ks hk
      cases e
      obtain ⟨x, rfl, h⟩ := hx.one
      obtain ⟨a, ys, rfl, h1, r⟩ := h.seq hs
      rw [prs_back hk] at r
      obtain ⟨z1, z2, z3⟩ := zip_reps r
      refine ⟨a, ys.zip ks, rfl, by rw [z1]; exact h1, fun b hb => (z3 b hb).dp hs (toD_pV b.2), fun cs p hp hw hn => ?_⟩
      have en : cs.map (·.2) = sortP ks := srtP_uniq _ _ (((hp.map _).trans (by rw [z2])).trans (sortP_perm ks).symm) hw (sortP_pw ks)
      have rr : RepAll T B (cs.map (·.1)) ((cs.map (·.2)).map pV) := reps_of fun b hb => z3 b (hp.mem_iff.mp hb)
      rw [en] at rr
      exact newL hs rr hq p hn
    · cases e
  · cases e
end Lw

end
section
set_option Elab.async false
set_option linter.all false
set_option maxRecDepth 100000
set_option maxHeartbeats 1000000
set_option autoImplicit false
/-! Lw: every other item of a tuple. -/
namespace Lw
open PySem PySem.Spec PyProof.Rows L2
def ev2 {α : Type} : List α → List α
  | [] => []
  | [x] => [x]
  | x :: _ :: r => x :: ev2 r
theorem ev2_sub {α : Type} : ∀ xs : List α, (ev2 xs).Sublist xs
  | [] => List.Sublist.refl _
  | [x] => List.Sublist.refl _
  | x :: y :: r => ((ev2_sub r).cons y).cons_cons x
theorem ev2_map {α β : Type} (f : α → β) : ∀ xs : List α, ev2 (xs.map f) = (ev2 xs).map f
  | [] => rfl
  | [x] => rfl
  | x :: y :: r => by
    show f x :: ev2 (r.map f) = _
    rw [ev2_map f r]; rfl
theorem pick_ev2 {α : Type} : ∀ (xs : List α) (m : Nat), m = (xs.length + 1) / 2 → (List.range m).filterMap (fun i => xs[i * 2]?) = ev2 xs
  | [], m, h => by
    have : m = 0 := by simpa using h
    subst this; rfl
  | [x], m, h => by
    have : m = 1 := by simpa using h
    subst this; rfl
  | x :: y :: r, m, h => by
    simp only [List.length_cons] at h
    obtain ⟨k, rfl⟩ : ∃ k, m = k + 1 := ⟨m - 1, by omega⟩
    have ih := pick_ev2 r k (by omega)
    rw [List.range_succ_eq_map, List.filterMap_cons]
    have e0 : (x :: y :: r)[0 * 2]? = some x := rfl
    rw [e0]
    show x :: List.filterMap (fun i => (x :: y :: r)[i * 2]?) (List.map Nat.succ (List.range k)) = x :: ev2 r
    rw [← ih, List.filterMap_map]
    congr 1
    refine fmc _ fun i _ => ?_
    show (x :: y :: r)[(i + 1) * 2]? = r[i * 2]?
    rw [show (i + 1) * 2 = i * 2 + 1 + 1 by omega, List.getElem?_cons_succ, List.getElem?_cons_succ]
section
variable {prog : Program} {w : World} {A : Around} {E : Value → Shared → Prop} {s : Shared}
theorem applied_st2 {sl : Addr} {vs : Value} {n : Nat} {Q : Int × Int × Nat → Shared → Prop} (hs : s.heap.IsSliceOf sl .none .none vs) (ps : IsPart vs (some 2))
    (h : Q (0, 2, (n + 1) / 2) s) : wpAny (model prog w) A (Builtin.Slice.sliceApplied (.ref sl) (pure (n : Int))) Q E s := by
  obtain ⟨os, hos, hcs, hds⟩ := id hs
  unfold Builtin.Slice.sliceApplied Builtin.Slice.sliceFields
  refine wpAny_bind (wpAny_bind (wpAny_field hos hds (x := .none) rfl (wpAny_bind (wpAny_field hos hds (x := .none) rfl (wpAny_bind (wpAny_field hos hds (x := vs) rfl (wpAny_pure ?_)))))))
  refine wpAny_bind (HT.slicePart_ ps ?_)
  show wpAny _ _ (if ((2 : Int) == 0) = true then _ else _) _ _ s
  rw [if_neg (by decide)]
  refine wpAny_bind (HT.slicePart_ .none (wpAny_bind (HT.slicePart_ .none (wpAny_bind (wpAny_pure ?_)))))
  show wpAny _ _ (pure ((0 : Int), (2 : Int), Builtin.Slice.slicePlaces 0 (n : Int) 2)) _ _ s
  have e : Builtin.Slice.slicePlaces 0 (n : Int) 2 = (n + 1) / 2 := by
    unfold Builtin.Slice.slicePlaces
    have h1 : (2 : Int) > 0 := by decide
    simp only [h1, if_true]
    by_cases h : (0 : Int) < (n : Int)
    · rw [if_pos h]
      omega
    · rw [if_neg h]
      have : n = 0 := by omega
      subst this; rfl
  rw [e]
  exact wpAny_pure h
theorem tuple_st2 {t sl : Addr} {items : Array Value} {vs : Value} {Q : Value → Shared → Prop} (ht : IsTup s.heap t items) (hs : s.heap.IsSliceOf sl .none .none vs) (ps : IsPart vs (some 2))
    (h : Q (.ref s.heap.objs.size) { s with heap := s.heap.push { cls := .type "tuple", data := .seq (ev2 items.toList).toArray } })
    (hsz : items.size ≤ sizeLine) : wpAny (model prog w) A (getItem (.ref t) (.ref sl)) Q E s := by
  have htake : sizeOk (.seq (ev2 items.toList).toArray) := by
    show (ev2 items.toList).toArray.size ≤ sizeLine
    have q := (ev2_sub items.toList).length_le
    rw [Array.length_toList] at q
    exact Nat.le_trans q hsz
  obtain ⟨os, hos, hcs, hds⟩ := id hs
  have hTs : s.TypeIs (.ref sl) "slice" := ⟨os, hos, hcs⟩
  have pk : ((List.range ((items.size + 1) / 2)).filterMap fun (m : Nat) => items[((0 : Int) + (m : Int) * 2).toNat]?).toArray = (ev2 items.toList).toArray := by
    congr 1
    rw [← pick_ev2 items.toList _ rfl, Array.length_toList]
    refine fmc _ fun m _ => ?_
    have : ((0 : Int) + (m : Int) * 2).toNat = m * 2 := by omega
    rw [this, Array.getElem?_toList]
  unfold getItem
  try with_reducible refine wpAny_holding ?_
  first | refine wpAny_bind (wpAny_pure ?_) | skip
  refine wpAny_bind (wpAny_sequenceKey ht.typeIs (by decide) ?_)
  refine wpAny_bind (wpAny_callSpecial?_slot (name := Str.ofString "__getitem__") ht.typeIs PyProof.Rows.slot_tuple_getitem
    (wpAny_call_entry PyProof.Rows.slot_tuple_getitem ht.typeIs entry_tuple_getitem ?_ (args_tuple_getitem _ _)))
  show wpAny _ _ (Builtin.Tuple.tupleItemsOf (.ref t) >>= _) _ _ s
  refine wpAny_bind (tupleItemsOf_ ht ?_)
  refine wpAny_bind (wpAny_typeOf hTs ?_)
  rw [if_pos (by decide)]
  refine wpAny_bind (applied_st2 hs ps ?_)
  have hno : ¬ ((((0 : Int) == 0) && ((2 : Int) == 1) && ((items.size + 1) / 2 == items.size)) = true) := by
    intro q
    rw [Bool.and_eq_true, Bool.and_eq_true] at q
    exact absurd q.1.2 (by decide)
  show wpAny _ _ (if (((0 : Int) == 0) && ((2 : Int) == 1) && ((items.size + 1) / 2 == items.size)) = true then _ else _) _ _ s
  rw [if_neg hno, pk]
  first
    | exact wpAny_bind (m := Builtin.Tuple.tupleExact _) (wpAny_newObj_type (wpAny_pure ⟨_, rfl, wpAny_pure h⟩) htake)
    | exact wpAny_bind (m := Builtin.Tuple.tupleExact _) (wpAny_newObj_type (wpAny_bind (wpAny_pure (wpAny_pure ⟨_, rfl, wpAny_pure h⟩))) htake)
    | exact wpAny_bind (wpAny_bind (m := Builtin.Tuple.tupleExact _) (wpAny_newObj_type (wpAny_pure (wpAny_pure ⟨_, rfl, wpAny_pure h⟩)) htake))
    | exact wpAny_bind (wpAny_bind (m := Builtin.Tuple.tupleExact _) (wpAny_newObj_type (wpAny_pure ⟨_, rfl, wpAny_pure h⟩) htake))
end
theorem vals_ev2 : ∀ {xs : List V} {us : List Value}, Vals xs us → Vals (ev2 xs) (ev2 us)
  | [], _, h => by cases h; exact .nil
  | [x], _, h => by
    cases h with
    | cons a b => cases b; exact .cons a .nil
  | x :: y :: r, _, h => by
    cases h with
    | cons a b =>
      cases b with
      | cons c d => exact .cons a (vals_ev2 d)
theorem reps_ev2 {T : Tx} {B : Hp} : ∀ {xs : List V} {vs : List Val}, RepAll T B xs vs → RepAll T B (ev2 xs) (ev2 vs)
  | [], _, h => by cases h; exact .nil
  | [x], _, h => by
    cases h with
    | cons a b => cases b; exact .cons a .nil
  | x :: y :: r, _, h => by
    cases h with
    | cons a b =>
      cases b with
      | cons c d => exact .cons a (reps_ev2 d)
/-- t[::2] -/
def rSt2 (K : PySem.W.Frag) : V → Hp → VK → Prop := fun x H Q => ∃ a xs, x = .ref a ∧ SqT K H a xs ∧ ∀ p, H p = none → Q (.ref p) (upd H p (.tup (ev2 xs)))
def tSt2 (K : PySem.W.Frag) (te : TE) : TE := fun σ H Q => te σ H fun x H1 => rSt2 K x H1 Q
section
variable {X : Cx}
theorem pe_st2 {e : Expr} {te : TE} {k : Nat} {p1 p3 pos : Pos} {j : Bool} {cc : Expr} (hcc : cc = .Constant (.int 2) k p1) (he : PE X e te) : PE X (.Subscript e (.Slice none none (some cc) p3) pos) (tSt2 X.K te) := by
  subst hcc
  refine ⟨fun pins s σ H Q I h => ?_⟩
  refine Subscript_ (thn (he.run pins s σ H _ I h) fun v s1 ⟨x, H1, I1, r1, q1⟩ => ?_)
  have hst : PO X (some (.Constant (.int 2) k p1)) (tPart (tC (.int 2))) := po_some pe_int
  refine wpAny_Slice (thn (po_none.run pins s1 σ H1 (fun o H2 => o = none ∧ H2 = H1) I1 ⟨rfl, rfl⟩) fun vl s2 ⟨l, H2, I2, pl, el, e2⟩ => ?_)
  subst el e2
  refine thn (po_none.run pins s2 σ H2 (fun o H3 => o = none ∧ H3 = H2) I2 ⟨rfl, rfl⟩) fun vu s3 ⟨u, H3, I3, pu, eu, e3⟩ => ?_
  subst eu e3
  refine thn (hst.run pins s3 σ H3 (fun o H4 => o = some 2 ∧ H4 = H3) I3 ⟨2, rfl, rfl, rfl⟩) fun vs s4 ⟨o, H4, I4, ps, eo, e4⟩ => ?_
  subst eo e4
  have I5 : Inv X pins σ H4 { s4 with heap := s4.heap.push { cls := .type "slice", data := .fields #[vl, vu, vs] } } := I4.kept (t' := s4.toks) fun b ob q => Heap.get?_push_of_some _ q
  have nl : vl = .none := by cases pl; rfl
  have nu : vu = .none := by cases pu; rfl
  subst nl nu
  obtain ⟨a, xs, ex, hx, q⟩ := q1
  subst ex
  cases r1
  obtain ⟨its, r, ht, hz⟩ := I5.tuple hx
  have hlen := r.length
  have hz2 : (ev2 xs).length ≤ sizeLine := Nat.le_trans (ev2_sub xs).length_le hz
  refine tail_any (ops := [.ref a, .ref s4.heap.objs.size]) ht.typeIs (PyProof.Rows.slot_tuple_getitem.lookup) ?_ (by with_unfolding_all rfl)
  refine tuple_st2 ht (Heap.IsSliceOf.new _ _ _ vs) ps ?_ (by rw [List.size_toArray]; omega)
  refine ⟨.ref _, _, I5.laid (t' := s4.toks) (o := .tup (ev2 xs)) (fun b ob q => Heap.get?_push_of_some _ q) (Nat.le_refl _) ?_, rfl, q _ (I5.hok.fresh (Nat.le_refl _))⟩
  exact ⟨hz2, _, vals_ev2 r, IsTup.new _ _⟩
end
def oSt2 : Val → Option RV
  | .tup xs => some (.shr (.tup (ev2 xs)))
  | _ => none
def sSt2 (f : EF) : EF := sUn oSt2 f
section
variable {X : Cx} {W : WX} {a : Expr} {f : EF} {pos : Pos}
theorem se_st2 {k : Nat} {p1 p3 : Pos} (he : SE X W a f) : SE X W (.Subscript a (.Slice none none (some (.Constant (.int 2) k p1)) p3) pos) (sSt2 f) := by
  refine PE.mono (pe_st2 (j := true) rfl he) fun σ H Q q => ?_
  exact un_mono (X := X) (r := fun x H1 Q => rSt2 X.K x H1 Q) (fun B H1 x v rv hs hx e Q hq => by
    cases v with
    | tup xs =>
      cases e
      obtain ⟨a, ys, rfl, h1, r⟩ := hx.tupS
      exact ⟨a, ys, rfl, .of (hs _ _ h1), newT hs (reps_ev2 r) hq⟩
    | _ => cases e) σ H Q q
end
end Lw

end
section
set_option Elab.async false
set_option linter.all false
set_option maxRecDepth 100000
set_option maxHeartbeats 4000000
set_option autoImplicit false
/-! Lw: a comprehension over a list of one's own, which stays one's own. -/
namespace Lw
open PySem PySem.Spec PyProof.Rows L2
/-- turn by turn, over what the list in slot k is then -/
def lcLO (k : Nat) (t : Tgt) (cl : List Nat) (tt te : EF) : Nat → Nat → List Val → Env → Option (List Val × Env)
  | 0, _, _, _ => none
  | n + 1, i, acc, env => match own? env k with
    | some (.lst us) => (match us[i]? with
      | none => some (acc, env)
      | some v => (match tgSet t v env with
        | none => none
        | some env1 => (match tt env1 with
          | some (.val (.shr (.bl true)), env2) => (match esh te env2 with
            | some (.val (.shr w), env3) => if acc.length < 16000000 then (match wipe? env3 cl with
              | some env4 => lcLO k t cl tt te n (i + 1) (acc ++ [w]) env4
              | none => none) else none
            | _ => none)
          | some (.val (.shr (.bl false)), env2) => (match wipe? env2 cl with
            | some env4 => lcLO k t cl tt te n (i + 1) acc env4
            | none => none)
          | _ => none)))
    | _ => none
def sLCO (k : Nat) (t : Tgt) (cl : List Nat) (tt te : EF) : EF := fun env => if k ∉ cl then (match wipe? env cl with
    | some envw => (match lcLO k t cl tt te 16000000 0 [] envw with
      | some (ws, env2) => if (cl.all fun j => plainAt env2 j) = true then some (.val (.new (.lst ws)), restE env env2 cl) else none
      | none => none)
    | none => none) else none
theorem own_wipe {env : Env} {cl : List Nat} {k : Nat} (h : k ∉ cl) : own? (wipeE env cl) k = own? env k := by unfold own?; rw [wipeE_out h]
theorem own_lst {T : Tx} {env : Env} {σ : L2.St} {B H : Hp} {F : Nat → List Addr} {k : Nat} {us : List Val} (S : RS T env σ B H F) (h : own? env k = some (.lst us)) : ∃ a ys, σ[k]? = some (some (.ref a)) ∧ H a = some (.lst ys) ∧ RepAll T B ys us := by
  obtain ⟨a, h1, h2⟩ := S.own k _ h
  generalize F k = fp at h2
  cases h2 with
  | lst q r => exact ⟨a, _, h1, q, r⟩
theorem lcO_mono {T : Tx} {k : Nat} {t : Tgt} {cl : List Nat} {tt te : EF} {σ : L2.St} {H : Hp} {Q : VK} {W : WX} (hsub : ∀ i ∈ t.is, i ∈ cl) (h : eG T W (sLCO k t cl tt te) σ H Q) : tLc (iList T.K (tVar k)) (gT T.K t) (tG T W0 tt) (eG T W0 (esh te)) cl σ H Q := by
  obtain ⟨env, F, B, r, env2, S, e, p⟩ := h
  unfold sLCO at e
  split at e
  · rename_i kcl
    cases hw : wipe? env cl with
    | none => rw [hw] at e; cases e
    | some envw =>
      rw [hw] at e
      obtain ⟨pl, ew⟩ := wipe?_inv hw
      dsimp only at e
      cases hl : lcLO k t cl tt te 16000000 0 [] envw with
      | none => rw [hl] at e; cases e
      | some z =>
        obtain ⟨ws, env3⟩ := z
        rw [hl] at e
        dsimp only at e
        split at e
        · rename_i pl3
          cases e
          subst ew
          have Sw := S.wipe pl
          -- the list at the start
          obtain ⟨us0, ho⟩ : ∃ us0, own? env k = some (.lst us0) := by
            unfold lcLO at hl
            rw [own_wipe kcl] at hl
            cases h : own? env k with
            | none => rw [h] at hl; cases hl
            | some v =>
              rw [h] at hl
              cases v with
              | lst us => exact ⟨us, rfl⟩
              | _ => cases hl
          obtain ⟨a, ys0, hσ, hHa, _⟩ := own_lst S ho
          have hσw : (wipe σ cl)[k]? = some (some (.ref a)) := by rw [wipe_out kcl]; exact hσ
          -- the list at any turn
          have at_ : ∀ {env' : Env} {B' H' : Hp} {F' : Nat → List Addr} {us : List Val}, RS T env' (wipe σ cl) B' H' F' → own? env' k = some (.lst us) → ∃ ys, SqL T.K H' a ys ∧ RepAll T B' ys us := fun {env' B' H' F' us} S' ho' => by
            obtain ⟨a', ys, q1, q2, q3⟩ := own_lst S' ho'
            rw [hσw] at q1
            cases q1
            exact ⟨ys, SqL.of q2, q3⟩
          refine ⟨.ref a, hσ, a, rfl, ⟨ys0, SqL.of hHa⟩, fun D nD => ?_⟩
          have nDw : ∀ i, D ∉ F i := S.fresh nD
          refine ⟨fun i m H' => ∃ env' F' B' acc ys, RS T env' (wipe σ cl) B' H' F' ∧ Go (wipeE env cl) (wipe σ cl) H F B env' (wipe σ cl) H' F' B' ∧ H' D = some (.lst ys) ∧ RepAll T B' ys acc ∧ B' D = none ∧ (∀ i, D ∉ F' i) ∧ lcLO k t cl tt te m i acc env' = some (ws, env3),
            ⟨16000000, _, F, B, [], [], Sw.updO (S.bnone nD) nDw, Go.refl.updO nD, upd_same, .nil, S.bnone nD, nDw, hl⟩, ?_⟩
          rintro i m H' ⟨env', F', B', acc, ys, S', G', hD, R, bD, fD, e2⟩
          cases m with
          | zero => unfold lcLO at e2; cases e2
          | succ m =>
            unfold lcLO at e2
            cases ho' : own? env' k with
            | none => rw [ho'] at e2; cases e2
            | some u =>
              rw [ho'] at e2
              cases u with
              | lst us =>
                dsimp only at e2
                obtain ⟨zs, hz, rz⟩ := at_ S' ho'
                cases hv : us[i]? with
                | none =>
                  rw [hv] at e2
                  cases e2
                  have hle : us.length ≤ i := List.getElem?_eq_none_iff.mp hv
                  refine .inl ⟨⟨zs, hz, by rw [rz.length]; exact hle⟩, ?_⟩
                  have hlen : env.length = env3.length := by rw [← S.len, ← S'.len, wipe_length]
                  have Sr := S.rest pl S' pl3 G'.kn
                  have Gr := Go.rest hlen pl G'
                  exact p H' F' B' Sr Gr (.ref D) ⟨D, [D], rfl, .lst hD R, fun b hb => by
                    rw [List.mem_singleton] at hb; subst hb; exact ⟨nD, bD, fD⟩⟩
                | some v =>
                  rw [hv] at e2
                  dsimp only at e2
                  obtain ⟨x0, hx0, _⟩ := rz.get hv
                  refine .inr ⟨⟨zs, x0, hz, hx0⟩, fun H3 => ∃ env' F' B' acc ys, RS T env' (wipe σ cl) B' H3 F' ∧ Go (wipeE env cl) (wipe σ cl) H F B env' (wipe σ cl) H3 F' B' ∧ H3 D = some (.lst ys) ∧ RepAll T B' ys acc ∧ B' D = none ∧ (∀ i, D ∉ F' i) ∧ lcLO k t cl tt te m (i + 1) acc env' = some (ws, env3), fun H3 h3 => ⟨m, Nat.lt_succ_self m, h3⟩, fun x H3 hy => ?_⟩
                  obtain ⟨rfl, hx⟩ := hy
                  have hr : Rep T B' x v := by
                    obtain ⟨v2, hv2, hr2⟩ := rz.get' (hx zs hz)
                    rw [hv] at hv2
                    cases hv2
                    exact hr2
                  cases ht : tgSet t v env' with
                  | none => rw [ht] at e2; cases e2
                  | some env4 =>
                    rw [ht] at e2
                    refine tg_ok S' hr ht fun xs F4 S4 G4 => ?_
                    have G04 := G'.trans Sw S' G4
                    refine ⟨wipe_set hsub, ?_⟩
                    dsimp only at e2
                    have stay : ∀ {σ5 : L2.St} {env5 : Env} {H5 B5 : Hp} {F5 : Nat → List Addr}, RS T env5 σ5 B5 H5 F5 → Go env' (wipe σ cl) H3 F' B' env5 σ5 H5 F5 B5 → H5 D = some (.lst ys) ∧ RepAll T B5 ys acc ∧ B5 D = none ∧ (∀ i, D ∉ F5 i) := fun {σ5 env5 H5 B5 F5} S5 G5 => by
                      have fD5 : ∀ i, D ∉ F5 i := fun j z => by
                        rcases G5.ow j D z with ⟨q, z⟩ | z
                        · exact fD q z
                        · rw [hD] at z; cases z
                      refine ⟨G5.fr D _ hD fD, R.mono G5.kn, ?_, fD5⟩
                      cases q : B5 D with
                      | none => rfl
                      | some u =>
                        rcases G5.nb D u q with z | z | ⟨j, _, _, z⟩
                        · rw [bD] at z; cases z
                        · rw [hD] at z; cases z
                        · exact absurd z (fD j)
                    split at e2
                    · rename_i env5 h5
                      refine ⟨env4, F4, B', _, env5, S4, h5, fun o ho => ⟨true, (ERes.val.inj ho).symm⟩, fun H5 F5 B5 S5 G5 => fun z hz => ⟨true, Rep.bl_inv hz, iteT ?_⟩⟩
                      split at e2
                      · rename_i w env6 h6
                        refine ⟨env5, F5, B5, _, env6, S5, h6, fun H6 F6 B6 S6 G6 => fun y hy => ?_⟩
                        split at e2
                        · rename_i hsz
                          split at e2
                          · rename_i env7 h7
                            obtain ⟨pl7, e7⟩ := wipe?_inv h7
                            subst e7
                            have Gs6 := (G4.trans S' S4 G5).trans S' S5 G6
                            obtain ⟨k1, k2, k3, k4⟩ := stay S6 Gs6
                            refine ⟨ys, k1, by rw [k2.length]; exact line_lt hsz, _, F6, B6, acc ++ [w], ys ++ [y], ?_, ?_, upd_same, k2.append (.cons hy .nil), k3, k4, e2⟩
                            · have q := (S6.wipe pl7).updO (o := .lst (ys ++ [y])) k3 k4
                              rw [wipe_set hsub] at q
                              exact q
                            · have q := (((G04.trans Sw S4 G5).trans Sw S5 G6).trans Sw S6 (Go.wipe pl7)).updO (o := .lst (ys ++ [y])) nD
                              rw [wipe_set hsub] at q
                              exact q
                          · cases e2
                        · cases e2
                      · cases e2
                    · rename_i env5 h5
                      refine ⟨env4, F4, B', _, env5, S4, h5, fun o ho => ⟨false, (ERes.val.inj ho).symm⟩, fun H5 F5 B5 S5 G5 => fun z hz => ⟨false, Rep.bl_inv hz, iteF ?_⟩⟩
                      split at e2
                      · rename_i env7 h7
                        obtain ⟨pl7, e7⟩ := wipe?_inv h7
                        subst e7
                        have Gs5 := G4.trans S' S4 G5
                        obtain ⟨k1, k2, k3, k4⟩ := stay S5 Gs5
                        refine ⟨_, F5, B5, acc, ys, ?_, ?_, k1, k2, k3, k4, e2⟩
                        · have q := S5.wipe pl7
                          rw [wipe_set hsub] at q
                          exact q
                        · have q := (G04.trans Sw S4 G5).trans Sw S5 (Go.wipe pl7)
                          rw [wipe_set hsub] at q
                          exact q
                      · cases e2
                    · cases e2
              | _ => cases e2
        · cases e
  · cases e
section
variable {X : Cx} {W : WX} {elt tg iter : Expr} {ifs : List Expr} {scope : Scope} {own : List (Str × Nat)} {pos : Pos} {t : Tgt} {cl : List Nat} {k : Nat} {tt te : EF}
theorem se_lcO (hc : X.calm = true) (hN : X.N.Nodup) (hi : PE X iter (tVar k)) (ok : BlkOk X.N X.env.scope scope own)
    (hg : ∀ (s : Shared) (H : Hp) (C : Addr) (cs : List (Str × Addr)) (fp : List Addr), L2.PG (X.blk s H scope (compEnvC scope cs C X.env) fp) tg (gT X.K t)) (ht : ∀ (s : Shared) (H : Hp) (C : Addr) (cs : List (Str × Addr)) (fp : List Addr), STs (X.blk s H scope (compEnvC scope cs C X.env) fp) W0 ifs tt)
    (he : ∀ (s : Shared) (H : Hp) (C : Addr) (cs : List (Str × Addr)) (fp : List Addr), SE (X.blk s H scope (compEnvC scope cs C X.env) fp) W0 elt te) (hcl : own.map (·.2) = cl) (hsub : ∀ i ∈ t.is, i ∈ cl) (hs : ∀ x, foldedSetIterable iter X.env x = pure x := by intro _; rfl) :
    SE X W (.ListComp elt [⟨tg, iter, ifs, 0⟩] scope pos) (sLCO k t cl tt te) := by
  refine PE.mono (pe_lc (tt := tG (tx X) W0 tt) (te := eG (tx X) W0 (esh te)) hc hN (pi_list hi) ok hg ht (fun s H C cs fp => se_esh (he s H C cs fp)) hs) fun σ H Q q => ?_
  rw [hcl]
  exact lcO_mono (W := W) hsub q
end
end Lw

end
section
set_option Elab.async false
set_option linter.all false
set_option maxRecDepth 100000
set_option maxHeartbeats 3200000
set_option autoImplicit false
/-! Lw: dict(zip(text, text)). -/
namespace Lw.DZ
open PySem PySem.Spec PyProof.Rows L2
section
variable {prog : Program} {w : World} {A : Around} {E : Value → Shared → Prop} {s : Shared} {z TI TO T p q : Addr} {f : Bool} {oT : Obj} {fp fq : List Addr} {m n i : Nat} {Px Py : Nat → Value → Prop} {Sx Sy : Nat → Heap → Prop}
/-- the next pair of a zip whose last tuple is still held by someone -/
theorem held_item {Q : Value → Shared → Prop} (Z : ZipSep2 z TI TO p q fp fq) (Dx : Draws prog w A p fp m Px Sx) (Dy : Draws prog w A q fq n Py Sy)
    (zz : IsZipHeld s.heap z TI TO T f) (zT : s.heap.get? T = some oT) (zI : IsTupOf2 s.heap TI (.ref p) (.ref q)) (sx : Sx i s.heap) (sy : Sy i s.heap) (lx : i < m) (ly : i < n)
    (k : ∀ x y h' tk, Px i x → Py i y → IsZipHeld h' z TI TO T true → Sx (i + 1) h' → Sy (i + 1) h' → IsTupOf2 h' s.heap.objs.size x y →
      (∀ c o, c ≠ z → c ≠ p → c ≠ q → s.heap.get? c = some o → h'.get? c = some o) → Q (.ref s.heap.objs.size) { s with heap := h', toks := tk }) :
    wpAny (model prog w) A (Builtin.«zip.__next__» ⟨[.ref z], []⟩) (fun fin s' => ∃ v, fin = .done (.ret v) ∧ Q v s') E s := by
  obtain ⟨H, G, D, K, O⟩ := s
  show wpAny _ A (field (.ref z) 2 >>= _) _ _ ⟨H, G, D, K, O⟩
  refine wpAny_bind (wpAny_field zz rfl (x := .bool false) rfl ?_)
  show wpAny _ A (field (.ref z) 3 >>= _) _ _ ⟨H, G, D, K, O⟩
  refine wpAny_bind (wpAny_field zz rfl (x := .ref TI) rfl ?_)
  refine wpAny_bind (wpAny_seqItems zI rfl ?_)
  show wpAny _ A (Builtin.SmallTypes.ownedTupleIsFree (.ref z) >>= _) _ _ ⟨H, G, D, K, O⟩
  refine wpAny_bind (wpAny_tupleHeld_zip zz zT fun H0 z0 b0 => ?_)
  replace b0 : Heap.SameBut z H H0 := b0
  simp only [if_false, Bool.false_eq_true]
  refine wpAny_bind ?_
  rw [← Array.forIn_toList]; simp only [List.forIn_nil, List.forIn_cons]
  refine wpAny_bind (wpAny_bind (?_ : wpAny _ A _ _ _ _))
  refine wpAny_holding ?_
  show wpAny _ _ (Builtin.SmallTypes.nextOf (.ref p) >>= _) _ _ ⟨H0, G, D, K, O⟩
  refine wpAny_bind (Dx.item i _ _ _ lx (Dx.over sx b0 Z.zf1) fun x H1 K1 px nx b1 => wpAny_pure ?_)
  replace b1 : Heap.SameBut p H0 H1 := b1
  refine wpAny_pure ?_
  refine wpAny_bind (wpAny_bind ?_); refine wpAny_holding ?_
  show wpAny _ _ (Builtin.SmallTypes.nextOf (.ref q) >>= _) _ _ ⟨H1, G, D, K1, O⟩
  refine wpAny_bind (Dy.item i _ _ _ ly (Dy.over (Dy.over sy b0 Z.zf2) b1 Z.sep1_2) fun y H2 K2 py ny b2 => wpAny_pure ?_)
  replace b2 : Heap.SameBut q H1 H2 := b2
  refine wpAny_pure (wpAny_pure (?_ : wpAny _ A (newTuple [x, y] >>= _) _ _ _))
  refine wpAny_bind (wpAny_newTuple (?_ : wpAny _ A _ _ _ _))
  have z2 : IsZipHeld H2 z TI TO T true := b2.extBut _ _ Z.zi2 (b1.extBut _ _ Z.zi1 z0)
  have kk : ∀ c o, c ≠ z → c ≠ p → c ≠ q → H.get? c = some o → H2.get? c = some o := fun c o c1 c2 c3 e => b2.extBut _ _ c3 (b1.extBut _ _ c2 (b0.extBut _ _ c1 e))
  have hz : H2.objs.size = H.objs.size := by rw [b2.1, b1.1, b0.1]
  refine wpAny_pure ⟨_, rfl, (?_ : Q (.ref H2.objs.size) _)⟩
  have hp : IsTupOf2 (H2.push { cls := .type "tuple", data := .seq #[x, y] }) H2.objs.size x y := Heap.get?_push_size _ rfl
  rw [hz] at hp ⊢
  exact k x y _ K2 px py (Heap.get?_push_of_some _ z2) (Dx.frame _ _ _ (Dx.over nx b2 Z.sep2_1) fun b _ o e => Heap.get?_push_of_some _ e) (Dy.frame _ _ _ ny fun b _ o e => Heap.get?_push_of_some _ e) hp fun c o c1 c2 c3 e => Heap.get?_push_of_some _ (kk c o c1 c2 c3 e)
theorem held_end {Q : Fin → Shared → Prop} (Z : ZipSep2 z TI TO p q fp fq) (Dx : Draws prog w A p fp m Px Sx) (Dy : Draws prog w A q fq n Py Sy)
    (zz : IsZipHeld s.heap z TI TO T f) (zT : s.heap.get? T = some oT) (zI : IsTupOf2 s.heap TI (.ref p) (.ref q)) (sx : Sx i s.heap) (sy : Sy i s.heap) (lx : i ≤ m) (ly : i ≤ n) (le : i = m ∨ i = n)
    (k : ∀ h' tk e, (∀ c o, c ≠ z → c ≠ p → c ≠ q → s.heap.get? c = some o → h'.get? c = some o) → (∃ o, h'.get? e = some o ∧ o.cls = .type "StopIteration") → E (.ref e) { s with heap := h', toks := tk }) :
    wpAny (model prog w) A (Builtin.«zip.__next__» ⟨[.ref z], []⟩) Q E s := by
  obtain ⟨H, G, D, K, O⟩ := s
  show wpAny _ A (field (.ref z) 2 >>= _) _ _ ⟨H, G, D, K, O⟩
  refine wpAny_bind (wpAny_field zz rfl (x := .bool false) rfl ?_)
  show wpAny _ A (field (.ref z) 3 >>= _) _ _ ⟨H, G, D, K, O⟩
  refine wpAny_bind (wpAny_field zz rfl (x := .ref TI) rfl ?_)
  refine wpAny_bind (wpAny_seqItems zI rfl ?_)
  show wpAny _ A (Builtin.SmallTypes.ownedTupleIsFree (.ref z) >>= _) _ _ ⟨H, G, D, K, O⟩
  refine wpAny_bind (wpAny_tupleHeld_zip zz zT fun H0 z0 b0 => ?_)
  replace b0 : Heap.SameBut z H H0 := b0
  simp only [if_false, Bool.false_eq_true]
  refine wpAny_bind ?_
  rw [← Array.forIn_toList]; simp only [List.forIn_nil, List.forIn_cons]
  refine wpAny_bind (wpAny_bind (?_ : wpAny _ A _ _ _ _))
  refine wpAny_holding ?_
  show wpAny _ _ (Builtin.SmallTypes.nextOf (.ref p) >>= _) _ _ ⟨H0, G, D, K, O⟩
  by_cases l1 : i < m
  · refine wpAny_bind (Dx.item i _ _ _ l1 (Dx.over sx b0 Z.zf1) fun x H1 K1 px nx b1 => wpAny_pure ?_)
    replace b1 : Heap.SameBut p H0 H1 := b1
    have e2 : i = n := by omega
    refine wpAny_pure ?_
    refine wpAny_bind (wpAny_bind ?_); refine wpAny_holding ?_
    show wpAny _ _ (Builtin.SmallTypes.nextOf (.ref q) >>= _) _ _ ⟨H1, G, D, K1, O⟩
    refine wpAny_bind (Dy.done ⟨H1, G, D, K1, O⟩ _ _ (by rw [← e2]; exact Dy.over (Dy.over sy b0 Z.zf2) b1 Z.sep1_2) fun H2 x b2 hx => ?_)
    exact k H2 K1 x (fun c o c1 c2 c3 e => b2 _ _ c3 (b1.extBut _ _ c2 (b0.extBut _ _ c1 e))) hx
  · have e1 : i = m := by omega
    refine wpAny_bind (Dx.done ⟨H0, G, D, K, O⟩ _ _ (by rw [← e1]; exact Dx.over sx b0 Z.zf1) fun H2 x b2 hx => ?_)
    exact k H2 K x (fun c o c1 c2 c3 e => b2 _ _ c2 (b0.extBut _ _ c1 e)) hx
theorem next_held {Q : Option Value → Shared → Prop} (Z : ZipSep2 z TI TO p q fp fq) (Dx : Draws prog w A.in1 p fp m Px Sx) (Dy : Draws prog w A.in1 q fq n Py Sy)
    (zz : IsZipHeld s.heap z TI TO T f) (zT : s.heap.get? T = some oT) (zI : IsTupOf2 s.heap TI (.ref p) (.ref q)) (sx : Sx i s.heap) (sy : Sy i s.heap) (lx : i < m) (ly : i < n)
    (k : ∀ x y h' tk, Px i x → Py i y → IsZipHeld h' z TI TO T true → Sx (i + 1) h' → Sy (i + 1) h' → IsTupOf2 h' s.heap.objs.size x y →
      (∀ c o, c ≠ z → c ≠ p → c ≠ q → s.heap.get? c = some o → h'.get? c = some o) → Q (some (.ref s.heap.objs.size)) { s with heap := h', toks := tk }) :
    wpAny (model prog w) A (pyNext (.ref z)) Q E s := by
  have ty : s.TypeIs (.ref z) "zip" := ⟨_, zz, rfl⟩
  unfold pyNext
  exact wpAny_bind (wpAny_attempt (wpAny_callSpecial?_slot (name := Str.ofString "__next__") ty F.slot_zip_next (wpAny_call_entry F.slot_zip_next ty F.entry_zip_next
    (held_item Z Dx Dy zz zT zI sx sy lx ly fun x y h' tk a1 a2 a3 a4 a5 a6 a7 => wpAny_pure (k x y h' tk a1 a2 a3 a4 a5 a6 a7)) (F.args_zip_next_1 _))))
theorem next_heldE {Q : Option Value → Shared → Prop} (Z : ZipSep2 z TI TO p q fp fq) (Dx : Draws prog w A.in1 p fp m Px Sx) (Dy : Draws prog w A.in1 q fq n Py Sy)
    (zz : IsZipHeld s.heap z TI TO T f) (zT : s.heap.get? T = some oT) (zI : IsTupOf2 s.heap TI (.ref p) (.ref q)) (sx : Sx i s.heap) (sy : Sy i s.heap) (lx : i ≤ m) (ly : i ≤ n) (le : i = m ∨ i = n)
    (k : ∀ h' tk, (∀ c o, c ≠ z → c ≠ p → c ≠ q → s.heap.get? c = some o → h'.get? c = some o) → Q none { s with heap := h', toks := tk }) : wpAny (model prog w) A (pyNext (.ref z)) Q E s := by
  have ty : s.TypeIs (.ref z) "zip" := ⟨_, zz, rfl⟩
  unfold pyNext
  refine wpAny_bind (wpAny_attempt (wpAny_callSpecial?_slot (name := Str.ofString "__next__") ty F.slot_zip_next (wpAny_call_entry F.slot_zip_next ty F.entry_zip_next
    (held_end Z Dx Dy zz zT zI sx sy lx ly le fun h' tk e kk he => ?_) (F.args_zip_next_1 _))))
  obtain ⟨o, ho, hc⟩ := he
  exact wpAny_bind (wpAny_isInstance (T := "StopIteration") (b := true) ⟨o, ho, hc⟩ isSubtype_stop (wpAny_pure (k _ _ kk)))
end
section
variable {prog : Program} {w : World}
theorem off4 {c z : Nat} (h : c < z) (e : c = z + 4 ∨ c = z + 3 ∨ c = z ∨ c = z + 1) : False := by omega
theorem sit {h h' : Heap} {a : Addr} {T : String} {x : Str} {t : Tok} {i : Nat} (k : ∀ o, h.get? a = some o → h'.get? a = some o) (r : h.IsStrIter a T x t i) : h'.IsStrIter a T x t i :=
  let ⟨o, ho, r⟩ := r; ⟨o, k o ho, r⟩
/-- the pair of the i-th signs of two texts -/
def Sg (x y : Str) (i : Nat) (k v : Value) : Prop := ∃ c d t u, x.cps[i]? = some c ∧ y.cps[i]? = some d ∧ k = .str ⟨#[c]⟩ t ∧ v = .str ⟨#[d]⟩ u
theorem argT (z TI TO p q : Addr) (Z : ZipSep2 z TI TO p q [p] [q]) (x y : Str) (t u : Tok) :
    PairArg prog w "zip" z [z, TI, TO, p, q] [z, TO, p, q] (min x.cps.size y.cps.size) (Sg x y)
      (fun h => IsZip h z TI TO .none ∧ IsTupOf2 h TI (.ref p) (.ref q) ∧ (∃ a b, IsTupOf2 h TO a b) ∧ h.IsStrIter p (strIterType x) x t 0 ∧ h.IsStrIter q (strIterType y) y u 0) where
  type := fun s st => ⟨_, st.1, rfl⟩
  notDict := by decide
  keep := fun h h' ok kk => by
    obtain ⟨a1, a2, ⟨a, b, a3⟩, a4, a5⟩ := ok
    exact ⟨kk _ _ a1, kk _ _ a2, ⟨a, b, kk _ _ a3⟩, sit (fun o e => kk _ o e) a4, sit (fun o e => kk _ o e) a5⟩
  there := fun h ok b hb => by
    obtain ⟨a1, a2, ⟨a, c, a3⟩, ⟨o1, a4, _⟩, ⟨o2, a5, _⟩⟩ := ok
    have hb' : b = z ∨ b = TI ∨ b = TO ∨ b = p ∨ b = q := by simpa using hb
    rcases hb' with e | e | e | e | e <;> subst e
    all_goals first | exact ⟨_, a1⟩ | exact ⟨_, a2⟩ | exact ⟨_, a3⟩ | exact ⟨_, a4⟩ | exact ⟨_, a5⟩
  sub := fun b hb => by
    have hb' : b = z ∨ b = TO ∨ b = p ∨ b = q := by simpa using hb
    rcases hb' with e | e | e | e <;> subst e <;> simp
  noKeys := fun A s Q E hA st k => getAttrOr_miss_zip st.1 rfl rfl rfl zip_no_keys (by decide +kernel) hA k
  iter := fun A s d Q E hA ok d1 hdf h => by
    obtain ⟨a1, a2, ⟨a, b, a3⟩, a4, a5⟩ := ok
    have hdf' : ¬ d = z ∧ ¬ d = TI ∧ ¬ d = TO ∧ ¬ d = p ∧ ¬ d = q := by simpa using hdf
    obtain ⟨dz, dI, dO, dp, dq⟩ := hdf'
    have hA1 : A.in1.handled = none := by simpa using hA
    have Dx := Draws.text (prog := prog) (w := w) hA1 p x t
    have Dy := Draws.text (prog := prog) (w := w) hA1 q y u
    refine wpAny_pyIter_zip a1 (h z [z, TO, p, q] (fun i h => IsTupOf2 h TI (.ref p) (.ref q) ∧ h.IsStrIter p (strIterType x) x t i ∧ h.IsStrIter q (strIterType y) y u i ∧
      ((IsZip h z TI TO .none ∧ ∃ a b, IsTupOf2 h TO a b) ∨ ∃ T f oT, IsZipHeld h z TI TO T f ∧ h.get? T = some oT ∧ T ≠ z ∧ T ≠ p ∧ T ≠ q ∧ T ≠ d)) s.heap s.toks ?_
      ⟨a2, a4, a5, .inl ⟨a1, a, b, a3⟩⟩ (fun _ _ e => e) fun b hb => .inl hb)
    exact {
      off := fun hm => by
        have hm' : d = z ∨ d = TO ∨ d = p ∨ d = q := by simpa using hm
        rcases hm' with e | e | e | e
        · exact dz e
        · exact dO e
        · exact dp e
        · exact dq e
      frame := fun i h1 h2 st kk => by
        obtain ⟨b2, b4, b5, bz⟩ := st
        refine ⟨kk _ _ (Ne.symm dI) b2, sit (fun o e => kk _ o (Ne.symm dp) e) b4, sit (fun o e => kk _ o (Ne.symm dq) e) b5, ?_⟩
        rcases bz with ⟨b1, a, b, b3⟩ | ⟨T, f, oT, b1, bT, r1, r2, r3, r4⟩
        · exact .inl ⟨kk _ _ (Ne.symm dz) b1, a, b, kk _ _ (Ne.symm dO) b3⟩
        · exact .inr ⟨T, f, oT, kk _ _ (Ne.symm dz) b1, kk _ _ r4 bT, r1, r2, r3, r4⟩
      item := fun i s1 Q1 E1 hi st ds k => by
        obtain ⟨b2, b4, b5, bz⟩ := st
        have lx : i < x.cps.size := Nat.lt_of_lt_of_le hi (Nat.min_le_left _ _)
        have ly : i < y.cps.size := Nat.lt_of_lt_of_le hi (Nat.min_le_right _ _)
        have lt : ∀ {c o}, s1.heap.get? c = some o → s1.heap.objs.size ≠ c := fun e => Nat.ne_of_gt (Heap.lt_size e)
        have n1 : s1.heap.objs.size ≠ p := let ⟨_, e, _⟩ := b4; lt e
        have n2 : s1.heap.objs.size ≠ q := let ⟨_, e, _⟩ := b5; lt e
        rcases bz with ⟨b1, a, b, b3⟩ | ⟨T, f, oT, b1, bT, r1, r2, r3, r4⟩
        · refine wpAny_pyNext_zipD2_item Z Dx Dy b1 b2 b3 b4 b5 lx ly fun v1 v2 h' tk e1 e2 c1 c2 c3 c4 c5 c6 kk => ?_
          obtain ⟨c, tc, g1, rfl⟩ := e1
          obtain ⟨d', td, g2, rfl⟩ := e2
          exact k s1.heap.objs.size _ _ h' tk ⟨c, d', tc, td, g1, g2, rfl, rfl⟩ (.inl ⟨_, c5, rfl, _, rfl⟩)
            ⟨kk _ _ Z.TIz Z.TITO Z.TIi1 Z.TIi2 b2, c3, c4, .inr ⟨s1.heap.objs.size, false, _, c1, c5, lt b1, n1, n2, Nat.ne_of_gt ds⟩⟩
            fun c o hc e => kk c o (fun x => hc (by simp [x])) (fun x => hc (by simp [x])) (fun x => hc (by simp [x])) (fun x => hc (by simp [x])) e
        · refine next_held Z Dx Dy b1 bT b2 b4 b5 lx ly fun v1 v2 h' tk e1 e2 c1 c3 c4 c5 kk => ?_
          obtain ⟨c, tc, g1, rfl⟩ := e1
          obtain ⟨d', td, g2, rfl⟩ := e2
          exact k s1.heap.objs.size _ _ h' tk ⟨c, d', tc, td, g1, g2, rfl, rfl⟩ (.inl ⟨_, c5, rfl, _, rfl⟩)
            ⟨kk _ _ Z.TIz Z.TIi1 Z.TIi2 b2, c3, c4, .inr ⟨T, true, oT, c1, kk _ _ r1 r2 r3 bT, r1, r2, r3, r4⟩⟩
            fun c o hc e => kk c o (fun x => hc (by simp [x])) (fun x => hc (by simp [x])) (fun x => hc (by simp [x])) e
      done := fun s1 Q1 E1 st k => by
        obtain ⟨b2, b4, b5, bz⟩ := st
        have le : min x.cps.size y.cps.size = x.cps.size ∨ min x.cps.size y.cps.size = y.cps.size := by omega
        rcases bz with ⟨b1, a, b, b3⟩ | ⟨T, f, oT, b1, bT, r1, r2, r3, r4⟩
        · exact wpAny_pyNext_zipD2_end Z Dx Dy b1 b2 b3 b4 b5 (Nat.min_le_left _ _) (Nat.min_le_right _ _) le fun h' tk kk => k h' tk fun c o hc e => kk c o (fun x => hc (by simp [x])) (fun x => hc (by simp [x])) (fun x => hc (by simp [x])) (fun x => hc (by simp [x])) e
        · exact next_heldE Z Dx Dy b1 bT b2 b4 b5 (Nat.min_le_left _ _) (Nat.min_le_right _ _) le fun h' tk kk => k h' tk fun c o hc e => kk c o (fun x => hc (by simp [x])) (fun x => hc (by simp [x])) (fun x => hc (by simp [x])) e }
/-- the entries -/
def kvT (a b : List Nat) : List (Key × V) := (a.zip b).map fun c => (Sum.inr (S [c.1]), .str (S [c.2]))
theorem kvT_len (a b : List Nat) : (kvT a b).length = min a.length b.length := by simp [kvT]
theorem kvT_get {a b : List Nat} {i c d : Nat} (h1 : a[i]? = some c) (h2 : b[i]? = some d) : (kvT a b)[i]? = some (Sum.inr (S [c]), .str (S [d])) := by
  have e : (a.zip b)[i]? = some (c, d) := by rw [List.getElem?_zip_eq_some]; exact ⟨h1, h2⟩
  simp [kvT, e]
theorem merge_take {xs : List (Key × V)} {i : Nat} {y : Key × V} (h : xs[i]? = some y) : mergeK [] (xs.take (i + 1)) = putK (mergeK [] (xs.take i)) y.1 y.2 := by
  unfold mergeK
  rw [List.take_add_one, List.foldl_append, h]
  rfl
theorem merge_new : ∀ (xs acc : List (Key × V)), (acc ++ xs).Pairwise (fun p q => p.1 ≠ q.1) → mergeK acc xs = acc ++ xs
  | [], acc, _ => by simp [mergeK]
  | x :: xs, acc, h => by
    have hn : valV acc x.1 = none := by
      cases e : valV acc x.1 with
      | none => rfl
      | some v =>
        exfalso
        obtain ⟨q, hq, hk⟩ : ∃ q ∈ acc, q.1 = x.1 := by
          unfold valV at e
          obtain ⟨q, hq, _⟩ := Option.map_eq_some_iff.mp e
          exact ⟨q, List.mem_of_find?_eq_some hq, by simpa using List.find?_some hq⟩
        exact (List.pairwise_append.mp h).2.2 q hq x (List.mem_cons_self ..) hk
    have e := merge_new xs (acc ++ [(x.1, x.2)]) (by simpa using h)
    show mergeK (putK acc x.1 x.2) xs = _
    rw [putK_new x.2 hn, e]
    simp
theorem merge_kvT {a b : List Nat} (h : a.Nodup) : mergeK [] (kvT a b) = kvT a b := by
  rw [merge_new]
  · rfl
  · rw [List.nil_append]
    unfold kvT
    rw [List.pairwise_map]
    have : ∀ (a b : List Nat), a.Nodup → (a.zip b).Pairwise fun p q => p.1 ≠ q.1 := fun a => by
      induction a with
      | nil => intro b _; simp
      | cons c a ih =>
        intro b hn
        cases b with
        | nil => simp
        | cons d b =>
          obtain ⟨h1, n2⟩ := List.nodup_cons.mp hn
          rw [List.zip_cons_cons, List.pairwise_cons]
          exact ⟨fun q hq e => h1 (by rw [show c = q.1 from e]; exact (List.of_mem_zip hq).1), ih b n2⟩
    refine (this a b h).imp fun {p q} hne e => hne ?_
    have e2 := Sum.inr.inj e
    have e3 : (S [p.1]).cps.toList = (S [q.1]).cps.toList := by rw [e2]
    simpa [S] using e3
theorem call_dict_sg {A : Around} {E : Value → Shared → Prop} {s : Shared} {z TI TO p q : Addr} {a b : List Nat} {t u : Tok} {Q : Value → Shared → Prop} (Z : ZipSep2 z TI TO p q [p] [q]) (hh : A.handled = none)
    (ok : IsZip s.heap z TI TO .none ∧ IsTupOf2 s.heap TI (.ref p) (.ref q) ∧ (∃ a b, IsTupOf2 s.heap TO a b) ∧ s.heap.IsStrIter p (strIterType (S a)) (S a) t 0 ∧ s.heap.IsStrIter q (strIterType (S b)) (S b) u 0) (hz : min a.length b.length ≤ sizeLine)
    (k : ∀ h' tk es, KV (mergeK [] (kvT a b)) es → h'.DictOf (mixKind prog w) s.heap.objs.size es → (∀ c o, c ∉ [z, TO, p, q] → s.heap.get? c = some o → h'.get? c = some o) → Q (.ref s.heap.objs.size) { s with heap := h', toks := tk }) :
    wpAny (model prog w) A (call (.type "dict") [.ref z]) Q E s := by
  have hn : min (S a).cps.size (S b).cps.size = (kvT a b).length := by rw [kvT_len]; simp [S]
  refine call_dict_arg (argT z TI TO p q Z (S a) (S b) t u) ok fun s1 hs1 hdf ok1 => ?_
  subst hs1
  refine updateFrom_arg (A := A.in1) (Tab := fun i h => ∃ es, KV (mergeK [] ((kvT a b).take i)) es ∧ h.DictOf (mixKind prog w) s.heap.objs.size es) (argT z TI TO p q Z (S a) (S b) t u) .none hh ok1 hdf
    ⟨[], .nil, Heap.DictOf.new s.heap⟩ (fun _ _ ⟨_, _, tb⟩ => tb.lt_size) (fun i h h' wr' hd _ ⟨es, r, tb⟩ hk => ⟨es, r, tb.at' fun o e => hk _ o hd e⟩) ?_ ?_
  · intro i key v s' Q' E' hi hrel tb _ hQ
    obtain ⟨es, r, tb⟩ := tb
    obtain ⟨c, d, tc, td, g1, g2, rfl, rfl⟩ := hrel
    have g3 := kvT_get (a := a) (b := b) (i := i) (c := c) (d := d) (by simpa [S] using g1) (by simpa [S] using g2)
    refine wpAny_dictSet_pairs (knd := mixKind prog w) (k := Sum.inr (S [c])) ?_ tb (fun h' hm' hs => hQ h' _ ⟨_, ?_, hm'⟩ hs) ?_
    · exact kV_is (P := prog) (w := w) (k := Sum.inr (S [c])) ⟨tc, rfl⟩
    · rw [merge_take g3]
      exact KV.put r _ ⟨td, rfl⟩
    · have e1 := length_mergeK ((kvT a b).take i) []
      have e2 := r.length
      rw [List.length_take, ← hn] at e1
      have e3 : min (S a).cps.size (S b).cps.size = min a.length b.length := by simp [S]
      simp only [List.length_nil] at e1
      omega
  · intro h' tk tb hk
    obtain ⟨es, r, tb⟩ := tb
    rw [hn, List.take_length] at r
    exact ⟨rfl, k h' tk es r tb fun c o hc e => hk c o (Nat.ne_of_lt (Heap.lt_size e)) hc (Heap.get?_push_of_some _ e)⟩
end
section
variable {X : Cx} {e1 e2 : Expr} {ta tb : TE} {p1 p2 p3 pos : Pos}
def tDz (ta tb : TE) : TE := fun σ H Q => ta σ H fun x H1 => tb σ H1 fun y H2 => ∃ u v, [x, y] = [u, v] ∧ ∃ a b, u = .str (S a) ∧ v = .str (S b) ∧ min a.length b.length ≤ 60 ∧ ∀ p, H2 p = none → Q (.ref p) (upd H2 p (.dK (mergeK [] (kvT a b))))
theorem pe_dz (hc : X.calm = true) (hg : Gl X "dict") (hm : X.mg "dict" = none) (hg2 : Gl X "zip") (hm2 : X.mg "zip" = none) (ha : PE X e1 ta) (hb : PE X e2 tb)
    (hs : starEach [e1, e2] X.env = (false, eval e1 X.env) :: starEach [e2] X.env := by rfl) (hs2 : starEach [e2] X.env = (false, eval e2 X.env) :: starEach [] X.env := by rfl) (hpl : (backTo p3 (starEach [e2] X.env)).any (·.1) = false := by rfl) :
    PE X (.Call (.Name "dict" p1) [.Call (.Name "zip" p2) [e1, e2] [] p3] [] pos) (tDz ta tb) := by
  refine ⟨fun pins s σ H Q I h => PyProof.Rows.Call_ (ld_blt I hg hm PyProof.Rows.boot_dict ?_)⟩
  refine PyProof.Rows.callWith_type1 (PyProof.Rows.args_cons ?_ rfl) rfl rfl
  refine PyProof.Rows.Call_ (ld_blt I hg2 hm2 PyProof.Rows.boot_zip ?_)
  refine PyProof.Rows.callWith_type1 (thn ((pa_cons ha (pa_cons hb pa_nil hs2) hs).run p3 pins s σ H (fun vs H2 => ∃ x y, vs = [x, y] ∧ ∃ a b, x = .str (S a) ∧ y = .str (S b) ∧ min a.length b.length ≤ 60 ∧ ∀ p, H2 p = none → Q (.ref p) (upd H2 p (.dK (mergeK [] (kvT a b))))) I h) fun us s1 ⟨vs, H2, I2, r2, q2⟩ => ?_) hs hpl
  obtain ⟨x, y, rfl, a, b, rfl, rfl, hz, q⟩ := q2
  cases r2 with
  | cons rx rr =>
    cases rr with
    | cons ry rr =>
      cases rr
      obtain ⟨t, rfl⟩ := rx
      obtain ⟨u, rfl⟩ := ry
      have Z : ZipSep2 (s1.heap.objs.size + 4) (s1.heap.objs.size + 2) (s1.heap.objs.size + 3) s1.heap.objs.size (s1.heap.objs.size + 1) [s1.heap.objs.size] [s1.heap.objs.size + 1] := zip_sep2 (fp1 := []) (fp2 := []) (fun _ h => nomatch h) (fun _ h => nomatch h)
      refine zip_begins2 (begins_text (S a) t) (begins_text (S b) u) trivial trivial fun h' hz' hTI hTO g1 g2 hsz hk => PyProof.Rows.args_nil ?_
      have I3 : Inv X pins σ H2 { s1 with heap := h' } := I2.kept (t' := s1.toks) hk
      refine call_dict_sg Z (I3.ok.hd hc) ⟨hz', hTI, ⟨_, _, hTO⟩, ⟨_, g1, rfl, rfl⟩, ⟨_, g2, rfl, rfl⟩⟩ (Nat.le_trans hz (by rw [sizeLine_eq]; omega)) fun h2 tk es r d kk => ?_
      have hb2 : h'.objs.size = s1.heap.objs.size + 5 := hsz
      have hm' : (h'.objs.size == sysModules) = false := beq_eq_false_iff_ne.mpr (Nat.ne_of_gt I3.big)
      have hlen : (mergeK [] (kvT a b)).length ≤ sizeLine := by
        have e := length_mergeK (kvT a b) []
        have e60 : 60 ≤ sizeLine := by rw [sizeLine_eq]; omega
        rw [kvT_len, List.length_nil] at e
        omega
      have k2 : ∀ c o, s1.heap.get? c = some o → h2.get? c = some o := fun c o e => by
        have lt : c < s1.heap.objs.size := Heap.lt_size e
        refine kk c o (fun hm => ?_) (hk c o e)
        exact off4 lt (by simpa using hm)
      have hn : H2 h'.objs.size = none := I3.hok.fresh (Nat.le_refl _)
      exact ⟨.ref h'.objs.size, _, I2.laid (a := h'.objs.size) (o := .dK (mergeK [] (kvT a b))) (h' := h2) (t' := tk) k2 (by omega) ⟨hlen, hm', es, r, d⟩, rfl, q _ hn⟩
end
end Lw.DZ
namespace Lw
open PySem PySem.Spec PyProof.Rows L2
/-- the signs of a text -/
def sgs (a : List Nat) : List Val := a.map fun c => .str [c]
/-- dict(zip(text, text)), the keys' signs apart -/
def sDz (f g : EF) : EF := ebind (esh f) fun oa => ebind (esh g) fun ob env => match oa, ob with
  | .shr (.str a), .shr (.str b) => if a.Nodup ∧ a.length = b.length ∧ a.length ≤ 50 then some (.val (.new (.dct (sgs a) (sgs b))), env) else none
  | _, _ => none
theorem rep_sgs {T : Tx} {B : Hp} : ∀ (a : List Nat), RepAll T B (a.map fun c => V.str (S [c])) (sgs a)
  | [] => .nil
  | c :: a => .cons (Rep.of_str rfl) (rep_sgs a)
theorem se_dz {X : Cx} {W : WX} {a b : Expr} {f g : EF} {p1 p2 p3 pos : Pos} (hc : X.calm = true) (hg : Gl X "dict") (hm : X.mg "dict" = none) (hg2 : Gl X "zip") (hm2 : X.mg "zip" = none) (ha : SE X W a f) (hb : SE X W b g)
    (hs : starEach [a, b] X.env = (false, eval a X.env) :: starEach [b] X.env := by rfl) (hs2 : starEach [b] X.env = (false, eval b X.env) :: starEach [] X.env := by rfl) (hpl : (backTo p3 (starEach [b] X.env)).any (·.1) = false := by rfl) :
    SE X W (.Call (.Name "dict" p1) [.Call (.Name "zip" p2) [a, b] [] p3] [] pos) (sDz f g) := by
  refine PE.mono (DZ.pe_dz hc hg hm hg2 hm2 (se_esh ha) (se_esh hb) hs hs2 hpl) fun σ H Q q => ?_
  obtain ⟨env, F, B, r, env9, S0, e, k⟩ := q
  refine run_cut S0 e k fun oa env1 H1 F1 B1 x e1 S1 G1 x1 q1 => ?_
  refine run_cut S1 e1 q1 fun ob env2 H2 F2 B2 y e2 S2 G2 y2 q2 => ?_
  try dsimp only at e2
  split at e2
  · rename_i a' b'
    split at e2
    · rename_i hn
      cases e2
      have xr : Rep (tx X) B2 x (.str a') := Rep.mono G2.kn x1
      have yr : Rep (tx X) B2 y (.str b') := y2
      refine ⟨_, _, rfl, a', b', OprR.str (H := H) (.inl xr), OprR.str (H := H) (.inl yr), by omega, fun p hp => ?_⟩
      rw [DZ.merge_kvT hn.1]
      have g2 := PG.fresh S2.sub (HO.dK (DZ.kvT a' b')) hp
      have al := (G1.trans S0 S1 G2).al
      refine q2.done (rv := .new (.dct (sgs a') (sgs b'))) S2 al g2 ⟨p, [p], rfl, .dct upd_same (.inl ⟨_, rfl, rfl, rfl⟩) ?_ ?_, fun b hb => ?_⟩
      · have e : (DZ.kvT a' b').map (fun p => kV p.1) = a'.map fun c => V.str (S [c]) := by
          unfold DZ.kvT
          rw [List.map_map, show ((fun p : Key × V => kV p.1) ∘ fun c : Nat × Nat => (Sum.inr (S [c.1]), V.str (S [c.2]))) = ((fun c => V.str (S [c])) ∘ Prod.fst) from rfl, ← List.map_map, List.map_fst_zip (by omega)]
        rw [e]
        exact rep_sgs a'
      · have e : (DZ.kvT a' b').map (·.2) = b'.map fun c => V.str (S [c]) := by
          unfold DZ.kvT
          rw [List.map_map, show ((fun p : Key × V => p.2) ∘ fun c : Nat × Nat => (Sum.inr (S [c.1]), V.str (S [c.2]))) = ((fun c => V.str (S [c])) ∘ Prod.snd) from rfl, ← List.map_map, List.map_snd_zip (by omega)]
        rw [e]
        exact rep_sgs b'
      · rw [List.mem_singleton] at hb; subst hb; exact ⟨hp, S2.sub.free hp⟩
    · cases e2
  · cases e2
end Lw

end
section
set_option Elab.async false
set_option linter.all false
set_option maxRecDepth 100000
set_option maxHeartbeats 4000000
set_option autoImplicit false
/-! Lw: a def called where an exception is handled: it is handed that exception, nothing leaves it. -/
namespace Lw
open PySem PySem.Spec PyProof.Rows L2
/-- nothing leaves -/
abbrev CXn : CXT := fun _ _ _ _ _ _ => False
abbrev XKn : XK := fun _ _ _ => False
section
variable {X : Cx} {pins : List (Addr × Obj)} {σ : L2.St} {H : Hp} {s : Shared} {x qual : Str} {params : Arguments} {body : List Stmt} {scope : Scope} {f : Addr} {fd : FuncData} {N ps : List Str} {k : Nat} {p : Addr × Obj} {us : List Value} {vs : List V} {Q : VK}
theorem call_pin (F : FunD X.K x qual params body scope [] [] f fd) (S : FnScope N ps scope) (hr : L2H.RoomH (k + 1) X.A) (hb : Binds X.K fd ps []) (I : Inv X pins σ H s) (hp : p ∈ X.pn) (r : Vals vs us) (hl : vs.length = ps.length)
    (hbody : ∀ cdv : Value, L2H.RoomH k (X.A.deeper (envOfC qual scope s.heap.objs.size f cdv)) → ∃ t, PSs (L2H.cxH CXn X.prog X.w X.K X.mg X.base N qual scope f cdv X.A X.stack s H XKn p) body t ∧ t { nx := fun _ H' => Q .non H', rt := Q } (L2.start N vs) H) :
    wpAny (model X.prog X.w) X.A (call (.ref f) us) (EP X pins σ Q) X.xe s := by
  obtain ⟨oc, od, dV, kV, doc, pm, an, cdv, ct, osl, rfl, lk, hcd, _, _⟩ := F.ex
  obtain ⟨g1, g2, g3, g4, g5⟩ := I.pin p (List.mem_append_left _ hp)
  have off : p.1 ∉ frs X.stack := fun hm => (List.mem_cons.mp (I.stkSub p.1 hm)).elim g3 g4
  have pin : L2H.PinOk X.stack H s p := { get := g1, free := g2, nofs := off, nocell := g5 }
  have bind := hb s us I.kIn (by rw [List.append_nil, ← r.length]; exact hl)
  rw [List.append_nil] at bind
  have e0 := I.env0
  have KX : X.K.In s.heap := I.kIn
  have nolim : s.heap.NoLimit := I.nolimit
  have par : ∀ y ∈ ps.zip us, scope.names.lookup y.1 = some .local ∨ (scope.names.lookup y.1 = some .cell ∧ ((cellsFrom (s.heap.objs.size + 1) scope.names []).lookup y.1).isSome = true) := by
    rintro ⟨n, v⟩ hy
    rcases S.par n (List.of_mem_zip hy).1 with q | q
    · exact .inl q
    · exact .inr ⟨q, PySem.W.cellsFrom_some _ _ _ (.inl q)⟩
  have run : codeAny (model X.prog X.w) X.A (.call (.ref f) ⟨us, []⟩) (CR CXn X.stack X.prog X.w H s Q XKn) s := by
    refine codeAny_call_function hr.depth (KX _ _ lk) rfl S.co S.gen rfl (PySem.W.codeRec_of KX hcd) (bind _ _ _ _ (wpAny_newFunctionEnv_cells S.kind par fun env he s1 xx => ?_))
    subst he
    refine ⟨nolim.keeps xx.toInCall.keep, codeAny_func ?_⟩
    obtain ⟨t, ht, hq⟩ := hbody cdv (hr.deeper _)
    have J := L2H.inv_startH (CX := CXn) (E := XKn) S pin e0 hl r xx
    refine wpAny_mono (ht.run [] s1 _ H _ J hq) (fun fl s' hs => ?_) fun _ _ z => z
    cases fl with
    | next =>
      obtain ⟨_, H', K', q⟩ := hs
      exact ⟨.non, H', K'.os, K'.bare, K'.base, K'.hok, rfl, q⟩
    | ret u =>
      obtain ⟨v, _, H', K', rv, q⟩ := hs
      exact ⟨v, H', K'.os, K'.bare, K'.base, K'.hok, rv, q⟩
    | brk =>
      obtain ⟨_, _, _, q⟩ := hs
      exact q.elim
    | cont =>
      obtain ⟨_, _, _, q⟩ := hs
      exact q.elim
  refine wpAny_call (codeAny_mono run fun r s' hq => ?_)
  cases r with
  | error e => exact hq.elim
  | ok fl =>
    cases fl with
    | ret u => exact I.after hq
    | _ => exact hq.elim
end
/-! ### what the handled exception is -/
section
variable {X : Cx} {a D : Addr} {oe : Obj}
theorem call_isP (hp : (a, oe) ∈ X.pn) (C : ExcC X.K D) (hz : Zc (.ref D) none oe) (hf : ∃ vs, oe.data = .fields vs) : CallR X (.builtin "isinstance") (rIsE X.K D a) := by
  intro pins s σ H xs us Q I r h
  obtain ⟨c, cv, b, rfl, hcv, e, q⟩ := h
  cases r with
  | cons rx rr =>
    cases rr with
    | cons rt rr =>
      cases rr
      cases rx
      have ec := hcv _ rt
      subst ec
      have hget := (I.pin (a, oe) (List.mem_append_left _ hp)).1
      obtain ⟨vs, hv⟩ := hf
      obtain ⟨h1, h2⟩ := hz
      have J : PySem.W.InstAt s.heap a oe D none := by
        cases oe
        dsimp only at h1 h2 hv
        subst h1 h2 hv
        exact ⟨hget, rfl, rfl, trivial⟩
      exact PySem.W.kia_one (PySem.W.handS_kitx_exc C.hg C.hk C.hs C.hd C.ha C.hn C.ht C.hm) I.kIn J e (fun z => nomatch z) fun tk => ⟨.bl b, H, I.kept (t' := tk) fun _ _ z => z, rfl, q⟩
end
/-! ### list.count, of truths -/
theorem vals_bls : ∀ {bs : List Bool} {us : List Value}, Vals (bs.map V.bl) us → us = bs.map Value.bool
  | [], _, h => by cases h; rfl
  | b :: bs, _, h => by
    cases h with
    | cons h1 h2 =>
      have e : _ = Value.bool b := h1
      rw [e, vals_bls h2]; rfl
end Lw

end
section
set_option Elab.async false
set_option linter.all false
set_option maxRecDepth 100000
set_option maxHeartbeats 4000000
set_option autoImplicit false
/-! Lw: which class a handled exception has: a list of truths, its count, its index. -/
namespace Lw
open PySem PySem.Spec PyProof.Rows L2
section
variable {X : Cx} {a : Addr}
/-- slot 0 holds the exception; the answer is b -/
def tIsB (a : Addr) (b : Bool) : TE := fun σ H Q => σ[0]? = some (some (.ref a)) ∧ Q (.bl b) H
def tIsBs (a : Addr) (bs : List Bool) : TA := fun σ H Q => σ[0]? = some (some (.ref a)) ∧ Q (bs.map V.bl) H
def tBList (a : Addr) (bs : List Bool) : TE := fun σ H Q => σ[0]? = some (some (.ref a)) ∧ ∀ p, H p = none → Q (.ref p) (upd H p (.lst (bs.map V.bl)))
theorem pe_isB {D : Addr} {cv : Value} {c : V} {b : Bool} {e1 e2 : Expr} {q pos : Pos} (hc : CallR X (.builtin "isinstance") (rIsE X.K D a)) (hg : Gl X "isinstance") (hm : X.mg "isinstance" = none) (hv : bootBuiltins "isinstance" = some (.builtin "isinstance"))
    (h1 : PE X e1 (tVar 0)) (h2 : PE X e2 (tC c)) (hcv : ∀ u, RelV c u → u = cv) (hk : PySem.W.kitOne X.K (.ref D) cv = some b)
    (s1 : starEach [e1, e2] X.env = (false, eval e1 X.env) :: starEach [e2] X.env := by rfl) (s2 : starEach [e2] X.env = (false, eval e2 X.env) :: starEach [] X.env := by rfl) (s3 : (backTo pos (starEach [e2] X.env)).any (·.1) = false := by rfl) :
    PE X (.Call (.Name "isinstance" q) [e1, e2] [] pos) (tIsB a b) :=
  PE.mono (pe_callB hc hg hm hv (pa_cons h1 (pa_cons h2 pa_nil s2) s1) (he := s1) (hpl := s3)) fun σ H Q h => ⟨.ref a, h.1, c, cv, b, rfl, hcv, hk, h.2⟩
theorem pa_isNil : PA X [] (tIsBs a []) := PA.mono pa_nil fun _ _ _ h => h.2
theorem pa_isCons {b : Bool} {bs : List Bool} {e : Expr} {es : List Expr} (h : PE X e (tIsB a b)) (t : PA X es (tIsBs a bs)) (hs : starEach (e :: es) X.env = (false, eval e X.env) :: starEach es X.env := by rfl) : PA X (e :: es) (tIsBs a (b :: bs)) :=
  PA.mono (pa_cons h t hs) fun _ _ _ h => ⟨h.1, h.1, h.2⟩
theorem pe_isLst {bs : List Bool} {es : List Expr} {pos : Pos} (h : PA X es (tIsBs a bs)) (hl : bs.length ≤ 100) : PE X (.List es pos) (tBList a bs) :=
  PE.mono (pe_lst h) fun _ _ _ q => ⟨q.1, by rw [List.length_map, sizeLine_eq]; omega, q.2⟩
/-- the truths so far stand in a list of slot 1 -/
structure Wst (a l : Addr) (bs : List Bool) (σ : L2.St) (H : Hp) : Prop where
  s0 : σ[0]? = some (some (.ref a))
  s1 : σ[1]? = some (some (.ref l))
  at_ : H l = some (.lst (bs.map V.bl))
def tW1 (a : Addr) (bs : List Bool) : TS := fun D σ H => σ[0]? = some (some (.ref a)) ∧ 2 ≤ σ.length ∧ ∀ l σ' H', H l = none → (∀ b, b ≠ l → H' b = H b) → Wst a l bs σ' H' → D.nx σ' H'
theorem ps_w1 {bs : List Bool} {st tg : Expr} {pos : Pos} (h : PE X st (tBList a bs)) (hg : L2.PG X tg (gName 1)) (hs : swapsWithSole [tg] st pos.line X.env = pure false := by rfl) (hw : swappedStores [tg] st X.env = pure none := by rfl)
    (h1 : (assignEach [tg] X.env).map (·.2) = [assign tg X.env] := by rfl) : PS X (.Assign [tg] st pos) (tW1 a bs) := by
  refine PS.mono (ps_asg h hg hs hw h1) fun D σ H q => ⟨q.1, fun p hp => ?_⟩
  refine q.2.2 p _ _ hp (fun b hb => upd_ne hb) ⟨?_, ?_, upd_same⟩
  · rw [List.getElem?_set_ne (by decide)]; exact q.1
  · rw [List.getElem?_set_self (by have := q.2.1; omega)]
def tWx (a : Addr) (cs : List Bool) : TS := fun D σ H => ∃ l bs, Wst a l bs σ H ∧ bs.length + cs.length ≤ 100 ∧ ∀ H', (∀ b o, b ≠ l → H b = some o → H' b = some o) → Wst a l (bs ++ cs) σ H' → D.nx σ H'
theorem ps_wx {cs : List Bool} {o e : Expr} {apos cpos pos : Pos} (ho : PE X o (tVar 1)) (h : PE X e (tBList a cs)) (hl : cs.length ≤ 100)
    (hbase : attributeBase o "extend" X.env (eval o X.env) = eval o X.env := by rfl)
    (hfew : ((backTo cpos (starEach [e] X.env)).all (fun x => !x.1) && (backToKw cpos (keywordEach [] X.env)).all (fun x => x.1.isSome) && decide ([e].length + ([] : List Keyword).length + (if ([] : List Keyword).isEmpty then 0 else 1) < 30)) = true := by rfl)
    (hline : (apos.endLine == cpos.line) = true := by rfl) (hs1 : starEach [e] X.env = (false, eval e X.env) :: starEach [] X.env := by rfl) (hp : (backTo cpos (starEach [] X.env)).any (·.1) = false := by rfl)
    (hs : swapsWith (.Call (.Attribute o "extend" apos) [e] [] cpos) none pos.line X.env = pure false := by rfl) : PS X (.Expr (.Call (.Attribute o "extend" apos) [e] [] cpos) pos) (tWx a cs) := by
  refine PS.mono (ps_expr (pe_bm PySem.F.plainAttrs_list PySem.F.slot_list_extend PySem.F.type_list_extend mt_extend ho (pa_cons h pa_nil hs1) hbase hfew hline hs1 hp) hs) fun D σ H q => ?_
  obtain ⟨l, bs, w, hn, q⟩ := q
  refine ⟨.ref l, w.s1, .inl ⟨rfl, _, SqL.of w.at_⟩, w.s0, fun p hp => ?_⟩
  have lp : l ≠ p := fun z => by rw [← z, w.at_] at hp; cases hp
  have e1 : upd H p (.lst (cs.map V.bl)) l = some (.lst (bs.map V.bl)) := by rw [upd_ne lp]; exact w.at_
  refine ⟨l, p, _, _, rfl, rfl, e1, upd_same, by rw [List.length_map, List.length_map, sizeLine_eq]; omega, ?_⟩
  refine q _ (fun b o hb e => ?_) ⟨w.s0, w.s1, by rw [upd_same, List.map_append]⟩
  rw [upd_ne hb, upd_ne fun z => by rw [z, hp] at e; cases e]
  exact e
/-! ### the count, the index -/
theorem reads_bls {h : Heap} : ∀ bs : List Bool, ReadsAll h (bs.map Value.bool) (bs.map PyData.bool) []
  | [] => .nil
  | b :: bs => .cons (as := []) (.bool b) (reads_bls bs)
theorem plain_bls : ∀ bs : List Bool, PyData.plainAll (bs.map PyData.bool) = true
  | [] => by simp [PyData.plainAll]
  | b :: bs => by
    show PyData.plainAll (.bool b :: bs.map PyData.bool) = true
    rw [PyData.plainAll, plain_bls bs]; rfl
theorem depth_bls : ∀ bs : List Bool, PyData.depthAll (bs.map PyData.bool) = 0
  | [] => by simp [PyData.depthAll]
  | b :: bs => by
    show PyData.depthAll (.bool b :: bs.map PyData.bool) = 0
    rw [PyData.depthAll, depth_bls bs]; rfl
def rCntB (K : PySem.W.Frag) : V → List V → Hp → VK → Prop := fun x xs H Q => ∃ (p : Addr) (bs : List Bool), x = .ref p ∧ xs = [.bl true] ∧ SqL K H p (bs.map V.bl) ∧ Q (.int ((bs.count true : Nat) : Int)) H
theorem mt_countB (hu : X.A.units + 2 < cLine) : MtR X "list.count" (rCntB X.K) := by
  intro pins s σ H x xs v us Q I rx rxs h
  obtain ⟨p, bs, rfl, rfl, hs, q⟩ := h
  cases rx
  obtain ⟨u, rfl, ru⟩ := rxs.one
  obtain rfl : u = Value.bool true := ru
  obtain ⟨its, rv, hl, hz⟩ := I.list hs
  have ei := vals_bls rv
  subst ei
  have ec : ∀ bs : List Bool, (bs.map PyData.bool).countP (fun y => PyData.eqv y (.bool true)) = bs.count true := fun bs => by
    induction bs with
    | nil => rfl
    | cons b bs ih =>
      rw [List.map_cons, List.countP_cons, ih, List.count_cons]
      cases b <;> simp [PyData.eqv]
  refine PySem.SeqAt.count_list_data (vs := (bs.map Value.bool).toArray) (d := .bool true) hl.isList (reads_bls bs) (.bool true) (plain_bls bs) (by decide) ?_ ?_
  · rw [depth_bls]; simp; omega
  · rw [ec]
    exact ⟨.int ((bs.count true : Nat) : Int), H, I.tok _, ⟨s.toks, rfl⟩, q⟩
/-- if own.count(True) != 1 or not isinstance(e, ValueError): .. -/
def tWif (a : Addr) : TS := fun D σ H => ∃ l bs, Wst a l bs σ H ∧ bs.count true = 1 ∧ D.nx σ H
theorem ps_wif {o e2 : Expr} {apos cpos p1 p2 p3 pos : Pos} {ys : List Stmt} {t : TS} (hu : X.A.units + 64 < cLine) (ho : PE X o (tVar 1)) (hi : PE X e2 (tIsB a true)) {one tru : Expr} (h1 : PE X one (tC (.int 1))) (ht : PE X tru (tC (.bl true))) (hys : PSs X ys t)
    (hbase : attributeBase o "count" X.env (eval o X.env) = eval o X.env := by rfl)
    (hfew : ((backTo cpos (starEach [tru] X.env)).all (fun x => !x.1) && (backToKw cpos (keywordEach [] X.env)).all (fun x => x.1.isSome) && decide ([tru].length + ([] : List Keyword).length + (if ([] : List Keyword).isEmpty then 0 else 1) < 30)) = true := by rfl)
    (hline : (apos.endLine == cpos.line) = true := by rfl) (hs1 : starEach [tru] X.env = (false, eval tru X.env) :: starEach [] X.env := by rfl) (hp : (backTo cpos (starEach [] X.env)).any (·.1) = false := by rfl)
    (hm : behindInMarks .NotEq one = false := by rfl) (hv : ∀ whole, isTrue e2 X.env whole = (do let v ← whole; standAt e2.pos; holding [v] (truthy v)) := by intro _; rfl) :
    PS X (.If (.BoolOp .Or [.Compare (.Call (.Attribute o "count" apos) [tru] [] cpos) [.NotEq] [one] p1, .UnaryOp .Not e2 p2] p3) ys [] pos) (tWif a) := by
  have pc := pt_cmpR (pos := p1) (op_neD hu) (pe_bm PySem.F.plainAttrs_list PySem.F.slot_list_count PySem.F.type_list_count (mt_countB (X := X) (by omega)) ho (pa_cons ht pa_nil hs1) hbase hfew hline hs1 hp) h1 hm
  refine PS.mono (ps_if (PW.pt (pw_or pc (pw_or1 (pt_not (pt_val hi hv))))) hys pss_nil) fun D σ H q => ?_
  obtain ⟨l, bs, w, hc, q⟩ := q
  refine ⟨.ref l, w.s1, .inl ⟨rfl, _, SqL.of w.at_⟩, l, bs, rfl, rfl, SqL.of w.at_, .int 1, .int 1, ?_, .int 1, rfl, rfl, ?_⟩
  · rw [hc]; exact .int 1
  · refine ⟨false, rfl, ?_⟩
    show (if false = true then _ else _)
    rw [if_neg Bool.false_ne_true]
    refine ⟨w.s0, true, rfl, ?_⟩
    show (if (!true) = true then _ else _)
    rw [if_neg (by decide)]
    exact q
/-- return ("raised", own.index(True)) -/
def tWrt (a : Addr) (x : Str) (k : Nat) : TS := fun D σ H => ∃ l bs, Wst a l bs σ H ∧ bs[k]? = some true ∧ (∀ m, m < k → bs[m]? = some false) ∧ ∀ p, H p = none → D.rt (.ref p) (upd H p (.tup [.str x, .int (k : Nat)]))
theorem ps_wrt {x : Str} {k : Nat} {o : Expr} {apos cpos pos : Pos} {txt tru : Expr} (ho : PE X o (tVar 1)) (hx : PE X txt (tC (.str x))) (ht : PE X tru (tC (.bl true)))
    (hbase : attributeBase o "index" X.env (eval o X.env) = eval o X.env := by rfl)
    (hfew : ((backTo cpos (starEach [tru] X.env)).all (fun x => !x.1) && (backToKw cpos (keywordEach [] X.env)).all (fun x => x.1.isSome) && decide ([tru].length + ([] : List Keyword).length + (if ([] : List Keyword).isEmpty then 0 else 1) < 30)) = true := by rfl)
    (hline : (apos.endLine == cpos.line) = true := by rfl) (hs1 : starEach [tru] X.env = (false, eval tru X.env) :: starEach [] X.env := by rfl) (hp : (backTo cpos (starEach [] X.env)).any (·.1) = false := by rfl)
    (hs2 : starEach [txt, .Call (.Attribute o "index" apos) [tru] [] cpos] X.env = (false, eval txt X.env) :: starEach [.Call (.Attribute o "index" apos) [tru] [] cpos] X.env := by rfl) (hs3 : starEach [.Call (.Attribute o "index" apos) [tru] [] cpos] X.env = (false, eval (.Call (.Attribute o "index" apos) [tru] [] cpos) X.env) :: starEach [] X.env := by rfl) {tupx : Expr} (htup : ∀ t, PA X [txt, .Call (.Attribute o "index" apos) [tru] [] cpos] t → PE X tupx (tTup t)) :
    PS X (.Return (some tupx) pos) (tWrt a x k) := by
  refine PS.mono (ps_ret (htup _ (pa_cons hx (pa_cons (pe_bm PySem.F.plainAttrs_list PySem.F.slot_list_index PySem.F.type_list_index mt_index ho (pa_cons ht pa_nil hs1) hbase hfew hline hs1 hp) pa_nil hs3) hs2))) fun D σ H q => ?_
  obtain ⟨l, bs, w, hk, hno, q⟩ := q
  have gm : ∀ m, (bs.map V.bl)[m]? = (bs[m]?).map V.bl := fun m => List.getElem?_map ..
  refine ⟨.ref l, w.s1, .inl ⟨rfl, _, SqL.of w.at_⟩, l, bs.map V.bl, .bl true, k, .bl true, rfl, rfl, SqL.of w.at_, rfl, ?_, by rw [gm, hk]; rfl, rfl, fun m z' hm hz => ?_, ?_⟩
  · rw [List.all_map]; exact List.all_eq_true.mpr fun _ _ => rfl
  · rw [gm, hno m hm] at hz
    cases hz
    rfl
  · exact ⟨by show 2 ≤ sizeLine; rw [sizeLine_eq]; decide, q⟩
/-- the truths of nine classes, the k-th of them true -/
def bq (k i : Nat) : Bool := decide (i = k)
theorem bq_nine (k : Nat) (hk : k < 9) : ([bq k 0, bq k 1, bq k 2, bq k 3, bq k 4, bq k 5, bq k 6, bq k 7, bq k 8].count true = 1) ∧ [bq k 0, bq k 1, bq k 2, bq k 3, bq k 4, bq k 5, bq k 6, bq k 7, bq k 8][k]? = some true ∧ ∀ m, m < k → [bq k 0, bq k 1, bq k 2, bq k 3, bq k 4, bq k 5, bq k 6, bq k 7, bq k 8][m]? = some false := by
  have : k = 0 ∨ k = 1 ∨ k = 2 ∨ k = 3 ∨ k = 4 ∨ k = 5 ∨ k = 6 ∨ k = 7 ∨ k = 8 := by omega
  rcases this with rfl | rfl | rfl | rfl | rfl | rfl | rfl | rfl | rfl
  all_goals decide
def tWall (a : Addr) (x : Str) (k : Nat) : TS := fun D σ H => σ[0]? = some (some (.ref a)) ∧ 2 ≤ σ.length ∧ ∀ p H', (∀ b o, H b = some o → H' b = some o) → H' p = none → D.rt (.ref p) (upd H' p (.tup [.str x, .int (k : Nat)]))
theorem pss_which {x : Str} {k : Nat} (hk : k < 9) {s1 s2 s3 s4 s5 s6 s7 s8 : Stmt} (h1 : PS X s1 (tW1 a [bq k 0, bq k 1])) (h2 : PS X s2 (tWx a [bq k 2])) (h3 : PS X s3 (tWx a [bq k 3, bq k 4])) (h4 : PS X s4 (tWx a [bq k 5])) (h5 : PS X s5 (tWx a [bq k 6, bq k 7])) (h6 : PS X s6 (tWx a [bq k 8])) (h7 : PS X s7 (tWif a)) (h8 : PS X s8 (tWrt a x k)) :
    PSs X [s1, s2, s3, s4, s5, s6, s7, s8] (tWall a x k) := by
  obtain ⟨c1, c2, c3⟩ := bq_nine k hk
  refine PSs.mono (pss_cons h1 (pss_cons h2 (pss_cons h3 (pss_cons h4 (pss_cons h5 (pss_cons h6 (pss_cons h7 (pss_cons h8 pss_nil)))))))) fun D σ H q => ?_
  obtain ⟨q0, ql, q⟩ := q
  refine ⟨q0, ql, fun l σ1 H1 hl same w1 => ?_⟩
  have k1 : ∀ b o, H b = some o → H1 b = some o := fun b o e => by rw [same b fun z => by rw [z, hl] at e; cases e]; exact e
  refine ⟨l, _, w1, by simp, fun H2 k2 w2 => ⟨l, _, w2, by simp, fun H3 k3 w3 => ⟨l, _, w3, by simp, fun H4 k4 w4 => ⟨l, _, w4, by simp, fun H5 k5 w5 => ⟨l, _, w5, by simp, fun H6 k6 w6 => ?_⟩⟩⟩⟩⟩
  refine ⟨l, _, w6, c1, l, _, w6, c2, c3, fun p hp => q p H6 (fun b o e => ?_) hp⟩
  have bl : b ≠ l := fun z => by rw [z, hl] at e; cases e
  exact k6 b o bl (k5 b o bl (k4 b o bl (k3 b o bl (k2 b o bl (k1 b o e)))))
end
end Lw

end
section
set_option Elab.async false
set_option linter.all false
set_option maxRecDepth 100000
set_option maxHeartbeats 4000000
set_option autoImplicit false
/-! Lw: try: .. except C as e: return which(e). -/
namespace Lw
open PySem PySem.Spec PyProof.Rows L2
/-- the place of a name among some -/
def posI (c : Str) : List Str → Nat → Option Nat
  | [], _ => none
  | d :: ds, n => if d = c then some n else posI c ds (n + 1)
def raisedC : List Nat := [114, 97, 105, 115, 101, 100]
def raisedS : Str := "raised"
def rdV (k : Nat) : Val := .tup [.str raisedC, .int (k : Nat)]
/-- what is raised is told by the place of its class -/
def sTryW (i : Nat) (cs : List Str) (g : SF) : SF := fun env => match g env with
  | some (.exc c, env2) => (match posI c cs 0 with
    | some k => if i < env2.length then some (.ret (.shr (rdV k)), env2) else none
    | none => none)
  | z => z
theorem rd_str : raisedS.cps.toList = raisedC := by decide +kernel
/-- the tuple is laid -/
theorem pg_tup {T : Tx} {B H H' : Hp} {p : Addr} {k : Nat} (s : Same B H) (e : ∀ b o, H b = some o → H' b = some o) (hp : H' p = none) : PG B H (upd B p (.tup [.str raisedS, .int (k : Nat)])) (upd H' p (.tup [.str raisedS, .int (k : Nat)])) ∧ Rep T (upd B p (.tup [.str raisedS, .int (k : Nat)])) (.ref p) (rdV k) := by
  have np : H p = none := by
    cases h : H p with
    | none => rfl
    | some o => rw [e p o h] at hp; cases hp
  have bp : B p = none := s.free np
  refine ⟨⟨fun b o h => ?_, fun b o h => ?_, fun b o h => ?_, fun b o h => ?_⟩, .tup upd_same (.cons ?_ (.cons (.int _) .nil))⟩
  · rw [upd_ne fun z => by rw [z, np] at h; cases h]; exact e b o h
  · rw [upd_ne fun z => by rw [z, bp] at h; cases h]; exact h
  · by_cases q : b = p
    · subst q; rw [upd_same] at h ⊢; exact h
    · rw [upd_ne q] at h ⊢; exact e b o (s b o h)
  · by_cases q : b = p
    · subst q; exact .inr np
    · rw [upd_ne q] at h; exact .inl h
  · exact Rep.of_str rd_str
def tsW (K : PySem.W.Frag) (cs : List Str) (i : Nat) (a : Addr) (cls : Value) (d : Option Addr) : TS := fun D σ H => ∃ c k, cls = .ref (He.ga K c) ∧ d = none ∧ posI c cs 0 = some k ∧ σ[i]? = some (some (.ref a)) ∧ ∀ p H', (∀ b o, H b = some o → H' b = some o) → H' p = none → D.rt (.ref p) (upd H' p (.tup [.str raisedS, .int (k : Nat)]))
section
variable {X : Cx} {W : WX} {x n : Str} {c : Value} {i : Nat} {body suite : List Stmt} {b₀ : Stmt} {np pos pos' : Pos} {g : SF} {cs : List Str}
theorem ss_tryW (hs : X.stack = X.env :: X.outer) (hf : X.env.frame = some X.env.locals) (hN : X.N.Nodup) (hi : X.N[i]? = some n) (hln : X.env.kindOf n = some .local) (hc : Names X x c) (tk : Takes X W)
    (hE : ∀ c' k, posI c' cs 0 = some k → PySem.W.exmOne X.K (.ref (He.ga X.K c')) c = some true)
    (hb : ∀ (W' : WX) (pn : List (Addr × Obj)) (xe : Value → Shared → Prop), Takes (X.tr pn xe) W' → SSs (X.tr pn xe) W' body g)
    (hsu : ∀ (a : Addr) (oe : Obj) (cls : Value) (d : Option Addr) (pn : List (Addr × Obj)), Zc cls d oe → (∃ vs, oe.data = .fields vs) → PSs (X.suite a ((a, oe) :: pn)) (b₀ :: suite) (tsW X.K cs i a cls d)) :
    SS X W (.Try body [.ExceptHandler (some (.Name x np)) (some n) (b₀ :: suite) pos'] [] [] pos) (sTryW i cs g) := by
  refine PS.mono (ps_try_as (tb := fun W' => sG (tx X) W' g) (ts := tsW X.K cs i) (Wout := W) hs hf hN hi hln hc tk (fun W' pn xe tk' _ => hb W' pn xe tk') hsu) fun D σ H h => ?_
  obtain ⟨env, F, B, r, env1, S, e, p⟩ := h
  unfold sTryW at e
  cases hg : g env with
  | none => rw [hg] at e; cases e
  | some z =>
    obtain ⟨r0, env0⟩ := z
    rw [hg] at e
    cases r0 with
    | exc c' =>
      dsimp only at e
      cases hk : posI c' cs 0 with
      | none => rw [hk] at e; cases e
      | some k =>
        rw [hk] at e
        dsimp only at e
        split at e
        · rename_i il
          cases e
          refine ⟨env, F, B, .exc c', _, S, hg, fun σ1 H1 F1 B1 S1 G1 => ⟨true, hE c' k hk, fun _ a na => ⟨c', k, rfl, rfl, hk, ?_, fun q H' ext hq => ?_⟩, fun z => by cases z⟩⟩
          · rw [List.getElem?_set_self (by rw [S1.len]; exact il)]
          · obtain ⟨pg, rep⟩ := pg_tup (T := tx X) (k := k) S1.sub ext hq
            exact p σ1 _ F1 _ (pg.rs S1) (G1.trans S S1 pg.go) _ rep
        · cases e
    | nx => cases e; exact ⟨env, F, B, .nx, _, S, hg, p⟩
    | brk => cases e; exact ⟨env, F, B, .brk, _, S, hg, p⟩
    | ct => cases e; exact ⟨env, F, B, .ct, _, S, hg, p⟩
    | ret rv => cases e; exact ⟨env, F, B, .ret rv, _, S, hg, p⟩
end
/-- the call of which, in the suite -/
def tWc (i : Nat) (a : Addr) (j : Nat) : TE := fun σ H Q => σ[i]? = some (some (.ref a)) ∧ ∀ p H', (∀ b o, H b = some o → H' b = some o) → H' p = none → Q (.ref p) (upd H' p (.tup [.str raisedS, .int (j : Nat)]))
section
variable {X : Cx} {x qual : Str} {params : Arguments} {body : List Stmt} {scope : Scope} {f : Addr} {fd : FuncData} {N ps : List Str} {k i j : Nat} {p : Addr × Obj} {q pos : Pos} {e : Expr}
theorem pe_wc (F : FunD X.K x qual params body scope [] [] f fd) (S : FnScope N ps scope) (hps : ps.length = 1) (hN : 2 ≤ N.length) (hr : L2H.RoomH (k + 1) X.A) (hp : p ∈ X.pn) (hg : Gl X x) (hm : X.mg x = some (.ref f)) (hb : Binds X.K fd ps []) (he : PE X e (tVar i))
    (hbody : ∀ (cdv : Value) (s : Shared) (H : Hp), L2H.RoomH k (X.A.deeper (envOfC qual scope s.heap.objs.size f cdv)) → PSs (L2H.cxH CXn X.prog X.w X.K X.mg X.base N qual scope f cdv X.A X.stack s H XKn p) body (tWall p.1 raisedS j))
    (hdb : (x == ("__debug__" : Str)) = false := by decide) (hs : starEach [e] X.env = (false, eval e X.env) :: starEach [] X.env := by rfl) (hpl : (backTo pos (starEach [] X.env)).any (·.1) = false := by rfl) :
    PE X (.Call (.Name x q) [e] [] pos) (tWc i p.1 j) := by
  refine ⟨fun pins s σ H Q I h => ?_⟩
  obtain ⟨hσ, hq⟩ := h
  refine wpAny_Call_Name_kw (ld_glob I hg hm ?_ hdb)
  refine PySem.W.callWith_K (h₀ := X.base) I.ok.mod.kin F.kp (thn ((pa_cons he pa_nil hs).run pos pins s σ H (fun vs H1 => vs = [.ref p.1] ∧ H1 = H) I ⟨.ref p.1, hσ, rfl, rfl⟩) fun us s1 z => ?_) hs hpl
  obtain ⟨vs, H1, I1, r, rfl, rfl⟩ := z
  refine ⟨I1.kIn, call_pin F S hr hb I1 hp r hps.symm fun cdv hr' => ⟨_, hbody cdv s1 H1 hr', ?_⟩⟩
  refine ⟨rfl, ?_, hq⟩
  unfold L2.start
  rw [List.length_append, List.length_map, List.length_replicate]
  simp only [List.length_cons, List.length_nil]
  omega
theorem pss_suiteW {a : Addr} {oe : Obj} {cls : Value} {d : Option Addr} {pn : List (Addr × Obj)} {cs : List Str} {pos2 : Pos} (F : FunD X.K x qual params body scope [] [] f fd) (S : FnScope N ps scope) (hps : ps.length = 1) (hN : 2 ≤ N.length) (hr : L2H.RoomH (k + 1) X.A) (hg : Gl X x) (hm : X.mg x = some (.ref f)) (hb : Binds X.K fd ps []) (he : PE (X.suite a ((a, oe) :: pn)) e (tVar i))
    (hbody : ∀ (c : Str) (j : Nat), posI c cs 0 = some j → cls = .ref (He.ga X.K c) → d = none → ∀ (A : Around) (outer : List PySem.Env) (cdv : Value) (s : Shared) (H : Hp), L2H.RoomH k (A.deeper (envOfC qual scope s.heap.objs.size f cdv)) → PSs (L2H.cxH CXn X.prog X.w X.K X.mg X.base N qual scope f cdv A outer s H XKn (a, oe)) body (tWall a raisedS j))
    (hdb : (x == ("__debug__" : Str)) = false := by decide) (hs : starEach [e] X.env = (false, eval e X.env) :: starEach [] X.env := by rfl) (hpl : (backTo pos (starEach [] X.env)).any (·.1) = false := by rfl) :
    PSs (X.suite a ((a, oe) :: pn)) [.Return (some (.Call (.Name x q) [e] [] pos)) pos2] (tsW X.K cs i a cls d) := by
  refine pss_one ⟨fun pins s σ H D I h => ?_⟩
  obtain ⟨c, j, ec, ed, hj, hσ, hq⟩ := h
  have hr' : L2H.RoomH (k + 1) (X.suite a ((a, oe) :: pn)).A := ⟨hr.dp, hr.un⟩
  have w := pe_wc (X := X.suite a ((a, oe) :: pn)) (p := (a, oe)) (pos := pos) (q := q) (i := i) (j := j) F S hps hN hr' (List.mem_cons_self ..) hg hm hb he (fun cdv s H hr => hbody c j hj ec ed _ _ cdv s H hr) hdb hs hpl
  exact (ps_ret w).run pins s σ H D I ⟨hσ, hq⟩
end
end Lw

end
section
set_option Elab.async false
set_option linter.all false
set_option maxRecDepth 100000
set_option maxHeartbeats 4000000
set_option autoImplicit false
/-! Lw: what the head tells of own exceptions; a Hook that asks for more. -/
namespace Lw
open PySem PySem.Spec PyProof.Rows L2
/-- one class: what isinstance asks of it -/
def excOne (K : PySem.W.Frag) (D : Addr) : Bool :=
  He.eqO (PySem.W.findIn K (.ref D) "__getattribute__") (some (some (.builtin "BaseException.__getattribute__"))) && (He.eqO (PySem.W.findIn K (.ref D) "__getattr__") (some none) && (decide (PySem.W.subIn K (.ref D) (.type "BaseException") = some true) &&
  (PySem.W.hasDictIn K D && (He.eqO (PySem.W.findIn K (.ref D) "__class__") (some (some (.builtin "object.__class__"))) && (He.eqO (PySem.W.specialIn K (.builtin "object.__class__") "__get__") (some (some (.builtin "getset_descriptor.__get__"))) &&
  (decide (PySem.W.takesIn K (.builtin "object.__class__") = some true) && decide (PySem.W.mroIn K D (.type "object") = some true)))))))
/-- the classes cs, apart, all under h -/
def excB (cs : List Str) (h : Str) (K : PySem.W.Frag) : Bool := cs.all fun c => excOne K (He.ga K c) && (decide (PySem.W.exmOne K (.ref (He.ga K c)) (.ref (He.ga K h)) = some true) && (decide (PySem.W.kitOne K (.ref (He.ga K c)) (.type "ValueError") = some true) &&
  cs.all fun d => decide (PySem.W.kitOne K (.ref (He.ga K c)) (.ref (He.ga K d)) = some (decide (d = c)))))
section
variable {cs : List Str} {h c d : Str} {K : PySem.W.Frag}
theorem excOne_C {D : Addr} (e : excOne K D = true) : ExcC K D := by
  obtain ⟨e1, e⟩ := He.ba e
  obtain ⟨e2, e⟩ := He.ba e
  obtain ⟨e3, e⟩ := He.ba e
  obtain ⟨e4, e⟩ := He.ba e
  obtain ⟨e5, e⟩ := He.ba e
  obtain ⟨e6, e⟩ := He.ba e
  obtain ⟨e7, e8⟩ := He.ba e
  exact ⟨He.eqO_ok e1, He.eqO_ok e2, of_decide_eq_true e3, e4, He.eqO_ok e5, He.eqO_ok e6, of_decide_eq_true e7, of_decide_eq_true e8⟩
theorem exc_all (e : excB cs h K = true) (hc : c ∈ cs) : ExcC K (He.ga K c) ∧ PySem.W.exmOne K (.ref (He.ga K c)) (.ref (He.ga K h)) = some true ∧ PySem.W.kitOne K (.ref (He.ga K c)) (.type "ValueError") = some true ∧
    ∀ d ∈ cs, PySem.W.kitOne K (.ref (He.ga K c)) (.ref (He.ga K d)) = some (decide (d = c)) := by
  obtain ⟨e1, e⟩ := He.ba (List.all_eq_true.mp e c hc)
  obtain ⟨e2, e⟩ := He.ba e
  obtain ⟨e3, e4⟩ := He.ba e
  exact ⟨excOne_C e1, of_decide_eq_true e2, of_decide_eq_true e3, fun d hd => of_decide_eq_true (List.all_eq_true.mp e4 d hd)⟩
theorem posI_mem : ∀ {cs : List Str} {n j : Nat}, posI c cs n = some j → c ∈ cs ∧ n ≤ j ∧ cs[j - n]? = some c
  | [], _, _, e => by cases e
  | x :: cs, n, j, e => by
    unfold posI at e
    by_cases q : x = c
    · rw [if_pos q] at e
      cases e
      exact ⟨q ▸ List.mem_cons_self .., Nat.le_refl _, by rw [Nat.sub_self, q]; rfl⟩
    · rw [if_neg q] at e
      obtain ⟨h1, h2, h3⟩ := posI_mem e
      exact ⟨List.mem_cons_of_mem _ h1, by omega, by rw [show j - n = (j - (n + 1)) + 1 by omega]; exact h3⟩
end
/-- the place i is the class's own: in a list of names apart -/
theorem kit_at {cs : List Str} {h c d : Str} {K : PySem.W.Frag} {i j : Nat} (nd : cs.Nodup) (e : excB cs h K = true) (hc : cs[j]? = some c) (hd : cs[i]? = some d) : PySem.W.kitOne K (.ref (He.ga K c)) (.ref (He.ga K d)) = some (bq j i) := by
  rw [(exc_all e (List.mem_of_getElem? hc)).2.2.2 d (List.mem_of_getElem? hd)]
  congr 1
  unfold bq
  refine decide_eq_decide.mpr ⟨fun q => ?_, fun q => ?_⟩
  · subst q
    obtain ⟨h1, e1⟩ := List.getElem?_eq_some_iff.mp hc
    obtain ⟨h2, e2⟩ := List.getElem?_eq_some_iff.mp hd
    exact (List.getElem_inj nd).mp (e2.trans e1.symm)
  · subst q
    rw [hc] at hd
    exact (Option.some.inj hd).symm
/-! ### the Hook -/
def obsX (n : Nat) (xb : PySem.W.Frag → Bool) (fa : List He.Fa) (fn : List He.DefD) (g : Addr → Option Obj) : He.AlD :=
  (xb (He.frG g (He.asD g n)) && (He.obsDG n fa fn g).1, (He.obsDG n fa fn g).2)
def hookX (n : Nat) (xb : PySem.W.Frag → Bool) (fa : List He.Fa) (fn : List He.DefD) : PySem.W.Hook where
  α := He.AlD
  obs := fun s => obsX n xb fa fn s.heap.get?
  val := fun _ => He.valD fn
  says := fun _ h => ∃ K : PySem.W.Frag, K.In h ∧ xb K = true ∧ He.SaysD fa fn K
  of := fun _ _ e => by
    have e1 := congrArg Prod.fst e
    have e2 := congrArg Prod.snd e
    obtain ⟨x1, x2⟩ := He.ba (show (_ && _) = true from e1)
    exact ⟨_, He.frG_in, x1, Prod.ext x2 e2⟩
  keeps := fun _ _ _ ⟨K, hK, x, c⟩ k => ⟨K, PySem.W.Frag.In.keeps hK k, x, c⟩
theorem obsX_eq {n : Nat} {xb : PySem.W.Frag → Bool} {fa : List He.Fa} {fn : List He.DefD} {g : Addr → Option Obj} {s : Shared} (h : ∀ a, g a = s.heap.get? a) : obsX n xb fa fn g = (hookX n xb fa fn).obs s := by
  have e : g = s.heap.get? := funext h
  rw [e]
  rfl
end Lw

end
section
set_option Elab.async false
set_option linter.all false
set_option maxRecDepth 100000
set_option maxHeartbeats 4000000
set_option autoImplicit false
/-! Lw: a function that is picked out of a list, and called; an if whose test gives a token out. -/
namespace Lw
open PySem PySem.Spec PyProof.Rows L2 CwR
/-- what a name stands for, among some -/
def sPickC (T : List (Str × Fn)) (fs : List EF) (o : Opd) : EF := match o with
  | .shr (.glo x) => (match T.find? (fun p => decide (p.1 = x)) with
    | some p => sCall p.2 fs
    | none => fun _ => none)
  | _ => fun _ => none
def sCallV (T : List (Str × Fn)) (ff : EF) (fs : List EF) : EF := ebind (esh ff) (sPickC T fs)
/-- one def of the list -/
def Cal (X : Cx) (p : Str × Fn) : Prop := ∃ (kk k : Nat) (fd : FuncData) (ps : List Str), FnOk X.prog X.w X.K X.mg X.base (L2.CX X.prog X.w) kk (He.ga X.K p.1) fd ps (spF (tx X) k p.2) ∧ (∀ slots z, p.2 slots = some z → slots.length = k) ∧ Room kk X.A ∧ PySem.W.keepIn X.K (.ref (He.ga X.K p.1)) = true ∧ Binds X.K fd ps []
def Cals (X : Cx) (T : List (Str × Fn)) : Prop := ∀ p ∈ T, Cal X p
section
variable {X : Cx} {W : WX} {a fe : Expr} {es : List Expr} {ff : EF} {fs : List EF} {T : List (Str × Fn)} {pos : Pos}
theorem cals_nil : Cals X [] := fun _ h => nomatch h
theorem cals_cons {p : Str × Fn} {kk k : Nat} {fd : FuncData} {ps : List Str} (F : FnOk X.prog X.w X.K X.mg X.base (L2.CX X.prog X.w) kk (He.ga X.K p.1) fd ps (spF (tx X) k p.2)) (hk : ∀ slots z, p.2 slots = some z → slots.length = k) (hr : Room kk X.A) (hkp : PySem.W.keepIn X.K (.ref (He.ga X.K p.1)) = true) (hb : Binds X.K fd ps [])
    (h : Cals X T) : Cals X (p :: T) := fun q hq => by
  rcases List.mem_cons.mp hq with rfl | hq
  · exact ⟨kk, k, fd, ps, F, hk, hr, hkp, hb⟩
  · exact h q hq
theorem se_callV (hc : Cals X T) (hf : SE X W fe ff) (tk : Takes X W) (ha : SA X W (a :: es) fs) (he : starEach (a :: es) X.env = (false, eval a X.env) :: starEach es X.env := by rfl) (hpl : (backTo pos (starEach es X.env)).any (·.1) = false := by rfl)
    (ht : eval (.Call fe (a :: es) [] pos) X.env = (do callWith pos (← eval fe X.env) [] (backTo pos (starEach (a :: es) X.env)) (backToKw pos (keywordEach [] X.env))) := by rfl) :
    SE X W (.Call fe (a :: es) [] pos) (sCallV T ff fs) := by
  refine ⟨fun pins s σ H Q I q => ?_⟩
  obtain ⟨env, F, B, r, env9, S, e, p⟩ := q
  refine PyProof.Rows.Call_ (thn ((se_esh hf).run pins s σ H (fun x H1 => ∃ q ∈ T, x = .ref (He.ga X.K q.1) ∧ eG (tx X) W (sCall q.2 fs) σ H1 Q) I (run_cut S e p fun o env1 H1 F1 B1 x e1 S1 G1 x1 p1 => ?_)) fun u s1 z => ?_) ht
  · cases o with
    | shr v =>
      cases v with
      | glo y =>
        have e2 : (match T.find? (fun p : Str × Fn => decide (p.1 = y)) with
          | some p => sCall p.2 fs
          | none => fun _ => none) env1 = some (r, env9) := e1
        cases hq : T.find? (fun p : Str × Fn => decide (p.1 = y)) with
        | none => rw [hq] at e2; cases e2
        | some q =>
          rw [hq] at e2
          have hm := List.mem_of_find?_eq_some hq
          have hy : q.1 = y := by simpa using List.find?_some hq
          have x2 : Rep (tx X) B1 x (.glo y) := x1
          refine ⟨q, hm, ?_, env1, F1, B1, r, env9, S1, e2, p1.from G1.al⟩
          cases x2
          rw [hy]
      | _ => cases e1
    | new v => cases e1
    | var i => cases e1
  · obtain ⟨v, H1, I1, rv, q, hq, rfl, h⟩ := z
    obtain ⟨kk, k, fd, ps, F, hk, hr, hkp, hb⟩ := hc q hq
    cases rv
    have h2 := call_mono hk h
    exact PySem.W.callWith_K (h₀ := X.base) I1.ok.mod.kin hkp (thn (ha.run pos pins s1 σ H1 _ I1 h2) fun us s2 ⟨vs, H2, I2, r, q⟩ => ⟨I2.kIn, run_fnS F hr hb (passAt tk σ) I2 r q⟩) he hpl
end
end Lw

end
section
set_option Elab.async false
set_option linter.all false
set_option maxRecDepth 100000
set_option maxHeartbeats 1000000
set_option autoImplicit false
/-! M: what a semantic function gives, as a wish that is pushed through it. -/
namespace Lw
open PySem L2
def OX {α β : Type} (o : Option (α × β)) (Q : α → β → Prop) : Prop := match o with
  | some z => Q z.1 z.2
  | none => False
def OB {α : Type} (o : Option α) (Q : α → Prop) : Prop := match o with
  | some z => Q z
  | none => False
theorem OX_some {α β : Type} (a : α) (b : β) (Q : α → β → Prop) : OX (some (a, b)) Q = Q a b := rfl
theorem OB_some {α : Type} (a : α) (Q : α → Prop) : OB (some a) Q = Q a := rfl
theorem OB_none {α : Type} (Q : α → Prop) : OB none Q = False := rfl
theorem OB_ite {α : Type} {c : Prop} [Decidable c] (a : α) (Q : α → Prop) : OB (if c then some a else none) Q = (c ∧ Q a) := by
  by_cases h : c
  · rw [if_pos h]; exact propext ⟨fun q => ⟨h, q⟩, fun q => q.2⟩
  · rw [if_neg h]; exact propext ⟨fun q => q.elim, fun q => h q.1⟩
theorem OB_ite' {α : Type} {c : Prop} [Decidable c] (o : Option α) (Q : α → Prop) : OB (if c then o else none) Q = (c ∧ OB o Q) := by
  by_cases h : c
  · rw [if_pos h]; exact propext ⟨fun q => ⟨h, q⟩, fun q => q.2⟩
  · rw [if_neg h]; exact propext ⟨fun q => q.elim, fun q => h q.1⟩
theorem OB_map {α β : Type} (o : Option α) (f : α → β) (Q : β → Prop) : OB (o.map f) Q = OB o (fun a => Q (f a)) := by cases o <;> rfl
theorem OB_mono {α : Type} {o : Option α} {Q Q' : α → Prop} (h : OB o Q) (i : ∀ a, Q a → Q' a) : OB o Q' := by cases o with
  | none => exact h
  | some a => exact i a h
theorem OX_mono {α β : Type} {o : Option (α × β)} {Q Q' : α → β → Prop} (h : OX o Q) (i : ∀ a b, Q a b → Q' a b) : OX o Q' := by cases o with
  | none => exact h
  | some z => exact i z.1 z.2 h
theorem OX_eq {α β : Type} {o : Option (α × β)} {Q : α → β → Prop} (h : OX o Q) : ∃ a b, o = some (a, b) ∧ Q a b := by cases o with
  | none => exact h.elim
  | some z => exact ⟨z.1, z.2, rfl, h⟩
abbrev EX (f : EF) (env : Env) (Q : ERes → Env → Prop) : Prop := OX (f env) Q
abbrev SX (g : SF) (env : Env) (Q : FRes → Env → Prop) : Prop := OX (g env) Q
abbrev IX (f : IF) (env : Env) (Q : IRes → Env → Prop) : Prop := OX (f env) Q
abbrev FX (φ : Fn) (ss : List Slot) (Q : ORes → List Slot → Prop) : Prop := OX (φ ss) Q
/-- a value or an exception -/
def rE (Q : ERes → Env → Prop) (k : Opd → Env → Prop) : ERes → Env → Prop
  | .val o, e => k o e
  | .exc c, e => Q (.exc c) e
def rS (Q : FRes → Env → Prop) (k : Opd → Env → Prop) : ERes → Env → Prop
  | .val o, e => k o e
  | .exc c, e => Q (.exc c) e
theorem rE_val (Q : ERes → Env → Prop) (k : Opd → Env → Prop) (o : Opd) (e : Env) : rE Q k (.val o) e = k o e := rfl
theorem rE_exc (Q : ERes → Env → Prop) (k : Opd → Env → Prop) (c : Str) (e : Env) : rE Q k (.exc c) e = Q (.exc c) e := rfl
theorem rS_val (Q : FRes → Env → Prop) (k : Opd → Env → Prop) (o : Opd) (e : Env) : rS Q k (.val o) e = k o e := rfl
theorem rS_exc (Q : FRes → Env → Prop) (k : Opd → Env → Prop) (c : Str) (e : Env) : rS Q k (.exc c) e = Q (.exc c) e := rfl
/-- by a bool -/
def ifO (o : Opd) (A B : Prop) : Prop := match o with
  | .shr (.bl b) => (b = true → A) ∧ (b = false → B)
  | _ => False
theorem ifO_bl (b : Bool) (A B : Prop) : ifO (.shr (.bl b)) A B = ((b = true → A) ∧ (b = false → B)) := rfl
section
variable {f g h c : EF} {k : Opd → EF} {ks : Opd → SF} {env : Env} {Q : ERes → Env → Prop} {QS : FRes → Env → Prop} {QI : IRes → Env → Prop} {g1 g2 : SF}
theorem EX_bind : OX (ebind f k env) Q = OX (f env) (rE Q fun o e => OX (k o e) Q) := by
  unfold ebind
  cases f env with
  | none => rfl
  | some z => obtain ⟨r, e⟩ := z; cases r <;> rfl
theorem SX_bind : OX (obind f ks env) QS = OX (f env) (rS QS fun o e => OX (ks o e) QS) := by
  unfold obind
  cases f env with
  | none => rfl
  | some z => obtain ⟨r, e⟩ := z; cases r <;> rfl
/-- a slot's operand -/
def slotO (i : Nat) : Option Slot → Option Opd
  | some (.shr v) => some (.shr v)
  | some (.own _) => some (.var i)
  | some (.io _) => some (.var i)
  | _ => none
theorem EX_var {i : Nat} : OX (sVar i env) Q = OB (slotO i env[i]?) fun o => Q (.val o) env := by
  unfold sVar
  cases env[i]? with
  | none => rfl
  | some s => cases s <;> rfl
theorem EX_c {v : Val} : OX (sC v env) Q = Q (.val (.shr v)) env := rfl
theorem EX_op2 {op : Val → Val → Option RV} {o1 o2 : Opd} : OX (eop2 op o1 o2 env) Q = OB (o1.get env) fun x => OB (o2.get env) fun y => OB (op x y) fun r => Q (.val r.opd) env := by
  unfold eop2
  cases o1.get env with
  | none => rfl
  | some x =>
    cases o2.get env with
    | none => rfl
    | some y =>
      dsimp only
      rw [OB_some, OB_some]
      cases op x y <;> rfl
theorem EX_bin {op : Val → Val → Option RV} : OX (sBin op f g env) Q = OX (f env) (rE Q fun o1 e1 => OX (g e1) (rE Q fun o2 e2 => OB (o1.get e2) fun x => OB (o2.get e2) fun y => OB (op x y) fun r => Q (.val r.opd) e2)) := by
  unfold sBin
  rw [EX_bind]
  congr; funext o1 e1
  rw [EX_bind]
  congr; funext o2 e2
  exact EX_op2
theorem EX_un {op : Val → Option RV} : OX (sUn op f env) Q = OX (f env) (rE Q fun o e => OB (o.get e) fun x => OB (op x) fun r => Q (.val r.opd) e) := by
  unfold sUn
  rw [EX_bind]
  congr; funext o e
  unfold eop1
  cases o.get e with
  | none => rfl
  | some x =>
    dsimp only
    rw [OB_some]
    cases op x <;> rfl
theorem EX_tru : OX (sTru f env) Q = OX (f env) (rE Q fun o e => OB (o.get e) fun x => OB (truV x) fun b => Q (.val (.shr (.bl b))) e) := by
  unfold sTru
  rw [EX_un]
  congr; funext o e
  congr; funext x
  rw [OB_map]
  rfl
theorem EX_and : OX (sAnd f g env) Q = OX (f env) (rE Q fun o e => ifO o (OX (g e) Q) (Q (.val (.shr (.bl false))) e)) := by
  unfold sAnd
  rw [EX_bind]
  congr; funext o e
  split
  · exact propext ⟨fun q => ⟨fun _ => q, fun z => by cases z⟩, fun q => q.1 rfl⟩
  · exact propext ⟨fun q => ⟨(fun z => by cases z), fun _ => q⟩, fun q => q.2 rfl⟩
  · rename_i h1 h2
    unfold ifO
    split
    · rename_i b
      cases b
      · exact absurd rfl h2
      · exact absurd rfl h1
    · rfl
theorem EX_or : OX (sOr f g env) Q = OX (f env) (rE Q fun o e => ifO o (Q (.val (.shr (.bl true))) e) (OX (g e) Q)) := by
  unfold sOr
  rw [EX_bind]
  congr; funext o e
  split
  · exact propext ⟨fun q => ⟨fun _ => q, fun z => by cases z⟩, fun q => q.1 rfl⟩
  · exact propext ⟨fun q => ⟨(fun z => by cases z), fun _ => q⟩, fun q => q.2 rfl⟩
  · rename_i h1 h2
    unfold ifO
    split
    · rename_i b
      cases b
      · exact absurd rfl h2
      · exact absurd rfl h1
    · rfl
def notO (o : Opd) (k : Bool → Prop) : Prop := match o with
  | .shr (.bl b) => k (!b)
  | _ => False
theorem notO_bl (b : Bool) (k : Bool → Prop) : notO (.shr (.bl b)) k = k (!b) := rfl
theorem EX_not : OX (sNot f env) Q = OX (f env) (rE Q fun o e => notO o fun b => Q (.val (.shr (.bl b))) e) := by
  unfold sNot
  rw [EX_bind]
  congr; funext o e
  split
  · rfl
  · rename_i h1
    unfold notO
    split
    · exact absurd rfl (h1 _)
    · rfl
theorem EX_if : OX (sIf c f g env) Q = OX (c env) (rE Q fun o e => ifO o (OX (f e) Q) (OX (g e) Q)) := by
  unfold sIf
  rw [EX_bind]
  congr; funext o e
  split
  · exact propext ⟨fun q => ⟨fun _ => q, fun z => by cases z⟩, fun q => q.1 rfl⟩
  · exact propext ⟨fun q => ⟨(fun z => by cases z), fun _ => q⟩, fun q => q.2 rfl⟩
  · rename_i h1 h2
    unfold ifO
    split
    · rename_i b
      cases b
      · exact absurd rfl h2
      · exact absurd rfl h1
    · rfl
/-- .. as a shared value -/
def shO (o : Opd) (env : Env) (k : Val → Env → Prop) : Prop := match o with
  | .shr v => k v env
  | .new v => k v env
  | .var i => match env[i]? with
    | some (.own v) => k v (env.set i (.shr v))
    | _ => False
theorem shO_shr (v : Val) (env : Env) (k : Val → Env → Prop) : shO (.shr v) env k = k v env := rfl
theorem shO_new (v : Val) (env : Env) (k : Val → Env → Prop) : shO (.new v) env k = k v env := rfl
theorem shO_var {i : Nat} {v : Val} {env : Env} {k : Val → Env → Prop} (h : env[i]? = some (.own v)) : shO (.var i) env k = k v (env.set i (.shr v)) := by unfold shO; dsimp only; rw [h]
theorem EX_esh : OX (esh f env) Q = OX (f env) (rE Q fun o e => shO o e fun v e => Q (.val (.shr v)) e) := by
  unfold esh
  rw [EX_bind]
  congr; funext o e
  unfold efix shO
  cases o with
  | shr v => rfl
  | new v => rfl
  | var i =>
    dsimp only
    cases e[i]? with
    | none => rfl
    | some s => cases s <;> rfl
/-- .. not a slot's -/
def unO (o : Opd) (env : Env) (k : Opd → Env → Prop) : Prop := match o with
  | .shr v => k (.shr v) env
  | .new v => k (.new v) env
  | .var i => match env[i]? with
    | some (.own v) => k (.shr v) (env.set i (.shr v))
    | _ => False
theorem EX_eun : OX (eun f env) Q = OX (f env) (rE Q fun o e => unO o e fun o e => Q (.val o) e) := by
  unfold eun
  rw [EX_bind]
  congr; funext o e
  unfold unO
  cases o with
  | shr v => rfl
  | new v => rfl
  | var i =>
    unfold efix
    dsimp only
    cases e[i]? with
    | none => rfl
    | some s => cases s <;> rfl
theorem shO_congr {o : Opd} {e : Env} {k k' : Val → Env → Prop} (h : ∀ v e, k v e = k' v e) : shO o e k = shO o e k' := by
  have q : k = k' := funext fun v => funext fun e => h v e
  rw [q]
theorem unO_congr {o : Opd} {e : Env} {k k' : Opd → Env → Prop} (h : ∀ v e, k v e = k' v e) : unO o e k = unO o e k' := by
  have q : k = k' := funext fun v => funext fun e => h v e
  rw [q]
/-- arguments, one behind the other -/
def xArgs (Q : ERes → Env → Prop) : List EF → Env → (List Opd → Env → Prop) → Prop
  | [], env, k => k [] env
  | f :: fs, env, k => OX (f env) (rE Q fun o e => xArgs Q fs e fun os e => k (o :: os) e)
theorem xArgs_nil {Q : ERes → Env → Prop} {env : Env} {k : List Opd → Env → Prop} : xArgs Q [] env k = k [] env := rfl
theorem xArgs_cons {Q : ERes → Env → Prop} {f : EF} {fs : List EF} {env : Env} {k : List Opd → Env → Prop} : xArgs Q (f :: fs) env k = OX (f env) (rE Q fun o e => xArgs Q fs e fun os e => k (o :: os) e) := rfl
theorem EX_args : ∀ {fs : List EF} {k : List Opd → EF} {env : Env}, OX (sArgs fs k env) Q = xArgs Q fs env fun os e => OX (k os e) Q
  | [], _, _ => rfl
  | f :: fs, k, env => by
    show OX (ebind f (fun o => sArgs fs fun os => k (o :: os)) env) Q = _
    rw [EX_bind, xArgs_cons]
    congr; funext o e
    exact EX_args
theorem EX_tup {fs : List EF} : OX (sTup fs env) Q = xArgs Q (fs.map esh) env fun os e => OB (shrs os) fun vs => vs.length ≤ 16000000 ∧ Q (.val (.shr (.tup vs))) e := by
  unfold sTup
  rw [EX_args]
  congr; funext os e
  cases shrs os with
  | none => rfl
  | some vs =>
    dsimp only
    rw [OB_some]
    by_cases h : vs.length ≤ 16000000
    · rw [if_pos h]; exact propext ⟨fun q => ⟨h, q⟩, fun q => q.2⟩
    · rw [if_neg h]; exact propext ⟨fun q => q.elim, fun q => h q.1⟩
theorem EX_lst {fs : List EF} : OX (sLst fs env) Q = xArgs Q (fs.map esh) env fun os e => OB (shrs os) fun vs => vs.length ≤ 16000000 ∧ Q (.val (.new (.lst vs))) e := by
  unfold sLst
  rw [EX_args]
  congr; funext os e
  cases shrs os with
  | none => rfl
  | some vs =>
    dsimp only
    rw [OB_some]
    by_cases h : vs.length ≤ 16000000
    · rw [if_pos h]; exact propext ⟨fun q => ⟨h, q⟩, fun q => q.2⟩
    · rw [if_neg h]; exact propext ⟨fun q => q.elim, fun q => h q.1⟩
theorem EX_callB {op : List Val → Option RV} {fs : List EF} : OX (sCallB op fs env) Q = xArgs Q fs env fun os e => OB (gets os e) fun vs => OB (op vs) fun r => Q (.val r.opd) e := by
  unfold sCallB
  rw [EX_args]
  congr; funext os e
  unfold eopn
  cases gets os e with
  | none => rfl
  | some vs =>
    dsimp only
    rw [OB_some]
    cases op vs <;> rfl
theorem EX_meth {ty : String} {op : Val → List Val → Option RV} {fs : List EF} : OX (sMeth ty op f fs env) Q = OX (f env) (rE Q fun o e => OB (o.get e) fun v => tyOf ty v = true ∧ xArgs Q fs e fun os e => OB (o.get e) fun v => OB (gets os e) fun vs => OB (op v vs) fun r => Q (.val r.opd) e) := by
  unfold sMeth
  rw [EX_bind]
  congr; funext o e
  cases o.get e with
  | none => rfl
  | some v =>
    dsimp only
    rw [OB_some]
    by_cases h : tyOf ty v = true
    · rw [if_pos h, EX_args]
      refine propext ⟨fun q => ⟨h, ?_⟩, fun q => ?_⟩
      · revert q
        apply Eq.mp
        congr; funext os e
        cases o.get e with
        | none => rfl
        | some v =>
          rw [OB_some]
          cases gets os e with
          | none => rfl
          | some vs =>
            dsimp only
            rw [OB_some]
            cases op v vs <;> rfl
      · have q := q.2
        revert q
        apply Eq.mp
        congr; funext os e
        cases o.get e with
        | none => rfl
        | some v =>
          rw [OB_some]
          cases gets os e with
          | none => rfl
          | some vs =>
            dsimp only
            rw [OB_some]
            cases op v vs <;> rfl
    · rw [if_neg h]; exact propext ⟨fun q => q.elim, fun q => h q.1⟩
theorem SX_nil : OX (sNil env) QS = QS .nx env := rfl
theorem SX_brk : OX (sBrk env) QS = QS .brk env := rfl
theorem SX_ct : OX (sCt env) QS = QS .ct env := rfl
theorem SX_retN : OX (sRetN env) QS = QS (.ret (.shr .non)) env := rfl
theorem SX_raise {x : Str} : OX (sRaise x env) QS = QS (.exc x) env := rfl
/-- behind a statement -/
def nxS (QS : FRes → Env → Prop) (k : Env → Prop) : FRes → Env → Prop
  | .nx, e => k e
  | r, e => QS r e
theorem nxS_nx {k : Env → Prop} {e : Env} : nxS QS k .nx e = k e := rfl
theorem nxS_ret {k : Env → Prop} {e : Env} {r : RV} : nxS QS k (.ret r) e = QS (.ret r) e := rfl
theorem nxS_exc {k : Env → Prop} {e : Env} {r : Str} : nxS QS k (.exc r) e = QS (.exc r) e := rfl
theorem nxS_brk {k : Env → Prop} {e : Env} : nxS QS k .brk e = QS .brk e := rfl
theorem nxS_ct {k : Env → Prop} {e : Env} : nxS QS k .ct e = QS .ct e := rfl
theorem SX_seq : OX (sSeq g1 g2 env) QS = OX (g1 env) (nxS QS fun e => OX (g2 e) QS) := by
  unfold sSeq
  cases g1 env with
  | none => rfl
  | some z => obtain ⟨r, e⟩ := z; cases r <;> rfl
theorem SX_expr : OX (sExpr f env) QS = OX (f env) (rS QS fun _ e => QS .nx e) := SX_bind
theorem SX_ret : OX (sRet f env) QS = OX (f env) (rS QS fun o e => OB (opdRet o e) fun r => QS (.ret r) e) := by
  unfold sRet
  rw [SX_bind]
  congr; funext o e
  cases opdRet o e <;> rfl
theorem SX_if : OX (sIfS c g1 g2 env) QS = OX (c env) (rS QS fun o e => ifO o (OX (g1 e) QS) (OX (g2 e) QS)) := by
  unfold sIfS
  rw [SX_bind]
  congr; funext o e
  split
  · exact propext ⟨fun q => ⟨fun _ => q, fun z => by cases z⟩, fun q => q.1 rfl⟩
  · exact propext ⟨fun q => ⟨(fun z => by cases z), fun _ => q⟩, fun q => q.2 rfl⟩
  · rename_i h1 h2
    unfold ifO
    split
    · rename_i b
      cases b
      · exact absurd rfl h2
      · exact absurd rfl h1
    · rfl
theorem OX_mapnx {o : Option Env} : OX (o.map (FRes.nx, ·)) QS = OB o fun e => QS .nx e := by cases o <;> rfl
theorem SX_asg {i : Nat} : OX (sAsg i f env) QS = OX (f env) (rS QS fun o e => unO o e fun o e => OB (setSlot e i o) fun e => QS .nx e) := by
  unfold sAsg
  rw [SX_bind, EX_eun]
  congr; funext r e
  cases r with
  | exc c => rfl
  | val o =>
    simp only [rE_val, rS_val]
    exact unO_congr fun o e => OX_mapnx
theorem SX_args : ∀ {fs : List EF} {k : List Opd → SF} {env : Env}, OX (oargs fs k env) QS = xArgs (fun r e => match r with | .exc c => QS (.exc c) e | .val _ => True) fs env fun os e => OX (k os e) QS
  | [], _, _ => rfl
  | f :: fs, k, env => by
    show OX (obind f (fun o => oargs fs fun os => k (o :: os)) env) QS = _
    rw [SX_bind, xArgs_cons]
    refine congrArg (OX (f env)) ?_
    funext r e
    cases r with
    | exc c => rfl
    | val o => exact SX_args
/-- the exceptions' wish -/
def qX (QS : FRes → Env → Prop) : ERes → Env → Prop := fun r e => match r with | .exc c => QS (.exc c) e | .val _ => True
theorem SX_par {is : List Nat} {fs : List EF} : OX (sPar is fs env) QS = xArgs (qX QS) (fs.map eun) env fun os e => OB (setSlots e is os) fun e => QS .nx e := by
  unfold sPar
  rw [SX_args]
  show xArgs (qX QS) _ _ _ = _
  congr; funext os e
  exact OX_mapnx
theorem SX_unp {is : List Nat} : OX (sUnp is f env) QS = OX (f env) (rS QS fun o e => shO o e fun v e => OB (tgSet (.many is) v e) fun e => QS .nx e) := by
  unfold sUnp
  rw [SX_bind, EX_esh]
  congr; funext r e
  cases r with
  | exc c => rfl
  | val o =>
    simp only [rE_val, rS_val]
    exact shO_congr fun v e => OX_mapnx
def xLst (o : Option Val) (k : List Val → Prop) : Prop := match o with
  | some (.lst vs) => k vs
  | _ => False
theorem xLst_some {vs : List Val} {k : List Val → Prop} : xLst (some (.lst vs)) k = k vs := rfl
def xInt (o : Option Val) (k : Int → Prop) : Prop := match o with
  | some (.int i) => k i
  | _ => False
theorem xInt_some {i : Int} {k : Int → Prop} : xInt (some (.int i)) k = k i := rfl
theorem SX_setL {i : Nat} {fi fv : EF} : OX (sSetL i fi fv env) QS = OX (fv env) (rS QS fun o e => shO o e fun v e => xLst (own? e i) fun _ => OX (fi e) (rS QS fun oi e => xLst (own? e i) fun xs => xInt (oi.get e) fun j => OB (ixN xs.length j) fun k => QS .nx (updOwn e i (.lst (xs.set k v))))) := by
  unfold sSetL
  rw [SX_bind, EX_esh]
  congr; funext r e
  cases r with
  | exc c => rfl
  | val o =>
    simp only [rE_val, rS_val]
    refine shO_congr fun v e => ?_
    show OX (match own? e i with
      | some (.lst _) => obind fi (fun oi env => match own? env i, Opd.shr v, oi.get env with
        | some (.lst xs), .shr v, some (.int j) => (match ixN xs.length j with
          | some k => some (.nx, updOwn env i (.lst (xs.set k v)))
          | none => none)
        | _, _, _ => none) e
      | _ => none) QS = _
    cases own? e i with
    | none => rfl
    | some w =>
      cases w with
      | lst ws =>
        dsimp only
        rw [SX_bind, xLst_some]
        congr; funext oi e
        cases own? e i with
        | none => rfl
        | some w =>
          cases w with
          | lst xs =>
            rw [xLst_some]
            cases oi.get e with
            | none => rfl
            | some u =>
              cases u with
              | int j =>
                dsimp only
                rw [xInt_some]
                cases ixN xs.length j <;> rfl
              | _ => rfl
          | _ => rfl
      | _ => rfl
theorem SX_augL {i : Nat} {gg : Int → Int → Int} {fi fe : EF} : OX (sAugL i gg fi fe env) QS = xLst (own? env i) fun _ => OX (fi env) (rS QS fun oi e => xLst (own? e i) fun xs => xInt (oi.get e) fun j => xInt (atI xs j) fun a => OX (fe e) (rS QS fun oe e => xLst (own? e i) fun ys => xInt (oe.get e) fun b => OB (ixN ys.length j) fun k => QS .nx (updOwn e i (.lst (ys.set k (.int (gg a b))))))) := by
  unfold sAugL
  cases own? env i with
  | none => rfl
  | some w =>
    cases w with
    | lst ws =>
      dsimp only
      rw [SX_bind, xLst_some]
      congr; funext oi e
      cases own? e i with
      | none => rfl
      | some w =>
        cases w with
        | lst xs =>
          rw [xLst_some]
          cases oi.get e with
          | none => rfl
          | some u =>
            cases u with
            | int j =>
              dsimp only
              rw [xInt_some]
              cases atI xs j with
              | none => rfl
              | some a =>
                cases a with
                | int a =>
                  dsimp only
                  rw [SX_bind, xInt_some]
                  congr; funext oe e
                  cases own? e i with
                  | none => rfl
                  | some w =>
                    cases w with
                    | lst ys =>
                      rw [xLst_some]
                      cases oe.get e with
                      | none => rfl
                      | some u =>
                        cases u with
                        | int b =>
                          dsimp only
                          rw [xInt_some]
                          cases ixN ys.length j <;> rfl
                        | _ => rfl
                    | _ => rfl
                | _ => rfl
            | _ => rfl
        | _ => rfl
    | _ => rfl
end
end Lw

end
section
set_option Elab.async false
set_option linter.all false
set_option maxRecDepth 100000
set_option maxHeartbeats 1000000
set_option autoImplicit false
/-! M: calls, walks, comprehensions. -/
namespace Lw
open PySem L2
section
variable {f g h c : EF} {env : Env} {Q : ERes → Env → Prop} {QS : FRes → Env → Prop} {QI : IRes → Env → Prop} {body : SF}
def oE : ORes → ERes
  | .ret r => .val r.opd
  | .exc c => .exc c
theorem oE_ret (r : RV) : oE (.ret r) = .val r.opd := rfl
theorem oE_exc (c : Str) : oE (.exc c) = .exc c := rfl
def xIo (s : Option Slot) (k : Val → Prop) : Prop := match s with
  | some (.io v) => k v
  | _ => False
theorem xIo_some {v : Val} {k : Val → Prop} : xIo (some (.io v)) k = k v := rfl
/-- a call: what is handed in, one that is changed -/
def callS (φ : Fn) (e : Env) (Q : ERes → Env → Prop) : List Val × Option (Nat × List Val) → Prop
  | (vs, none) => OX (φ (vs.map Slot.shr)) fun o _ => Q (oE o) e
  | (vs, some (i, ws)) => OB (own? e i) fun v => OX (φ (vs.map Slot.shr ++ .io v :: ws.map Slot.shr)) fun o ss => xIo ss[vs.length]? fun v1 => Q (oE o) (updOwn e i v1)
theorem callS_none {φ : Fn} {vs : List Val} : callS φ env Q (vs, none) = OX (φ (vs.map Slot.shr)) fun o _ => Q (oE o) env := rfl
theorem callS_some {φ : Fn} {vs ws : List Val} {i : Nat} : callS φ env Q (vs, some (i, ws)) = OB (own? env i) fun v => OX (φ (vs.map Slot.shr ++ .io v :: ws.map Slot.shr)) fun o ss => xIo ss[vs.length]? fun v1 => Q (oE o) (updOwn env i v1) := rfl
theorem EX_call {φ : Fn} {fs : List EF} : OX (sCall φ fs env) Q = xArgs Q fs env fun os e => OB (splitIo os) fun z => callS φ e Q z := by
  unfold sCall
  rw [EX_args]
  congr; funext os e
  unfold sCallK
  cases splitIo os with
  | none => rfl
  | some z =>
    obtain ⟨vs, z⟩ := z
    cases z with
    | none =>
      dsimp only
      rw [OB_some, callS_none]
      cases φ (vs.map Slot.shr) with
      | none => rfl
      | some z => obtain ⟨o, ss⟩ := z; cases o <;> rfl
    | some z =>
      obtain ⟨i, ws⟩ := z
      dsimp only
      rw [OB_some, callS_some]
      cases own? e i with
      | none => rfl
      | some v =>
        dsimp only
        rw [OB_some]
        cases φ (vs.map Slot.shr ++ .io v :: ws.map Slot.shr) with
        | none => rfl
        | some z =>
          obtain ⟨o, ss⟩ := z
          dsimp only
          rw [OX_some]
          cases ss[vs.length]? with
          | none => rfl
          | some s => cases s <;> cases o <;> rfl
theorem EX_mut {i : Nat} {op : List Val → List Val → Option (Val × List Val)} {fs : List EF} : OX (sMutS i op fs env) Q = xLst (own? env i) fun _ => xArgs Q (fs.map esh) env fun os e => xLst (own? e i) fun xs => OB (shrs os) fun vs => OB (op xs vs) fun z => Q (.val (.shr z.1)) (updOwn e i (.lst z.2)) := by
  unfold sMutS
  cases own? env i with
  | none => rfl
  | some w =>
    cases w with
    | lst ws =>
      dsimp only
      rw [EX_args, xLst_some]
      congr; funext os e
      cases own? e i with
      | none => rfl
      | some w =>
        cases w with
        | lst xs =>
          rw [xLst_some]
          cases shrs os with
          | none => rfl
          | some vs =>
            dsimp only
            rw [OB_some]
            cases op xs vs <;> rfl
        | _ => rfl
    | _ => rfl
theorem EX_extend {i : Nat} : OX (sExtend i f env) Q = xLst (own? env i) fun _ => OX (f env) (rE Q fun o e => xLst (own? e i) fun xs => xLst (o.get e) fun vs => xs.length + vs.length ≤ 16000000 ∧ Q (.val (.shr .non)) (updOwn e i (.lst (xs ++ vs)))) := by
  unfold sExtend
  cases own? env i with
  | none => rfl
  | some w =>
    cases w with
    | lst ws =>
      dsimp only
      rw [EX_bind, xLst_some]
      congr; funext o e
      cases own? e i with
      | none => rfl
      | some w =>
        cases w with
        | lst xs =>
          rw [xLst_some]
          cases o.get e with
          | none => rfl
          | some u =>
            cases u with
            | lst vs =>
              dsimp only
              rw [xLst_some]
              by_cases h : xs.length + vs.length ≤ 16000000
              · rw [if_pos h]; exact propext ⟨fun q => ⟨h, q⟩, fun q => q.2⟩
              · rw [if_neg h]; exact propext ⟨fun q => q.elim, fun q => h q.1⟩
            | _ => rfl
        | _ => rfl
    | _ => rfl
/-- a slice's part -/
def iO (o : Opd) (k : Int → Prop) : Prop := match o with
  | .shr (.int i) => k i
  | _ => False
theorem iO_int {i : Int} {k : Int → Prop} : iO (.shr (.int i)) k = k i := rfl
def xP (Q : ERes → Env → Prop) : Option EF → Env → (Option Int → Env → Prop) → Prop
  | none, e, k => k none e
  | some g, e, k => OX (g e) (rE Q fun o e => iO o fun i => k (some i) e)
theorem xP_none {k : Option Int → Env → Prop} : xP Q none env k = k none env := rfl
theorem xP_some {k : Option Int → Env → Prop} : xP Q (some g) env k = OX (g env) (rE Q fun o e => iO o fun i => k (some i) e) := rfl
theorem EX_bindP {lo : Option EF} {k : Option Int → EF} : OX (ebindP lo k env) Q = xP Q lo env fun l e => OX (k l e) Q := by
  cases lo with
  | none => rfl
  | some g =>
    unfold ebindP
    rw [EX_bind, xP_some]
    congr; funext o e
    split
    · rfl
    · rename_i h1
      unfold iO
      split
      · exact absurd rfl (h1 _)
      · rfl
theorem EX_sl {op : Val → Option Int → Option Int → Option RV} {lo hi : Option EF} : OX (sSl op f lo hi env) Q = OX (f env) (rE Q fun o e => xP Q lo e fun l e => xP Q hi e fun h e => OB (o.get e) fun v => OB (op v l h) fun r => Q (.val r.opd) e) := by
  unfold sSl
  rw [EX_bind]
  congr; funext o e
  rw [EX_bindP]
  congr; funext l e
  rw [EX_bindP]
  congr; funext h e
  cases o.get e with
  | none => rfl
  | some v =>
    dsimp only
    rw [OB_some]
    cases op v l h <;> rfl
def ifR (r : RV) (A B : Prop) : Prop := match r with
  | .shr (.bl b) => (b = true → A) ∧ (b = false → B)
  | _ => False
theorem ifR_bl (b : Bool) (A B : Prop) : ifR (.shr (.bl b)) A B = ((b = true → A) ∧ (b = false → B)) := rfl
theorem EX_chain {op op' : Val → Val → Option RV} : OX (sChain op op' f g h env) Q = OX (f env) (rE Q fun x e => OX (g e) (rE Q fun y e => OB (x.get e) fun vx => OB (y.get e) fun vy => OB (op vx vy) fun r => ifR r (OX (h e) (rE Q fun z e => OB (y.get e) fun vy => OB (z.get e) fun vz => OB (op' vy vz) fun r => Q (.val r.opd) e)) (Q (.val (.shr (.bl false))) e))) := by
  unfold sChain
  rw [EX_bind]
  congr; funext x e
  rw [EX_bind]
  congr; funext y e
  unfold eChain
  cases x.get e with
  | none => rfl
  | some vx =>
    cases y.get e with
    | none => rfl
    | some vy =>
      dsimp only
      rw [OB_some, OB_some]
      cases op vx vy with
      | none => rfl
      | some r =>
        rw [OB_some]
        cases r with
        | new v => rfl
        | shr v =>
          cases v with
          | bl b =>
            cases b
            · dsimp only; rw [ifR_bl, OX_some]; exact propext ⟨fun q => ⟨(fun z => by cases z), fun _ => q⟩, fun q => q.2 rfl⟩
            · dsimp only
              rw [ifR_bl, EX_bind]
              refine propext ⟨fun q => ⟨fun _ => ?_, (fun z => by cases z)⟩, fun q => ?_⟩
              · revert q
                apply Eq.mp
                congr; funext z e
                exact EX_op2
              · have q := q.1 rfl
                revert q
                apply Eq.mp
                congr; funext z e
                exact EX_op2.symm
          | _ => rfl

/-! ### what is walked -/
def rI (QI : IRes → Env → Prop) (k : Opd → Env → Prop) : ERes → Env → Prop
  | .val o, e => k o e
  | .exc c, e => QI (.exc c) e
theorem rI_val (k : Opd → Env → Prop) (o : Opd) (e : Env) : rI QI k (.val o) e = k o e := rfl
theorem rI_exc (k : Opd → Env → Prop) (c : Str) (e : Env) : rI QI k (.exc c) e = QI (.exc c) e := rfl
theorem IX_bindO {k : Opd → IF} : OX (ibindO f k env) QI = OX (f env) (rI QI fun o e => OX (k o e) QI) := by
  unfold ibindO
  cases f env with
  | none => rfl
  | some z => obtain ⟨r, e⟩ := z; cases r <;> rfl
theorem IX_any : OX (sAny f env) QI = OX (f env) (rI QI fun o e => shO o e fun v e => OB (itemsA v) fun vs => QI (.items vs) e) := by
  unfold sAny ibind
  have h := EX_esh (f := f) (env := env) (Q := fun r e => rI QI (fun o e => match o with | .shr v => OB (itemsA v) fun vs => QI (.items vs) e | _ => False) r e)
  have l : OX (match esh f env with
      | some (.val (.shr v), env1) => (match itemsA v with | some vs => some (.items vs, env1) | none => none)
      | some (.exc c, env1) => some (.exc c, env1)
      | _ => none) QI = OX (esh f env) fun r e => rI QI (fun o e => match o with | .shr v => OB (itemsA v) fun vs => QI (.items vs) e | _ => False) r e := by
    cases esh f env with
    | none => rfl
    | some z =>
      obtain ⟨r, e⟩ := z
      cases r with
      | exc c => rfl
      | val o =>
        cases o with
        | shr v => dsimp only; rw [OX_some, rI_val]; dsimp only; cases itemsA v <;> rfl
        | new v => rfl
        | var i => rfl
  refine l.trans (h.trans ?_)
  refine congrArg (OX (f env)) ?_
  funext r e
  cases r with
  | exc c => rfl
  | val o => rfl
theorem IX_range1 : OX (sRange1 f env) QI = OX (f env) (rI QI fun o e => xInt (o.get e) fun j => smallI j = true ∧ QI (.items (rangeV 0 j.toNat)) e) := by
  unfold sRange1
  rw [IX_bindO]
  congr; funext o e
  cases o.get e with
  | none => rfl
  | some u =>
    cases u with
    | int j =>
      dsimp only
      rw [xInt_some]
      by_cases h : smallI j = true
      · rw [if_pos h]; exact propext ⟨fun q => ⟨h, q⟩, fun q => q.2⟩
      · rw [if_neg h]; exact propext ⟨fun q => q.elim, fun q => h q.1⟩
    | _ => rfl
theorem IX_range2 : OX (sRange2 f g env) QI = OX (f env) (rI QI fun o1 e => OX (g e) (rI QI fun o2 e => xInt (o1.get e) fun i => xInt (o2.get e) fun j => (smallI i && smallI j) = true ∧ QI (.items (rangeV i (j - i).toNat)) e)) := by
  unfold sRange2
  rw [IX_bindO]
  congr; funext o1 e
  rw [IX_bindO]
  congr; funext o2 e
  cases o1.get e with
  | none => rfl
  | some u =>
    cases u with
    | int i =>
      cases o2.get e with
      | none => rfl
      | some u =>
        cases u with
        | int j =>
          dsimp only
          rw [xInt_some, xInt_some]
          by_cases h : (smallI i && smallI j) = true
          · rw [if_pos h]; exact propext ⟨fun q => ⟨h, q⟩, fun q => q.2⟩
          · rw [if_neg h]; exact propext ⟨fun q => q.elim, fun q => h q.1⟩
        | _ => rfl
    | _ => rfl
def qI (QI : IRes → Env → Prop) : ERes → Env → Prop := fun r e => match r with | .exc c => QI (.exc c) e | .val _ => True
theorem IX_args : ∀ {fs : List EF} {k : List Opd → IF} {env : Env}, OX (iargs fs k env) QI = xArgs (qI QI) fs env fun os e => OX (k os e) QI
  | [], _, _ => rfl
  | f :: fs, k, env => by
    show OX (ibindO f (fun o => iargs fs fun os => k (o :: os)) env) QI = _
    rw [IX_bindO, xArgs_cons]
    refine congrArg (OX (f env)) ?_
    funext r e
    cases r with
    | exc c => rfl
    | val o => exact IX_args
def two? : List Val → Option (Val × Val)
  | [v, w] => some (v, w)
  | _ => none
def one? : List Val → Option Val
  | [v] => some v
  | _ => none
theorem IX_zip {fs : List EF} : OX (sZip fs env) QI = xArgs (qI QI) (fs.map esh) env fun os e => OB (shrs os) fun vs => OB (two? vs) fun z => OB (itemsA z.1) fun xs => OB (itemsA z.2) fun ys => QI (.items (zipV xs ys)) e := by
  unfold sZip
  rw [IX_args]
  congr; funext os e
  cases shrs os with
  | none => rfl
  | some vs =>
    rw [OB_some]
    match vs with
    | [] => rfl
    | [_] => rfl
    | [v, w] =>
      dsimp only [two?]
      rw [OB_some]
      cases itemsA v with
      | none => rfl
      | some xs =>
        rw [OB_some]
        dsimp only
        cases itemsA w <;> rfl
    | _ :: _ :: _ :: _ => rfl
theorem IX_enum {fs : List EF} : OX (sEnum fs env) QI = xArgs (qI QI) (fs.map esh) env fun os e => OB (shrs os) fun vs => OB (one? vs) fun z => OB (itemsA z) fun xs => QI (.items (enumV xs)) e := by
  unfold sEnum
  rw [IX_args]
  congr; funext os e
  cases shrs os with
  | none => rfl
  | some vs =>
    rw [OB_some]
    match vs with
    | [] => rfl
    | [v] =>
      dsimp only [one?]
      rw [OB_some]
      cases itemsA v <;> rfl
    | _ :: _ :: _ => rfl
def rF (QS : FRes → Env → Prop) (k : List Val → Env → Prop) : IRes → Env → Prop
  | .items vs, e => k vs e
  | .exc c, e => QS (.exc c) e
theorem rF_items (k : List Val → Env → Prop) (vs : List Val) (e : Env) : rF QS k (.items vs) e = k vs e := rfl
theorem rF_exc (k : List Val → Env → Prop) (c : Str) (e : Env) : rF QS k (.exc c) e = QS (.exc c) e := rfl
theorem SX_for {t : Tgt} {it : IF} : OX (sFor t it body env) QS = OX (it env) (rF QS fun vs e => OX (forL t body vs e) QS) := by
  unfold sFor
  cases it env with
  | none => rfl
  | some z => obtain ⟨r, e⟩ := z; cases r <;> rfl
/-- one more turn -/
def lpS (QS : FRes → Env → Prop) (k : Env → Prop) : FRes → Env → Prop
  | .nx, e => k e
  | .ct, e => k e
  | .brk, e => QS .nx e
  | r, e => QS r e
theorem lpS_nx {k : Env → Prop} {e : Env} : lpS QS k .nx e = k e := rfl
theorem lpS_ct {k : Env → Prop} {e : Env} : lpS QS k .ct e = k e := rfl
theorem lpS_brk {k : Env → Prop} {e : Env} : lpS QS k .brk e = QS .nx e := rfl
theorem lpS_ret {k : Env → Prop} {e : Env} {r : RV} : lpS QS k (.ret r) e = QS (.ret r) e := rfl
theorem lpS_exc {k : Env → Prop} {e : Env} {r : Str} : lpS QS k (.exc r) e = QS (.exc r) e := rfl
theorem FL_nil {t : Tgt} : OX (forL t body [] env) QS = QS .nx env := rfl
theorem FL_cons {t : Tgt} {v : Val} {vs : List Val} : OX (forL t body (v :: vs) env) QS = OB (tgSet t v env) fun e => OX (body e) (lpS QS fun e => OX (forL t body vs e) QS) := by
  show OX (match tgSet t v env with
    | none => none
    | some env1 => match body env1 with
      | some (.nx, env2) => forL t body vs env2
      | some (.ct, env2) => forL t body vs env2
      | some (.brk, env2) => some (.nx, env2)
      | z => z) QS = _
  cases tgSet t v env with
  | none => rfl
  | some e =>
    rw [OB_some]
    dsimp only
    cases body e with
    | none => rfl
    | some z => obtain ⟨r, e⟩ := z; cases r <;> rfl
/-- a loop by an invariant of how many turns are done -/
theorem FL_inv {t : Tgt} {vs : List Val} (I : Nat → Env → Prop) (h0 : I 0 env) (hs : ∀ i v e, vs[i]? = some v → I i e → OB (tgSet t v e) fun e => OX (body e) (lpS QS fun e => I (i + 1) e)) (hd : ∀ e, I vs.length e → QS .nx e) : OX (forL t body vs env) QS := by
  have key : ∀ (ws : List Val) (i : Nat) (e : Env), vs.drop i = ws → i ≤ vs.length → I i e → OX (forL t body ws e) QS := by
    intro ws
    induction ws with
    | nil =>
      intro i e hd' hi hI
      rw [FL_nil]
      have : i = vs.length := by
        have := congrArg List.length hd'
        rw [List.length_drop, List.length_nil] at this
        omega
      subst this
      exact hd e hI
    | cons v ws ih =>
      intro i e hd' hi hI
      have hv : vs[i]? = some v := by
        have := congrArg (fun l => l[0]?) hd'
        simpa using this
      have hlt := (List.getElem?_eq_some_iff.mp hv).1
      rw [FL_cons]
      refine OB_mono (hs i v e hv hI) fun e1 h1 => OX_mono h1 fun r e2 h2 => ?_
      have nx : I (i + 1) e2 → OX (forL t body ws e2) QS := fun h => ih (i + 1) e2 (by have := congrArg List.tail hd'; simpa using this) hlt h
      cases r with
      | nx => exact nx h2
      | ct => exact nx h2
      | brk => exact h2
      | ret r => exact h2
      | exc c => exact h2
  exact key vs 0 env rfl (Nat.zero_le _) h0

/-! ### comprehensions -/
theorem EX_lc {t : Tgt} {cl : List Nat} {it : IF} {tt te : EF} : OX (sLC t cl it tt te env) Q = OX (it env) (fun r e => match r with
    | .items vs => OB (wipe? e cl) fun ew => OX (lcL t cl tt te vs [] ew) fun ws e2 => (cl.all fun j => plainAt e2 j) = true ∧ Q (.val (.new (.lst ws))) (restE e e2 cl)
    | .exc c => Q (.exc c) e) := by
  unfold sLC
  cases it env with
  | none => rfl
  | some z =>
    obtain ⟨r, e⟩ := z
    cases r with
    | exc c => rfl
    | items vs =>
      dsimp only
      rw [OX_some]
      dsimp only
      cases wipe? e cl with
      | none => rfl
      | some ew =>
        dsimp only
        rw [OB_some]
        cases lcL t cl tt te vs [] ew with
        | none => rfl
        | some z =>
          obtain ⟨ws, e2⟩ := z
          dsimp only
          rw [OX_some]
          by_cases h : (cl.all fun j => plainAt e2 j) = true
          · rw [if_pos h]; exact propext ⟨fun q => ⟨h, q⟩, fun q => q.2⟩
          · rw [if_neg h]; exact propext ⟨fun q => q.elim, fun q => h q.1⟩
/-- a comprehension by an invariant: i turns are done, acc is what came -/
theorem LC_inv {t : Tgt} {cl : List Nat} {tt te : EF} {vs : List Val} {P : List Val → Env → Prop} (I : Nat → List Val → Env → Prop) (h0 : I 0 [] env)
    (hs : ∀ i v acc e, vs[i]? = some v → I i acc e → OB (tgSet t v e) fun e1 => OX (tt e1) fun r e2 => ∃ b, r = .val (.shr (.bl b)) ∧ (b = true → OX (te e2) fun r e3 => ∃ o, r = .val o ∧ shO o e3 fun w e3 => acc.length < 16000000 ∧ OB (wipe? e3 cl) fun e4 => I (i + 1) (acc ++ [w]) e4)
      ∧ (b = false → OB (wipe? e2 cl) fun e4 => I (i + 1) acc e4)) (hd : ∀ acc e, I vs.length acc e → P acc e) : OX (lcL t cl tt te vs [] env) P := by
  have key : ∀ (ws : List Val) (i : Nat) (acc : List Val) (e : Env), vs.drop i = ws → i ≤ vs.length → I i acc e → OX (lcL t cl tt te ws acc e) P := by
    intro ws
    induction ws with
    | nil =>
      intro i acc e hd' hi hI
      show P acc e
      have : i = vs.length := by
        have := congrArg List.length hd'
        rw [List.length_drop, List.length_nil] at this
        omega
      subst this
      exact hd acc e hI
    | cons v ws ih =>
      intro i acc e hd' hi hI
      have hv : vs[i]? = some v := by
        have := congrArg (fun l => l[0]?) hd'
        simpa using this
      have hlt := (List.getElem?_eq_some_iff.mp hv).1
      have h1 := hs i v acc e hv hI
      have nx : ∀ acc e, I (i + 1) acc e → OX (lcL t cl tt te ws acc e) P := fun acc e h => ih (i + 1) acc e (by have := congrArg List.tail hd'; simpa using this) hlt h
      unfold lcL
      cases ht : tgSet t v e with
      | none => rw [ht] at h1; exact h1.elim
      | some e1 =>
        rw [ht, OB_some] at h1
        dsimp only
        cases h2 : tt e1 with
        | none => rw [h2] at h1; exact h1.elim
        | some z =>
          obtain ⟨r, e2⟩ := z
          rw [h2, OX_some] at h1
          obtain ⟨b, rfl, q1, q2⟩ := h1
          cases b with
          | false =>
            dsimp only
            have q := q2 rfl
            cases h3 : wipe? e2 cl with
            | none => rw [h3] at q; exact q.elim
            | some e4 => rw [h3, OB_some] at q; exact nx _ _ q
          | true =>
            dsimp only
            have q := q1 rfl
            have q' : OX (esh te e2) fun r e3 => ∃ w, r = .val (.shr w) ∧ acc.length < 16000000 ∧ OB (wipe? e3 cl) fun e4 => I (i + 1) (acc ++ [w]) e4 := by
              rw [EX_esh]
              refine OX_mono q fun r e3 h => ?_
              obtain ⟨o, rfl, h⟩ := h
              rw [rE_val]
              unfold shO at h ⊢
              cases o with
              | shr v => exact ⟨v, rfl, h⟩
              | new v => exact ⟨v, rfl, h⟩
              | var i =>
                dsimp only at h ⊢
                cases h5 : e3[i]? with
                | none => rw [h5] at h; exact h.elim
                | some s =>
                  rw [h5] at h
                  cases s with
                  | own v => exact ⟨v, rfl, h⟩
                  | _ => exact h.elim
            cases h3 : esh te e2 with
            | none => rw [h3] at q'; exact q'.elim
            | some z =>
              obtain ⟨r3, e3⟩ := z
              rw [h3, OX_some] at q'
              obtain ⟨w, rfl, hl, q'⟩ := q'
              dsimp only
              rw [if_pos hl]
              cases h4 : wipe? e3 cl with
              | none => rw [h4] at q'; exact q'.elim
              | some e4 => rw [h4, OB_some] at q'; exact nx _ _ q'
  exact key vs 0 [] env rfl (Nat.zero_le _) h0

/-! ### defs -/
def fnR (ss : List Slot) (Q : ORes → List Slot → Prop) : FRes → Env → Prop
  | .nx, e => Q (.ret (.shr .non)) (ioOut ss e)
  | .ret r, e => Q (.ret r) (ioOut ss e)
  | .exc c, e => Q (.exc c) (ioOut ss e)
  | _, _ => False
theorem fnR_nx {ss : List Slot} {Q : ORes → List Slot → Prop} {e : Env} : fnR ss Q .nx e = Q (.ret (.shr .non)) (ioOut ss e) := rfl
theorem fnR_ret {ss : List Slot} {Q : ORes → List Slot → Prop} {e : Env} {r : RV} : fnR ss Q (.ret r) e = Q (.ret r) (ioOut ss e) := rfl
theorem fnR_exc {ss : List Slot} {Q : ORes → List Slot → Prop} {e : Env} {c : Str} : fnR ss Q (.exc c) e = Q (.exc c) (ioOut ss e) := rfl
theorem FX_run {k n : Nat} {g : SF} {ss : List Slot} {Q : ORes → List Slot → Prop} (hk : (ss.length == k && ss.all nown) = true) (h : OX (g (ss ++ List.replicate (n - k) .un)) (fnR ss Q)) : OX (runF k n g ss) Q := by
  unfold runF
  rw [if_pos hk]
  revert h
  cases g (ss ++ List.replicate (n - k) .un) with
  | none => exact id
  | some z => obtain ⟨r, e⟩ := z; cases r <;> exact id
end
end Lw

end
section
set_option Elab.async false
set_option linter.all false
set_option maxRecDepth 100000
set_option maxHeartbeats 1000000
set_option autoImplicit false
/-! M: rewriting on what is written out. -/
namespace Lw
open PySem L2
theorem get_shr {v : Val} {e : Env} : (Opd.shr v).get e = some v := rfl
theorem get_new {v : Val} {e : Env} : (Opd.new v).get e = some v := rfl
theorem get_var {i : Nat} {e : Env} : (Opd.var i).get e = own? e i := rfl
theorem opd_shr {v : Val} : (RV.shr v).opd = .shr v := rfl
theorem opd_new {v : Val} : (RV.new v).opd = .new v := rfl
theorem own_zero {s : Slot} {e : Env} : own? (s :: e) 0 = s.ow := rfl
theorem own_succ {s : Slot} {e : Env} {n : Nat} : own? (s :: e) (n + 1) = own? e n := rfl
theorem ow_own {v : Val} : (Slot.own v).ow = some v := rfl
theorem ow_io {v : Val} : (Slot.io v).ow = some v := rfl
theorem ow_shr {v : Val} : (Slot.shr v).ow = none := rfl
theorem ow_un : (Slot.un).ow = none := rfl
theorem upd_own {v v1 : Val} {e : Env} : updOwn (.own v :: e) 0 v1 = .own v1 :: e := rfl
theorem upd_io {v v1 : Val} {e : Env} : updOwn (.io v :: e) 0 v1 = .io v1 :: e := rfl
theorem upd_succ {s : Slot} {v1 : Val} {e : Env} {n : Nat} : updOwn (s :: e) (n + 1) v1 = s :: updOwn e n v1 := by
  unfold updOwn
  rw [List.getElem?_cons_succ]
  cases e[n]? with
  | none => rfl
  | some t => cases t <;> rfl
theorem so_shr {i : Nat} {v : Val} : slotO i (some (.shr v)) = some (.shr v) := rfl
theorem so_own {i : Nat} {v : Val} : slotO i (some (.own v)) = some (.var i) := rfl
theorem so_io {i : Nat} {v : Val} : slotO i (some (.io v)) = some (.var i) := rfl
theorem unO_shr {v : Val} {e : Env} {k : Opd → Env → Prop} : unO (.shr v) e k = k (.shr v) e := rfl
theorem unO_new {v : Val} {e : Env} {k : Opd → Env → Prop} : unO (.new v) e k = k (.new v) e := rfl
/-- a slot's value, frozen -/
def frz (i : Nat) (e : Env) (s : Option Slot) (k : Val → Env → Prop) : Prop := match s with
  | some (.own v) => k v (e.set i (.shr v))
  | _ => False
theorem frz_own {i : Nat} {e : Env} {v : Val} {k : Val → Env → Prop} : frz i e (some (.own v)) k = k v (e.set i (.shr v)) := rfl
theorem unO_var {i : Nat} {e : Env} {k : Opd → Env → Prop} : unO (.var i) e k = frz i e e[i]? fun v e => k (.shr v) e := by
  unfold unO frz
  first
  | (dsimp only; done)
  | (dsimp only
     cases e[i]? with
     | none => rfl
     | some s => cases s <;> rfl)
theorem shO_var' {i : Nat} {e : Env} {k : Val → Env → Prop} : shO (.var i) e k = frz i e e[i]? k := by
  unfold shO frz
  first
  | (dsimp only; done)
  | (dsimp only
     cases e[i]? with
     | none => rfl
     | some s => cases s <;> rfl)
/-- a slot is set -/
def setOk (s : Option Slot) : Bool := match s with
  | some (.io _) => false
  | some _ => true
  | none => false
theorem setOk_un : setOk (some .un) = true := rfl
theorem setOk_shr {v : Val} : setOk (some (.shr v)) = true := rfl
theorem setOk_own {v : Val} : setOk (some (.own v)) = true := rfl
theorem set_shr {e : Env} {i : Nat} {v : Val} : setSlot e i (.shr v) = if setOk e[i]? = true then some (e.set i (.shr v)) else none := by
  unfold setSlot setOk slotOf
  cases e[i]? with
  | none => rfl
  | some s => cases s <;> rfl
theorem set_new {e : Env} {i : Nat} {v : Val} : setSlot e i (.new v) = if setOk e[i]? = true then some (e.set i (.own v)) else none := by
  unfold setSlot setOk slotOf
  cases e[i]? with
  | none => rfl
  | some s => cases s <;> rfl
def xOwn (s : Option Slot) : Option RV := match s with
  | some (.own v) => some (.new v)
  | _ => none
theorem xOwn_own {v : Val} : xOwn (some (.own v)) = some (.new v) := rfl
theorem ret_shr {v : Val} {e : Env} : opdRet (.shr v) e = some (.shr v) := rfl
theorem ret_new {v : Val} {e : Env} : opdRet (.new v) e = some (.new v) := rfl
theorem ret_var {i : Nat} {e : Env} : opdRet (.var i) e = xOwn e[i]? := by
  unfold opdRet xOwn
  first
  | (dsimp only; done)
  | (dsimp only
     cases e[i]? with
     | none => rfl
     | some s => cases s <;> rfl)
theorem shrs_nil : shrs [] = some [] := rfl
theorem shrs_cons {v : Val} {os : List Opd} : shrs (.shr v :: os) = (shrs os).map (v :: ·) := rfl
theorem gets_nil {e : Env} : gets [] e = some [] := rfl
theorem gets_cons {o : Opd} {os : List Opd} {e : Env} {P : List Val → Prop} : OB (gets (o :: os) e) P = OB (o.get e) fun v => OB (gets os e) fun vs => P (v :: vs) := by
  show OB (match o.get e, gets os e with
    | some v, some vs => some (v :: vs)
    | _, _ => none) P = _
  cases o.get e with
  | none => rfl
  | some v =>
    rw [OB_some]
    cases gets os e <;> rfl
theorem split_nil : splitIo [] = some ([], none) := rfl
theorem split_shr {v : Val} {os : List Opd} : splitIo (.shr v :: os) = (splitIo os).map fun z => (v :: z.1, z.2) := rfl
theorem split_var {i : Nat} {os : List Opd} : splitIo (.var i :: os) = (shrs os).map fun ws => ([], some (i, ws)) := rfl
theorem sets_nil {e : Env} : setSlots e [] [] = some e := rfl
theorem sets_cons {e : Env} {i : Nat} {is : List Nat} {o : Opd} {os : List Opd} {P : Env → Prop} : OB (setSlots e (i :: is) (o :: os)) P = OB (setSlot e i o) fun e => OB (setSlots e is os) P := by
  show OB (match setSlot e i o with | some env1 => setSlots env1 is os | none => none) P = _
  cases setSlot e i o <;> rfl
theorem tg_one {i : Nat} {v : Val} {e : Env} : tgSet (.one i) v e = setSlot e i (.shr v) := by cases v <;> rfl
theorem tg_many {is : List Nat} {vs : List Val} {e : Env} : tgSet (.many is) (.tup vs) e = setSlots e is (vs.map Opd.shr) := rfl
/-! operations on values -/
theorem ev_add {i j : Int} : oAdd (.int i) (.int j) = some (.shr (.int (i + j))) := rfl
theorem ev_addS {a b : List Nat} : oAdd (.str a) (.str b) = if a.length + b.length ≤ 16000000 then some (.shr (.str (a ++ b))) else none := rfl
theorem ev_addL {a b : List Val} : oAdd (.lst a) (.lst b) = if a.length + b.length ≤ 16000000 then some (.new (.lst (a ++ b))) else none := rfl
theorem ev_addT {a b : List Val} : oAdd (.tup a) (.tup b) = if a.length + b.length ≤ 16000000 then some (.shr (.tup (a ++ b))) else none := rfl
theorem ev_sub {i j : Int} : oSub (.int i) (.int j) = some (.shr (.int (i - j))) := rfl
theorem ev_fdiv {i j : Int} : oFdiv (.int i) (.int j) = if 0 < j ∧ j < 1073741824 then some (.shr (.int (i / j))) else none := rfl
theorem ev_mod {i j : Int} : oMod (.int i) (.int j) = if 0 < j then some (.shr (.int (i % j))) else none := rfl
theorem ev_pow {i j : Int} : oPow (.int i) (.int j) = if 0 ≤ j ∧ j ≤ 1000000 ∧ i.natAbs < 2 ^ 64 then some (.shr (.int (i ^ j.toNat))) else none := rfl
theorem ev_pow18 : oPow (.int 10) (.int 18) = some (.shr (.int 1000000000000000000)) := by rw [ev_pow, if_pos (by decide)]; rfl
theorem ev_pow60 : oPow (.int 10) (.int 60) = some (.shr (.int 1000000000000000000000000000000000000000000000000000000000000)) := by rw [ev_pow, if_pos (by decide)]; rfl
theorem ev_mul {i j : Int} : oMul (.int i) (.int j) = if mulOk i j = true then some (.shr (.int (i * j))) else none := rfl
theorem ev_mulL {a : List Val} {k : Int} : oMul (.lst a) (.int k) = if -1000000 ≤ k ∧ k ≤ 1000000 ∧ a.length ≤ 10 then some (.new (.lst (List.replicate k.toNat a).flatten)) else none := by cases a <;> rfl
theorem mulOk_l {i j : Int} (h : i.natAbs < 18446744073709551616) : mulOk i j = true := by unfold mulOk; rw [decide_eq_true h]; rfl
theorem mulOk_r {i j : Int} (h : j.natAbs < 18446744073709551616) : mulOk i j = true := by unfold mulOk; rw [decide_eq_true h, Bool.or_true]; rfl
theorem ev_mul60 : oMul (.int 1000000000000000000000000000000000000000000000000000000000000) (.int 1000000000000000000000000000000000000000000000000000000000000) = some (.shr (.int 1000000000000000000000000000000000000000000000000000000000000000000000000000000000000000000000000000000000000000000000000)) := by
  rw [ev_mul, if_pos (by decide +kernel)]
  rfl
theorem ev_mulA {i : Int} : oMul (.int i) (.int 1103515245) = some (.shr (.int (i * 1103515245))) := by rw [ev_mul, if_pos (mulOk_r (by decide))]
theorem ev_mulB {i : Int} : oMul (.int 7919) (.int i) = some (.shr (.int (7919 * i))) := by rw [ev_mul, if_pos (mulOk_l (by decide))]
theorem ev_pow5 {i : Int} : oPow (.int i) (.int 5) = if i.natAbs < 2 ^ 64 then some (.shr (.int (i ^ 5))) else none := by
  rw [ev_pow]
  by_cases h : i.natAbs < 2 ^ 64
  · rw [if_pos h, if_pos ⟨by decide, by decide, h⟩]; rfl
  · rw [if_neg h, if_neg fun q => h q.2.2]
theorem ev_neg {i : Int} : oNeg (.int i) = some (.shr (.int (-i))) := rfl
theorem ev_lt {i j : Int} : oLt (.int i) (.int j) = some (.shr (.bl (decide (i < j)))) := rfl
theorem ev_le {i j : Int} : oLe (.int i) (.int j) = some (.shr (.bl (decide (i ≤ j)))) := rfl
theorem ev_gt {i j : Int} : oGt (.int i) (.int j) = some (.shr (.bl (decide (j < i)))) := rfl
theorem ev_ge {i j : Int} : oGe (.int i) (.int j) = some (.shr (.bl (decide (j ≤ i)))) := rfl
theorem ev_ixL {xs : List Val} {i : Int} : oIx (.lst xs) (.int i) = (atI xs i).map .shr := rfl
theorem ev_ixT {xs : List Val} {i : Int} : oIx (.tup xs) (.int i) = (atI xs i).map .shr := rfl
theorem ev_ixC {xs : List Int} {i : Int} : oIx (.scr xs) (.int i) = (atI xs i).map fun n => .shr (.int n) := rfl
theorem ev_ixS {z : List Nat} {i : Int} : oIx (.str z) (.int i) = if z.length ≤ 16000000 then (atI z i).map fun c => .shr (.str [c]) else none := rfl
theorem ev_lenS {z : List Nat} : oLen [.str z] = if z.length ≤ 16000000 then some (.shr (.int z.length)) else none := rfl
theorem ev_lenL {z : List Val} : oLen [.lst z] = some (.shr (.int z.length)) := rfl
theorem ev_lenT {z : List Val} : oLen [.tup z] = some (.shr (.int z.length)) := rfl
theorem ev_lenC {z : List Int} : oLen [.scr z] = some (.shr (.int z.length)) := rfl
theorem ev_slS {z : List Nat} {lo hi : Option Int} : oSl (.str z) lo hi = if z.length ≤ 16000000 then some (.shr (.str (cutG z lo hi))) else none := rfl
theorem ev_slL {z : List Val} {lo hi : Option Int} : oSl (.lst z) lo hi = some (.new (.lst (cutG z lo hi))) := rfl
theorem ev_slT {z : List Val} {lo hi : Option Int} : oSl (.tup z) lo hi = some (.shr (.tup (cutG z lo hi))) := rfl
theorem ev_max2 {i j : Int} : oMax [.int i, .int j] = some (.shr (.int (max i j))) := rfl
theorem ev_min2 {i j : Int} : oMin [.int i, .int j] = some (.shr (.int (min i j))) := rfl
theorem eqv_ii (i j : Int) : oEq (.int i) (.int j) = some (.shr (.bl (decide (i = j)))) := by
  unfold oEq vEq
  simp only [toD]
  rw [if_pos ⟨rfl, rfl⟩]
  show some (RV.shr (Val.bl (i == j))) = _
  rfl
theorem nev_ii (i j : Int) : oNe (.int i) (.int j) = some (.shr (.bl (!decide (i = j)))) := by
  unfold oNe vEq
  simp only [toD]
  rw [if_pos ⟨rfl, rfl⟩]
  show some (RV.shr (Val.bl (!(i == j)))) = _
  rfl
/-- a script and [] -/
theorem layInts : ∀ ns : List Int, PyData.canLayAll0 (ns.map PyData.int) = true
  | [] => rfl
  | n :: ns => by
    show (PyData.canLay0 (.int n) && PyData.canLayAll0 (ns.map PyData.int)) = true
    rw [layInts ns]; rfl
theorem depInts : ∀ ns : List Int, PyData.depthAll (ns.map PyData.int) = 0
  | [] => rfl
  | n :: ns => by
    show max (PyData.depth (.int n)) (PyData.depthAll (ns.map PyData.int)) = 0
    rw [depInts ns]; rfl
theorem shapedInts (ns : List Int) : SeqAt.shaped (.list (ns.map PyData.int)) = true := by
  unfold SeqAt.shaped
  have h1 : PyData.canLay0 (.list (ns.map PyData.int)) = true := layInts ns
  have h2 : PyData.depth (.list (ns.map PyData.int)) = 1 := by
    show PyData.depthAll (ns.map PyData.int) + 1 = 1
    rw [depInts ns]
  rw [h1, h2]; rfl
theorem ev_scr0 (ns : List Int) : oEq (.scr ns) (.lst []) = some (.shr (.bl (decide (ns = [])))) := by
  unfold oEq vEq
  show Option.map _ (if SeqAt.shaped (.list (ns.map PyData.int)) = true ∧ SeqAt.shaped (.list []) = true then some (PyData.eqv (.list (ns.map PyData.int)) (.list [])) else none) = _
  rw [if_pos ⟨shapedInts ns, rfl⟩]
  cases ns with
  | nil => rfl
  | cons n ns => simp; rfl
theorem ixN_nat {n : Nat} {i : Int} (h0 : 0 ≤ i) (h1 : i < n) : ixN n i = some i.toNat := by
  unfold ixN; rw [if_pos h0, if_pos h1]
theorem atI_in {α : Type} {xs : List α} {i : Int} (h0 : 0 ≤ i) (h1 : i < xs.length) : ∃ x, atI xs i = some x ∧ x ∈ xs ∧ xs[i.toNat]? = some x := by
  have h2 : i.toNat < xs.length := by omega
  refine ⟨xs[i.toNat], ?_, List.getElem_mem h2, List.getElem?_eq_getElem h2⟩
  unfold atI; rw [ixN_nat h0 h1]
  exact List.getElem?_eq_getElem h2
theorem atI_nat0 {α : Type} {x : α} {xs : List α} : atI (x :: xs) 0 = some x := by
  unfold atI; rw [ixN_nat (Int.le_refl 0) (by simp <;> omega)]; rfl
theorem atI_nat1 {α : Type} {x y : α} {xs : List α} : atI (x :: y :: xs) 1 = some y := by
  unfold atI; rw [ixN_nat (by decide) (by simp <;> omega)]; rfl
theorem atI_nat2 {α : Type} {x y z : α} {xs : List α} : atI (x :: y :: z :: xs) 2 = some z := by
  unfold atI; rw [ixN_nat (by decide) (by simp <;> omega)]; rfl
theorem ix20 : ixN 2 0 = some 0 := rfl
theorem ix21 : ixN 2 1 = some 1 := rfl
end Lw

end
section
set_option Elab.async false
set_option linter.all false
set_option maxRecDepth 100000
set_option maxHeartbeats 1000000
set_option autoImplicit false
/-! M: comprehensions that change nothing, loops over written lists. -/
namespace Lw
open PySem L2
theorem OX_det {α β : Type} {o : Option (α × β)} {x : α} {y : β} (h : OX o fun a b => a = x ∧ b = y) : o = some (x, y) := by
  obtain ⟨a, b, e, rfl, rfl⟩ := OX_eq h
  exact e
theorem LC_pure {t : Tgt} {cl : List Nat} {tt te : EF} {α : Type} {xs : List α} {f : α → Val} {env : Env} {P : List Val → Env → Prop} (φ : α → Option Val) (hl : xs.length ≤ 16000000)
    (hs : ∀ x, x ∈ xs → OB (tgSet t (f x) env) fun e1 => OX (tt e1) fun r e2 => ∃ b, r = .val (.shr (.bl b)) ∧ (b = true → OX (te e2) fun r e3 => ∃ o, r = .val o ∧ shO o e3 fun w e4 => φ x = some w ∧ wipe? e4 cl = some env) ∧ (b = false → φ x = none ∧ wipe? e2 cl = some env))
    (hd : P (xs.filterMap φ) env) : OX (lcL t cl tt te (xs.map f) [] env) P := by
  refine LC_inv (I := fun i acc e => acc = (xs.take i).filterMap φ ∧ e = env ∧ acc.length ≤ i) ⟨rfl, rfl, Nat.le_refl _⟩ (fun i v acc e hv hI => ?_) fun acc e hI => ?_
  · obtain ⟨rfl, rfl, hlen⟩ := hI
    rw [List.getElem?_map] at hv
    obtain ⟨x, hx, rfl⟩ := Option.map_eq_some_iff.mp hv
    have hi := (List.getElem?_eq_some_iff.mp hx).1
    have ht : xs.take (i + 1) = xs.take i ++ [x] := by rw [List.take_succ, hx]; rfl
    refine OB_mono (hs x (List.mem_of_getElem? hx)) fun e1 h1 => OX_mono h1 fun r e2 h2 => ?_
    obtain ⟨b, e3, h4, h5⟩ := h2
    refine ⟨b, e3, fun hb => OX_mono (h4 hb) fun r e3 h6 => ?_, fun hb => ?_⟩
    · obtain ⟨o, e4, h6⟩ := h6
      refine ⟨o, e4, ?_⟩
      have key : ∀ (w : Val) (e4 : Env), (φ x = some w ∧ wipe? e4 cl = some e) → (((xs.take i).filterMap φ).length < 16000000 ∧ OB (wipe? e4 cl) fun e5 => (xs.take i).filterMap φ ++ [w] = (xs.take (i + 1)).filterMap φ ∧ e5 = e ∧ ((xs.take i).filterMap φ ++ [w]).length ≤ i + 1) := fun w e4 ⟨k1, k2⟩ => by
        refine ⟨by omega, ?_⟩
        rw [k2, OB_some, ht, List.filterMap_append]
        refine ⟨by simp [k1], rfl, by rw [List.length_append]; exact Nat.succ_le_succ hlen⟩
      unfold shO at h6 ⊢
      cases o with
      | shr v => exact key _ _ h6
      | new v => exact key _ _ h6
      | var j =>
        dsimp only at h6 ⊢
        cases h7 : e3[j]? with
        | none => rw [h7] at h6; exact h6.elim
        | some s =>
          rw [h7] at h6
          cases s with
          | own v => exact key _ _ h6
          | _ => exact h6.elim
    · obtain ⟨k1, k2⟩ := h5 hb
      rw [k2, OB_some, ht, List.filterMap_append]
      exact ⟨by simp [k1], rfl, by omega⟩
  · obtain ⟨rfl, rfl, _⟩ := hI
    rw [List.length_map, List.take_length]
    exact hd
theorem inS (c : Nat) (z : List Nat) : oIn (.str [c]) (.str z) = some (.shr (.bl (decide (c ∈ z)))) := rfl
theorem notInS (c : Nat) (z : List Nat) : oNotIn (.str [c]) (.str z) = some (.shr (.bl (!decide (c ∈ z)))) := rfl
theorem strs_map : ∀ ls : List (List Nat), strs? (ls.map Val.str) = some ls
  | [] => rfl
  | l :: ls => by show (strs? (ls.map Val.str)).map (l :: ·) = _; rw [strs_map ls]; rfl
theorem ints_map : ∀ ls : List Int, ints? (ls.map Val.int) = some ls
  | [] => rfl
  | l :: ls => by show (ints? (ls.map Val.int)).map (l :: ·) = _; rw [ints_map ls]; rfl
theorem bls_map : ∀ ls : List Bool, bls? (ls.map Val.bl) = some ls
  | [] => rfl
  | l :: ls => by show (bls? (ls.map Val.bl)).map (l :: ·) = _; rw [bls_map ls]; rfl
theorem join0 : ∀ cs : List Nat, TL.joinL [] (cs.map fun c => [c]) = cs
  | [] => rfl
  | [c] => rfl
  | c :: d :: cs => by
    show [c] ++ ([] ++ TL.joinL [] ((d :: cs).map fun c => [c])) = _
    rw [join0 (d :: cs)]; rfl
theorem sum1 : ∀ cs : List Nat, ((cs.map fun c => [c]).map List.length).sum = cs.length
  | [] => rfl
  | c :: cs => by rw [List.map_cons, List.map_cons, List.sum_cons, sum1 cs, List.length_cons]; simp; omega
/-- "".join of signs -/
theorem joinS (cs : List Nat) (h : cs.length ≤ 16000000) : oJoin (.str []) [.lst (cs.map fun c => Val.str [c])] = some (.shr (.str cs)) := by
  show (match strs? (cs.map fun c => Val.str [c]) with
    | some ls => if (ls.map List.length).sum + ls.length * ([] : List Nat).length ≤ 16000000 then some (RV.shr (.str (TL.joinL [] ls))) else none
    | none => none) = _
  have e : (cs.map fun c => Val.str [c]) = (cs.map fun c => [c]).map Val.str := by rw [List.map_map]; rfl
  rw [e, strs_map]
  dsimp only
  rw [sum1, join0, if_pos (by simp; omega)]
theorem filt {α β : Type} (xs : List α) (p : α → Bool) (f : α → β) : xs.filterMap (fun x => if p x = true then some (f x) else none) = (xs.filter p).map f := by
  induction xs with
  | nil => rfl
  | cons x xs ih =>
    by_cases h : p x = true
    · rw [List.filterMap_cons, if_pos h, List.filter_cons_of_pos h, List.map_cons, ih]
    · rw [List.filterMap_cons, if_neg h, List.filter_cons_of_neg h, ih]
theorem itS (z : List Nat) : itemsA (.str z) = some (z.map fun c => .str [c]) := rfl
theorem itL (z : List Val) : itemsA (.lst z) = some z := rfl
theorem itT (z : List Val) : itemsA (.tup z) = some z := rfl
theorem wipeOk {env : Env} {cl : List Nat} (h : (cl.all fun j => plainAt env j) = true) : wipe? env cl = some (wipeE env cl) := if_pos h
end Lw

end
local macro_rules | `(tactic| simp_arith [$ts,*]) => `(tactic| simp -implicitDefEqProofs only [Lw.SX_seq, Lw.SX_if, Lw.SX_asg, Lw.SX_ret, Lw.SX_retN, Lw.SX_setL, Lw.SX_augL, Lw.SX_nil, Lw.SX_expr, Lw.SX_par, Lw.SX_unp, Lw.SX_raise, Lw.SX_brk, Lw.SX_ct, Lw.SX_for, Lw.EX_bin, Lw.EX_un, Lw.EX_var, Lw.EX_c, Lw.EX_and, Lw.EX_or, Lw.EX_not, Lw.EX_if, Lw.EX_lst, Lw.EX_tup, Lw.EX_callB, Lw.EX_call, Lw.EX_meth, Lw.EX_mut, Lw.EX_extend, Lw.EX_sl, Lw.EX_chain, Lw.EX_esh, Lw.EX_eun, Lw.EX_tru, Lw.IX_any, Lw.IX_range1, Lw.IX_range2, Lw.IX_zip, Lw.IX_enum, Lw.xArgs_nil, Lw.xArgs_cons, Lw.xP_none, Lw.xP_some, Lw.iO_int, List.map_nil, List.map_cons, Lw.rE_val, Lw.rS_val, Lw.rI_val, Lw.rF_items, Lw.rE_exc, Lw.rS_exc, Lw.rI_exc, Lw.rF_exc, Lw.nxS_nx, Lw.nxS_ret, Lw.nxS_exc, Lw.nxS_brk, Lw.nxS_ct, Lw.lpS_nx, Lw.lpS_ct, Lw.lpS_brk, Lw.lpS_ret, Lw.lpS_exc, Lw.OX_some, Lw.OB_some, Lw.OB_map, Lw.OB_ite, Lw.ifO_bl, Lw.notO_bl, Lw.ifR_bl, Lw.get_shr, Lw.get_new, Lw.get_var, Lw.opd_shr, Lw.opd_new, Lw.own_zero, Lw.own_succ, Lw.ow_own, Lw.ow_io, Lw.upd_own, Lw.upd_io, Lw.upd_succ, Lw.so_shr, Lw.so_own, Lw.so_io, Lw.unO_shr, Lw.unO_new, Lw.unO_var, Lw.shO_shr, Lw.shO_new, Lw.shO_var', Lw.frz_own, Lw.setOk_un, Lw.setOk_shr, Lw.setOk_own, Lw.set_shr, Lw.set_new, Lw.xOwn_own, Lw.ret_shr, Lw.ret_new, Lw.ret_var, Lw.shrs_nil, Lw.shrs_cons, Option.map_some, Lw.gets_nil, Lw.gets_cons, Lw.split_nil, Lw.split_shr, Lw.split_var, Lw.sets_nil, Lw.sets_cons, Lw.tg_one, Lw.tg_many, Lw.callS_none, Lw.callS_some, Lw.xIo_some, Lw.xLst_some, Lw.xInt_some, Lw.oE_ret, Lw.oE_exc, Lw.two?, Lw.one?, List.cons_append, List.nil_append, List.replicate, List.getElem?_cons_zero, List.getElem?_cons_succ, List.set_cons_zero, List.set_cons_succ, List.length_cons, List.length_nil, Nat.zero_add, Nat.reduceAdd, Nat.reduceSub, Nat.reduceLeDiff, true_and, if_true, ite_true, Lw.ev_add, Lw.ev_sub, Lw.ev_fdiv, Lw.ev_mod, Lw.ev_pow18, Lw.ev_pow60, Lw.ev_pow5, Lw.ev_mul60, Lw.ev_mulA, Lw.ev_mulB, Lw.ev_neg, Lw.ev_lt, Lw.ev_le, Lw.ev_gt, Lw.ev_ge, Lw.ev_ixL, Lw.ev_ixT, Lw.ev_ixC, Lw.ev_ixS, Lw.ev_lenS, Lw.ev_lenL, Lw.ev_lenT, Lw.ev_lenC, Lw.ev_addS, Lw.ev_addL, Lw.ev_addT, Lw.ev_mulL, Lw.ev_max2, Lw.ev_min2, Lw.ev_slS, Lw.ev_slL, Lw.ev_slT, Lw.eqv_ii, Lw.nev_ii, Int.zero_add, Lw.ev_scr0, Lw.atI_nat0, Lw.atI_nat1, Lw.atI_nat2, Lw.ix20, Lw.ix21, Int.reduceLT, Int.reduceLE, Bool.false_eq_true, Bool.true_eq_false, false_implies, true_implies, implies_true, and_true, Lw.fnR_nx, Lw.fnR_ret, Lw.fnR_exc, Lw.ioOut, decide_eq_true_eq, decide_eq_false_iff_not, $ts,*])
section
set_option Elab.async false
set_option linter.all false
set_option maxRecDepth 100000
set_option maxHeartbeats 0
namespace G
open PySem PySem.Spec PyProof.Rows L2 Lw
def top (i : Nat) : Stmt := PySem.Challenge.pw_hyphenpatterns_k11_whole_formats.main.body.getD i (.Pass ⟨0, 0, 0, 0⟩)
abbrev s_is_count : Stmt := top 16
def d_is_count : He.DefD := ⟨("is_count", none), "is_count", "is_count", defArgs s_is_count, defBody s_is_count, defScope s_is_count, [], []⟩
abbrev s_chars_of : Stmt := top 17
def d_chars_of : He.DefD := ⟨("chars_of", none), "chars_of", "chars_of", defArgs s_chars_of, defBody s_chars_of, defScope s_chars_of, [], []⟩
abbrev s_is_pattern : Stmt := top 18
def d_is_pattern : He.DefD := ⟨("is_pattern", none), "is_pattern", "is_pattern", defArgs s_is_pattern, defBody s_is_pattern, defScope s_is_pattern, [], []⟩
abbrev s_is_rules : Stmt := top 19
def d_is_rules : He.DefD := ⟨("is_rules", none), "is_rules", "is_rules", defArgs s_is_rules, defBody s_is_rules, defScope s_is_rules, [], []⟩
abbrev s_need_rules : Stmt := top 20
def d_need_rules : He.DefD := ⟨("need_rules", none), "need_rules", "need_rules", defArgs s_need_rules, defBody s_need_rules, defScope s_need_rules, [], []⟩
abbrev s_formatted : Stmt := top 22
def d_formatted : He.DefD := ⟨("formatted", none), "formatted", "formatted", defArgs s_formatted, defBody s_formatted, defScope s_formatted, [], []⟩
abbrev s_format_rules : Stmt := top 23
def d_format_rules : He.DefD := ⟨("format_rules", none), "format_rules", "format_rules", defArgs s_format_rules, defBody s_format_rules, defScope s_format_rules, [], []⟩
abbrev s_parse_rules : Stmt := top 24
def d_parse_rules : He.DefD := ⟨("parse_rules", none), "parse_rules", "parse_rules", defArgs s_parse_rules, defBody s_parse_rules, defScope s_parse_rules, [], []⟩
abbrev s__law_draw : Stmt := top 26
def d__law_draw : He.DefD := ⟨("_law_draw", none), "_law_draw", "_law_draw", defArgs s__law_draw, defBody s__law_draw, defScope s__law_draw, [], []⟩
abbrev s__law_pick : Stmt := top 27
def d__law_pick : He.DefD := ⟨("_law_pick", none), "_law_pick", "_law_pick", defArgs s__law_pick, defBody s__law_pick, defScope s__law_pick, [], []⟩
abbrev s__law_pattern : Stmt := top 28
def d__law_pattern : He.DefD := ⟨("_law_pattern", none), "_law_pattern", "_law_pattern", defArgs s__law_pattern, defBody s__law_pattern, defScope s__law_pattern, [], []⟩
abbrev s__law_bare : Stmt := top 29
def d__law_bare : He.DefD := ⟨("_law_bare", none), "_law_bare", "_law_bare", defArgs s__law_bare, defBody s__law_bare, defScope s__law_bare, [], []⟩
abbrev s__law_rules : Stmt := top 30
def d__law_rules : He.DefD := ⟨("_law_rules", none), "_law_rules", "_law_rules", defArgs s__law_rules, defBody s__law_rules, defScope s__law_rules, [], []⟩
abbrev s__law_which : Stmt := top 31
def d__law_which : He.DefD := ⟨("_law_which", none), "_law_which", "_law_which", defArgs s__law_which, defBody s__law_which, defScope s__law_which, [], []⟩
abbrev s__law_text : Stmt := top 32
def d__law_text : He.DefD := ⟨("_law_text", none), "_law_text", "_law_text", defArgs s__law_text, defBody s__law_text, defScope s__law_text, [], []⟩
abbrev s__law_ask : Stmt := top 33
def d__law_ask : He.DefD := ⟨("_law_ask", none), "_law_ask", "_law_ask", defArgs s__law_ask, defBody s__law_ask, defScope s__law_ask, [], []⟩
abbrev s_law : Stmt := top 34
def d_law : He.DefD := ⟨("law", none), "law", "law", defArgs s_law, defBody s_law, defScope s_law, [], []⟩
def fn : List He.DefD := [d_is_count, d_chars_of, d_is_pattern, d_is_rules, d_need_rules, d_formatted, d_format_rules, d_parse_rules, d__law_draw, d__law_pick, d__law_pattern, d__law_bare, d__law_rules, d__law_which, d__law_text, d__law_ask, d_law]
def fa1 : List He.Fa := [.glo "HyphenError", .exc "HyphenError", .glo "InvalidRules", .exc "InvalidRules", .glo "InvalidWord", .exc "InvalidWord", .glo "InvalidContext", .exc "InvalidContext", .glo "InvalidLetters", .exc "InvalidLetters", .glo "InvalidSize", .exc "InvalidSize", .glo "InvalidTold", .exc "InvalidTold", .glo "InvalidText", .exc "InvalidText", .glo "NotThere", .exc "NotThere", .glo "InvalidFormat", .exc "InvalidFormat", .str "LETTERS" "abcdefghijklmnopqrstuvwxyz", .str "DIGITS" "123456789", .int "PATTERNS" 6, .int "LONGEST" 4, .glo "is_count", .glo "chars_of", .glo "is_pattern", .glo "is_rules", .glo "need_rules", .glo "formatted", .glo "format_rules", .glo "parse_rules", .glo "_law_draw", .glo "_law_pick", .glo "_law_pattern", .glo "_law_bare", .glo "_law_rules", .glo "_law_which", .glo "_law_text", .glo "_law_ask"]
def fa2 : List He.Fa := [.glo "law", .free "ValueError", .free "all", .free "any", .free "bool", .free "int", .free "isinstance", .free "len", .free "range", .free "set", .free "str", .free "tuple", .free "zip"]
def fa : List He.Fa := fa1 ++ fa2
abbrev CS : List Str := ["InvalidRules", "InvalidWord", "InvalidContext", "InvalidLetters", "InvalidSize", "InvalidTold", "InvalidText", "NotThere", "InvalidFormat"]
abbrev FnP (K : PySem.W.Frag) (x : Str) (st : Stmt) (f : Addr) (fd : FuncData) : Prop := FunD K x x (defArgs st) (defBody st) (defScope st) [] [] f fd
structure Facts (K : PySem.W.Frag) (mg : Str → Option Value) : Prop where
  c : He.SaysD fa fn K
  g : ∀ (i : Nat) (x : Str), fa[i]? = some (.glo x) → mg x = some (.ref (He.ga K x))
  f : ∀ (i : Nat) (x : Str), fa[i]? = some (.free x) → mg x = none
  i : ∀ (i : Nat) (x : Str) (n : Int), fa[i]? = some (.int x n) → ∃ t, mg x = some (.int n t)
  s : ∀ (i : Nat) (x z : Str), fa[i]? = some (.str x z) → ∃ t, mg x = some (.str z t)
  e : excB CS "HyphenError" K = true
theorem Facts.of {K : PySem.W.Frag} {mg : Str → Option Value} {h : Heap} (X : K.In h) (G : h.Ns mainGlobals mg) (c : He.SaysD fa fn K) (e : excB CS "HyphenError" K = true) : Facts K mg :=
  ⟨c, fun i x e => He.glo_ok X G (c.fact i e), fun i x e => He.free_ok X G (c.fact i e), fun i x n e => He.int_ok X G (c.fact i e), fun i x z e => He.str_ok X G (c.fact i e), e⟩
section
variable {K : PySem.W.Frag} {mg : Str → Option Value}
theorem m_HyphenError (Z : Facts K mg) : mg "HyphenError" = some (.ref (He.ga K "HyphenError")) := Z.g 0 _ rfl
theorem x_HyphenError (Z : Facts K mg) : (He.Fa.exc "HyphenError").ok K = true := Z.c.fact 1 rfl
theorem m_InvalidRules (Z : Facts K mg) : mg "InvalidRules" = some (.ref (He.ga K "InvalidRules")) := Z.g 2 _ rfl
theorem x_InvalidRules (Z : Facts K mg) : (He.Fa.exc "InvalidRules").ok K = true := Z.c.fact 3 rfl
theorem m_InvalidWord (Z : Facts K mg) : mg "InvalidWord" = some (.ref (He.ga K "InvalidWord")) := Z.g 4 _ rfl
theorem x_InvalidWord (Z : Facts K mg) : (He.Fa.exc "InvalidWord").ok K = true := Z.c.fact 5 rfl
theorem m_InvalidContext (Z : Facts K mg) : mg "InvalidContext" = some (.ref (He.ga K "InvalidContext")) := Z.g 6 _ rfl
theorem x_InvalidContext (Z : Facts K mg) : (He.Fa.exc "InvalidContext").ok K = true := Z.c.fact 7 rfl
theorem m_InvalidLetters (Z : Facts K mg) : mg "InvalidLetters" = some (.ref (He.ga K "InvalidLetters")) := Z.g 8 _ rfl
theorem x_InvalidLetters (Z : Facts K mg) : (He.Fa.exc "InvalidLetters").ok K = true := Z.c.fact 9 rfl
theorem m_InvalidSize (Z : Facts K mg) : mg "InvalidSize" = some (.ref (He.ga K "InvalidSize")) := Z.g 10 _ rfl
theorem x_InvalidSize (Z : Facts K mg) : (He.Fa.exc "InvalidSize").ok K = true := Z.c.fact 11 rfl
theorem m_InvalidTold (Z : Facts K mg) : mg "InvalidTold" = some (.ref (He.ga K "InvalidTold")) := Z.g 12 _ rfl
theorem x_InvalidTold (Z : Facts K mg) : (He.Fa.exc "InvalidTold").ok K = true := Z.c.fact 13 rfl
theorem m_InvalidText (Z : Facts K mg) : mg "InvalidText" = some (.ref (He.ga K "InvalidText")) := Z.g 14 _ rfl
theorem x_InvalidText (Z : Facts K mg) : (He.Fa.exc "InvalidText").ok K = true := Z.c.fact 15 rfl
theorem m_NotThere (Z : Facts K mg) : mg "NotThere" = some (.ref (He.ga K "NotThere")) := Z.g 16 _ rfl
theorem x_NotThere (Z : Facts K mg) : (He.Fa.exc "NotThere").ok K = true := Z.c.fact 17 rfl
theorem m_InvalidFormat (Z : Facts K mg) : mg "InvalidFormat" = some (.ref (He.ga K "InvalidFormat")) := Z.g 18 _ rfl
theorem x_InvalidFormat (Z : Facts K mg) : (He.Fa.exc "InvalidFormat").ok K = true := Z.c.fact 19 rfl
theorem m_LETTERS (Z : Facts K mg) : ∃ t, mg "LETTERS" = some (.str "abcdefghijklmnopqrstuvwxyz" t) := Z.s 20 _ _ rfl
theorem m_DIGITS (Z : Facts K mg) : ∃ t, mg "DIGITS" = some (.str "123456789" t) := Z.s 21 _ _ rfl
theorem m_PATTERNS (Z : Facts K mg) : ∃ t, mg "PATTERNS" = some (.int 6 t) := Z.i 22 _ _ rfl
theorem m_LONGEST (Z : Facts K mg) : ∃ t, mg "LONGEST" = some (.int 4 t) := Z.i 23 _ _ rfl
theorem m_is_count (Z : Facts K mg) : mg "is_count" = some (.ref (He.ga K "is_count")) := Z.g 24 _ rfl
theorem m_chars_of (Z : Facts K mg) : mg "chars_of" = some (.ref (He.ga K "chars_of")) := Z.g 25 _ rfl
theorem m_is_pattern (Z : Facts K mg) : mg "is_pattern" = some (.ref (He.ga K "is_pattern")) := Z.g 26 _ rfl
theorem m_is_rules (Z : Facts K mg) : mg "is_rules" = some (.ref (He.ga K "is_rules")) := Z.g 27 _ rfl
theorem m_need_rules (Z : Facts K mg) : mg "need_rules" = some (.ref (He.ga K "need_rules")) := Z.g 28 _ rfl
theorem m_formatted (Z : Facts K mg) : mg "formatted" = some (.ref (He.ga K "formatted")) := Z.g 29 _ rfl
theorem m_format_rules (Z : Facts K mg) : mg "format_rules" = some (.ref (He.ga K "format_rules")) := Z.g 30 _ rfl
theorem m_parse_rules (Z : Facts K mg) : mg "parse_rules" = some (.ref (He.ga K "parse_rules")) := Z.g 31 _ rfl
theorem m__law_draw (Z : Facts K mg) : mg "_law_draw" = some (.ref (He.ga K "_law_draw")) := Z.g 32 _ rfl
theorem m__law_pick (Z : Facts K mg) : mg "_law_pick" = some (.ref (He.ga K "_law_pick")) := Z.g 33 _ rfl
theorem m__law_pattern (Z : Facts K mg) : mg "_law_pattern" = some (.ref (He.ga K "_law_pattern")) := Z.g 34 _ rfl
theorem m__law_bare (Z : Facts K mg) : mg "_law_bare" = some (.ref (He.ga K "_law_bare")) := Z.g 35 _ rfl
theorem m__law_rules (Z : Facts K mg) : mg "_law_rules" = some (.ref (He.ga K "_law_rules")) := Z.g 36 _ rfl
theorem m__law_which (Z : Facts K mg) : mg "_law_which" = some (.ref (He.ga K "_law_which")) := Z.g 37 _ rfl
theorem m__law_text (Z : Facts K mg) : mg "_law_text" = some (.ref (He.ga K "_law_text")) := Z.g 38 _ rfl
theorem m__law_ask (Z : Facts K mg) : mg "_law_ask" = some (.ref (He.ga K "_law_ask")) := Z.g 39 _ rfl
theorem m_law (Z : Facts K mg) : mg "law" = some (.ref (He.ga K "law")) := Z.g 40 _ rfl
theorem m_ValueError (Z : Facts K mg) : mg "ValueError" = none := Z.f 41 _ rfl
theorem m_all (Z : Facts K mg) : mg "all" = none := Z.f 42 _ rfl
theorem m_any (Z : Facts K mg) : mg "any" = none := Z.f 43 _ rfl
theorem m_bool (Z : Facts K mg) : mg "bool" = none := Z.f 44 _ rfl
theorem m_int (Z : Facts K mg) : mg "int" = none := Z.f 45 _ rfl
theorem m_isinstance (Z : Facts K mg) : mg "isinstance" = none := Z.f 46 _ rfl
theorem m_len (Z : Facts K mg) : mg "len" = none := Z.f 47 _ rfl
theorem m_range (Z : Facts K mg) : mg "range" = none := Z.f 48 _ rfl
theorem m_set (Z : Facts K mg) : mg "set" = none := Z.f 49 _ rfl
theorem m_str (Z : Facts K mg) : mg "str" = none := Z.f 50 _ rfl
theorem m_tuple (Z : Facts K mg) : mg "tuple" = none := Z.f 51 _ rfl
theorem m_zip (Z : Facts K mg) : mg "zip" = none := Z.f 52 _ rfl
end
/-! ### _law_draw -/
def g__law_draw : SF := sSeq (sIfS (sBin oGt (sBin oIx (sVar 1) (sC (.int 1))) (sC (.int 0))) (sSeq (sAsg 3 (sBin oMod (sBin oIx (sVar 1) (sC (.int 1))) (sVar 2))) (sSeq (sSetL 1 (sC (.int 1)) (sBin oFdiv (sBin oIx (sVar 1) (sC (.int 1))) (sVar 2))) (sRet (sVar 3)))) (sNil)) (sSeq (sAsg 4 (sBin oIx (sVar 1) (sC (.int 0)))) (sSeq (sAugL 1 (fun a b => a + b) (sC (.int 0)) (sC (.int 1))) (sSeq (sIfS (sBin oEq (sVar 0) (sLst [])) (sRet (sBin oMod (sVar 4) (sVar 2))) (sNil)) (sSeq (sIfS (sAnd (sBin oLt (sVar 4) (sCallB oLen [sVar 0])) (sBin oGe (sBin oIx (sVar 0) (sVar 4)) (sBin oPow (sC (.int 10)) (sC (.int 18))))) (sSeq (sSetL 1 (sC (.int 1)) (sBin oMod (sBin oFdiv (sBin oIx (sVar 0) (sVar 4)) (sVar 2)) (sBin oMul (sBin oPow (sC (.int 10)) (sC (.int 60))) (sBin oPow (sC (.int 10)) (sC (.int 60)))))) (sRet (sBin oMod (sBin oIx (sVar 0) (sVar 4)) (sVar 2)))) (sNil)) (sSeq (sAsg 5 (sBin oMod (sBin oAdd (sBin oAdd (sBin oMul (sBin oIx (sVar 0) (sBin oMod (sVar 4) (sCallB oLen [sVar 0]))) (sC (.int 1103515245))) (sBin oMul (sC (.int 7919)) (sVar 4))) (sC (.int 12345))) (sC (.int 2147483647)))) (sRet (sBin oMod (sBin oMod (sBin oMod (sBin oPow (sVar 5) (sC (.int 5))) (sC (.int 2147483647))) (sC (.int 999983))) (sVar 2))))))))
def fn__law_draw : Fn := runF 3 6 g__law_draw
theorem sc__law_draw : FnScope ["_law_script", "_law_town", "_law_many", "_law_one", "_law_at", "_law_mixed"] ["_law_script", "_law_town", "_law_many"] (defScope s__law_draw) := ⟨rfl, rfl, rfl, by decide +kernel, rfl, by decide +kernel, by decide +kernel⟩
theorem ok__law_draw {P : Program} {w : World} {K : PySem.W.Frag} {mg : Str → Option Value} {base : Heap} (Z : Facts K mg) {fd : FuncData} (F : FnP K "_law_draw" s__law_draw (He.ga K "_law_draw") fd) : FnOk P w K mg base (L2.CX P w) 1 (He.ga K "_law_draw") fd ["_law_script", "_law_town", "_law_many"] (spF ⟨P, w, K⟩ 3 fn__law_draw) := by
  have nd := sc__law_draw.nd
  exact fn_ok F sc__law_draw fun cdv A outer s H E hr => (sss_cons (ss_if (st_cmp ho_gt os_gt (se_ix ho_ix os_ix (se_var (pv 1)) se_int (fun _ _ => rfl)) se_int (nomark _)) (sss_cons (ss_asg (i := 3) nd rfl (by first | exact .inl rfl | exact .inr rfl) (se_bin ho_mod os_mod (se_ix ho_ix os_ix (se_var (pv 1)) se_int (fun _ _ => rfl)) (se_var (pv 2)))) (sss_cons (ss_setL (pv 1) se_int (se_bin ho_fdiv os_fdiv (se_ix ho_ix os_ix (se_var (pv 1)) se_int (fun _ _ => rfl)) (se_var (pv 2)))) (sss_one (ss_ret (se_var (pv 3)))))) sss_nil) (sss_cons (ss_asg (i := 4) nd rfl (by first | exact .inl rfl | exact .inr rfl) (se_ix ho_ix os_ix (se_var (pv 1)) se_int (fun _ _ => rfl))) (sss_cons (ss_augL (pv 1) se_int se_int ip_add) (sss_cons (ss_if (st_cmp (ho_eq (u64 hr)) os_eq (se_var (pv 0)) (se_lst sa_nil) (nomark _)) (sss_one (ss_ret (se_bin ho_mod os_mod (se_var (pv 4)) (se_var (pv 2))))) sss_nil) (sss_cons (ss_if (st_w (sw_and (st_cmp ho_lt os_lt (se_var (pv 4)) (se_callB call_len os_len rfl (m_len Z) b_len (sa_cons (se_var (pv 0)) sa_nil)) (nomark _)) (sw_one (st_cmp ho_ge os_ge (se_ix ho_ix os_ix (se_var (pv 0)) (se_var (pv 4)) (fun _ _ => rfl)) (se_bin ho_pow os_pow se_int se_int) (nomark _))))) (sss_cons (ss_setL (pv 1) se_int (se_bin ho_mod os_mod (se_bin ho_fdiv os_fdiv (se_ix ho_ix os_ix (se_var (pv 0)) (se_var (pv 4)) (fun _ _ => rfl)) (se_var (pv 2))) (se_bin ho_mul os_mul (se_bin ho_pow os_pow se_int se_int) (se_bin ho_pow os_pow se_int se_int)))) (sss_one (ss_ret (se_bin ho_mod os_mod (se_ix ho_ix os_ix (se_var (pv 0)) (se_var (pv 4)) (fun _ _ => rfl)) (se_var (pv 2)))))) sss_nil) (sss_cons (ss_asg (i := 5) nd rfl (by first | exact .inl rfl | exact .inr rfl) (se_bin ho_mod os_mod (se_bin ho_add os_add (se_bin ho_add os_add (se_bin ho_mul os_mul (se_ix ho_ix os_ix (se_var (pv 0)) (se_bin ho_mod os_mod (se_var (pv 4)) (se_callB call_len os_len rfl (m_len Z) b_len (sa_cons (se_var (pv 0)) sa_nil))) (fun _ _ => rfl)) se_int) (se_bin ho_mul os_mul se_int (se_var (pv 4)))) se_int) se_int)) (sss_one (ss_ret (se_bin ho_mod os_mod (se_bin ho_mod os_mod (se_bin ho_mod os_mod (se_bin ho_pow os_pow (se_var (pv 5)) se_int) se_int) se_int) (se_var (pv 2)))))))))))
/-! ### _law_pick -/
def g__law_pick : SF := sRet (sBin oIx (sVar 2) (sCall fn__law_draw [esh (sVar 0), sVar 1, esh (sCallB oLen [sVar 2])]))
def fn__law_pick : Fn := runF 3 3 g__law_pick
theorem sc__law_pick : FnScope ["_law_script", "_law_town", "_law_some"] ["_law_script", "_law_town", "_law_some"] (defScope s__law_pick) := ⟨rfl, rfl, rfl, by decide +kernel, rfl, by decide +kernel, by decide +kernel⟩
theorem ok__law_pick {P : Program} {w : World} {K : PySem.W.Frag} {mg : Str → Option Value} {base : Heap} (Z : Facts K mg) {fd : FuncData} (F : FnP K "_law_pick" s__law_pick (He.ga K "_law_pick") fd) : FnOk P w K mg base (L2.CX P w) 2 (He.ga K "_law_pick") fd ["_law_script", "_law_town", "_law_some"] (spF ⟨P, w, K⟩ 3 fn__law_pick) := by
  obtain ⟨fd__law_draw, F__law_draw⟩ := Z.c.def_ 8 (d := d__law_draw) rfl
  have F__law_draw : FnP K "_law_draw" s__law_draw (He.ga K "_law_draw") fd__law_draw := F__law_draw
  have ok__law_draw' : FnOk P w K mg base (L2.CX P w) 1 (He.ga K "_law_draw") fd__law_draw ["_law_script", "_law_town", "_law_many"] (spF ⟨P, w, K⟩ 3 fn__law_draw) := ok__law_draw Z F__law_draw
  have b__law_draw : Binds K fd__law_draw ["_law_script", "_law_town", "_law_many"] [] := F__law_draw.bindsN fun _ _ _ _ _ _ us hl => match us, hl with | [_, _, _], _ => rfl
  have nd := sc__law_pick.nd
  exact fn_ok F sc__law_pick fun cdv A outer s H E hr => (sss_one (ss_ret (se_ix ho_ix os_ix (se_var (pv 2)) (se_call ok__law_draw' runF_len (hr.mono (by decide)) rfl (m__law_draw Z) F__law_draw.kp b__law_draw (takes_of rfl rfl rfl rfl) (sa_cons (se_esh (se_var (pv 0))) (sa_cons (se_var (pv 1)) (sa_cons (se_esh (se_callB call_len os_len rfl (m_len Z) b_len (sa_cons (se_var (pv 2)) sa_nil))) sa_nil)))) (fun _ _ => rfl))))
/-! ### _law_pattern -/
def g__law_pattern : SF := sSeq (sPar [3, 4] [sC (.str []), sCall fn__law_pick [esh (sVar 0), sVar 1, esh (sLst [sC (.int 1), sC (.int 1), sC (.int 2), sC (.int 2), sC (.int 3), sC (.int 4)])]]) (sSeq (sFor (.one 5) (sRange1 (sBin oAdd (sVar 4) (sC (.int 1)))) (sSeq (sIfS (sOr (sBin oEq (sVar 5) (sCall fn__law_draw [esh (sVar 0), sVar 1, esh (sC (.int 5))])) (sAnd (sBin oEq (sVar 5) (sVar 4)) (sNot (sCallB oAny [sLC (.one 7) [7] (sAny (sVar 3)) (sYes) (sBin oIn (sVar 7) (sC (.str [49, 50, 51, 52, 53, 54, 55, 56, 57])))])))) (sAsg 3 (sBin oAdd (sVar 3) (sCall fn__law_pick [esh (sVar 0), sVar 1, esh (sC (.str [49, 50, 49, 50, 51, 52, 53]))]))) (sNil)) (sIfS (sBin oLt (sVar 5) (sVar 4)) (sAsg 3 (sBin oAdd (sVar 3) (sCall fn__law_pick [esh (sVar 0), sVar 1, esh (sVar 2)]))) (sNil)))) (sSeq (sAsg 6 (sCall fn__law_draw [esh (sVar 0), sVar 1, esh (sC (.int 8))])) (sRet (sBin oAdd (sBin oAdd (sIf (sBin oIn (sVar 6) (sTup [sC (.int 0), sC (.int 2)])) (sC (.str [46])) (sC (.str []))) (sVar 3)) (sIf (sBin oIn (sVar 6) (sTup [sC (.int 1), sC (.int 2)])) (sC (.str [46])) (sC (.str [])))))))
def fn__law_pattern : Fn := runF 3 8 g__law_pattern
theorem sc__law_pattern : FnScope ["_law_script", "_law_town", "_law_letters", "_law_text_here", "_law_many", "_law_at", "_law_where", "_law_char"] ["_law_script", "_law_town", "_law_letters"] (defScope s__law_pattern) := ⟨rfl, rfl, rfl, by decide +kernel, rfl, by decide +kernel, by decide +kernel⟩
theorem ok__law_pattern {P : Program} {w : World} {K : PySem.W.Frag} {mg : Str → Option Value} {base : Heap} (Z : Facts K mg) {fd : FuncData} (F : FnP K "_law_pattern" s__law_pattern (He.ga K "_law_pattern") fd) : FnOk P w K mg base (L2.CX P w) 3 (He.ga K "_law_pattern") fd ["_law_script", "_law_town", "_law_letters"] (spF ⟨P, w, K⟩ 3 fn__law_pattern) := by
  obtain ⟨fd__law_pick, F__law_pick⟩ := Z.c.def_ 9 (d := d__law_pick) rfl
  have F__law_pick : FnP K "_law_pick" s__law_pick (He.ga K "_law_pick") fd__law_pick := F__law_pick
  have ok__law_pick' : FnOk P w K mg base (L2.CX P w) 2 (He.ga K "_law_pick") fd__law_pick ["_law_script", "_law_town", "_law_some"] (spF ⟨P, w, K⟩ 3 fn__law_pick) := ok__law_pick Z F__law_pick
  have b__law_pick : Binds K fd__law_pick ["_law_script", "_law_town", "_law_some"] [] := F__law_pick.bindsN fun _ _ _ _ _ _ us hl => match us, hl with | [_, _, _], _ => rfl
  obtain ⟨fd__law_draw, F__law_draw⟩ := Z.c.def_ 8 (d := d__law_draw) rfl
  have F__law_draw : FnP K "_law_draw" s__law_draw (He.ga K "_law_draw") fd__law_draw := F__law_draw
  have ok__law_draw' : FnOk P w K mg base (L2.CX P w) 1 (He.ga K "_law_draw") fd__law_draw ["_law_script", "_law_town", "_law_many"] (spF ⟨P, w, K⟩ 3 fn__law_draw) := ok__law_draw Z F__law_draw
  have b__law_draw : Binds K fd__law_draw ["_law_script", "_law_town", "_law_many"] [] := F__law_draw.bindsN fun _ _ _ _ _ _ us hl => match us, hl with | [_, _, _], _ => rfl
  have nd := sc__law_pattern.nd
  exact fn_ok F sc__law_pattern fun cdv A outer s H E hr => (sss_cons (ss_par2 rfl nd rfl rfl (by decide) rfl rfl (sa_cons (se_eun (se_str (by decide +kernel))) (sa_cons (se_eun (se_call ok__law_pick' runF_len (hr.mono (by decide)) rfl (m__law_pick Z) F__law_pick.kp b__law_pick (takes_of rfl rfl rfl rfl) (sa_cons (se_esh (se_var (pv 0))) (sa_cons (se_var (pv 1)) (sa_cons (se_esh (se_lst (sa_cons (se_esh se_int) (sa_cons (se_esh se_int) (sa_cons (se_esh se_int) (sa_cons (se_esh se_int) (sa_cons (se_esh se_int) (sa_cons (se_esh se_int) sa_nil)))))))) sa_nil))))) sa_nil)) rfl) (sss_cons (ss_for (t := (.one 5)) (passes_of rfl) rfl (si_range1 rfl (m_range Z) (sa_cons (se_bin ho_add os_add (se_var (pv 4)) se_int) sa_nil)) (pg_name (i := 5) nd rfl (by first | exact .inl rfl | exact .inr rfl)) (sss_cons (ss_if (st_w (sw_or (st_cmp (ho_eq (u64 hr)) os_eq (se_var (pv 5)) (se_call ok__law_draw' runF_len (hr.mono (by decide)) rfl (m__law_draw Z) F__law_draw.kp b__law_draw (takes_of rfl rfl rfl rfl) (sa_cons (se_esh (se_var (pv 0))) (sa_cons (se_var (pv 1)) (sa_cons (se_esh se_int) sa_nil)))) (nomark _)) (sw_one' (st_w (sw_and (st_cmp (ho_eq (u64 hr)) os_eq (se_var (pv 5)) (se_var (pv 4)) (nomark _)) (sw_one (st_not (st_val (se_callB (cr_any rfl) os_any rfl (m_any Z) b_any (sa_cons (se_lc rfl nd (si_any (se_var (pv 3))) (blkOk_by (own := [("_law_char", 7)]) (by kernel_rfl)) (fun _ _ _ _ _ => (pg_name (i := 7) nd rfl (by first | exact .inl rfl | exact .inr rfl))) (fun _ _ _ _ _ => sts_nil) (fun _ _ _ _ _ => (se_cmp (ho_in (u65 hr)) os_in (se_var (pv 7)) (se_str (by decide +kernel)) (by with_unfolding_all rfl))) rfl (by decide)) sa_nil)))))))))) (sss_one (ss_asg (i := 3) nd rfl (by first | exact .inl rfl | exact .inr rfl) (se_bin ho_add os_add (se_var (pv 3)) (se_call ok__law_pick' runF_len (hr.mono (by decide)) rfl (m__law_pick Z) F__law_pick.kp b__law_pick (takes_of rfl rfl rfl rfl) (sa_cons (se_esh (se_var (pv 0))) (sa_cons (se_var (pv 1)) (sa_cons (se_esh (se_str (by decide +kernel))) sa_nil))))))) sss_nil) (sss_one (ss_if (st_cmp ho_lt os_lt (se_var (pv 5)) (se_var (pv 4)) (nomark _)) (sss_one (ss_asg (i := 3) nd rfl (by first | exact .inl rfl | exact .inr rfl) (se_bin ho_add os_add (se_var (pv 3)) (se_call ok__law_pick' runF_len (hr.mono (by decide)) rfl (m__law_pick Z) F__law_pick.kp b__law_pick (takes_of rfl rfl rfl rfl) (sa_cons (se_esh (se_var (pv 0))) (sa_cons (se_var (pv 1)) (sa_cons (se_esh (se_var (pv 2))) sa_nil))))))) sss_nil)))) (sss_cons (ss_asg (i := 6) nd rfl (by first | exact .inl rfl | exact .inr rfl) (se_call ok__law_draw' runF_len (hr.mono (by decide)) rfl (m__law_draw Z) F__law_draw.kp b__law_draw (takes_of rfl rfl rfl rfl) (sa_cons (se_esh (se_var (pv 0))) (sa_cons (se_var (pv 1)) (sa_cons (se_esh se_int) sa_nil))))) (sss_one (ss_ret (se_bin ho_add os_add (se_bin ho_add os_add (se_if (st_cmp (ho_in (u65 hr)) os_in (se_var (pv 6)) (se_tup (sa_cons (se_esh se_int) (sa_cons (se_esh se_int) sa_nil))) (by with_unfolding_all rfl)) (se_str (by decide +kernel)) (se_str (by decide +kernel))) (se_var (pv 3))) (se_if (st_cmp (ho_in (u65 hr)) os_in (se_var (pv 6)) (se_tup (sa_cons (se_esh se_int) (sa_cons (se_esh se_int) sa_nil))) (by with_unfolding_all rfl)) (se_str (by decide +kernel)) (se_str (by decide +kernel)))))))))
/-! ### _law_bare -/
def g__law_bare : SF := sRet (sMeth "str" oJoin (sC (.str [])) [sLC (.one 1) [1] (sAny (sVar 0)) (sBin oNotIn (sVar 1) (sC (.str [48, 49, 50, 51, 52, 53, 54, 55, 56, 57]))) (sVar 1)])
def fn__law_bare : Fn := runF 1 2 g__law_bare
theorem sc__law_bare : FnScope ["_law_pattern_here", "_law_char"] ["_law_pattern_here"] (defScope s__law_bare) := ⟨rfl, rfl, rfl, by decide +kernel, rfl, by decide +kernel, by decide +kernel⟩
theorem ok__law_bare {P : Program} {w : World} {K : PySem.W.Frag} {mg : Str → Option Value} {base : Heap} (Z : Facts K mg) {fd : FuncData} (F : FnP K "_law_bare" s__law_bare (He.ga K "_law_bare") fd) : FnOk P w K mg base (L2.CX P w) 1 (He.ga K "_law_bare") fd ["_law_pattern_here"] (spF ⟨P, w, K⟩ 1 fn__law_bare) := by
  have nd := sc__law_bare.nd
  exact fn_ok F sc__law_bare fun cdv A outer s H E hr => (sss_one (ss_ret (se_bm PySem.F.plainAttrs_str PySem.F.slot_str_join PySem.F.type_str_join mt_join os_join (se_str (by decide +kernel)) (sa_cons (se_lc rfl nd (si_any (se_var (pv 0))) (blkOk_by (own := [("_law_char", 1)]) (by kernel_rfl)) (fun _ _ _ _ _ => (pg_name (i := 1) nd rfl (by first | exact .inl rfl | exact .inr rfl))) (fun _ _ _ _ _ => (sts_one (st_cmp (ho_notin (u65 hr)) os_notin (se_var (pv 1)) (se_str (by decide +kernel)) (by with_unfolding_all rfl)))) (fun _ _ _ _ _ => (se_var (pv 1))) rfl (by decide)) sa_nil))))
/-! ### _law_rules -/
def g__law_rules : SF := sSeq (sPar [4, 5] [sLst [], sLst []]) (sSeq (sFor (.one 6) (sRange1 (sCall fn__law_draw [esh (sVar 0), sVar 1, esh (sBin oAdd (sVar 2) (sC (.int 1)))])) (sSeq (sAsg 7 (sCall fn__law_pattern [esh (sVar 0), sVar 1, esh (sVar 3)])) (sIfS (sBin oNotIn (sCall fn__law_bare [esh (sVar 7)]) (sVar 5)) (sSeq (sExpr (sMutS 4 oAppend [sVar 7])) (sExpr (sMutS 5 oAppend [sCall fn__law_bare [esh (sVar 7)]]))) (sNil)))) (sRet (sTup [sCallB oTupleOf [sVar 4], sCall fn__law_pick [esh (sVar 0), sVar 1, esh (sLst [sC (.int 1), sC (.int 1), sC (.int 2), sC (.int 3)])], sCall fn__law_pick [esh (sVar 0), sVar 1, esh (sLst [sC (.int 1), sC (.int 1), sC (.int 2), sC (.int 3)])]])))
def fn__law_rules : Fn := runF 4 8 g__law_rules
theorem sc__law_rules : FnScope ["_law_script", "_law_town", "_law_most", "_law_letters", "_law_made", "_law_seen", "_law_k", "_law_pattern_here"] ["_law_script", "_law_town", "_law_most", "_law_letters"] (defScope s__law_rules) := ⟨rfl, rfl, rfl, by decide +kernel, rfl, by decide +kernel, by decide +kernel⟩
theorem ok__law_rules {P : Program} {w : World} {K : PySem.W.Frag} {mg : Str → Option Value} {base : Heap} (Z : Facts K mg) {fd : FuncData} (F : FnP K "_law_rules" s__law_rules (He.ga K "_law_rules") fd) : FnOk P w K mg base (L2.CX P w) 4 (He.ga K "_law_rules") fd ["_law_script", "_law_town", "_law_most", "_law_letters"] (spF ⟨P, w, K⟩ 4 fn__law_rules) := by
  obtain ⟨fd__law_draw, F__law_draw⟩ := Z.c.def_ 8 (d := d__law_draw) rfl
  have F__law_draw : FnP K "_law_draw" s__law_draw (He.ga K "_law_draw") fd__law_draw := F__law_draw
  have ok__law_draw' : FnOk P w K mg base (L2.CX P w) 1 (He.ga K "_law_draw") fd__law_draw ["_law_script", "_law_town", "_law_many"] (spF ⟨P, w, K⟩ 3 fn__law_draw) := ok__law_draw Z F__law_draw
  have b__law_draw : Binds K fd__law_draw ["_law_script", "_law_town", "_law_many"] [] := F__law_draw.bindsN fun _ _ _ _ _ _ us hl => match us, hl with | [_, _, _], _ => rfl
  obtain ⟨fd__law_pattern, F__law_pattern⟩ := Z.c.def_ 10 (d := d__law_pattern) rfl
  have F__law_pattern : FnP K "_law_pattern" s__law_pattern (He.ga K "_law_pattern") fd__law_pattern := F__law_pattern
  have ok__law_pattern' : FnOk P w K mg base (L2.CX P w) 3 (He.ga K "_law_pattern") fd__law_pattern ["_law_script", "_law_town", "_law_letters"] (spF ⟨P, w, K⟩ 3 fn__law_pattern) := ok__law_pattern Z F__law_pattern
  have b__law_pattern : Binds K fd__law_pattern ["_law_script", "_law_town", "_law_letters"] [] := F__law_pattern.bindsN fun _ _ _ _ _ _ us hl => match us, hl with | [_, _, _], _ => rfl
  obtain ⟨fd__law_bare, F__law_bare⟩ := Z.c.def_ 11 (d := d__law_bare) rfl
  have F__law_bare : FnP K "_law_bare" s__law_bare (He.ga K "_law_bare") fd__law_bare := F__law_bare
  have ok__law_bare' : FnOk P w K mg base (L2.CX P w) 1 (He.ga K "_law_bare") fd__law_bare ["_law_pattern_here"] (spF ⟨P, w, K⟩ 1 fn__law_bare) := ok__law_bare Z F__law_bare
  have b__law_bare : Binds K fd__law_bare ["_law_pattern_here"] [] := F__law_bare.bindsN fun _ _ _ _ _ _ us hl => match us, hl with | [_], _ => rfl
  obtain ⟨fd__law_pick, F__law_pick⟩ := Z.c.def_ 9 (d := d__law_pick) rfl
  have F__law_pick : FnP K "_law_pick" s__law_pick (He.ga K "_law_pick") fd__law_pick := F__law_pick
  have ok__law_pick' : FnOk P w K mg base (L2.CX P w) 2 (He.ga K "_law_pick") fd__law_pick ["_law_script", "_law_town", "_law_some"] (spF ⟨P, w, K⟩ 3 fn__law_pick) := ok__law_pick Z F__law_pick
  have b__law_pick : Binds K fd__law_pick ["_law_script", "_law_town", "_law_some"] [] := F__law_pick.bindsN fun _ _ _ _ _ _ us hl => match us, hl with | [_, _, _], _ => rfl
  have nd := sc__law_rules.nd
  exact fn_ok F sc__law_rules fun cdv A outer s H E hr => (sss_cons (ss_par2 rfl nd rfl rfl (by decide) rfl rfl (sa_cons (se_eun (se_lst sa_nil)) (sa_cons (se_eun (se_lst sa_nil)) sa_nil)) rfl) (sss_cons (ss_for (t := (.one 6)) (passes_of rfl) rfl (si_range1 rfl (m_range Z) (sa_cons (se_call ok__law_draw' runF_len (hr.mono (by decide)) rfl (m__law_draw Z) F__law_draw.kp b__law_draw (takes_of rfl rfl rfl rfl) (sa_cons (se_esh (se_var (pv 0))) (sa_cons (se_var (pv 1)) (sa_cons (se_esh (se_bin ho_add os_add (se_var (pv 2)) se_int)) sa_nil)))) sa_nil)) (pg_name (i := 6) nd rfl (by first | exact .inl rfl | exact .inr rfl)) (sss_cons (ss_asg (i := 7) nd rfl (by first | exact .inl rfl | exact .inr rfl) (se_call ok__law_pattern' runF_len (hr.mono (by decide)) rfl (m__law_pattern Z) F__law_pattern.kp b__law_pattern (takes_of rfl rfl rfl rfl) (sa_cons (se_esh (se_var (pv 0))) (sa_cons (se_var (pv 1)) (sa_cons (se_esh (se_var (pv 3))) sa_nil))))) (sss_one (ss_if (st_cmp (ho_notin (u65 hr)) os_notin (se_call ok__law_bare' runF_len (hr.mono (by decide)) rfl (m__law_bare Z) F__law_bare.kp b__law_bare (takes_of rfl rfl rfl rfl) (sa_cons (se_esh (se_var (pv 7))) sa_nil)) (se_var (pv 5)) (by with_unfolding_all rfl)) (sss_cons (ss_expr (se_mutS PySem.F.slot_list_append PySem.F.type_list_append mt_append m_append (pv 4) (sa_cons (se_esh (se_var (pv 7))) sa_nil))) (sss_one (ss_expr (se_mutS PySem.F.slot_list_append PySem.F.type_list_append mt_append m_append (pv 5) (sa_cons (se_esh (se_call ok__law_bare' runF_len (hr.mono (by decide)) rfl (m__law_bare Z) F__law_bare.kp b__law_bare (takes_of rfl rfl rfl rfl) (sa_cons (se_esh (se_var (pv 7))) sa_nil))) sa_nil))))) sss_nil)))) (sss_one (ss_ret (se_tup (sa_cons (se_esh (se_callTy call_tuple_of os_tupleOf rfl (m_tuple Z) b_tuple (sa_cons (se_var (pv 4)) sa_nil))) (sa_cons (se_esh (se_call ok__law_pick' runF_len (hr.mono (by decide)) rfl (m__law_pick Z) F__law_pick.kp b__law_pick (takes_of rfl rfl rfl rfl) (sa_cons (se_esh (se_var (pv 0))) (sa_cons (se_var (pv 1)) (sa_cons (se_esh (se_lst (sa_cons (se_esh se_int) (sa_cons (se_esh se_int) (sa_cons (se_esh se_int) (sa_cons (se_esh se_int) sa_nil)))))) sa_nil))))) (sa_cons (se_esh (se_call ok__law_pick' runF_len (hr.mono (by decide)) rfl (m__law_pick Z) F__law_pick.kp b__law_pick (takes_of rfl rfl rfl rfl) (sa_cons (se_esh (se_var (pv 0))) (sa_cons (se_var (pv 1)) (sa_cons (se_esh (se_lst (sa_cons (se_esh se_int) (sa_cons (se_esh se_int) (sa_cons (se_esh se_int) (sa_cons (se_esh se_int) sa_nil)))))) sa_nil))))) sa_nil))))))))
/-! ### _law_text -/
def g__law_text : SF := sRet (sBin oAdd (sBin oAdd (sBin oAdd (sBin oAdd (sCallB oStr1 [sBin oIx (sVar 0) (sC (.int 1))]) (sC (.str [32]))) (sCallB oStr1 [sBin oIx (sVar 0) (sC (.int 2))])) (sC (.str [58]))) (sMeth "str" oJoin (sC (.str [])) [sLC (.one 1) [1] (sAny (sBin oIx (sVar 0) (sC (.int 0)))) (sYes) (sBin oAdd (sC (.str [32])) (sVar 1))]))
def fn__law_text : Fn := runF 1 2 g__law_text
theorem sc__law_text : FnScope ["_law_rules_here", "_law_pattern_here"] ["_law_rules_here"] (defScope s__law_text) := ⟨rfl, rfl, rfl, by decide +kernel, rfl, by decide +kernel, by decide +kernel⟩
theorem ok__law_text {P : Program} {w : World} {K : PySem.W.Frag} {mg : Str → Option Value} {base : Heap} (Z : Facts K mg) {fd : FuncData} (F : FnP K "_law_text" s__law_text (He.ga K "_law_text") fd) : FnOk P w K mg base (L2.CX P w) 1 (He.ga K "_law_text") fd ["_law_rules_here"] (spF ⟨P, w, K⟩ 1 fn__law_text) := by
  have nd := sc__law_text.nd
  exact fn_ok F sc__law_text fun cdv A outer s H E hr => (sss_one (ss_ret (se_bin ho_add os_add (se_bin ho_add os_add (se_bin ho_add os_add (se_bin ho_add os_add (se_callTy call_str_int os_str1 rfl (m_str Z) b_str (sa_cons (se_ix ho_ix os_ix (se_var (pv 0)) se_int (fun _ _ => rfl)) sa_nil)) (se_str (by decide +kernel))) (se_callTy call_str_int os_str1 rfl (m_str Z) b_str (sa_cons (se_ix ho_ix os_ix (se_var (pv 0)) se_int (fun _ _ => rfl)) sa_nil))) (se_str (by decide +kernel))) (se_bm PySem.F.plainAttrs_str PySem.F.slot_str_join PySem.F.type_str_join mt_join os_join (se_str (by decide +kernel)) (sa_cons (se_lc rfl nd (si_any (se_ix ho_ix os_ix (se_var (pv 0)) se_int (fun _ _ => rfl))) (blkOk_by (own := [("_law_pattern_here", 1)]) (by kernel_rfl)) (fun _ _ _ _ _ => (pg_name (i := 1) nd rfl (by first | exact .inl rfl | exact .inr rfl))) (fun _ _ _ _ _ => sts_nil) (fun _ _ _ _ _ => (se_bin ho_add os_add (se_str (by decide +kernel)) (se_var (pv 1)))) rfl (by decide)) sa_nil)))))
/-! ### _law_which -/
theorem sc__law_which : FnScope ["_law_error", "_law_own"] ["_law_error"] (defScope s__law_which) := ⟨rfl, rfl, rfl, by decide +kernel, rfl, by decide +kernel, by decide +kernel⟩
theorem b_ValueError : bootBuiltins "ValueError" = some (.type "ValueError") := by decide +kernel
theorem wh__law_which {P : Program} {w : World} {K : PySem.W.Frag} {mg : Str → Option Value} {base : Heap} (Z : Facts K mg) {a : Addr} {oe : Obj} {c : Str} {j : Nat} (hj : posI c CS 0 = some j) (hz : Zc (.ref (He.ga K c)) none oe) (hf : ∃ vs, oe.data = .fields vs) {f : Addr} {cdv : Value} {A : Around} {outer : List PySem.Env} {s : Shared} {H : Hp}
    (hr : L2H.RoomH 0 (A.deeper (envOfC "_law_which" (defScope s__law_which) s.heap.objs.size f cdv))) : PSs (L2H.cxH CXn P w K mg base ["_law_error", "_law_own"] "_law_which" (defScope s__law_which) f cdv A outer s H XKn (a, oe)) (defBody s__law_which) (tWall a raisedS j) := by
  have hc := posI_mem hj
  have C := exc_all Z.e hc.1
  have hjc : CS[j]? = some c := hc.2.2
  have j9 : j < 9 := (List.getElem?_eq_some_iff.mp hjc).1
  have k : ∀ i d, CS[i]? = some d → PySem.W.kitOne K (.ref (He.ga K c)) (.ref (He.ga K d)) = some (bq j i) := fun i d hd => kit_at (by decide) Z.e hjc hd
  have ci := call_isP (X := L2H.cxH CXn P w K mg base ["_law_error", "_law_own"] "_law_which" (defScope s__law_which) f cdv A outer s H XKn (a, oe)) (List.mem_cons_self ..) C.1 hz hf
  have hu : (L2H.cxH CXn P w K mg base ["_law_error", "_law_own"] "_law_which" (defScope s__law_which) f cdv A outer s H XKn (a, oe)).A.units + 64 < cLine := by
    have := hr.un
    show (A.deeper (envOfC "_law_which" (defScope s__law_which) s.heap.objs.size f cdv)).units + 64 < _
    omega
  have nd := sc__law_which.nd
  exact pss_which j9 (ps_w1 (pe_isLst (pa_isCons (pe_isB ci rfl (m_isinstance Z) b_isi (pv 0) (pe_glob (v := .ref (He.ga K "InvalidRules")) rfl (m_InvalidRules Z) rfl) (fun _ h => h) (k 0 "InvalidRules" rfl)) (pa_isCons (pe_isB ci rfl (m_isinstance Z) b_isi (pv 0) (pe_glob (v := .ref (He.ga K "InvalidWord")) rfl (m_InvalidWord Z) rfl) (fun _ h => h) (k 1 "InvalidWord" rfl)) pa_isNil)) (by simp)) (pg_name (i := 1) nd rfl (by first | exact .inl rfl | exact .inr rfl)))
    (ps_wx (pv 1) (pe_isLst (pa_isCons (pe_isB ci rfl (m_isinstance Z) b_isi (pv 0) (pe_glob (v := .ref (He.ga K "InvalidContext")) rfl (m_InvalidContext Z) rfl) (fun _ h => h) (k 2 "InvalidContext" rfl)) pa_isNil) (by simp)) (by simp))
    (ps_wx (pv 1) (pe_isLst (pa_isCons (pe_isB ci rfl (m_isinstance Z) b_isi (pv 0) (pe_glob (v := .ref (He.ga K "InvalidLetters")) rfl (m_InvalidLetters Z) rfl) (fun _ h => h) (k 3 "InvalidLetters" rfl)) (pa_isCons (pe_isB ci rfl (m_isinstance Z) b_isi (pv 0) (pe_glob (v := .ref (He.ga K "InvalidSize")) rfl (m_InvalidSize Z) rfl) (fun _ h => h) (k 4 "InvalidSize" rfl)) pa_isNil)) (by simp)) (by simp))
    (ps_wx (pv 1) (pe_isLst (pa_isCons (pe_isB ci rfl (m_isinstance Z) b_isi (pv 0) (pe_glob (v := .ref (He.ga K "InvalidTold")) rfl (m_InvalidTold Z) rfl) (fun _ h => h) (k 5 "InvalidTold" rfl)) pa_isNil) (by simp)) (by simp))
    (ps_wx (pv 1) (pe_isLst (pa_isCons (pe_isB ci rfl (m_isinstance Z) b_isi (pv 0) (pe_glob (v := .ref (He.ga K "InvalidText")) rfl (m_InvalidText Z) rfl) (fun _ h => h) (k 6 "InvalidText" rfl)) (pa_isCons (pe_isB ci rfl (m_isinstance Z) b_isi (pv 0) (pe_glob (v := .ref (He.ga K "NotThere")) rfl (m_NotThere Z) rfl) (fun _ h => h) (k 7 "NotThere" rfl)) pa_isNil)) (by simp)) (by simp))
    (ps_wx (pv 1) (pe_isLst (pa_isCons (pe_isB ci rfl (m_isinstance Z) b_isi (pv 0) (pe_glob (v := .ref (He.ga K "InvalidFormat")) rfl (m_InvalidFormat Z) rfl) (fun _ h => h) (k 8 "InvalidFormat" rfl)) pa_isNil) (by simp)) (by simp))
    (ps_wif hu (pv 1) (pe_isB ci rfl (m_isinstance Z) b_isi (pv 0) (pe_bltn (x := "ValueError") (v := .ty "ValueError") rfl (m_ValueError Z) b_ValueError rfl) (fun _ h => h) C.2.2.1) pe_int pe_bl pss_never)
    (ps_wrt (pv 1) pe_str pe_bl (htup := fun t h => pe_tup h))
/-! ### is_count -/
def g_is_count : SF := sRet (sAnd (sCallB oIsi [sVar 0, sC (.ty "int")]) (sAnd (sNot (sCallB oIsi [sVar 0, sC (.ty "bool")])) (sChain oLe oLe (sVar 1) (sVar 0) (sVar 2))))
def fn_is_count : Fn := runF 3 3 g_is_count
theorem sc_is_count : FnScope ["value", "least", "most"] ["value", "least", "most"] (defScope s_is_count) := ⟨rfl, rfl, rfl, by decide +kernel, rfl, by decide +kernel, by decide +kernel⟩
theorem ok_is_count {P : Program} {w : World} {K : PySem.W.Frag} {mg : Str → Option Value} {base : Heap} (Z : Facts K mg) {fd : FuncData} (F : FnP K "is_count" s_is_count (He.ga K "is_count") fd) : FnOk P w K mg base (L2.CX P w) 1 (He.ga K "is_count") fd ["value", "least", "most"] (spF ⟨P, w, K⟩ 3 fn_is_count) := by
  have nd := sc_is_count.nd
  exact fn_ok F sc_is_count fun cdv A outer s H E hr => (sss_one (ss_ret (se_and (se_callB call_isi os_isi rfl (m_isinstance Z) b_isi (sa_cons (se_var (pv 0)) (sa_cons (se_ty rfl (m_int Z) b_int) sa_nil))) (se_and (se_not (se_callB call_isi os_isi rfl (m_isinstance Z) b_isi (sa_cons (se_var (pv 0)) (sa_cons (se_ty rfl (m_bool Z) b_bool) sa_nil)))) (se_one (se_chain ho_le os_le ho_le os_le (se_var (pv 1)) (se_var (pv 0)) (se_var (pv 2))))))))
/-! ### chars_of -/
def g_chars_of : SF := sRet (sMeth "str" oJoin (sC (.str [])) [sLC (.one 1) [1] (sAny (sVar 0)) (sBin oNotIn (sVar 1) (sC (.str [49, 50, 51, 52, 53, 54, 55, 56, 57]))) (sVar 1)])
def fn_chars_of : Fn := runF 1 2 g_chars_of
theorem sc_chars_of : FnScope ["pattern", "char"] ["pattern"] (defScope s_chars_of) := ⟨rfl, rfl, rfl, by decide +kernel, rfl, by decide +kernel, by decide +kernel⟩
theorem ok_chars_of {P : Program} {w : World} {K : PySem.W.Frag} {mg : Str → Option Value} {base : Heap} (Z : Facts K mg) {fd : FuncData} (F : FnP K "chars_of" s_chars_of (He.ga K "chars_of") fd) : FnOk P w K mg base (L2.CX P w) 1 (He.ga K "chars_of") fd ["pattern"] (spF ⟨P, w, K⟩ 1 fn_chars_of) := by
  have nd := sc_chars_of.nd
  exact fn_ok F sc_chars_of fun cdv A outer s H E hr => (sss_one (ss_ret (se_bm PySem.F.plainAttrs_str PySem.F.slot_str_join PySem.F.type_str_join mt_join os_join (se_str (by decide +kernel)) (sa_cons (se_lc rfl nd (si_any (se_var (pv 0))) (blkOk_by (own := [("char", 1)]) (by kernel_rfl)) (fun _ _ _ _ _ => (pg_name (i := 1) nd rfl (by first | exact .inl rfl | exact .inr rfl))) (fun _ _ _ _ _ => (sts_one (st_cmp (ho_notin (u65 hr)) os_notin (se_var (pv 1)) (se_gstr rfl (m_DIGITS Z) (by decide +kernel)) (by with_unfolding_all rfl)))) (fun _ _ _ _ _ => (se_var (pv 1))) rfl (by decide)) sa_nil))))
/-! ### is_pattern -/
def g_is_pattern : SF := sSeq (sIfS (sOr (sNot (sCallB oIsi [sVar 0, sC (.ty "str")])) (sBin oEq (sVar 0) (sC (.str [])))) (sRet (sC (.bl false))) (sNil)) (sSeq (sAsg 1 (sIf (sBin oEq (sBin oIx (sVar 0) (sC (.int 0))) (sC (.str [46]))) (sSl oSl (sVar 0) (some (sC (.int 1))) none) (sVar 0))) (sSeq (sAsg 1 (sIf (sMeth "str" oEnds (sVar 1) [sC (.str [46])]) (sSl oSl (sVar 1) none (some (sUn oNeg (sC (.int 1))))) (sVar 1))) (sSeq (sIfS (sNot (sCallB oAll [sLC (.one 3) [3] (sAny (sVar 1)) (sYes) (sBin oIn (sVar 3) (sBin oAdd (sC (.str [97, 98, 99, 100, 101, 102, 103, 104, 105, 106, 107, 108, 109, 110, 111, 112, 113, 114, 115, 116, 117, 118, 119, 120, 121, 122])) (sC (.str [49, 50, 51, 52, 53, 54, 55, 56, 57]))))])) (sRet (sC (.bl false))) (sNil)) (sSeq (sIfS (sCallB oAny [sLC (.many [4, 5]) [4, 5] (sZip [sVar 1, sSl oSl (sVar 1) (some (sC (.int 1))) none]) (sYes) (sAnd (sBin oIn (sVar 4) (sC (.str [49, 50, 51, 52, 53, 54, 55, 56, 57]))) (sBin oIn (sVar 5) (sC (.str [49, 50, 51, 52, 53, 54, 55, 56, 57]))))]) (sRet (sC (.bl false))) (sNil)) (sSeq (sAsg 2 (sCallB oLen [sCall fn_chars_of [esh (sVar 1)]])) (sRet (sAnd (sChain oLe oLe (sC (.int 1)) (sVar 2) (sC (.int 4))) (sBin oLt (sVar 2) (sCallB oLen [sVar 1])))))))))
def fn_is_pattern : Fn := runF 1 6 g_is_pattern
theorem sc_is_pattern : FnScope ["value", "inside", "letters", "char", "one", "other"] ["value"] (defScope s_is_pattern) := ⟨rfl, rfl, rfl, by decide +kernel, rfl, by decide +kernel, by decide +kernel⟩
theorem ok_is_pattern {P : Program} {w : World} {K : PySem.W.Frag} {mg : Str → Option Value} {base : Heap} (Z : Facts K mg) {fd : FuncData} (F : FnP K "is_pattern" s_is_pattern (He.ga K "is_pattern") fd) : FnOk P w K mg base (L2.CX P w) 2 (He.ga K "is_pattern") fd ["value"] (spF ⟨P, w, K⟩ 1 fn_is_pattern) := by
  obtain ⟨fd_chars_of, F_chars_of⟩ := Z.c.def_ 1 (d := d_chars_of) rfl
  have F_chars_of : FnP K "chars_of" s_chars_of (He.ga K "chars_of") fd_chars_of := F_chars_of
  have ok_chars_of' : FnOk P w K mg base (L2.CX P w) 1 (He.ga K "chars_of") fd_chars_of ["pattern"] (spF ⟨P, w, K⟩ 1 fn_chars_of) := ok_chars_of Z F_chars_of
  have b_chars_of : Binds K fd_chars_of ["pattern"] [] := F_chars_of.bindsN fun _ _ _ _ _ _ us hl => match us, hl with | [_], _ => rfl
  have nd := sc_is_pattern.nd
  exact fn_ok F sc_is_pattern fun cdv A outer s H E hr => (sss_cons (ss_if (st_w (sw_or (st_not (st_val (se_callB call_isi os_isi rfl (m_isinstance Z) b_isi (sa_cons (se_var (pv 0)) (sa_cons (se_ty rfl (m_str Z) b_str) sa_nil))))) (sw_one' (st_cmp (ho_eq (u64 hr)) os_eq (se_var (pv 0)) (se_str (by decide +kernel)) (nomark _))))) (sss_one (ss_ret se_bl)) sss_nil) (sss_cons (ss_asg (i := 1) nd rfl (by first | exact .inl rfl | exact .inr rfl) (se_if (st_cmp (ho_eq (u64 hr)) os_eq (se_ix ho_ix os_ix (se_var (pv 0)) se_int (fun _ _ => rfl)) (se_str (by decide +kernel)) (nomark _)) (se_sl ho_sl os_sl (se_var (pv 0)) (so_some se_int) so_none) (se_var (pv 0)))) (sss_cons (ss_asg (i := 1) nd rfl (by first | exact .inl rfl | exact .inr rfl) (se_if (st_val (se_bm PySem.F.plainAttrs_str PySem.F.slot_str_endswith PySem.F.type_str_endswith mt_endswith os_ends (se_var (pv 1)) (sa_cons (se_str (by decide +kernel)) sa_nil))) (se_sl ho_sl os_sl (se_var (pv 1)) so_none (so_some (se_un ho_neg os_neg se_int))) (se_var (pv 1)))) (sss_cons (ss_if (st_not (st_val (se_callB (cr_all rfl) os_all rfl (m_all Z) b_all (sa_cons (se_lc rfl nd (si_any (se_var (pv 1))) (blkOk_by (own := [("char", 3)]) (by kernel_rfl)) (fun _ _ _ _ _ => (pg_name (i := 3) nd rfl (by first | exact .inl rfl | exact .inr rfl))) (fun _ _ _ _ _ => sts_nil) (fun _ _ _ _ _ => (se_cmp (ho_in (u65 hr)) os_in (se_var (pv 3)) (se_bin ho_add os_add (se_gstr rfl (m_LETTERS Z) (by decide +kernel)) (se_gstr rfl (m_DIGITS Z) (by decide +kernel))) (by with_unfolding_all rfl))) rfl (by decide)) sa_nil)))) (sss_one (ss_ret se_bl)) sss_nil) (sss_cons (ss_if (st_val (se_callB (cr_any rfl) os_any rfl (m_any Z) b_any (sa_cons (se_lc rfl nd (si_zip rfl (m_zip Z) (sa_cons (se_esh (se_var (pv 1))) (sa_cons (se_esh (se_sl ho_sl os_sl (se_var (pv 1)) (so_some se_int) so_none)) sa_nil))) (blkOk_by (own := [("one", 4), ("other", 5)]) (by kernel_rfl)) (fun _ _ _ _ _ => (pg_tup rfl (pgs_cons (pg_name (i := 4) nd rfl (by first | exact .inl rfl | exact .inr rfl)) (pgs_cons (pg_name (i := 5) nd rfl (by first | exact .inl rfl | exact .inr rfl)) pgs_nil)))) (fun _ _ _ _ _ => sts_nil) (fun _ _ _ _ _ => (se_and (se_cmp (ho_in (u65 hr)) os_in (se_var (pv 4)) (se_gstr rfl (m_DIGITS Z) (by decide +kernel)) (by with_unfolding_all rfl)) (se_one (se_cmp (ho_in (u65 hr)) os_in (se_var (pv 5)) (se_gstr rfl (m_DIGITS Z) (by decide +kernel)) (by with_unfolding_all rfl))))) rfl (by decide)) sa_nil))) (sss_one (ss_ret se_bl)) sss_nil) (sss_cons (ss_asg (i := 2) nd rfl (by first | exact .inl rfl | exact .inr rfl) (se_callB call_len os_len rfl (m_len Z) b_len (sa_cons (se_call ok_chars_of' runF_len (hr.mono (by decide)) rfl (m_chars_of Z) F_chars_of.kp b_chars_of (takes_of rfl rfl rfl rfl) (sa_cons (se_esh (se_var (pv 1))) sa_nil)) sa_nil))) (sss_one (ss_ret (se_and (se_chain ho_le os_le ho_le os_le se_int (se_var (pv 2)) (se_gint rfl (m_LONGEST Z))) (se_one (se_cmp ho_lt os_lt (se_var (pv 2)) (se_callB call_len os_len rfl (m_len Z) b_len (sa_cons (se_var (pv 1)) sa_nil)) (nomark _))))))))))))
/-! ### is_rules -/
def g_is_rules : SF := sSeq (sIfS (sOr (sNot (sCallB oIsi [sVar 0, sC (.ty "tuple")])) (sOr (sBin oNe (sCallB oLen [sVar 0]) (sC (.int 3))) (sNot (sCallB oAll [sLC (.one 2) [2] (sAny (sSl oSl (sVar 0) (some (sC (.int 1))) none)) (sYes) (sCall fn_is_count [esh (sVar 2), esh (sC (.int 1)), esh (sC (.int 4))])])))) (sRet (sC (.bl false))) (sNil)) (sSeq (sAsg 1 (sBin oIx (sVar 0) (sC (.int 0)))) (sSeq (sIfS (sOr (sNot (sCallB oIsi [sVar 1, sC (.ty "tuple")])) (sOr (sBin oGt (sCallB oLen [sVar 1]) (sC (.int 6))) (sNot (sCallB oAll [sLC (.one 3) [3] (sAny (sVar 1)) (sYes) (sCall fn_is_pattern [esh (sVar 3)])])))) (sRet (sC (.bl false))) (sNil)) (sRet (sBin oEq (sLenSet (sLC (.one 4) [4] (sAny (sVar 1)) (sYes) (sCall fn_chars_of [esh (sVar 4)]))) (sCallB oLen [sVar 1])))))
def fn_is_rules : Fn := runF 1 5 g_is_rules
theorem sc_is_rules : FnScope ["value", "patterns", "number", "one", "pattern"] ["value"] (defScope s_is_rules) := ⟨rfl, rfl, rfl, by decide +kernel, rfl, by decide +kernel, by decide +kernel⟩
theorem ok_is_rules {P : Program} {w : World} {K : PySem.W.Frag} {mg : Str → Option Value} {base : Heap} (Z : Facts K mg) {fd : FuncData} (F : FnP K "is_rules" s_is_rules (He.ga K "is_rules") fd) : FnOk P w K mg base (L2.CX P w) 3 (He.ga K "is_rules") fd ["value"] (spF ⟨P, w, K⟩ 1 fn_is_rules) := by
  obtain ⟨fd_is_count, F_is_count⟩ := Z.c.def_ 0 (d := d_is_count) rfl
  have F_is_count : FnP K "is_count" s_is_count (He.ga K "is_count") fd_is_count := F_is_count
  have ok_is_count' : FnOk P w K mg base (L2.CX P w) 1 (He.ga K "is_count") fd_is_count ["value", "least", "most"] (spF ⟨P, w, K⟩ 3 fn_is_count) := ok_is_count Z F_is_count
  have b_is_count : Binds K fd_is_count ["value", "least", "most"] [] := F_is_count.bindsN fun _ _ _ _ _ _ us hl => match us, hl with | [_, _, _], _ => rfl
  obtain ⟨fd_is_pattern, F_is_pattern⟩ := Z.c.def_ 2 (d := d_is_pattern) rfl
  have F_is_pattern : FnP K "is_pattern" s_is_pattern (He.ga K "is_pattern") fd_is_pattern := F_is_pattern
  have ok_is_pattern' : FnOk P w K mg base (L2.CX P w) 2 (He.ga K "is_pattern") fd_is_pattern ["value"] (spF ⟨P, w, K⟩ 1 fn_is_pattern) := ok_is_pattern Z F_is_pattern
  have b_is_pattern : Binds K fd_is_pattern ["value"] [] := F_is_pattern.bindsN fun _ _ _ _ _ _ us hl => match us, hl with | [_], _ => rfl
  obtain ⟨fd_chars_of, F_chars_of⟩ := Z.c.def_ 1 (d := d_chars_of) rfl
  have F_chars_of : FnP K "chars_of" s_chars_of (He.ga K "chars_of") fd_chars_of := F_chars_of
  have ok_chars_of' : FnOk P w K mg base (L2.CX P w) 1 (He.ga K "chars_of") fd_chars_of ["pattern"] (spF ⟨P, w, K⟩ 1 fn_chars_of) := ok_chars_of Z F_chars_of
  have b_chars_of : Binds K fd_chars_of ["pattern"] [] := F_chars_of.bindsN fun _ _ _ _ _ _ us hl => match us, hl with | [_], _ => rfl
  have nd := sc_is_rules.nd
  exact fn_ok F sc_is_rules fun cdv A outer s H E hr => (sss_cons (ss_if (st_w (sw_or (st_not (st_val (se_callB call_isi os_isi rfl (m_isinstance Z) b_isi (sa_cons (se_var (pv 0)) (sa_cons (se_ty rfl (m_tuple Z) b_tuple) sa_nil))))) (sw_or (st_cmp (ho_ne (u64 hr)) os_ne (se_callB call_len os_len rfl (m_len Z) b_len (sa_cons (se_var (pv 0)) sa_nil)) se_int (nomark _)) (sw_one' (st_not (st_val (se_callB (cr_all rfl) os_all rfl (m_all Z) b_all (sa_cons (se_lc rfl nd (si_any (se_sl ho_sl os_sl (se_var (pv 0)) (so_some se_int) so_none)) (blkOk_by (own := [("number", 2)]) (by kernel_rfl)) (fun _ _ _ _ _ => (pg_name (i := 2) nd rfl (by first | exact .inl rfl | exact .inr rfl))) (fun _ _ _ _ _ => sts_nil) (fun _ _ _ _ _ => (se_call ok_is_count' runF_len (hr.mono (by decide)) rfl (m_is_count Z) F_is_count.kp b_is_count takes0 (sa_cons (se_esh (se_var (pv 2))) (sa_cons (se_esh se_int) (sa_cons (se_esh se_int) sa_nil))))) rfl (by decide)) sa_nil)))))))) (sss_one (ss_ret se_bl)) sss_nil) (sss_cons (ss_asg (i := 1) nd rfl (by first | exact .inl rfl | exact .inr rfl) (se_ix ho_ix os_ix (se_var (pv 0)) se_int (fun _ _ => rfl))) (sss_cons (ss_if (st_w (sw_or (st_not (st_val (se_callB call_isi os_isi rfl (m_isinstance Z) b_isi (sa_cons (se_var (pv 1)) (sa_cons (se_ty rfl (m_tuple Z) b_tuple) sa_nil))))) (sw_or (st_cmp ho_gt os_gt (se_callB call_len os_len rfl (m_len Z) b_len (sa_cons (se_var (pv 1)) sa_nil)) (se_gint rfl (m_PATTERNS Z)) (nomark _)) (sw_one' (st_not (st_val (se_callB (cr_all rfl) os_all rfl (m_all Z) b_all (sa_cons (se_lc rfl nd (si_any (se_var (pv 1))) (blkOk_by (own := [("one", 3)]) (by kernel_rfl)) (fun _ _ _ _ _ => (pg_name (i := 3) nd rfl (by first | exact .inl rfl | exact .inr rfl))) (fun _ _ _ _ _ => sts_nil) (fun _ _ _ _ _ => (se_call ok_is_pattern' runF_len (hr.mono (by decide)) rfl (m_is_pattern Z) F_is_pattern.kp b_is_pattern takes0 (sa_cons (se_esh (se_var (pv 3))) sa_nil))) rfl (by decide)) sa_nil)))))))) (sss_one (ss_ret se_bl)) sss_nil) (sss_one (ss_ret (se_cmp (ho_eq (u64 hr)) os_eq (se_lenSet rfl rfl (m_len Z) rfl (m_set Z) (se_lc rfl nd (si_any (se_var (pv 1))) (blkOk_by (own := [("pattern", 4)]) (by kernel_rfl)) (fun _ _ _ _ _ => (pg_name (i := 4) nd rfl (by first | exact .inl rfl | exact .inr rfl))) (fun _ _ _ _ _ => sts_nil) (fun _ _ _ _ _ => (se_call ok_chars_of' runF_len (hr.mono (by decide)) rfl (m_chars_of Z) F_chars_of.kp b_chars_of takes0 (sa_cons (se_esh (se_var (pv 4))) sa_nil))) rfl (by decide))) (se_callB call_len os_len rfl (m_len Z) b_len (sa_cons (se_var (pv 1)) sa_nil)) (nomark _)))))))
/-! ### need_rules -/
def g_need_rules : SF := sIfS (sNot (sCall fn_is_rules [esh (sVar 0)])) (sRaise "InvalidRules") (sNil)
def fn_need_rules : Fn := runF 1 1 g_need_rules
theorem sc_need_rules : FnScope ["value"] ["value"] (defScope s_need_rules) := ⟨rfl, rfl, rfl, by decide +kernel, rfl, by decide +kernel, by decide +kernel⟩
theorem ok_need_rules {P : Program} {w : World} {K : PySem.W.Frag} {mg : Str → Option Value} {base : Heap} (Z : Facts K mg) {fd : FuncData} (F : FnP K "need_rules" s_need_rules (He.ga K "need_rules") fd) : FnOk P w K mg base (L2.CX P w) 4 (He.ga K "need_rules") fd ["value"] (spF ⟨P, w, K⟩ 1 fn_need_rules) := by
  obtain ⟨fd_is_rules, F_is_rules⟩ := Z.c.def_ 3 (d := d_is_rules) rfl
  have F_is_rules : FnP K "is_rules" s_is_rules (He.ga K "is_rules") fd_is_rules := F_is_rules
  have ok_is_rules' : FnOk P w K mg base (L2.CX P w) 3 (He.ga K "is_rules") fd_is_rules ["value"] (spF ⟨P, w, K⟩ 1 fn_is_rules) := ok_is_rules Z F_is_rules
  have b_is_rules : Binds K fd_is_rules ["value"] [] := F_is_rules.bindsN fun _ _ _ _ _ _ us hl => match us, hl with | [_], _ => rfl
  have nd := sc_need_rules.nd
  exact fn_ok F sc_need_rules fun cdv A outer s H E hr => (sss_one (ss_if (st_not (st_val (se_call ok_is_rules' runF_len (hr.mono (by decide)) rfl (m_is_rules Z) F_is_rules.kp b_is_rules (takes_of rfl rfl rfl rfl) (sa_cons (se_esh (se_var (pv 0))) sa_nil)))) (sss_one (ss_raise rfl (takes_of rfl rfl rfl rfl) (x_InvalidRules Z) (m_InvalidRules Z) rfl)) sss_nil))
/-! ### formatted -/
def g_formatted : SF := sSeq (sUnp [1, 2, 3] (sVar 0)) (sRet (sBin oAdd (sBin oAdd (sBin oAdd (sBin oAdd (sCallB oStr1 [sVar 2]) (sC (.str [32]))) (sCallB oStr1 [sVar 3])) (sC (.str [58]))) (sMeth "str" oJoin (sC (.str [])) [sLC (.one 4) [4] (sAny (sVar 1)) (sYes) (sBin oAdd (sC (.str [32])) (sVar 4))])))
def fn_formatted : Fn := runF 1 5 g_formatted
theorem sc_formatted : FnScope ["rules", "patterns", "left", "right", "pattern"] ["rules"] (defScope s_formatted) := ⟨rfl, rfl, rfl, by decide +kernel, rfl, by decide +kernel, by decide +kernel⟩
theorem ok_formatted {P : Program} {w : World} {K : PySem.W.Frag} {mg : Str → Option Value} {base : Heap} (Z : Facts K mg) {fd : FuncData} (F : FnP K "formatted" s_formatted (He.ga K "formatted") fd) : FnOk P w K mg base (L2.CX P w) 1 (He.ga K "formatted") fd ["rules"] (spF ⟨P, w, K⟩ 1 fn_formatted) := by
  have nd := sc_formatted.nd
  exact fn_ok F sc_formatted fun cdv A outer s H E hr => (sss_cons (ss_unp rfl (pgs_cons (pg_name (i := 1) nd rfl (by first | exact .inl rfl | exact .inr rfl)) (pgs_cons (pg_name (i := 2) nd rfl (by first | exact .inl rfl | exact .inr rfl)) (pgs_cons (pg_name (i := 3) nd rfl (by first | exact .inl rfl | exact .inr rfl)) pgs_nil))) (se_var (pv 0))) (sss_one (ss_ret (se_bin ho_add os_add (se_bin ho_add os_add (se_bin ho_add os_add (se_bin ho_add os_add (se_callTy call_str_int os_str1 rfl (m_str Z) b_str (sa_cons (se_var (pv 2)) sa_nil)) (se_str (by decide +kernel))) (se_callTy call_str_int os_str1 rfl (m_str Z) b_str (sa_cons (se_var (pv 3)) sa_nil))) (se_str (by decide +kernel))) (se_bm PySem.F.plainAttrs_str PySem.F.slot_str_join PySem.F.type_str_join mt_join os_join (se_str (by decide +kernel)) (sa_cons (se_lc rfl nd (si_any (se_var (pv 1))) (blkOk_by (own := [("pattern", 4)]) (by kernel_rfl)) (fun _ _ _ _ _ => (pg_name (i := 4) nd rfl (by first | exact .inl rfl | exact .inr rfl))) (fun _ _ _ _ _ => sts_nil) (fun _ _ _ _ _ => (se_bin ho_add os_add (se_str (by decide +kernel)) (se_var (pv 4)))) rfl (by decide)) sa_nil))))))
/-! ### format_rules -/
def g_format_rules : SF := sSeq (sExpr (sCall fn_need_rules [esh (sVar 0)])) (sRet (sCall fn_formatted [esh (sVar 0)]))
def fn_format_rules : Fn := runF 1 1 g_format_rules
theorem sc_format_rules : FnScope ["rules"] ["rules"] (defScope s_format_rules) := ⟨rfl, rfl, rfl, by decide +kernel, rfl, by decide +kernel, by decide +kernel⟩
theorem ok_format_rules {P : Program} {w : World} {K : PySem.W.Frag} {mg : Str → Option Value} {base : Heap} (Z : Facts K mg) {fd : FuncData} (F : FnP K "format_rules" s_format_rules (He.ga K "format_rules") fd) : FnOk P w K mg base (L2.CX P w) 5 (He.ga K "format_rules") fd ["rules"] (spF ⟨P, w, K⟩ 1 fn_format_rules) := by
  obtain ⟨fd_need_rules, F_need_rules⟩ := Z.c.def_ 4 (d := d_need_rules) rfl
  have F_need_rules : FnP K "need_rules" s_need_rules (He.ga K "need_rules") fd_need_rules := F_need_rules
  have ok_need_rules' : FnOk P w K mg base (L2.CX P w) 4 (He.ga K "need_rules") fd_need_rules ["value"] (spF ⟨P, w, K⟩ 1 fn_need_rules) := ok_need_rules Z F_need_rules
  have b_need_rules : Binds K fd_need_rules ["value"] [] := F_need_rules.bindsN fun _ _ _ _ _ _ us hl => match us, hl with | [_], _ => rfl
  obtain ⟨fd_formatted, F_formatted⟩ := Z.c.def_ 5 (d := d_formatted) rfl
  have F_formatted : FnP K "formatted" s_formatted (He.ga K "formatted") fd_formatted := F_formatted
  have ok_formatted' : FnOk P w K mg base (L2.CX P w) 1 (He.ga K "formatted") fd_formatted ["rules"] (spF ⟨P, w, K⟩ 1 fn_formatted) := ok_formatted Z F_formatted
  have b_formatted : Binds K fd_formatted ["rules"] [] := F_formatted.bindsN fun _ _ _ _ _ _ us hl => match us, hl with | [_], _ => rfl
  have nd := sc_format_rules.nd
  exact fn_ok F sc_format_rules fun cdv A outer s H E hr => (sss_cons (ss_expr (se_call ok_need_rules' runF_len (hr.mono (by decide)) rfl (m_need_rules Z) F_need_rules.kp b_need_rules (takes_of rfl rfl rfl rfl) (sa_cons (se_esh (se_var (pv 0))) sa_nil))) (sss_one (ss_ret (se_call ok_formatted' runF_len (hr.mono (by decide)) rfl (m_formatted Z) F_formatted.kp b_formatted (takes_of rfl rfl rfl rfl) (sa_cons (se_esh (se_var (pv 0))) sa_nil)))))
/-! ### parse_rules -/
def g_parse_rules : SF := sSeq (sIfS (sOr (sNot (sCallB oIsi [sVar 0, sC (.ty "str")])) (sOr (sBin oLt (sCallB oLen [sVar 0]) (sC (.int 4))) (sOr (sBin oNotIn (sBin oIx (sVar 0) (sC (.int 0))) (sC (.str [49, 50, 51, 52]))) (sBin oNotIn (sBin oIx (sVar 0) (sC (.int 2))) (sC (.str [49, 50, 51, 52])))))) (sRaise "InvalidFormat") (sNil)) (sSeq (sAsg 1 (sIf (sBin oGt (sCallB oLen [sVar 0]) (sC (.int 5))) (sMeth "str" oSplit (sSl oSl (sVar 0) (some (sC (.int 5))) none) [sC (.str [32])]) (sLst []))) (sSeq (sAsg 2 (sTup [sCallB oTupleOf [sVar 1], sCallB oInt [sBin oIx (sVar 0) (sC (.int 0))], sCallB oInt [sBin oIx (sVar 0) (sC (.int 2))]])) (sSeq (sIfS (sOr (sNot (sCall fn_is_rules [esh (sVar 2)])) (sBin oNe (sCall fn_formatted [esh (sVar 2)]) (sVar 0))) (sRaise "InvalidFormat") (sNil)) (sRet (sVar 2)))))
def fn_parse_rules : Fn := runF 1 3 g_parse_rules
theorem sc_parse_rules : FnScope ["text", "patterns", "rules"] ["text"] (defScope s_parse_rules) := ⟨rfl, rfl, rfl, by decide +kernel, rfl, by decide +kernel, by decide +kernel⟩
theorem ok_parse_rules {P : Program} {w : World} {K : PySem.W.Frag} {mg : Str → Option Value} {base : Heap} (Z : Facts K mg) {fd : FuncData} (F : FnP K "parse_rules" s_parse_rules (He.ga K "parse_rules") fd) : FnOk P w K mg base (L2.CX P w) 4 (He.ga K "parse_rules") fd ["text"] (spF ⟨P, w, K⟩ 1 fn_parse_rules) := by
  obtain ⟨fd_is_rules, F_is_rules⟩ := Z.c.def_ 3 (d := d_is_rules) rfl
  have F_is_rules : FnP K "is_rules" s_is_rules (He.ga K "is_rules") fd_is_rules := F_is_rules
  have ok_is_rules' : FnOk P w K mg base (L2.CX P w) 3 (He.ga K "is_rules") fd_is_rules ["value"] (spF ⟨P, w, K⟩ 1 fn_is_rules) := ok_is_rules Z F_is_rules
  have b_is_rules : Binds K fd_is_rules ["value"] [] := F_is_rules.bindsN fun _ _ _ _ _ _ us hl => match us, hl with | [_], _ => rfl
  obtain ⟨fd_formatted, F_formatted⟩ := Z.c.def_ 5 (d := d_formatted) rfl
  have F_formatted : FnP K "formatted" s_formatted (He.ga K "formatted") fd_formatted := F_formatted
  have ok_formatted' : FnOk P w K mg base (L2.CX P w) 1 (He.ga K "formatted") fd_formatted ["rules"] (spF ⟨P, w, K⟩ 1 fn_formatted) := ok_formatted Z F_formatted
  have b_formatted : Binds K fd_formatted ["rules"] [] := F_formatted.bindsN fun _ _ _ _ _ _ us hl => match us, hl with | [_], _ => rfl
  have nd := sc_parse_rules.nd
  exact fn_ok F sc_parse_rules fun cdv A outer s H E hr => (sss_cons (ss_if (st_w (sw_or (st_not (st_val (se_callB call_isi os_isi rfl (m_isinstance Z) b_isi (sa_cons (se_var (pv 0)) (sa_cons (se_ty rfl (m_str Z) b_str) sa_nil))))) (sw_or (st_cmp ho_lt os_lt (se_callB call_len os_len rfl (m_len Z) b_len (sa_cons (se_var (pv 0)) sa_nil)) se_int (nomark _)) (sw_or (st_cmp (ho_notin (u65 hr)) os_notin (se_ix ho_ix os_ix (se_var (pv 0)) se_int (fun _ _ => rfl)) (se_str (by decide +kernel)) (by with_unfolding_all rfl)) (sw_one' (st_cmp (ho_notin (u65 hr)) os_notin (se_ix ho_ix os_ix (se_var (pv 0)) se_int (fun _ _ => rfl)) (se_str (by decide +kernel)) (by with_unfolding_all rfl))))))) (sss_one (ss_raise rfl (takes_of rfl rfl rfl rfl) (x_InvalidFormat Z) (m_InvalidFormat Z) rfl)) sss_nil) (sss_cons (ss_asg (i := 1) nd rfl (by first | exact .inl rfl | exact .inr rfl) (se_if (st_cmp ho_gt os_gt (se_callB call_len os_len rfl (m_len Z) b_len (sa_cons (se_var (pv 0)) sa_nil)) se_int (nomark _)) (se_bm PySem.F.plainAttrs_str PySem.F.slot_str_split PySem.F.type_str_split mt_split os_split (se_sl ho_sl os_sl (se_var (pv 0)) (so_some se_int) so_none) (sa_cons (se_str (by decide +kernel)) sa_nil)) (se_lst sa_nil))) (sss_cons (ss_asg (i := 2) nd rfl (by first | exact .inl rfl | exact .inr rfl) (se_tup (sa_cons (se_esh (se_callTy call_tuple_of os_tupleOf rfl (m_tuple Z) b_tuple (sa_cons (se_var (pv 1)) sa_nil))) (sa_cons (se_esh (se_callTy call_int_str os_int rfl (m_int Z) b_int (sa_cons (se_ix ho_ix os_ix (se_var (pv 0)) se_int (fun _ _ => rfl)) sa_nil))) (sa_cons (se_esh (se_callTy call_int_str os_int rfl (m_int Z) b_int (sa_cons (se_ix ho_ix os_ix (se_var (pv 0)) se_int (fun _ _ => rfl)) sa_nil))) sa_nil))))) (sss_cons (ss_if (st_w (sw_or (st_not (st_val (se_call ok_is_rules' runF_len (hr.mono (by decide)) rfl (m_is_rules Z) F_is_rules.kp b_is_rules (takes_of rfl rfl rfl rfl) (sa_cons (se_esh (se_var (pv 2))) sa_nil)))) (sw_one' (st_cmp (ho_ne (u64 hr)) os_ne (se_call ok_formatted' runF_len (hr.mono (by decide)) rfl (m_formatted Z) F_formatted.kp b_formatted (takes_of rfl rfl rfl rfl) (sa_cons (se_esh (se_var (pv 2))) sa_nil)) (se_var (pv 0)) (nomark _))))) (sss_one (ss_raise rfl (takes_of rfl rfl rfl rfl) (x_InvalidFormat Z) (m_InvalidFormat Z) rfl)) sss_nil) (sss_one (ss_ret (se_var (pv 2))))))))
/-! ### _law_ask -/
def g__law_ask : SF := sTryW 2 CS (sRet (sCallV [("format_rules", fn_format_rules), ("parse_rules", fn_parse_rules)] (sBin oIx (sLst [sC (.glo "format_rules"), sC (.glo "parse_rules")]) (sVar 0)) [esh (sVar 1)]))
def fn__law_ask : Fn := runF 2 3 g__law_ask
theorem sc__law_ask : FnScope ["_law_what", "_law_value", "_law_error"] ["_law_what", "_law_value"] (defScope s__law_ask) := ⟨rfl, rfl, rfl, by decide +kernel, rfl, by decide +kernel, by decide +kernel⟩
theorem ok__law_ask {P : Program} {w : World} {K : PySem.W.Frag} {mg : Str → Option Value} {base : Heap} (Z : Facts K mg) {fd : FuncData} (F : FnP K "_law_ask" s__law_ask (He.ga K "_law_ask") fd) : FnOk P w K mg base (L2.CX P w) 7 (He.ga K "_law_ask") fd ["_law_what", "_law_value"] (spF ⟨P, w, K⟩ 2 fn__law_ask) := by
  obtain ⟨fd_format_rules, F_format_rules⟩ := Z.c.def_ 6 (d := d_format_rules) rfl
  have F_format_rules : FnP K "format_rules" s_format_rules (He.ga K "format_rules") fd_format_rules := F_format_rules
  have ok_format_rules' : FnOk P w K mg base (L2.CX P w) 5 (He.ga K "format_rules") fd_format_rules ["rules"] (spF ⟨P, w, K⟩ 1 fn_format_rules) := ok_format_rules Z F_format_rules
  have b_format_rules : Binds K fd_format_rules ["rules"] [] := F_format_rules.bindsN fun _ _ _ _ _ _ us hl => match us, hl with | [_], _ => rfl
  obtain ⟨fd_parse_rules, F_parse_rules⟩ := Z.c.def_ 7 (d := d_parse_rules) rfl
  have F_parse_rules : FnP K "parse_rules" s_parse_rules (He.ga K "parse_rules") fd_parse_rules := F_parse_rules
  have ok_parse_rules' : FnOk P w K mg base (L2.CX P w) 4 (He.ga K "parse_rules") fd_parse_rules ["text"] (spF ⟨P, w, K⟩ 1 fn_parse_rules) := ok_parse_rules Z F_parse_rules
  have b_parse_rules : Binds K fd_parse_rules ["text"] [] := F_parse_rules.bindsN fun _ _ _ _ _ _ us hl => match us, hl with | [_], _ => rfl
  obtain ⟨fd__law_which, F__law_which⟩ := Z.c.def_ 13 (d := d__law_which) rfl
  have F__law_which : FnP K "_law_which" s__law_which (He.ga K "_law_which") fd__law_which := F__law_which
  have b__law_which : Binds K fd__law_which ["_law_error"] [] := F__law_which.bindsN fun _ _ _ _ _ _ us hl => match us, hl with | [_], _ => rfl
  have nd := sc__law_ask.nd
  exact fn_ok F sc__law_ask fun cdv A outer s H E hr => (sss_one (ss_tryW (cs := CS) rfl rfl nd rfl rfl ⟨rfl, by decide, .inl (m_HyphenError Z)⟩ (takes_of rfl rfl rfl rfl) (fun c_ k_ hk_ => (exc_all Z.e (posI_mem hk_).1).2.1) (fun W_ pn_ xe_ tk_ => (sss_one (ss_ret (se_callV (T := [("format_rules", fn_format_rules), ("parse_rules", fn_parse_rules)]) (cals_cons (p := ("format_rules", fn_format_rules)) ok_format_rules' runF_len (hr.mono (by decide)) F_format_rules.kp b_format_rules (cals_cons (p := ("parse_rules", fn_parse_rules)) ok_parse_rules' runF_len (hr.mono (by decide)) F_parse_rules.kp b_parse_rules cals_nil)) (se_ix ho_ix os_ix (se_lst (sa_cons (se_esh (se_gref rfl (m_format_rules Z))) (sa_cons (se_esh (se_gref rfl (m_parse_rules Z))) sa_nil))) (se_var (pv 0)) (fun _ _ => rfl)) tk_ (sa_cons (se_esh (se_var (pv 1))) sa_nil))))) (fun a_ oe_ cls_ d_ pn_ hz_ hf_ => (pss_suiteW (k := 0) F__law_which sc__law_which rfl (by decide) (L2H.roomH_of (hr.mono (by decide))) rfl (m__law_which Z) b__law_which (pv 2) (fun c_ j_ hj_ ec_ ed_ A_ outer_ cdv_ s_ H_ hr_ => by subst ec_ ed_; exact wh__law_which Z hj_ hz_ hf_ hr_)))))
/-! ### law -/
def g_law : SF := sSeq (sAsg 1 (sLst [sC (.int 0), sC (.int 0)])) (sSeq (sAsg 2 (sCall fn__law_rules [esh (sVar 0), sVar 1, esh (sC (.int 5)), esh (sC (.str [97, 98]))])) (sSeq (sAsg 3 (sCall fn__law_text [esh (sVar 2)])) (sSeq (sIfS (sOr (sBin oNe (sCall fn__law_ask [esh (sC (.int 0)), esh (sVar 2)]) (sVar 3)) (sBin oNe (sCall fn__law_ask [esh (sC (.int 1)), esh (sVar 3)]) (sVar 2))) (sRet (sC (.bl false))) (sNil)) (sSeq (sFor (.one 4) (sRange1 (sC (.int 8))) (sSeq (sAsg 5 (sCall fn__law_draw [esh (sVar 0), sVar 1, esh (sBin oAdd (sCallB oLen [sVar 3]) (sC (.int 1)))])) (sSeq (sAsg 6 (sCall fn__law_pick [esh (sVar 0), sVar 1, esh (sLst [sC (.str []), sC (.str [97]), sC (.str [32]), sC (.str [49]), sC (.str [52]), sC (.str [46]), sC (.str [58]), sC (.str [53]), sC (.str [120]), sC (.str [45])])])) (sSeq (sAsg 7 (sBin oAdd (sBin oAdd (sSl oSl (sVar 3) none (some (sVar 5))) (sVar 6)) (sSl oSl (sVar 3) (some (sBin oAdd (sVar 5) (sCall fn__law_draw [esh (sVar 0), sVar 1, esh (sC (.int 2))]))) none))) (sSeq (sAsg 8 (sCall fn__law_ask [esh (sC (.int 1)), esh (sVar 7)])) (sIfS (sAnd (sBin oNe (sVar 8) (sTup [sC (.str [114, 97, 105, 115, 101, 100]), sC (.int 8)])) (sOr (sBin oIsNot (sCall fn_is_rules [esh (sVar 8)]) (sC (.bl true))) (sBin oNe (sCall fn__law_text [esh (sVar 8)]) (sVar 7)))) (sRet (sC (.bl false))) (sNil))))))) (sSeq (sAsg 9 (sLst [sC (.str []), sC (.str [49]), sC (.str [49, 32, 49]), sC (.str [49, 49, 58]), sC (.str [49, 32, 49, 58, 32]), sC (.str [49, 32, 49, 32, 58]), sC (.str [49, 32, 53, 58]), sC (.str [48, 32, 49, 58]), sC (.str [32, 49, 32, 49, 58]), sC (.str [49, 32, 49, 58, 49, 98]), sC (.str [49, 32, 49, 58, 32, 32, 49, 98])])) (sSeq (sExpr (sExtend 9 (sLst [sC (.str [49, 32, 49, 58, 32, 49, 98, 32]), sC (.str [49, 32, 49, 58, 32, 49, 98, 32, 98, 49]), sC (.str [49, 32, 49, 58, 32, 98]), sC .non, sC (.int 5), sLst [sC (.str [49, 32, 49, 58])]]))) (sSeq (sExpr (sExtend 9 (sLst [sC (.str [49, 32, 49, 58, 32, 49, 66]), sC (.str [49, 32, 32, 49, 58, 32, 49, 98]), sC (.str [48, 49, 32, 49, 58, 32, 49, 98]), sC (.str [49, 32, 49, 58, 32, 49, 98, 10]), sC (.str [49, 32, 49, 59, 32, 49, 98])]))) (sSeq (sExpr (sExtend 9 (sLst [sBin oAdd (sC (.str [49, 32, 49, 58, 32])) (sMeth "str" oJoin (sC (.str [32])) [sLC (.one 10) [10] (sAny (sC (.str [97, 98, 99, 100, 101, 102, 103]))) (sYes) (sBin oAdd (sC (.str [49])) (sVar 10))])]))) (sSeq (sIfS (sBin oNe (sLC (.one 11) [11] (sAny (sVar 9)) (sYes) (sCall fn__law_ask [esh (sC (.int 1)), esh (sVar 11)])) (sBin oMul (sLst [sTup [sC (.str [114, 97, 105, 115, 101, 100]), sC (.int 8)]]) (sCallB oLen [sVar 9]))) (sRet (sC (.bl false))) (sNil)) (sSeq (sIfS (sOr (sBin oNe (sCall fn__law_ask [esh (sC (.int 1)), esh (sC (.str [52, 32, 52, 58]))]) (sTup [sTup [], sC (.int 4), sC (.int 4)])) (sBin oNe (sCall fn__law_ask [esh (sC (.int 1)), esh (sC (.str [49, 32, 50, 58, 32, 46, 49, 97, 46, 32, 50, 98, 99, 51]))]) (sTup [sTup [sC (.str [46, 49, 97, 46]), sC (.str [50, 98, 99, 51])], sC (.int 1), sC (.int 2)]))) (sRet (sC (.bl false))) (sNil)) (sRet (sBin oEq (sLC (.one 11) [11] (sAny (sTup [sC .non, sTup [], sC (.str [49, 32, 49, 58]), sTup [sLst [sC (.str [49, 98])], sC (.int 1), sC (.int 1)], sTup [sTup [sC (.str [98])], sC (.int 1), sC (.int 1)]])) (sYes) (sCall fn__law_ask [esh (sC (.int 0)), esh (sVar 11)])) (sBin oMul (sLst [sTup [sC (.str [114, 97, 105, 115, 101, 100]), sC (.int 0)]]) (sC (.int 5)))))))))))))))
def fn_law : Fn := runF 1 12 g_law
theorem sc_law : FnScope ["_law_script", "_law_town", "_law_rules_here", "_law_text_here", "_law_k", "_law_at", "_law_char", "_law_bent", "_law_told", "_law_bad", "_law_letter", "_law_one"] ["_law_script"] (defScope s_law) := ⟨rfl, rfl, rfl, by decide +kernel, rfl, by decide +kernel, by decide +kernel⟩
theorem ok_law {P : Program} {w : World} {K : PySem.W.Frag} {mg : Str → Option Value} {base : Heap} (Z : Facts K mg) {fd : FuncData} (F : FnP K "law" s_law (He.ga K "law") fd) : FnOk P w K mg base (L2.CX P w) 8 (He.ga K "law") fd ["_law_script"] (spF ⟨P, w, K⟩ 1 fn_law) := by
  obtain ⟨fd__law_rules, F__law_rules⟩ := Z.c.def_ 12 (d := d__law_rules) rfl
  have F__law_rules : FnP K "_law_rules" s__law_rules (He.ga K "_law_rules") fd__law_rules := F__law_rules
  have ok__law_rules' : FnOk P w K mg base (L2.CX P w) 4 (He.ga K "_law_rules") fd__law_rules ["_law_script", "_law_town", "_law_most", "_law_letters"] (spF ⟨P, w, K⟩ 4 fn__law_rules) := ok__law_rules Z F__law_rules
  have b__law_rules : Binds K fd__law_rules ["_law_script", "_law_town", "_law_most", "_law_letters"] [] := F__law_rules.bindsN fun _ _ _ _ _ _ us hl => match us, hl with | [_, _, _, _], _ => rfl
  obtain ⟨fd__law_text, F__law_text⟩ := Z.c.def_ 14 (d := d__law_text) rfl
  have F__law_text : FnP K "_law_text" s__law_text (He.ga K "_law_text") fd__law_text := F__law_text
  have ok__law_text' : FnOk P w K mg base (L2.CX P w) 1 (He.ga K "_law_text") fd__law_text ["_law_rules_here"] (spF ⟨P, w, K⟩ 1 fn__law_text) := ok__law_text Z F__law_text
  have b__law_text : Binds K fd__law_text ["_law_rules_here"] [] := F__law_text.bindsN fun _ _ _ _ _ _ us hl => match us, hl with | [_], _ => rfl
  obtain ⟨fd__law_ask, F__law_ask⟩ := Z.c.def_ 15 (d := d__law_ask) rfl
  have F__law_ask : FnP K "_law_ask" s__law_ask (He.ga K "_law_ask") fd__law_ask := F__law_ask
  have ok__law_ask' : FnOk P w K mg base (L2.CX P w) 7 (He.ga K "_law_ask") fd__law_ask ["_law_what", "_law_value"] (spF ⟨P, w, K⟩ 2 fn__law_ask) := ok__law_ask Z F__law_ask
  have b__law_ask : Binds K fd__law_ask ["_law_what", "_law_value"] [] := F__law_ask.bindsN fun _ _ _ _ _ _ us hl => match us, hl with | [_, _], _ => rfl
  obtain ⟨fd__law_draw, F__law_draw⟩ := Z.c.def_ 8 (d := d__law_draw) rfl
  have F__law_draw : FnP K "_law_draw" s__law_draw (He.ga K "_law_draw") fd__law_draw := F__law_draw
  have ok__law_draw' : FnOk P w K mg base (L2.CX P w) 1 (He.ga K "_law_draw") fd__law_draw ["_law_script", "_law_town", "_law_many"] (spF ⟨P, w, K⟩ 3 fn__law_draw) := ok__law_draw Z F__law_draw
  have b__law_draw : Binds K fd__law_draw ["_law_script", "_law_town", "_law_many"] [] := F__law_draw.bindsN fun _ _ _ _ _ _ us hl => match us, hl with | [_, _, _], _ => rfl
  obtain ⟨fd__law_pick, F__law_pick⟩ := Z.c.def_ 9 (d := d__law_pick) rfl
  have F__law_pick : FnP K "_law_pick" s__law_pick (He.ga K "_law_pick") fd__law_pick := F__law_pick
  have ok__law_pick' : FnOk P w K mg base (L2.CX P w) 2 (He.ga K "_law_pick") fd__law_pick ["_law_script", "_law_town", "_law_some"] (spF ⟨P, w, K⟩ 3 fn__law_pick) := ok__law_pick Z F__law_pick
  have b__law_pick : Binds K fd__law_pick ["_law_script", "_law_town", "_law_some"] [] := F__law_pick.bindsN fun _ _ _ _ _ _ us hl => match us, hl with | [_, _, _], _ => rfl
  obtain ⟨fd_is_rules, F_is_rules⟩ := Z.c.def_ 3 (d := d_is_rules) rfl
  have F_is_rules : FnP K "is_rules" s_is_rules (He.ga K "is_rules") fd_is_rules := F_is_rules
  have ok_is_rules' : FnOk P w K mg base (L2.CX P w) 3 (He.ga K "is_rules") fd_is_rules ["value"] (spF ⟨P, w, K⟩ 1 fn_is_rules) := ok_is_rules Z F_is_rules
  have b_is_rules : Binds K fd_is_rules ["value"] [] := F_is_rules.bindsN fun _ _ _ _ _ _ us hl => match us, hl with | [_], _ => rfl
  have nd := sc_law.nd
  exact fn_ok F sc_law fun cdv A outer s H E hr => (sss_cons (ss_asg (i := 1) nd rfl (by first | exact .inl rfl | exact .inr rfl) (se_lst (sa_cons (se_esh se_int) (sa_cons (se_esh se_int) sa_nil)))) (sss_cons (ss_asg (i := 2) nd rfl (by first | exact .inl rfl | exact .inr rfl) (se_call ok__law_rules' runF_len (hr.mono (by decide)) rfl (m__law_rules Z) F__law_rules.kp b__law_rules (takes_of rfl rfl rfl rfl) (sa_cons (se_esh (se_var (pv 0))) (sa_cons (se_var (pv 1)) (sa_cons (se_esh se_int) (sa_cons (se_esh (se_str (by decide +kernel))) sa_nil)))))) (sss_cons (ss_asg (i := 3) nd rfl (by first | exact .inl rfl | exact .inr rfl) (se_call ok__law_text' runF_len (hr.mono (by decide)) rfl (m__law_text Z) F__law_text.kp b__law_text (takes_of rfl rfl rfl rfl) (sa_cons (se_esh (se_var (pv 2))) sa_nil))) (sss_cons (ss_if (st_w (sw_or (st_cmp (ho_ne (u64 hr)) os_ne (se_call ok__law_ask' runF_len (hr.mono (by decide)) rfl (m__law_ask Z) F__law_ask.kp b__law_ask (takes_of rfl rfl rfl rfl) (sa_cons (se_esh se_int) (sa_cons (se_esh (se_var (pv 2))) sa_nil))) (se_var (pv 3)) (nomark _)) (sw_one' (st_cmp (ho_ne (u64 hr)) os_ne (se_call ok__law_ask' runF_len (hr.mono (by decide)) rfl (m__law_ask Z) F__law_ask.kp b__law_ask (takes_of rfl rfl rfl rfl) (sa_cons (se_esh se_int) (sa_cons (se_esh (se_var (pv 3))) sa_nil))) (se_var (pv 2)) (nomark _))))) (sss_one (ss_ret se_bl)) sss_nil) (sss_cons (ss_for (t := (.one 4)) (passes_of rfl) rfl (si_range1 rfl (m_range Z) (sa_cons se_int sa_nil)) (pg_name (i := 4) nd rfl (by first | exact .inl rfl | exact .inr rfl)) (sss_cons (ss_asg (i := 5) nd rfl (by first | exact .inl rfl | exact .inr rfl) (se_call ok__law_draw' runF_len (hr.mono (by decide)) rfl (m__law_draw Z) F__law_draw.kp b__law_draw (takes_of rfl rfl rfl rfl) (sa_cons (se_esh (se_var (pv 0))) (sa_cons (se_var (pv 1)) (sa_cons (se_esh (se_bin ho_add os_add (se_callB call_len os_len rfl (m_len Z) b_len (sa_cons (se_var (pv 3)) sa_nil)) se_int)) sa_nil))))) (sss_cons (ss_asg (i := 6) nd rfl (by first | exact .inl rfl | exact .inr rfl) (se_call ok__law_pick' runF_len (hr.mono (by decide)) rfl (m__law_pick Z) F__law_pick.kp b__law_pick (takes_of rfl rfl rfl rfl) (sa_cons (se_esh (se_var (pv 0))) (sa_cons (se_var (pv 1)) (sa_cons (se_esh (se_lst (sa_cons (se_esh (se_str (by decide +kernel))) (sa_cons (se_esh (se_str (by decide +kernel))) (sa_cons (se_esh (se_str (by decide +kernel))) (sa_cons (se_esh (se_str (by decide +kernel))) (sa_cons (se_esh (se_str (by decide +kernel))) (sa_cons (se_esh (se_str (by decide +kernel))) (sa_cons (se_esh (se_str (by decide +kernel))) (sa_cons (se_esh (se_str (by decide +kernel))) (sa_cons (se_esh (se_str (by decide +kernel))) (sa_cons (se_esh (se_str (by decide +kernel))) sa_nil)))))))))))) sa_nil))))) (sss_cons (ss_asg (i := 7) nd rfl (by first | exact .inl rfl | exact .inr rfl) (se_bin ho_add os_add (se_bin ho_add os_add (se_sl ho_sl os_sl (se_var (pv 3)) so_none (so_some (se_var (pv 5)))) (se_var (pv 6))) (se_sl ho_sl os_sl (se_var (pv 3)) (so_some (se_bin ho_add os_add (se_var (pv 5)) (se_call ok__law_draw' runF_len (hr.mono (by decide)) rfl (m__law_draw Z) F__law_draw.kp b__law_draw (takes_of rfl rfl rfl rfl) (sa_cons (se_esh (se_var (pv 0))) (sa_cons (se_var (pv 1)) (sa_cons (se_esh se_int) sa_nil)))))) so_none))) (sss_cons (ss_asg (i := 8) nd rfl (by first | exact .inl rfl | exact .inr rfl) (se_call ok__law_ask' runF_len (hr.mono (by decide)) rfl (m__law_ask Z) F__law_ask.kp b__law_ask (takes_of rfl rfl rfl rfl) (sa_cons (se_esh se_int) (sa_cons (se_esh (se_var (pv 7))) sa_nil)))) (sss_one (ss_if (st_w (sw_and (st_cmp (ho_ne (u64 hr)) os_ne (se_var (pv 8)) (se_tup (sa_cons (se_esh (se_str (by decide +kernel))) (sa_cons (se_esh se_int) sa_nil))) (nomark _)) (sw_one (st_w (sw_or (st_cmp ho_isnot os_isnot (se_call ok_is_rules' runF_len (hr.mono (by decide)) rfl (m_is_rules Z) F_is_rules.kp b_is_rules (takes_of rfl rfl rfl rfl) (sa_cons (se_esh (se_var (pv 8))) sa_nil)) se_bl (nomark _)) (sw_one' (st_cmp (ho_ne (u64 hr)) os_ne (se_call ok__law_text' runF_len (hr.mono (by decide)) rfl (m__law_text Z) F__law_text.kp b__law_text (takes_of rfl rfl rfl rfl) (sa_cons (se_esh (se_var (pv 8))) sa_nil)) (se_var (pv 7)) (nomark _)))))))) (sss_one (ss_ret se_bl)) sss_nil))))))) (sss_cons (ss_asg (i := 9) nd rfl (by first | exact .inl rfl | exact .inr rfl) (se_lst (sa_cons (se_esh (se_str (by decide +kernel))) (sa_cons (se_esh (se_str (by decide +kernel))) (sa_cons (se_esh (se_str (by decide +kernel))) (sa_cons (se_esh (se_str (by decide +kernel))) (sa_cons (se_esh (se_str (by decide +kernel))) (sa_cons (se_esh (se_str (by decide +kernel))) (sa_cons (se_esh (se_str (by decide +kernel))) (sa_cons (se_esh (se_str (by decide +kernel))) (sa_cons (se_esh (se_str (by decide +kernel))) (sa_cons (se_esh (se_str (by decide +kernel))) (sa_cons (se_esh (se_str (by decide +kernel))) sa_nil))))))))))))) (sss_cons (ss_expr (se_extend (pv 9) (sa_cons (se_lst (sa_cons (se_esh (se_str (by decide +kernel))) (sa_cons (se_esh (se_str (by decide +kernel))) (sa_cons (se_esh (se_str (by decide +kernel))) (sa_cons (se_esh se_non) (sa_cons (se_esh se_int) (sa_cons (se_esh (se_lst (sa_cons (se_esh (se_str (by decide +kernel))) sa_nil))) sa_nil))))))) sa_nil))) (sss_cons (ss_expr (se_extend (pv 9) (sa_cons (se_lst (sa_cons (se_esh (se_str (by decide +kernel))) (sa_cons (se_esh (se_str (by decide +kernel))) (sa_cons (se_esh (se_str (by decide +kernel))) (sa_cons (se_esh (se_str (by decide +kernel))) (sa_cons (se_esh (se_str (by decide +kernel))) sa_nil)))))) sa_nil))) (sss_cons (ss_expr (se_extend (pv 9) (sa_cons (se_lst (sa_cons (se_esh (se_bin ho_add os_add (se_str (by decide +kernel)) (se_bm PySem.F.plainAttrs_str PySem.F.slot_str_join PySem.F.type_str_join mt_join os_join (se_str (by decide +kernel)) (sa_cons (se_lc rfl nd (si_any (se_str (by decide +kernel))) (blkOk_by (own := [("_law_letter", 10)]) (by kernel_rfl)) (fun _ _ _ _ _ => (pg_name (i := 10) nd rfl (by first | exact .inl rfl | exact .inr rfl))) (fun _ _ _ _ _ => sts_nil) (fun _ _ _ _ _ => (se_bin ho_add os_add (se_str (by decide +kernel)) (se_var (pv 10)))) rfl (by decide)) sa_nil)))) sa_nil)) sa_nil))) (sss_cons (ss_if (st_cmp (ho_ne (u64 hr)) os_ne (se_lc rfl nd (si_any (se_var (pv 9))) (blkOk_by (own := [("_law_one", 11)]) (by kernel_rfl)) (fun _ _ _ _ _ => (pg_name (i := 11) nd rfl (by first | exact .inl rfl | exact .inr rfl))) (fun _ _ _ _ _ => sts_nil) (fun _ _ _ _ _ => (se_call ok__law_ask' runF_len (hr.mono (by decide)) rfl (m__law_ask Z) F__law_ask.kp b__law_ask takes0 (sa_cons (se_esh se_int) (sa_cons (se_esh (se_var (pv 11))) sa_nil)))) rfl (by decide)) (se_bin ho_mul os_mul (se_lst (sa_cons (se_esh (se_tup (sa_cons (se_esh (se_str (by decide +kernel))) (sa_cons (se_esh se_int) sa_nil)))) sa_nil)) (se_callB call_len os_len rfl (m_len Z) b_len (sa_cons (se_var (pv 9)) sa_nil))) (nomark _)) (sss_one (ss_ret se_bl)) sss_nil) (sss_cons (ss_if (st_w (sw_or (st_cmp (ho_ne (u64 hr)) os_ne (se_call ok__law_ask' runF_len (hr.mono (by decide)) rfl (m__law_ask Z) F__law_ask.kp b__law_ask (takes_of rfl rfl rfl rfl) (sa_cons (se_esh se_int) (sa_cons (se_esh (se_str (by decide +kernel))) sa_nil))) (se_tup (sa_cons (se_esh (se_tup sa_nil)) (sa_cons (se_esh se_int) (sa_cons (se_esh se_int) sa_nil)))) (nomark _)) (sw_one' (st_cmp (ho_ne (u64 hr)) os_ne (se_call ok__law_ask' runF_len (hr.mono (by decide)) rfl (m__law_ask Z) F__law_ask.kp b__law_ask (takes_of rfl rfl rfl rfl) (sa_cons (se_esh se_int) (sa_cons (se_esh (se_str (by decide +kernel))) sa_nil))) (se_tup (sa_cons (se_esh (se_tup (sa_cons (se_esh (se_str (by decide +kernel))) (sa_cons (se_esh (se_str (by decide +kernel))) sa_nil)))) (sa_cons (se_esh se_int) (sa_cons (se_esh se_int) sa_nil)))) (nomark _))))) (sss_one (ss_ret se_bl)) sss_nil) (sss_one (ss_ret (se_cmp (ho_eq (u64 hr)) os_eq (se_lc rfl nd (si_any (se_tup (sa_cons (se_esh se_non) (sa_cons (se_esh (se_tup sa_nil)) (sa_cons (se_esh (se_str (by decide +kernel))) (sa_cons (se_esh (se_tup (sa_cons (se_esh (se_lst (sa_cons (se_esh (se_str (by decide +kernel))) sa_nil))) (sa_cons (se_esh se_int) (sa_cons (se_esh se_int) sa_nil))))) (sa_cons (se_esh (se_tup (sa_cons (se_esh (se_tup (sa_cons (se_esh (se_str (by decide +kernel))) sa_nil))) (sa_cons (se_esh se_int) (sa_cons (se_esh se_int) sa_nil))))) sa_nil))))))) (blkOk_by (own := [("_law_one", 11)]) (by kernel_rfl)) (fun _ _ _ _ _ => (pg_name (i := 11) nd rfl (by first | exact .inl rfl | exact .inr rfl))) (fun _ _ _ _ _ => sts_nil) (fun _ _ _ _ _ => (se_call ok__law_ask' runF_len (hr.mono (by decide)) rfl (m__law_ask Z) F__law_ask.kp b__law_ask takes0 (sa_cons (se_esh se_int) (sa_cons (se_esh (se_var (pv 11))) sa_nil)))) rfl (by decide)) (se_bin ho_mul os_mul (se_lst (sa_cons (se_esh (se_tup (sa_cons (se_esh (se_str (by decide +kernel))) (sa_cons (se_esh se_int) sa_nil)))) sa_nil)) se_int) (nomark _)))))))))))))))
end G

end
section
set_option Elab.async false
set_option linter.all false
set_option maxRecDepth 100000
set_option maxHeartbeats 4000000
set_option autoImplicit false
/-! M: draws. -/
namespace G
open PySem L2 Lw
/-- where the draws stand: two counts -/
def Tn (v : Val) : Prop := ∃ p c : Int, 0 ≤ p ∧ 0 ≤ c ∧ v = .lst [.int p, .int c]
theorem draw_ok (ns : List Int) (v : Val) (hv : Tn v) (m : Int) (hm : 0 < m) (hm2 : m < 1073741824) :
    OX (fn__law_draw [.shr (.scr ns), .io v, .shr (.int m)]) fun o ss => ∃ r v1, o = .ret (.shr (.int r)) ∧ 0 ≤ r ∧ r < m ∧ Tn v1 ∧ ss = [.un, .io v1, .un] := by
  obtain ⟨p, c, hp, hc, rfl⟩ := hv
  unfold fn__law_draw g__law_draw
  refine FX_run rfl ?_
  simp_arith []
  have fin : ∀ x a b : Int, 0 ≤ a → 0 ≤ b → ∃ r v1, ORes.ret (.shr (.int (x % m))) = .ret (.shr (.int r)) ∧ 0 ≤ r ∧ r < m ∧ Tn v1 ∧ [Slot.un, .io (.lst [.int a, .int b]), .un] = [.un, .io v1, .un] := fun x a b ha hb =>
    ⟨x % m, _, rfl, Int.emod_nonneg _ (by omega), Int.emod_lt_of_pos _ hm, ⟨a, b, ha, hb, rfl⟩, rfl⟩
  have lit : ∀ x : Int, 0 ≤ x % 1000000000000000000000000000000000000000000000000000000000000000000000000000000000000000000000000000000000000000000000000 := fun x => Int.emod_nonneg _ (by decide)
  refine ⟨fun h => ⟨hm, ⟨hm, hm2⟩, fin _ _ _ hp (Int.ediv_nonneg hc (by omega))⟩, fun h => ⟨fun h1 => ⟨hm, fin _ _ _ (by omega) hc⟩, fun h1 => ?_⟩⟩
  have hl : 0 < ns.length := List.length_pos_iff.mpr h1
  have rest : ∃ a, atI ns (p % (ns.length : Int)) = some a := by
    obtain ⟨a, ha, hm, _⟩ := atI_in (xs := ns) (i := p % (ns.length : Int)) (Int.emod_nonneg _ (by omega)) (Int.emod_lt_of_pos _ (by omega))
    exact ⟨a, ha⟩
  obtain ⟨a, ha⟩ := rest
  have r5 : ((a * 1103515245 + 7919 * p + 12345) % 2147483647).natAbs < 2 ^ 64 := by omega
  refine ⟨fun h2 => ?_, fun h2 => ?_⟩
  · obtain ⟨b, hb, hbm, _⟩ := atI_in (xs := ns) (i := p) hp h2
    rw [hb]
    simp only [OB_some]
    refine ⟨fun h3 => ⟨⟨hm, hm2⟩, ?_⟩, fun h3 => ?_⟩
    · exact ⟨hm, fin _ _ _ (by omega) (lit _)⟩
    · refine ⟨by omega, ?_⟩
      rw [ha]
      exact ⟨r5, hm, fin _ _ _ (by omega) hc⟩
  · refine ⟨by omega, ?_⟩
    rw [ha]
    exact ⟨r5, hm, fin _ _ _ (by omega) hc⟩
theorem pick_ok (ns : List Int) (v : Val) (hv : Tn v) (s : Val) (vs : List Val) (hs : itemsA s = some vs) (h0 : 0 < vs.length) (h1 : vs.length ≤ 1000000) :
    OX (fn__law_pick [.shr (.scr ns), .io v, .shr s]) fun o ss => ∃ r v1, o = .ret (.shr r) ∧ r ∈ vs ∧ Tn v1 ∧ ss = [.un, .io v1, .un] := by
  unfold fn__law_pick g__law_pick
  refine FX_run rfl ?_
  have call : ∀ (n : Nat) (Q : ORes → List Slot → Prop), n = vs.length → (∀ r v1, 0 ≤ r → r < (n : Int) → Tn v1 → Q (.ret (.shr (.int r))) [.un, .io v1, .un]) → OX (fn__law_draw [.shr (.scr ns), .io v, .shr (.int n)]) Q := fun n Q hn hQ =>
    OX_mono (draw_ok ns v hv n (by omega) (by omega)) fun o ss ⟨r, v1, e1, e2, e3, e4, e5⟩ => by
      subst e1 e5
      exact hQ r v1 e2 e3 e4
  cases s with
  | lst xs =>
    cases hs
    simp_arith []
    refine call _ _ rfl fun r v1 r0 r1 t => ?_
    obtain ⟨x, hx, hm, _⟩ := atI_in (xs := vs) r0 r1
    simp_arith [hx]
    exact ⟨x, v1, rfl, hm, t, rfl⟩
  | tup xs =>
    cases hs
    simp_arith []
    refine call _ _ rfl fun r v1 r0 r1 t => ?_
    obtain ⟨x, hx, hm, _⟩ := atI_in (xs := vs) r0 r1
    simp_arith [hx]
    exact ⟨x, v1, rfl, hm, t, rfl⟩
  | str z =>
    cases hs
    rw [List.length_map] at h0 h1
    simp_arith []
    refine ⟨by omega, ?_⟩
    refine call _ _ (by rw [List.length_map]) fun r v1 r0 r1 t => ?_
    obtain ⟨x, hx, hm, _⟩ := atI_in (xs := z) r0 r1
    simp_arith [hx]
    exact ⟨by omega, _, v1, rfl, List.mem_map.mpr ⟨x, hm, rfl⟩, t, rfl⟩
  | _ => cases hs
end G

end
section
set_option Elab.async false
set_option linter.all false
set_option maxRecDepth 100000
set_option maxHeartbeats 4000000
set_option autoImplicit false
/-! M: patterns' letters and digits. -/
namespace G
open PySem L2 Lw
def D9 : List Nat := [49, 50, 51, 52, 53, 54, 55, 56, 57]
def D10 : List Nat := [48, 49, 50, 51, 52, 53, 54, 55, 56, 57]
def charsM (p : List Nat) : List Nat := p.filter fun c => !decide (c ∈ D9)
def bareM (p : List Nat) : List Nat := p.filter fun c => !decide (c ∈ D10)
theorem chars_ok (p : List Nat) (h : p.length ≤ 1000000) : fn_chars_of [.shr (.str p)] = some (.ret (.shr (.str (charsM p))), [.un]) := by
  apply OX_det
  unfold fn_chars_of g_chars_of
  refine FX_run rfl ?_
  simp_arith [EX_lc, itS, wipe?, plainAt, plainS, wipeE, List.all_cons, List.all_nil, Bool.and_self, tyOf]
  refine LC_pure (fun c => if (!decide (c ∈ D9)) = true then some (.str [c]) else none) (by omega) (fun c hc => ?_) ?_
  · simp_arith [notInS]
    exact ⟨_, rfl, fun hb => ⟨_, rfl, if_pos hb, rfl⟩, fun hb => ⟨if_neg (by rw [show (!decide (c ∈ D9)) = false from hb]; decide), rfl⟩⟩
  · rw [filt]
    refine ⟨rfl, ?_⟩
    rw [joinS _ (by have := List.length_filter_le (fun c => !decide (c ∈ D9)) p; omega)]
    exact ⟨rfl, rfl⟩
theorem bare_ok (p : List Nat) (h : p.length ≤ 1000000) : fn__law_bare [.shr (.str p)] = some (.ret (.shr (.str (bareM p))), [.un]) := by
  apply OX_det
  unfold fn__law_bare g__law_bare
  refine FX_run rfl ?_
  simp_arith [EX_lc, itS, wipe?, plainAt, plainS, wipeE, List.all_cons, List.all_nil, Bool.and_self, tyOf]
  refine LC_pure (fun c => if (!decide (c ∈ D10)) = true then some (.str [c]) else none) (by omega) (fun c hc => ?_) ?_
  · simp_arith [notInS]
    exact ⟨_, rfl, fun hb => ⟨_, rfl, if_pos hb, rfl⟩, fun hb => ⟨if_neg (by rw [show (!decide (c ∈ D10)) = false from hb]; decide), rfl⟩⟩
  · rw [filt]
    refine ⟨rfl, ?_⟩
    rw [joinS _ (by have := List.length_filter_le (fun c => !decide (c ∈ D10)) p; omega)]
    exact ⟨rfl, rfl⟩
def stepD (ds : List Int) (c : Nat) : List Int := if c ∈ D9 then ds.dropLast ++ [(c : Int) - 48] else ds ++ [0]
def digitsM (p : List Nat) : List Int := p.foldl stepD [0]
theorem stepD_len (ds : List Int) (c : Nat) (h : 0 < ds.length) : 0 < (stepD ds c).length ∧ (stepD ds c).length ≤ ds.length + 1 := by
  unfold stepD
  split
  · rw [List.length_append, List.length_dropLast, List.length_singleton]; omega
  · rw [List.length_append, List.length_singleton]; omega
theorem foldD_len : ∀ (p : List Nat) (ds : List Int), 0 < ds.length → 0 < (p.foldl stepD ds).length ∧ (p.foldl stepD ds).length ≤ ds.length + p.length
  | [], ds, h => ⟨h, Nat.le_refl _⟩
  | c :: p, ds, h => by
    have h1 := stepD_len ds c h
    have h2 := foldD_len p (stepD ds c) h1.1
    refine ⟨h2.1, ?_⟩
    show (p.foldl stepD (stepD ds c)).length ≤ _
    rw [List.length_cons]
    have := h2.2; have := h1.2; omega
theorem int_of (c : Nat) (n : Int) (e : PySem.intText? ⟨[c].toArray⟩ = some n) : oInt [.str [c]] = some (.shr (.int n)) := by
  unfold oInt
  dsimp only
  rw [if_pos (by simp), e]; rfl
theorem int_sign (c : Nat) (h : c ∈ D9) : oInt [.str [c]] = some (.shr (.int ((c : Int) - 48))) := by
  have h' : c = 49 ∨ c = 50 ∨ c = 51 ∨ c = 52 ∨ c = 53 ∨ c = 54 ∨ c = 55 ∨ c = 56 ∨ c = 57 := by simpa [D9] using h
  rcases h' with rfl | rfl | rfl | rfl | rfl | rfl | rfl | rfl | rfl <;> exact int_of _ _ (by decide +kernel)
theorem set_last {α : Type} (xs : List α) (v : α) (h : 0 < xs.length) : xs.set (xs.length - 1) v = xs.dropLast ++ [v] := by
  induction xs with
  | nil => cases h
  | cons x xs ih =>
    cases xs with
    | nil => rfl
    | cons y ys =>
      have := ih (by simp)
      simp only [List.length_cons, Nat.add_sub_cancel] at this ⊢
      rw [List.set_cons_succ, List.dropLast_cons_of_ne_nil (by simp), List.cons_append, this]
theorem ixN_m1 {n : Nat} (h : 0 < n) : ixN n (-1) = some (n - 1) := by
  unfold ixN
  rw [if_neg (by decide), if_pos (by omega)]
  congr 1; omega
end G

end
section
set_option Elab.async false
set_option linter.all false
set_option maxRecDepth 100000
set_option maxHeartbeats 4000000
set_option autoImplicit false
/-! M: where a pattern is found. -/
namespace G
open PySem L2 Lw
/-- signs that a text may hold -/
def okS (z : List Nat) : Prop := ∀ c ∈ z, c < 1114112
theorem shaped_s {z : List Nat} (h : okS z) : SeqAt.shaped (.str ⟨z.toArray⟩) = true := by
  unfold SeqAt.shaped
  have h1 : PyData.canLay0 (.str ⟨z.toArray⟩) = true := by
    show PyData.strOk ⟨z.toArray⟩ = true
    unfold PyData.strOk
    rw [List.all_toArray, List.all_eq_true]
    exact fun c hc => decide_eq_true (h c hc)
  rw [h1]; rfl
theorem vEq_ss {a b : List Nat} (ha : okS a) (hb : okS b) : vEq (.str a) (.str b) = some (decide (a = b)) := by
  unfold vEq
  simp only [toD]
  rw [if_pos ⟨shaped_s ha, shaped_s hb⟩]
  show some ((⟨a.toArray⟩ : PySem.Str) == ⟨b.toArray⟩) = _
  rw [str_beq]
  by_cases h : a = b
  · subst h; simp
  · simp [h]
theorem eqv_ss {a b : List Nat} (ha : okS a) (hb : okS b) : oEq (.str a) (.str b) = some (.shr (.bl (decide (a = b)))) := by unfold oEq; rw [vEq_ss ha hb]; rfl
theorem nev_ss {a b : List Nat} (ha : okS a) (hb : okS b) : oNe (.str a) (.str b) = some (.shr (.bl (!decide (a = b)))) := by unfold oNe; rw [vEq_ss ha hb]; rfl
theorem okS_filter {z : List Nat} (h : okS z) (p : Nat → Bool) : okS (z.filter p) := fun c hc => h c (List.mem_filter.mp hc).1
theorem okS_take {z : List Nat} (h : okS z) (n : Nat) : okS (z.take n) := fun c hc => h c (List.mem_of_mem_take hc)
theorem okS_drop {z : List Nat} (h : okS z) (n : Nat) : okS (z.drop n) := fun c hc => h c (List.mem_of_mem_drop hc)
theorem cut_mid {α : Type} (xs : List α) (s e : Nat) (h : e ≤ xs.length) (h2 : s ≤ e) : cutG xs (some (s : Int)) (some (e : Int)) = (xs.drop s).take (e - s) := by
  unfold cutG
  rw [HT.sIx_nat, HT.sIx_nat, Nat.min_eq_left (Nat.le_trans h2 h), Nat.min_eq_left h]
theorem okS_chars {p : List Nat} (h : okS p) : okS (charsM p) := okS_filter h _
def txt (w : List Nat) : List Nat := 46 :: (w ++ [46])
theorem okS_txt {w : List Nat} (h : okS w) : okS (txt w) := fun c hc => by
  unfold txt at hc
  rcases List.mem_cons.mp hc with rfl | hc
  · decide
  · rcases List.mem_append.mp hc with hc | hc
    · exact h c hc
    · rw [List.mem_singleton] at hc; subst hc; decide
/-- the pairs that an occurrence at s gives -/
def hits (s : Nat) (ds : List Int) : List (Int × Int) := ds.zipIdx.filterMap fun z => if decide (0 < z.1) = true then some ((s : Int) + z.2 - 1, z.1) else none
def occ (p w : List Nat) (s : Nat) : Bool := decide (((txt w).drop s).take (charsM p).length = charsM p)
def foundM (p w : List Nat) : List (Int × Int) := (List.range (w.length + 3 - (charsM p).length)).flatMap fun s => if occ p w s = true then hits s (digitsM p) else []
def pr (z : Int × Int) : Val := .tup [.int z.1, .int z.2]
theorem hits_len (s : Nat) (ds : List Int) : (hits s ds).length ≤ ds.length := by
  unfold hits
  have := List.length_filterMap_le (fun z : Int × Nat => if decide (0 < z.1) = true then some ((s : Int) + z.2 - 1, z.1) else none) ds.zipIdx
  rw [List.length_zipIdx] at this
  exact this
theorem found_len (p w : List Nat) (f : Nat → List (Int × Int)) (k : Nat) (h : ∀ s, (f s).length ≤ k) : ∀ n, ((List.range n).flatMap f).length ≤ n * k
  | 0 => by simp
  | n + 1 => by
    rw [List.range_succ, List.flatMap_append, List.length_append]
    have := found_len p w f k h n
    have h2 := h n
    rw [Nat.succ_mul]
    simp only [List.flatMap_cons, List.flatMap_nil, List.append_nil]
    omega
theorem enumI (ds : List Int) : enumV (ds.map Val.int) = ds.zipIdx.map fun z => Val.tup [.int (z.2 : Nat), .int z.1] := by
  unfold enumV
  rw [List.mapIdx_eq_zipIdx_map, List.zipIdx_map, List.map_map]
  rfl
end G

end
section
set_option Elab.async false
set_option linter.all false
set_option maxRecDepth 100000
set_option maxHeartbeats 4000000
set_option autoImplicit false
/-! M: the levels of a word. -/
namespace G
open PySem L2 Lw
/-- a level is raised -/
def up (ls : List Int) (z : Int × Int) : List Int := ls.set z.1.toNat (max (ls.getD z.1.toNat 0) z.2)
theorem up_len (ls : List Int) (z : Int × Int) : (up ls z).length = ls.length := by unfold up; rw [List.length_set]
theorem ups_len : ∀ (zs : List (Int × Int)) (ls : List Int), (zs.foldl up ls).length = ls.length
  | [], _ => rfl
  | z :: zs, ls => (ups_len zs (up ls z)).trans (up_len ls z)
def zs (n : Nat) : List Int := List.replicate n 0
def levM (ps : List (List Nat)) (w : List Nat) : List Int := (ps.flatMap fun p => foundM p w).foldl up (zs (w.length + 1))
theorem lev_len (ps : List (List Nat)) (w : List Nat) : (levM ps w).length = w.length + 1 := by unfold levM; rw [ups_len]; unfold zs; rw [List.length_replicate]
/-- all is found within the word -/
def Inw (p w : List Nat) : Prop := ∀ z ∈ foundM p w, 0 ≤ z.1 ∧ z.1 ≤ (w.length : Int)
theorem at_ints {ls : List Int} {g : Int} (h0 : 0 ≤ g) (h1 : g < ls.length) : atI (ls.map Val.int) g = some (.int (ls.getD g.toNat 0)) := by
  unfold atI
  rw [ixN_nat h0 (by rw [List.length_map]; exact h1)]
  have h2 : g.toNat < ls.length := by omega
  show (ls.map Val.int)[g.toNat]? = _
  rw [List.getElem?_map, List.getElem?_eq_getElem h2, List.getD_eq_getElem?_getD, List.getElem?_eq_getElem h2]
  rfl
theorem up_step {ls : List Int} {z : Int × Int} (h0 : 0 ≤ z.1) (h1 : z.1 < ls.length) : (ls.map Val.int).set z.1.toNat (.int (max (ls.getD z.1.toNat 0) z.2)) = (up ls z).map Val.int := by
  unfold up
  rw [List.map_set]
def rulesV (ps : List (List Nat)) (l r : Int) : Val := .tup [.tup (ps.map Val.str), .int l, .int r]
end G

end
section
set_option Elab.async false
set_option linter.all false
set_option maxRecDepth 100000
set_option maxHeartbeats 4000000
set_option autoImplicit false
/-! M: a pattern walked sign by sign gives what its digits by place give. -/
namespace G
open PySem L2 Lw
/-- the digits by place, d the last so far -/
def dgo (d : Int) : List Nat → List Int
  | [] => [d]
  | c :: p => if c ∈ D9 then dgo ((c : Int) - 48) p else d :: dgo 0 p
theorem fold_dgo : ∀ (p : List Nat) (xs : List Int) (d : Int), p.foldl stepD (xs ++ [d]) = xs ++ dgo d p
  | [], xs, d => rfl
  | c :: p, xs, d => by
    show p.foldl stepD (stepD (xs ++ [d]) c) = _
    unfold dgo
    by_cases h : c ∈ D9
    · have e : stepD (xs ++ [d]) c = xs ++ [(c : Int) - 48] := by unfold stepD; rw [if_pos h, List.dropLast_concat]
      rw [if_pos h, e, fold_dgo p xs]
    · have e : stepD (xs ++ [d]) c = xs ++ [d] ++ [0] := by unfold stepD; rw [if_neg h]
      rw [if_neg h, e, fold_dgo p (xs ++ [d]) 0, List.append_assoc]; rfl
theorem digits_dgo (p : List Nat) : digitsM p = dgo 0 p := fold_dgo p [] 0
def hitsF (s : Int) : List Int → List (Int × Int)
  | [] => []
  | d :: ds => (if decide (0 < d) = true then [(s - 1, d)] else []) ++ hitsF (s + 1) ds
theorem hits_go (s : Nat) : ∀ (ds : List Int) (k : Nat), (ds.zipIdx k).filterMap (fun z => if decide (0 < z.1) = true then some ((s : Int) + z.2 - 1, z.1) else none) = hitsF ((s : Int) + k) ds
  | [], k => rfl
  | d :: ds, k => by
    rw [List.zipIdx_cons, List.filterMap_cons]
    have ih := hits_go s ds (k + 1)
    have e : (s : Int) + ((k + 1 : Nat) : Int) = (s : Int) + k + 1 := by omega
    rw [e] at ih
    unfold hitsF
    by_cases h : decide (0 < d) = true
    · rw [if_pos h, if_pos h, ih]; rfl
    · rw [if_neg h, if_neg h, ih]; rfl
theorem hits_eq (s : Nat) (ds : List Int) : hits s ds = hitsF s ds := by
  have := hits_go s ds 0
  have e : (s : Int) + ((0 : Nat) : Int) = s := by omega
  rw [e] at this
  exact this
/-- the law's walk: at its place, each digit -/
def wk (s : Int) : List Nat → List (Int × Int)
  | [] => []
  | c :: p => if c ∈ D9 then (s, (c : Int) - 48) :: wk s p else wk (s + 1) p
/-- no two digits side by side (b: one stands ahead) -/
def noAdj (b : Bool) : List Nat → Bool
  | [] => true
  | c :: p => if c ∈ D9 then !b && noAdj true p else noAdj false p
theorem d9_pos {c : Nat} (h : c ∈ D9) : 0 < (c : Int) - 48 := by
  have h' : c = 49 ∨ c = 50 ∨ c = 51 ∨ c = 52 ∨ c = 53 ∨ c = 54 ∨ c = 55 ∨ c = 56 ∨ c = 57 := by simpa [D9] using h
  omega
theorem walk_hits : ∀ (p : List Nat) (d s : Int), noAdj (decide (0 < d)) p = true → hitsF s (dgo d p) = (if decide (0 < d) = true then [(s - 1, d)] else []) ++ (wk s p).map fun z => (z.1 - 1, z.2)
  | [], d, s, _ => by unfold dgo wk hitsF hitsF; rfl
  | c :: p, d, s, h => by
    unfold noAdj at h
    unfold dgo wk
    by_cases hc : c ∈ D9
    · rw [if_pos hc] at h ⊢
      rw [if_pos hc]
      obtain ⟨h1, h2⟩ := Bool.and_eq_true_iff.mp h
      have hd : decide (0 < d) = false := by simpa using h1
      have hp := d9_pos hc
      rw [walk_hits p _ s (by rw [decide_eq_true hp]; exact h2), hd, decide_eq_true hp]
      rfl
    · rw [if_neg hc] at h ⊢
      rw [if_neg hc]
      show (if decide (0 < d) = true then [(s - 1, d)] else []) ++ hitsF (s + 1) (dgo 0 p) = _
      rw [walk_hits p 0 (s + 1) h]
      rfl
theorem walk_ok {p : List Nat} (h : noAdj false p = true) (s : Nat) : hits s (digitsM p) = (wk s p).map fun z => (z.1 - 1, z.2) := by
  rw [hits_eq, digits_dgo, walk_hits p 0 s h]; rfl
end G

end
section
set_option Elab.async false
set_option linter.all false
set_option maxRecDepth 100000
set_option maxHeartbeats 4000000
set_option autoImplicit false
/-! M: the law's own levels. -/
namespace G
open PySem L2 Lw
theorem starts3 (T b : List Nat) (i : Nat) (hi : i ≤ T.length) : Txt.startswith3 (S T) (S b) (i : Int) = decide ((T.drop i).take b.length = b) := by
  unfold Txt.startswith3
  have e : fromIndex (S T).length (i : Int) = i := by
    unfold fromIndex
    rw [if_neg (by omega)]
    omega
  rw [e, StrLaws.subAt_eq, S_len, S_len]
  show (decide (i + b.length ≤ T.length) && ((T.drop i).take b.length == b)) = _
  by_cases h : (T.drop i).take b.length = b
  · have hl := congrArg List.length h
    rw [List.length_take, List.length_drop] at hl
    rw [decide_eq_true h, decide_eq_true (by omega : i + b.length ≤ T.length), h]
    simp
  · rw [decide_eq_false h]
    have : ((T.drop i).take b.length == b) = false := by simpa using h
    rw [this, Bool.and_false]
theorem ev_starts3 (T b : List Nat) (i : Nat) (hi : i ≤ T.length) : oStarts (.str T) [.str b, .int (i : Int)] = some (.shr (.bl (decide ((T.drop i).take b.length = b)))) := by
  show some (RV.shr (.bl (Txt.startswith3 (S T) (S b) (i : Int)))) = _
  rw [starts3 T b i hi]
/-- what the law's loop raises -/
def lawUps (p w : List Nat) : List (Int × Int) := (List.range (w.length + 2)).flatMap fun s => if occ p w s = true then wk s p else []
def lawLevM (ps : List (List Nat)) (w : List Nat) : List Int := (ps.flatMap fun p => lawUps p w).foldl up (zs (w.length + 3))
theorem lawLev_len (ps : List (List Nat)) (w : List Nat) : (lawLevM ps w).length = w.length + 3 := by unfold lawLevM; rw [ups_len]; unfold zs; rw [List.length_replicate]
theorem bare_chars {p : List Nat} (h : 48 ∉ p) : bareM p = charsM p := by
  unfold bareM charsM
  apply List.filter_congr
  intro c hc
  have : c ≠ 48 := fun e => h (e ▸ hc)
  simp [D9, D10, this]
/-- where a walk ends -/
def wkEnd (s : Int) (p : List Nat) : Int := s + (charsM p).length
theorem wk_in : ∀ (p : List Nat) (s : Int) (z : Int × Int), z ∈ wk s p → s ≤ z.1 ∧ z.1 ≤ s + (charsM p).length
  | [], s, z, h => by cases h
  | c :: p, s, z, h => by
    unfold wk at h
    by_cases hc : c ∈ D9
    · rw [if_pos hc] at h
      have e : charsM (c :: p) = charsM p := by unfold charsM; rw [List.filter_cons_of_neg (by simp [hc])]
      rw [e]
      rcases List.mem_cons.mp h with rfl | h
      · exact ⟨Int.le_refl _, by omega⟩
      · exact wk_in p s z h
    · rw [if_neg hc] at h
      have e : charsM (c :: p) = c :: charsM p := by unfold charsM; rw [List.filter_cons_of_pos (by simp [hc])]
      rw [e, List.length_cons]
      obtain ⟨h1, h2⟩ := wk_in p (s + 1) z h
      exact ⟨by omega, by omega⟩
end G

end
section
set_option Elab.async false
set_option linter.all false
set_option maxRecDepth 100000
set_option maxHeartbeats 4000000
set_option autoImplicit false
/-! M: the law's levels run. -/
namespace G
open PySem L2 Lw
theorem chars_app (a b : List Nat) : charsM (a ++ b) = charsM a ++ charsM b := List.filter_append a b
theorem wk_app : ∀ (a b : List Nat) (s : Int), wk s (a ++ b) = wk s a ++ wk (s + (charsM a).length) b
  | [], b, s => by simp [wk, charsM]
  | c :: a, b, s => by
    show wk s (c :: (a ++ b)) = _
    have w1 : ∀ q : List Nat, wk s (c :: q) = if c ∈ D9 then (s, (c : Int) - 48) :: wk s q else wk (s + 1) q := fun q => rfl
    rw [w1, w1]
    by_cases hc : c ∈ D9
    · have e : charsM (c :: a) = charsM a := by unfold charsM; rw [List.filter_cons_of_neg (by simp [hc])]
      rw [if_pos hc, if_pos hc, wk_app a b s, e]; rfl
    · have e : charsM (c :: a) = c :: charsM a := by unfold charsM; rw [List.filter_cons_of_pos (by simp [hc])]
      have e2 : s + 1 + ((charsM a).length : Int) = s + (((charsM a).length + 1 : Nat) : Int) := by omega
      rw [if_neg hc, if_neg hc, wk_app a b (s + 1), e, List.length_cons, e2]
theorem wk_snoc (a : List Nat) (c : Nat) (s : Int) : wk s (a ++ [c]) = wk s a ++ (if c ∈ D9 then [(s + (charsM a).length, (c : Int) - 48)] else []) := by
  rw [wk_app]
  congr 1
theorem chars_snoc (a : List Nat) (c : Nat) : (charsM (a ++ [c])).length = (charsM a).length + (if c ∈ D9 then 0 else 1) := by
  rw [chars_app, List.length_append]
  congr 1
  unfold charsM
  by_cases hc : c ∈ D9
  · rw [List.filter_cons_of_neg (by simp [hc]), if_pos hc]; rfl
  · rw [List.filter_cons_of_pos (by simp [hc]), if_neg hc]; rfl
theorem occ_len {p w : List Nat} {s : Nat} (h : occ p w s = true) (hs : s ≤ w.length + 2) : s + (charsM p).length ≤ w.length + 2 := by
  have h := congrArg List.length (of_decide_eq_true h)
  rw [List.length_take, List.length_drop] at h
  have : (txt w).length = w.length + 2 := by simp [txt]
  omega
theorem chars_take_le (p : List Nat) (j : Nat) : (charsM (p.take j)).length ≤ (charsM p).length := by
  conv => rhs; rw [← List.take_append_drop j p, chars_app, List.length_append]
  exact Nat.le_add_right _ _
theorem zs_rep (n : Nat) (k : Int) (h : k.toNat = n) : (List.replicate k.toNat [Val.int 0]).flatten = (zs n).map Val.int := by
  rw [h]
  unfold zs
  rw [List.map_replicate]
  clear h
  induction n with
  | zero => rfl
  | succ n ih => rw [List.replicate_succ, List.flatten_cons, ih, List.replicate_succ]; rfl
/-- the part of a law's levels that it gives back -/
def lawCut (ps : List (List Nat)) (w : List Nat) : List Int := ((lawLevM ps w).drop 1).take (w.length + 1)
end G

end
section
set_option Elab.async false
set_option linter.all false
set_option maxRecDepth 100000
set_option maxHeartbeats 4000000
set_option autoImplicit false
/-! M: what a pattern's digits at a gap hang on. -/
namespace G
open PySem L2 Lw
def isLet (c : Nat) : Prop := 97 ≤ c ∧ c ≤ 122
def lets (w : List Nat) : Prop := ∀ c ∈ w, isLet c
structure VPw (p d1 t d2 : List Nat) : Prop where
  eq : p = d1 ++ t ++ d2
  h1 : d1 = [] ∨ d1 = [46]
  h2 : d2 = [] ∨ d2 = [46]
  sg : ∀ c ∈ t, c ∈ D9 ∨ isLet c
  na : noAdj false t = true
  c1 : 1 ≤ (charsM t).length
  c4 : (charsM t).length ≤ 4
  lt : (charsM t).length < t.length
def VP (p : List Nat) : Prop := ∃ d1 t d2, VPw p d1 t d2
theorem lets_ok {w : List Nat} (h : lets w) : okS w := fun c hc => by have h := h c hc; unfold isLet at h; omega
theorem d9_le {c : Nat} (h : c ∈ D9) : 49 ≤ c ∧ c ≤ 57 := by
  have h' : c = 49 ∨ c = 50 ∨ c = 51 ∨ c = 52 ∨ c = 53 ∨ c = 54 ∨ c = 55 ∨ c = 56 ∨ c = 57 := by simpa [D9] using h
  omega
theorem d9_of {c : Nat} (h : 49 ≤ c) (h2 : c ≤ 57) : c ∈ D9 := by
  have : c = 49 ∨ c = 50 ∨ c = 51 ∨ c = 52 ∨ c = 53 ∨ c = 54 ∨ c = 55 ∨ c = 56 ∨ c = 57 := by omega
  rcases this with rfl | rfl | rfl | rfl | rfl | rfl | rfl | rfl | rfl <;> decide
theorem na_len : ∀ (t : List Nat) (b : Bool), noAdj b t = true → t.length ≤ 2 * (charsM t).length + (if b = true then 0 else 1)
  | [], b, _ => Nat.zero_le _
  | c :: t, b, h => by
    unfold noAdj at h
    by_cases hc : c ∈ D9
    · rw [if_pos hc] at h
      obtain ⟨h1, h2⟩ := Bool.and_eq_true_iff.mp h
      have e : charsM (c :: t) = charsM t := by unfold charsM; rw [List.filter_cons_of_neg (by simp [hc])]
      have := na_len t true h2
      cases b
      · rw [e, List.length_cons]; simp at this ⊢; omega
      · cases h1
    · rw [if_neg hc] at h
      have e : charsM (c :: t) = c :: charsM t := by unfold charsM; rw [List.filter_cons_of_pos (by simp [hc])]
      have := na_len t false h
      rw [e, List.length_cons, List.length_cons]
      cases b <;> simp at this ⊢ <;> omega
theorem na_dot : ∀ (t : List Nat) (b : Bool), noAdj b (t ++ [46]) = noAdj b t
  | [], b => by cases b <;> rfl
  | c :: t, b => by
    show noAdj b (c :: (t ++ [46])) = _
    unfold noAdj
    rw [na_dot t true, na_dot t false]
section
variable {p d1 t d2 : List Nat} (h : VPw p d1 t d2)
include h
theorem VPw.l1 : d1.length ≤ 1 := by rcases h.h1 with rfl | rfl <;> decide
theorem VPw.l2 : d2.length ≤ 1 := by rcases h.h2 with rfl | rfl <;> decide
theorem VPw.chars : charsM p = d1 ++ charsM t ++ d2 := by
  rw [h.eq, chars_app, chars_app]
  have e1 : charsM d1 = d1 := by rcases h.h1 with rfl | rfl <;> rfl
  have e2 : charsM d2 = d2 := by rcases h.h2 with rfl | rfl <;> rfl
  rw [e1, e2]
theorem VPw.clen : (charsM p).length = d1.length + (charsM t).length + d2.length := by rw [h.chars, List.length_append, List.length_append]
theorem VPw.na' : noAdj false p = true := by
  rw [h.eq]
  have e1 : noAdj false (d1 ++ t ++ d2) = noAdj false (t ++ d2) := by rcases h.h1 with rfl | rfl <;> rfl
  rw [e1]
  rcases h.h2 with rfl | rfl
  · rw [List.append_nil]; exact h.na
  · rw [na_dot]; exact h.na
theorem VPw.len : p.length ≤ 11 := by
  have := na_len t false h.na
  have := h.c4
  have := h.l1
  have := h.l2
  rw [h.eq, List.length_append, List.length_append]
  simp at *
  omega
theorem VPw.sgn : ∀ c ∈ p, c = 46 ∨ c ∈ D9 ∨ isLet c := by
  rw [h.eq]
  intro c hc
  rcases List.mem_append.mp hc with hc | hc
  · rcases List.mem_append.mp hc with hc | hc
    · rcases h.h1 with rfl | rfl
      · cases hc
      · exact .inl (List.mem_singleton.mp hc)
    · exact .inr (h.sg c hc)
  · rcases h.h2 with rfl | rfl
    · cases hc
    · exact .inl (List.mem_singleton.mp hc)
theorem VPw.ok : okS p := fun c hc => by
  rcases h.sgn c hc with rfl | hd | hd
  · decide
  · have := d9_le hd; omega
  · unfold isLet at hd; omega
theorem VPw.no0 : 48 ∉ p := fun hc => by
  rcases h.sgn 48 hc with hd | hd | hd
  · cases hd
  · have := d9_le hd; omega
  · unfold isLet at hd; omega
theorem VPw.clet : lets (charsM t) := fun c hc => by
  obtain ⟨h1, h2⟩ := List.mem_filter.mp hc
  rcases h.sg c h1 with hd | hd
  · simp [hd] at h2
  · exact hd
theorem VPw.wk (s : Int) : G.wk s p = G.wk (s + d1.length) t := by
  rw [h.eq, wk_app, wk_app]
  have e1 : G.wk s d1 = [] := by rcases h.h1 with rfl | rfl <;> rfl
  have e2 : ∀ s, G.wk s d2 = [] := fun s => by rcases h.h2 with rfl | rfl <;> rfl
  have e3 : charsM d1 = d1 := by rcases h.h1 with rfl | rfl <;> rfl
  rw [e1, e2, e3, List.append_nil, List.nil_append]
end
theorem wk_sh : ∀ (p : List Nat) (s k : Int), wk (s + k) p = (wk s p).map fun z => (z.1 + k, z.2)
  | [], s, k => rfl
  | c :: p, s, k => by
    unfold wk
    by_cases hc : c ∈ D9
    · rw [if_pos hc, if_pos hc, List.map_cons, wk_sh p s k]
    · rw [if_neg hc, if_neg hc, ← wk_sh p (s + 1) k]
      congr 1; omega
theorem range_ext {α : Type} (f : Nat → List α) (N : Nat) : ∀ k, (∀ s, N ≤ s → s < N + k → f s = []) → (List.range (N + k)).flatMap f = (List.range N).flatMap f
  | 0, _ => rfl
  | k + 1, h => by
    rw [← Nat.add_assoc, List.range_succ, List.flatMap_append, range_ext f N k fun s h1 h2 => h s h1 (by omega)]
    simp [h (N + k) (by omega) (by omega)]
theorem found_ups {p w : List Nat} (na : noAdj false p = true) (hc : 0 < (charsM p).length) : foundM p w = (lawUps p w).map fun z => (z.1 - 1, z.2) := by
  unfold foundM lawUps
  rw [List.map_flatMap]
  have e : ∀ s : Nat, (if occ p w s = true then hits s (digitsM p) else []) = (if occ p w s = true then wk s p else []).map fun z => (z.1 - 1, z.2) := fun s => by
    split
    · exact walk_ok na s
    · rfl
  have e' : (fun s : Nat => if occ p w s = true then hits s (digitsM p) else []) = fun s : Nat => (if occ p w s = true then wk s p else []).map fun z => (z.1 - 1, z.2) := funext e
  rw [e']
  obtain ⟨k, hk⟩ : ∃ k, w.length + 2 = (w.length + 3 - (charsM p).length) + k := ⟨w.length + 2 - (w.length + 3 - (charsM p).length), by omega⟩
  rw [hk]
  refine (range_ext _ _ k fun s h1 h2 => ?_).symm
  rw [if_neg fun ho => ?_]
  · rfl
  · have := occ_len ho (by omega)
    omega
/-! text places -/
theorem txt_len (w : List Nat) : (txt w).length = w.length + 2 := by simp [txt]
theorem txt_0 (w : List Nat) : (txt w)[0]? = some 46 := rfl
theorem txt_in {w : List Nat} {i : Nat} (h : i < w.length) : (txt w)[i + 1]? = w[i]? := by
  unfold txt
  rw [List.getElem?_cons_succ, List.getElem?_append_left h]
theorem txt_end (w : List Nat) : (txt w)[w.length + 1]? = some 46 := by
  unfold txt
  rw [List.getElem?_cons_succ, List.getElem?_append_right (Nat.le_refl _), Nat.sub_self]; rfl
theorem txt_let {w : List Nat} (hw : lets w) {i c : Nat} (h : (txt w)[i]? = some c) (hc : c ≠ 46) : 1 ≤ i ∧ i ≤ w.length := by
  have hl := (List.getElem?_eq_some_iff.mp h).1
  rw [txt_len] at hl
  refine ⟨?_, ?_⟩
  · rcases i with _ | i
    · rw [txt_0] at h; cases h; exact absurd rfl hc
    · omega
  · rcases Nat.lt_or_ge w.length i with h2 | h2
    · have : i = w.length + 1 := by omega
      subst this
      rw [txt_end] at h; cases h; exact absurd rfl hc
    · exact h2
theorem txt_dot {w : List Nat} (hw : lets w) {i : Nat} (h1 : 1 ≤ i) (h2 : i ≤ w.length) : (txt w)[i]? ≠ some 46 := by
  obtain ⟨j, rfl⟩ : ∃ j, i = j + 1 := ⟨i - 1, by omega⟩
  rw [txt_in (by omega)]
  intro e
  have := hw 46 (List.mem_of_getElem? e)
  unfold isLet at this
  omega
theorem occ_get {p w : List Nat} {s : Nat} : occ p w s = true ↔ ∀ i, i < (charsM p).length → (txt w)[s + i]? = (charsM p)[i]? := by
  unfold occ
  rw [decide_eq_true_eq]
  constructor
  · intro h i hi
    have : (((txt w).drop s).take (charsM p).length)[i]? = (charsM p)[i]? := by rw [h]
    rw [List.getElem?_take, if_pos hi, List.getElem?_drop] at this
    exact this
  · intro h
    refine List.ext_getElem? fun i => ?_
    rw [List.getElem?_take]
    by_cases hi : i < (charsM p).length
    · rw [if_pos hi, List.getElem?_drop]; exact h i hi
    · rw [if_neg hi, List.getElem?_eq_none (Nat.le_of_not_lt hi)]
theorem ups_in {p w : List Nat} (hp : VP p) (hw : lets w) {z : Int × Int} (hz : z ∈ lawUps p w) : 1 ≤ z.1 ∧ z.1 ≤ (w.length : Int) + 1 := by
  obtain ⟨d1, t, d2, h⟩ := hp
  obtain ⟨s, hs, hz⟩ := List.mem_flatMap.mp hz
  by_cases ho : occ p w s = true
  · rw [if_pos ho, h.wk] at hz
    obtain ⟨b1, b2⟩ := wk_in _ _ _ hz
    have og := occ_get.mp ho
    have c1 := h.c1
    have cg : ∀ i, i < (charsM t).length → ∃ c, (txt w)[s + (d1.length + i)]? = some c ∧ c ≠ 46 := fun i hi => by
      have e := og (d1.length + i) (by rw [h.clen]; omega)
      rw [h.chars, List.append_assoc, List.getElem?_append_right (by omega), Nat.add_sub_cancel_left, List.getElem?_append_left hi, List.getElem?_eq_getElem hi] at e
      refine ⟨_, e, fun q => ?_⟩
      have := h.clet _ (List.getElem_mem hi)
      unfold isLet at this
      omega
    obtain ⟨a, ha, na⟩ := cg 0 (by omega)
    obtain ⟨b, hb, nb⟩ := cg ((charsM t).length - 1) (by omega)
    have q1 := txt_let hw ha na
    have q2 := txt_let hw hb nb
    omega
  · rw [if_neg ho] at hz; cases hz
theorem vp_in {p w : List Nat} (hp : VP p) (hw : lets w) : Inw p w := fun z hz => by
  obtain ⟨d1, t, d2, h⟩ := id hp
  rw [found_ups h.na' (by have := h.clen; have := h.c1; omega)] at hz
  obtain ⟨y, hy, rfl⟩ := List.mem_map.mp hz
  have := ups_in hp hw hy
  dsimp only
  omega
/-! the law's levels are the program's -/
theorem cut_up {ls : List Int} {z : Int × Int} {n : Nat} (hl : ls.length = n + 3) (h1 : 1 ≤ z.1) (h2 : z.1 ≤ (n : Int) + 1) : ((up ls z).drop 1).take (n + 1) = up ((ls.drop 1).take (n + 1)) (z.1 - 1, z.2) := by
  obtain ⟨q, d⟩ := z
  dsimp only at h1 h2
  obtain ⟨k, rfl⟩ : ∃ k : Nat, q = (k : Int) + 1 := ⟨(q - 1).toNat, by omega⟩
  cases ls with
  | nil => cases hl
  | cons a ls =>
    have hk : ((k : Int) + 1).toNat = k + 1 := by omega
    have hk2 : ((k : Int) + 1 - 1).toNat = k := by omega
    have hkn : k < n + 1 := by omega
    unfold up
    dsimp only
    rw [hk, hk2]
    simp only [List.set_cons_succ, List.drop_succ_cons, List.drop_zero, List.getD_cons_succ]
    have e : (ls.take (n + 1)).getD k 0 = ls.getD k 0 := by
      rw [List.getD_eq_getElem?_getD, List.getD_eq_getElem?_getD, List.getElem?_take, if_pos hkn]
    rw [e]
    refine List.ext_getElem? fun i => ?_
    rw [List.getElem?_take, List.getElem?_set, List.getElem?_set, List.getElem?_take]
    by_cases hi : i < n + 1
    · rw [if_pos hi, if_pos hi, List.length_take]
      by_cases hki : k = i
      · subst hki
        rw [if_pos rfl, if_pos rfl]
        have : (k < min (n + 1) ls.length) ↔ (k < ls.length) := by omega
        simp only [this]
      · rw [if_neg hki, if_neg hki]
    · rw [if_neg hi, if_neg hi]
      rw [if_neg (by omega)]
theorem cut_ups {n : Nat} : ∀ (us : List (Int × Int)) (ls : List Int), ls.length = n + 3 → (∀ z ∈ us, 1 ≤ z.1 ∧ z.1 ≤ (n : Int) + 1) → ((us.foldl up ls).drop 1).take (n + 1) = (us.map fun z => (z.1 - 1, z.2)).foldl up ((ls.drop 1).take (n + 1))
  | [], ls, _, _ => rfl
  | z :: us, ls, hl, h => by
    have hz := h z (List.mem_cons_self ..)
    rw [List.foldl_cons, List.map_cons, List.foldl_cons, cut_ups us (up ls z) (by rw [up_len]; exact hl) fun y hy => h y (List.mem_cons_of_mem _ hy), cut_up hl hz.1 hz.2]
theorem law_cut {ps : List (List Nat)} {w : List Nat} (hp : ∀ p ∈ ps, VP p) (hw : lets w) : lawCut ps w = levM ps w := by
  unfold lawCut lawLevM levM
  rw [cut_ups (n := w.length) _ _ (by unfold zs; rw [List.length_replicate]) fun z hz => by
    obtain ⟨p, hpp, hz⟩ := List.mem_flatMap.mp hz
    exact ups_in (hp p hpp) hw hz]
  have e1 : ((zs (w.length + 3)).drop 1).take (w.length + 1) = zs (w.length + 1) := by
    unfold zs
    rw [List.drop_replicate, List.take_replicate]
    congr 1; omega
  have e2 : ((ps.flatMap fun p => lawUps p w).map fun z => (z.1 - 1, z.2)) = ps.flatMap fun p => foundM p w := by
    rw [List.map_flatMap]
    clear e1
    induction ps with
    | nil => rfl
    | cons p ps ih =>
      obtain ⟨d1, t, d2, h⟩ := hp p (List.mem_cons_self ..)
      rw [List.flatMap_cons, List.flatMap_cons, ih fun q hq => hp q (List.mem_cons_of_mem _ hq), found_ups h.na' (by have := h.clen; have := h.c1; omega)]
  rw [e1, e2]
/-! places -/
def atT (w : List Nat) (q : Int) : Option Nat := if 0 ≤ q then (txt w)[q.toNat]? else none
theorem found_mem {p w : List Nat} (hp : VP p) {g d : Int} : (g, d) ∈ foundM p w ↔ ∃ (rel : Int) (s : Nat), (rel, d) ∈ wk 0 p ∧ (s : Int) = g + 1 - rel ∧ occ p w s = true := by
  obtain ⟨d1, t, d2, h⟩ := id hp
  have hc : 0 < (charsM p).length := by have := h.clen; have := h.c1; omega
  rw [found_ups h.na' hc]
  have sh : ∀ s : Nat, wk (s : Int) p = (wk 0 p).map fun z => (z.1 + (s : Int), z.2) := fun s => by
    have := wk_sh p 0 s
    rwa [Int.zero_add] at this
  constructor
  · intro hz
    obtain ⟨y, hy, e⟩ := List.mem_map.mp hz
    obtain ⟨s, hs, hy⟩ := List.mem_flatMap.mp hy
    by_cases ho : occ p w s = true
    · rw [if_pos ho, sh] at hy
      obtain ⟨x, hx, rfl⟩ := List.mem_map.mp hy
      injection e with e1 e2
      dsimp only at e1 e2
      subst e2
      exact ⟨x.1, s, hx, by omega, ho⟩
    · rw [if_neg ho] at hy; cases hy
  · rintro ⟨rel, s, h1, h2, ho⟩
    refine List.mem_map.mpr ⟨(g + 1, d), List.mem_flatMap.mpr ⟨s, ?_, ?_⟩, by simp⟩
    · have og := occ_get.mp ho 0 hc
      rw [List.getElem?_eq_getElem hc] at og
      have := (List.getElem?_eq_some_iff.mp og).1
      rw [txt_len] at this
      exact List.mem_range.mpr (by omega)
    · rw [if_pos ho, sh]
      exact List.mem_map.mpr ⟨(rel, d), h1, by dsimp only; congr 1; omega⟩
/-- what stands around two gaps is alike, as far as a pattern sees -/
def Alike (w1 : List Nat) (g1 : Int) (w2 : List Nat) (g2 : Int) : Prop := ∀ (k : Int) (c : Nat), -5 ≤ k → k ≤ 4 → ((k = -5 ∨ k = 4) → c = 46) → (atT w1 (g1 + 1 + k) = some c ↔ atT w2 (g2 + 1 + k) = some c)
theorem Alike.symm {w1 w2 : List Nat} {g1 g2 : Int} (A : Alike w1 g1 w2 g2) : Alike w2 g2 w1 g1 := fun k c h1 h2 h3 => (A k c h1 h2 h3).symm
theorem found_loc {p w1 w2 : List Nat} {g1 g2 : Int} (hp : VP p) (A : Alike w1 g1 w2 g2) {d : Int} (hm : (g1, d) ∈ foundM p w1) : (g2, d) ∈ foundM p w2 := by
  obtain ⟨rel, s, h1, h2, ho⟩ := (found_mem hp).mp hm
  refine (found_mem hp).mpr ?_
  obtain ⟨d1, t, d2, h⟩ := hp
  have hb := h1
  rw [h.wk] at hb
  obtain ⟨b1, b2⟩ := wk_in _ _ _ hb
  dsimp only at b1 b2
  have c1 := h.c1
  have c4 := h.c4
  have l1 := h.l1
  have l2 := h.l2
  have cl := h.clen
  have og := occ_get.mp ho
  have key : ∀ i, i < (charsM p).length → atT w2 (g2 + 1 + ((i : Int) - rel)) = (charsM p)[i]? := fun i hi => by
    have e := og i hi
    rw [List.getElem?_eq_getElem hi] at e ⊢
    have e1 : atT w1 (g1 + 1 + ((i : Int) - rel)) = some (charsM p)[i] := by
      unfold atT
      have : g1 + 1 + ((i : Int) - rel) = ((s + i : Nat) : Int) := by omega
      rw [this, if_pos (by omega)]
      exact e
    refine (A _ _ (by omega) (by omega) (fun q => ?_)).mp e1
    have ge := List.getElem?_eq_getElem hi
    rcases q with q | q
    · have hd : d1 = [46] := by
        rcases h.h1 with rfl | rfl
        · simp at b2; omega
        · rfl
      have i0 : i = 0 := by omega
      subst i0
      generalize (charsM p)[0] = x at ge ⊢
      rw [h.chars, hd] at ge
      exact (Option.some.inj ge).symm
    · have hd : d2 = [46] := by
        rcases h.h2 with rfl | rfl
        · simp at cl; omega
        · rfl
      have ie : i = (d1 ++ charsM t).length := by rw [List.length_append]; omega
      generalize (charsM p)[i] = x at ge ⊢
      rw [h.chars, hd, List.getElem?_append_right (by omega), ie, Nat.sub_self] at ge
      exact (Option.some.inj ge).symm
  have k0 := key 0 (by omega)
  rw [List.getElem?_eq_getElem (by omega)] at k0
  have p0 : 0 ≤ g2 + 1 + (((0 : Nat) : Int) - rel) := by
    unfold atT at k0
    split at k0
    · assumption
    · cases k0
  refine ⟨rel, (g2 + 1 - rel).toNat, h1, by omega, occ_get.mpr fun i hi => ?_⟩
  have ki := key i hi
  unfold atT at ki
  rw [if_pos (by omega)] at ki
  rw [← ki]
  congr 1
  omega
theorem found_iff {p w1 w2 : List Nat} {g1 g2 : Int} (hp : VP p) (A : Alike w1 g1 w2 g2) {d : Int} : (g1, d) ∈ foundM p w1 ↔ (g2, d) ∈ foundM p w2 := ⟨found_loc hp A, found_loc hp A.symm⟩
/-! a level by what is found -/
theorem up_get {ls : List Int} {z : Int × Int} {g : Nat} (hg : g < ls.length) : (up ls z).getD g 0 = if z.1.toNat = g then max (ls.getD g 0) z.2 else ls.getD g 0 := by
  unfold up
  rw [List.getD_eq_getElem?_getD, List.getElem?_set]
  by_cases h : z.1.toNat = g
  · subst h
    rw [if_pos rfl, if_pos rfl, if_pos hg]; rfl
  · rw [if_neg h, if_neg h, List.getD_eq_getElem?_getD]
theorem ups_get {g : Nat} : ∀ (us : List (Int × Int)) (ls : List Int), g < ls.length → (ls.getD g 0 ≤ (us.foldl up ls).getD g 0) ∧ (∀ z ∈ us, z.1.toNat = g → z.2 ≤ (us.foldl up ls).getD g 0) ∧ ((us.foldl up ls).getD g 0 = ls.getD g 0 ∨ ∃ z ∈ us, z.1.toNat = g ∧ z.2 = (us.foldl up ls).getD g 0)
  | [], ls, _ => ⟨Int.le_refl _, (fun z hz => nomatch hz), .inl rfl⟩
  | z :: us, ls, hg => by
    obtain ⟨i1, i2, i3⟩ := ups_get us (up ls z) (by rw [up_len]; exact hg)
    have e := up_get (z := z) hg
    rw [List.foldl_cons]
    generalize (us.foldl up (up ls z)).getD g 0 = R at i1 i2 i3 ⊢
    rw [e] at i1 i3
    by_cases h : z.1.toNat = g
    · rw [if_pos h] at i1 i3
      refine ⟨Int.le_trans (Int.le_max_left _ _) i1, fun y hy hyg => ?_, ?_⟩
      · rcases List.mem_cons.mp hy with rfl | hy
        · exact Int.le_trans (Int.le_max_right _ _) i1
        · exact i2 y hy hyg
      · rcases i3 with i3 | ⟨y, hy, q⟩
        · rcases Int.le_total (ls.getD g 0) z.2 with q | q
          · exact .inr ⟨z, List.mem_cons_self .., h, by rw [i3, Int.max_eq_right q]⟩
          · exact .inl (by rw [i3, Int.max_eq_left q])
        · exact .inr ⟨y, List.mem_cons_of_mem _ hy, q⟩
    · rw [if_neg h] at i1 i3
      refine ⟨i1, fun y hy hyg => ?_, ?_⟩
      · rcases List.mem_cons.mp hy with rfl | hy
        · exact absurd hyg h
        · exact i2 y hy hyg
      · rcases i3 with i3 | ⟨y, hy, q⟩
        · exact .inl i3
        · exact .inr ⟨y, List.mem_cons_of_mem _ hy, q⟩
theorem zs_get (n g : Nat) : (zs n).getD g 0 = 0 := by
  unfold zs
  rw [List.getD_eq_getElem?_getD, List.getElem?_replicate]
  split <;> rfl
/-- what a level is -/
theorem lev_is {ps : List (List Nat)} {w : List Nat} (hp : ∀ p ∈ ps, Inw p w) {g : Nat} (hg : g ≤ w.length) : 0 ≤ (levM ps w).getD g 0 ∧ (∀ p ∈ ps, ∀ d, ((g : Int), d) ∈ foundM p w → d ≤ (levM ps w).getD g 0) ∧ ((levM ps w).getD g 0 = 0 ∨ ∃ p ∈ ps, ((g : Int), (levM ps w).getD g 0) ∈ foundM p w) := by
  have := ups_get (g := g) (ps.flatMap fun p => foundM p w) (zs (w.length + 1)) (by unfold zs; rw [List.length_replicate]; omega)
  rw [zs_get] at this
  obtain ⟨i1, i2, i3⟩ := this
  refine ⟨i1, fun p hpp d hd => i2 _ (List.mem_flatMap.mpr ⟨p, hpp, hd⟩) rfl, ?_⟩
  rcases i3 with i3 | ⟨z, hz, q1, q2⟩
  · exact .inl i3
  · obtain ⟨p, hpp, hz⟩ := List.mem_flatMap.mp hz
    have := (hp p hpp z hz).1
    refine .inr ⟨p, hpp, ?_⟩
    have ez : z = ((g : Int), (levM ps w).getD g 0) := by
      obtain ⟨a, b⟩ := z
      dsimp only at q1 q2 this
      rw [show a = (g : Int) by omega, q2]; rfl
    rw [← ez]
    exact hz
theorem lev_alike {ps : List (List Nat)} {w1 w2 : List Nat} (hp : ∀ p ∈ ps, VP p) (hw1 : lets w1) (hw2 : lets w2) {g1 g2 : Nat} (hg1 : g1 ≤ w1.length) (hg2 : g2 ≤ w2.length) (A : Alike w1 g1 w2 g2) : (levM ps w1).getD g1 0 = (levM ps w2).getD g2 0 := by
  obtain ⟨a1, a2, a3⟩ := lev_is (fun p hpp => vp_in (hp p hpp) hw1) hg1
  obtain ⟨b1, b2, b3⟩ := lev_is (fun p hpp => vp_in (hp p hpp) hw2) hg2
  refine Int.le_antisymm ?_ ?_
  · rcases a3 with a3 | ⟨p, hpp, q⟩
    · omega
    · exact b2 p hpp _ ((found_iff (hp p hpp) A).mp q)
  · rcases b3 with b3 | ⟨p, hpp, q⟩
    · omega
    · exact a2 p hpp _ ((found_iff (hp p hpp) A).mpr q)
/-- the same letters in the middle -/
theorem alike_mid {a1 a2 b1 b2 m : List Nat} (hm : m.length = 8) (ha1 : 1 ≤ a1.length) (ha2 : 1 ≤ a2.length) (hb1 : 1 ≤ b1.length) (hb2 : 1 ≤ b2.length) (l1 : lets (a1 ++ m ++ b1)) (l2 : lets (a2 ++ m ++ b2)) : Alike (a1 ++ m ++ b1) ((a1.length + 4 : Nat) : Int) (a2 ++ m ++ b2) ((a2.length + 4 : Nat) : Int) := by
  have mid : ∀ (a b : List Nat) (k : Int), -4 ≤ k → k ≤ 3 → atT (a ++ m ++ b) (((a.length + 4 : Nat) : Int) + 1 + k) = m[(k + 4).toNat]? := fun a b k h1 h2 => by
    unfold atT
    rw [if_pos (by omega)]
    have e : (((a.length + 4 : Nat) : Int) + 1 + k).toNat = (a.length + (k + 4).toNat) + 1 := by omega
    rw [e, txt_in (by rw [List.length_append, List.length_append]; omega), List.getElem?_append_left (by rw [List.length_append]; omega), List.getElem?_append_right (by omega), Nat.add_sub_cancel_left]
  have out : ∀ (a b : List Nat) (k : Int), 1 ≤ a.length → 1 ≤ b.length → lets (a ++ m ++ b) → (k = -5 ∨ k = 4) → atT (a ++ m ++ b) (((a.length + 4 : Nat) : Int) + 1 + k) ≠ some 46 := fun a b k h1 h2 hl hk => by
    unfold atT
    rw [if_pos (by omega)]
    refine txt_dot hl (by omega) ?_
    rw [List.length_append, List.length_append]
    omega
  intro k c h1 h2 h3
  by_cases hk : k = -5 ∨ k = 4
  · have := h3 hk
    subst this
    exact ⟨fun e => absurd e (out a1 b1 k ha1 hb1 l1 hk), fun e => absurd e (out a2 b2 k ha2 hb2 l2 hk)⟩
  · rw [mid a1 b1 k (by omega) (by omega), mid a2 b2 k (by omega) (by omega)]
/-- what stands far behind -/
theorem alike_tail {w e : List Nat} {g : Nat} (hg : g + 5 ≤ w.length) : Alike (w ++ e) g w g := by
  intro k c h1 h2 h3
  have e : atT (w ++ e) ((g : Int) + 1 + k) = atT w ((g : Int) + 1 + k) := by
    unfold atT
    by_cases h0 : 0 ≤ (g : Int) + 1 + k
    · rw [if_pos h0, if_pos h0]
      obtain ⟨j, hj⟩ : ∃ j : Nat, ((g : Int) + 1 + k).toNat = j := ⟨_, rfl⟩
      rw [hj]
      rcases j with _ | j
      · rfl
      · rw [txt_in (by rw [List.length_append]; omega), txt_in (by omega), List.getElem?_append_left (by omega)]
    · rw [if_neg h0, if_neg h0]
  rw [e]
end G

end
section
set_option Elab.async false
set_option linter.all false
set_option maxRecDepth 100000
set_option maxHeartbeats 4000000
set_option autoImplicit false
/-! M: data compared and sought. -/
namespace G
open PySem L2 Lw
theorem toDs_map {α : Type} (f : α → Val) (g : α → PyData) : ∀ (xs : List α), (∀ x ∈ xs, toD (f x) = some (g x)) → toDs (xs.map f) = some (xs.map g)
  | [], _ => rfl
  | x :: xs, h => by
    show (match toD (f x), toDs (xs.map f) with
      | some d, some ds => some (d :: ds)
      | _, _ => none) = _
    rw [h x (List.mem_cons_self ..), toDs_map f g xs fun y hy => h y (List.mem_cons_of_mem _ hy)]; rfl
theorem layAll_map {α : Type} (g : α → PyData) : ∀ (xs : List α), (∀ x ∈ xs, PyData.canLay0 (g x) = true) → PyData.canLayAll0 (xs.map g) = true
  | [], _ => rfl
  | x :: xs, h => by
    show (PyData.canLay0 (g x) && PyData.canLayAll0 (xs.map g)) = true
    rw [h x (List.mem_cons_self ..), layAll_map g xs fun y hy => h y (List.mem_cons_of_mem _ hy)]; rfl
theorem depAll_map {α : Type} (g : α → PyData) (k : Nat) : ∀ (xs : List α), (∀ x ∈ xs, PyData.depth (g x) ≤ k) → PyData.depthAll (xs.map g) ≤ k
  | [], _ => Nat.zero_le _
  | x :: xs, h => by
    show max (PyData.depth (g x)) (PyData.depthAll (xs.map g)) ≤ k
    exact Nat.max_le.mpr ⟨h x (List.mem_cons_self ..), depAll_map g k xs fun y hy => h y (List.mem_cons_of_mem _ hy)⟩
theorem shaped_list {α : Type} (g : α → PyData) (xs : List α) (h1 : ∀ x ∈ xs, PyData.canLay0 (g x) = true) (h2 : ∀ x ∈ xs, PyData.depth (g x) ≤ 60) : SeqAt.shaped (.list (xs.map g)) = true := by
  unfold SeqAt.shaped
  have e1 : PyData.canLay0 (.list (xs.map g)) = true := layAll_map g xs h1
  have e2 : PyData.depth (.list (xs.map g)) ≤ 64 := by
    show PyData.depthAll (xs.map g) + 1 ≤ 64
    have := depAll_map g 60 xs h2
    omega
  rw [e1, decide_eq_true e2]; rfl
theorem shaped_tuple {α : Type} (g : α → PyData) (xs : List α) (h1 : ∀ x ∈ xs, PyData.canLay0 (g x) = true) (h2 : ∀ x ∈ xs, PyData.depth (g x) ≤ 60) : SeqAt.shaped (.tuple (xs.map g)) = true := by
  unfold SeqAt.shaped
  have e1 : PyData.canLay0 (.tuple (xs.map g)) = true := layAll_map g xs h1
  have e2 : PyData.depth (.tuple (xs.map g)) ≤ 64 := by
    show PyData.depthAll (xs.map g) + 1 ≤ 64
    have := depAll_map g 60 xs h2
    omega
  rw [e1, decide_eq_true e2]; rfl
theorem eqvAll_map {α : Type} [DecidableEq α] (g : α → PyData) : ∀ (xs ys : List α), (∀ x ∈ xs, ∀ y ∈ ys, PyData.eqv (g x) (g y) = decide (x = y)) → PyData.eqvAll (xs.map g) (ys.map g) = decide (xs = ys)
  | [], [], _ => by simp [PyData.eqvAll]
  | [], y :: ys, _ => by simp [PyData.eqvAll]
  | x :: xs, [], _ => by simp [PyData.eqvAll]
  | x :: xs, y :: ys, h => by
    rw [List.map_cons, List.map_cons, PyData.eqvAll, h x (List.mem_cons_self ..) y (List.mem_cons_self ..), eqvAll_map g xs ys fun a ha b hb => h a (List.mem_cons_of_mem _ ha) b (List.mem_cons_of_mem _ hb)]
    by_cases e : x = y
    · by_cases e2 : xs = ys <;> simp [e, e2]
    · simp [e]
theorem any_map {α : Type} [DecidableEq α] (g : α → PyData) (a : α) : ∀ (xs : List α), (∀ x ∈ xs, PyData.eqv (g x) (g a) = decide (x = a)) → (xs.map g).any (fun z => PyData.eqv z (g a)) = decide (a ∈ xs)
  | [], _ => by simp
  | x :: xs, h => by
    rw [List.map_cons, List.any_cons, h x (List.mem_cons_self ..), any_map g a xs fun y hy => h y (List.mem_cons_of_mem _ hy)]
    by_cases e : x = a
    · subst e; simp
    · have e' : ¬a = x := fun q => e q.symm
      by_cases e2 : a ∈ xs <;> simp [e, e', e2]
/-- data of one kind: laid out, as values and as data -/
structure Kd (α : Type) [DecidableEq α] (f : α → Val) (g : α → PyData) (P : α → Prop) : Prop where
  to : ∀ x, toD (f x) = some (g x)
  lay : ∀ x, P x → PyData.canLay0 (g x) = true
  dep : ∀ x, P x → PyData.depth (g x) ≤ 8
  eq : ∀ x y, PyData.eqv (g x) (g y) = decide (x = y)
section
variable {α : Type} [DecidableEq α] {f : α → Val} {g : α → PyData} {P : α → Prop} (k : Kd α f g P)
include k
theorem Kd.shaped {x : α} (h : P x) : SeqAt.shaped (g x) = true := by
  unfold SeqAt.shaped
  rw [k.lay x h, decide_eq_true (Nat.le_trans (k.dep x h) (by decide))]; rfl
theorem Kd.vEq {x y : α} (hx : P x) (hy : P y) : vEq (f x) (f y) = some (decide (x = y)) := by
  unfold Lw.vEq
  rw [k.to, k.to]
  dsimp only
  rw [if_pos ⟨k.shaped hx, k.shaped hy⟩, k.eq]
theorem Kd.eqv {x y : α} (hx : P x) (hy : P y) : oEq (f x) (f y) = some (.shr (.bl (decide (x = y)))) := by unfold oEq; rw [k.vEq hx hy]; rfl
theorem Kd.nev {x y : α} (hx : P x) (hy : P y) : oNe (f x) (f y) = some (.shr (.bl (!decide (x = y)))) := by unfold oNe; rw [k.vEq hx hy]; rfl
theorem Kd.lst : Kd (List α) (fun xs => .lst (xs.map f)) (fun xs => .list (xs.map g)) (fun xs => (∀ x ∈ xs, P x) ∧ ∀ x ∈ xs, PyData.depth (g x) ≤ 7) where
  to xs := by
    show (toDs (xs.map f)).map PyData.list = _
    rw [toDs_map f g xs fun x _ => k.to x]; rfl
  lay xs h := layAll_map g xs fun x hx => k.lay x (h.1 x hx)
  dep xs h := by
    show PyData.depthAll (xs.map g) + 1 ≤ 8
    have := depAll_map g 7 xs h.2
    omega
  eq xs ys := eqvAll_map g xs ys fun x _ y _ => k.eq x y
theorem Kd.tup : Kd (List α) (fun xs => .tup (xs.map f)) (fun xs => .tuple (xs.map g)) (fun xs => (∀ x ∈ xs, P x) ∧ ∀ x ∈ xs, PyData.depth (g x) ≤ 7) where
  to xs := by
    show (toDs (xs.map f)).map PyData.tuple = _
    rw [toDs_map f g xs fun x _ => k.to x]; rfl
  lay xs h := layAll_map g xs fun x hx => k.lay x (h.1 x hx)
  dep xs h := by
    show PyData.depthAll (xs.map g) + 1 ≤ 8
    have := depAll_map g 7 xs h.2
    omega
  eq xs ys := eqvAll_map g xs ys fun x _ y _ => k.eq x y
theorem Kd.vInL (hn : ∀ x (c : Nat), f x ≠ .str [c] ∨ True) {x : α} {ys : List α} (hx : P x) (hy : ∀ y ∈ ys, P y) : vIn (f x) (.lst (ys.map f)) = some (decide (x ∈ ys)) := by
  have e : ∀ (v : Val), toD v = some (g x) → vIn v (.lst (ys.map f)) = some (decide (x ∈ ys)) := fun v hv => by
    have e1 : vIn v (.lst (ys.map f)) = (match toD v, toDs (ys.map f) with
      | some d, some ds => if SeqAt.shaped d = true ∧ SeqAt.shaped (.list ds) = true then some (ds.any fun z => PyData.eqv z d) else none
      | _, _ => none) := by
      cases v with
      | str z =>
        cases z with
        | nil => rfl
        | cons a z => cases z <;> rfl
      | _ => rfl
    rw [e1, hv, toDs_map f g ys fun y _ => k.to y]
    dsimp only
    rw [if_pos ⟨k.shaped hx, shaped_list g ys (fun y h => k.lay y (hy y h)) fun y h => Nat.le_trans (k.dep y (hy y h)) (by decide)⟩, any_map g x ys fun y _ => k.eq y x]
  exact e _ (k.to x)
theorem Kd.inL {x : α} {ys : List α} [d : Decidable (x ∈ ys)] (hx : P x) (hy : ∀ y ∈ ys, P y) : oIn (f x) (.lst (ys.map f)) = some (.shr (.bl (decide (x ∈ ys)))) := by
  unfold oIn
  rw [k.vInL (fun _ _ => .inr trivial) hx hy]
  show some (RV.shr (.bl _)) = _
  congr
theorem Kd.notInL {x : α} {ys : List α} [d : Decidable (x ∈ ys)] (hx : P x) (hy : ∀ y ∈ ys, P y) : oNotIn (f x) (.lst (ys.map f)) = some (.shr (.bl (!decide (x ∈ ys)))) := by
  unfold oNotIn
  rw [k.vInL (fun _ _ => .inr trivial) hx hy]
  show some (RV.shr (.bl (!_))) = _
  congr
end
theorem kI : Kd Int Val.int PyData.int fun _ => True where
  to _ := rfl
  lay _ _ := rfl
  dep _ _ := Nat.zero_le _
  eq x y := by show (x == y) = _; rfl
theorem kS : Kd (List Nat) Val.str (fun z => .str ⟨z.toArray⟩) okS where
  to _ := rfl
  lay z h := by
    show PyData.strOk ⟨z.toArray⟩ = true
    unfold PyData.strOk
    rw [List.all_toArray, List.all_eq_true]
    exact fun c hc => decide_eq_true (h c hc)
  dep _ _ := Nat.zero_le _
  eq a b := by
    show ((⟨a.toArray⟩ : PySem.Str) == ⟨b.toArray⟩) = _
    rw [str_beq]
    by_cases h : a = b
    · subst h; simp
    · simp [h]
theorem kP : Kd (Int × Int) pr (fun z => .tuple [.int z.1, .int z.2]) fun _ => True where
  to _ := rfl
  lay _ _ := rfl
  dep z _ := by
    show max 0 (max 0 0) + 1 ≤ 8
    decide
  eq x y := by
    show (x.1 == y.1 && (x.2 == y.2 && true)) = _
    obtain ⟨a, b⟩ := x
    obtain ⟨c, d⟩ := y
    by_cases h1 : a = c
    · by_cases h2 : b = d
      · subst h1 h2; simp
      · subst h1; simp [h2]
    · simp [h1]
theorem eq_ints (xs ys : List Int) : oEq (.lst (xs.map Val.int)) (.lst (ys.map Val.int)) = some (.shr (.bl (decide (xs = ys)))) := kI.lst.eqv ⟨fun _ _ => trivial, fun _ _ => Nat.zero_le _⟩ ⟨fun _ _ => trivial, fun _ _ => Nat.zero_le _⟩
theorem ne_ints (xs ys : List Int) : oNe (.lst (xs.map Val.int)) (.lst (ys.map Val.int)) = some (.shr (.bl (!decide (xs = ys)))) := kI.lst.nev ⟨fun _ _ => trivial, fun _ _ => Nat.zero_le _⟩ ⟨fun _ _ => trivial, fun _ _ => Nat.zero_le _⟩
theorem in_ints (x : Int) (ys : List Int) : oIn (.int x) (.lst (ys.map Val.int)) = some (.shr (.bl (decide (x ∈ ys)))) := kI.inL trivial fun _ _ => trivial
theorem in_prs (a b : Int) (ys : List (Int × Int)) : oIn (.tup [.int a, .int b]) (.lst (ys.map pr)) = some (.shr (.bl (decide ((a, b) ∈ ys)))) := kP.inL (x := (a, b)) trivial fun _ _ => trivial
theorem notin_strs {x : List Nat} {ys : List (List Nat)} (hx : okS x) (hy : ∀ y ∈ ys, okS y) : oNotIn (.str x) (.lst (ys.map Val.str)) = some (.shr (.bl (!decide (x ∈ ys)))) := kS.notInL hx hy
theorem in_strs {x : List Nat} {ys : List (List Nat)} (hx : okS x) (hy : ∀ y ∈ ys, okS y) : oIn (.str x) (.lst (ys.map Val.str)) = some (.shr (.bl (decide (x ∈ ys)))) := kS.inL hx hy
theorem ne_bb (a b : Bool) : oNe (.bl a) (.bl b) = some (.shr (.bl (!decide (a = b)))) := by cases a <;> cases b <;> rfl
theorem eq_bb (a b : Bool) : oEq (.bl a) (.bl b) = some (.shr (.bl (decide (a = b)))) := by cases a <;> cases b <;> rfl
end G

end
section
set_option Elab.async false
set_option linter.all false
set_option maxRecDepth 100000
set_option maxHeartbeats 4000000
set_option autoImplicit false
/-! M: what is valid. -/
namespace G
open PySem L2 Lw
theorem smI {i : Int} (h0 : 0 ≤ i) (h1 : i ≤ 100000) : smallI i = true := by unfold smallI; exact decide_eq_true (by omega)
theorem tupleOf_l (xs : List Val) : oTupleOf [.lst xs] = some (.shr (.tup xs)) := rfl
theorem app_ok {xs : List Val} {v : Val} : oAppend xs [v] = if xs.length < 16000000 then some (.non, xs ++ [v]) else none := rfl
theorem EX_yes {env : Lw.Env} {Q : ERes → Lw.Env → Prop} : OX (sYes env) Q = Q (.val (.shr (.bl true))) env := rfl
theorem isi_ii (i : Int) : oIsi [.int i, .ty "int"] = some (.shr (.bl true)) := rfl
theorem isi_ib (i : Int) : oIsi [.int i, .ty "bool"] = some (.shr (.bl false)) := rfl
theorem isi_ss (z : List Nat) : oIsi [.str z, .ty "str"] = some (.shr (.bl true)) := rfl
theorem isi_tt (z : List Val) : oIsi [.tup z, .ty "tuple"] = some (.shr (.bl true)) := rfl
theorem all_bls {α : Type} (xs : List α) (b : α → Bool) : oAll [.lst (xs.map fun x => .bl (b x))] = some (.shr (.bl (xs.all b))) := by
  show (bls? (xs.map fun x => .bl (b x))).map (fun bs => RV.shr (.bl (bs.all id))) = _
  have : (xs.map fun x => Val.bl (b x)) = (xs.map b).map Val.bl := by rw [List.map_map]; rfl
  rw [this, bls_map]
  simp
theorem any_bls {α : Type} (xs : List α) (b : α → Bool) : oAny [.lst (xs.map fun x => .bl (b x))] = some (.shr (.bl (xs.any b))) := by
  show (bls? (xs.map fun x => .bl (b x))).map (fun bs => RV.shr (.bl (bs.any id))) = _
  have : (xs.map fun x => Val.bl (b x)) = (xs.map b).map Val.bl := by rw [List.map_map]; rfl
  rw [this, bls_map]
  simp
theorem fm_some {α β : Type} (xs : List α) (f : α → β) : xs.filterMap (fun x => some (f x)) = xs.map f := by
  induction xs with
  | nil => rfl
  | cons x xs ih => rw [List.filterMap_cons, ih]; rfl
theorem zipS : ∀ a b : List Nat, zipV (a.map fun c => Val.str [c]) (b.map fun c => Val.str [c]) = (a.zip b).map fun z => Val.tup [.str [z.1], .str [z.2]]
  | [], _ => by simp [zipV]
  | _ :: _, [] => by simp [zipV]
  | x :: a, y :: b => by
    have := zipS a b
    unfold zipV at this ⊢
    simp only [List.map_cons, List.zipWith_cons_cons, List.zip_cons_cons, this]
theorem cut_tail {α : Type} (a : α) (x : List α) : cutG (a :: x) (some 1) none = x := by
  unfold cutG
  simp [HT.sIx]
  try omega
theorem cut_init {α : Type} (a : α) (x : List α) : cutG (x ++ [a]) none (some (-1)) = x := by
  unfold cutG
  simp [HT.sIx]
  have e : (-1 + ((x.length : Int) + 1)).toNat = x.length := by omega
  rw [e, List.take_left]
theorem count_ok (i a b : Int) : fn_is_count [.shr (.int i), .shr (.int a), .shr (.int b)] = some (.ret (.shr (.bl (decide (a ≤ i) && decide (i ≤ b)))), [.un, .un, .un]) := by
  apply OX_det
  unfold fn_is_count g_is_count
  refine FX_run rfl ?_
  simp_arith [isi_ii, isi_ib, Bool.not_false, Bool.true_eq_false]
  refine ⟨fun h => ?_, fun h => ?_⟩
  · rw [decide_eq_true h, Bool.true_and]
  · rw [decide_eq_false h, Bool.false_and]
theorem na_pairs : ∀ (t : List Nat) (b : Bool), noAdj b t = true → ∀ z ∈ t.zip (t.drop 1), (decide (z.1 ∈ D9) && decide (z.2 ∈ D9)) = false
  | [], _, _, z, hz => by cases hz
  | [c], _, _, z, hz => by cases hz
  | c :: d :: t, b, h, z, hz => by
    unfold noAdj at h
    rw [List.drop_succ_cons, List.drop_zero, List.zip_cons_cons] at hz
    rcases List.mem_cons.mp hz with rfl | hz
    · dsimp only
      by_cases hc : c ∈ D9
      · rw [if_pos hc] at h
        have h2 := (Bool.and_eq_true_iff.mp h).2
        unfold noAdj at h2
        by_cases hd : d ∈ D9
        · rw [if_pos hd] at h2; cases h2
        · simp [hd]
      · simp [hc]
    · have hz' : z ∈ (d :: t).zip ((d :: t).drop 1) := hz
      by_cases hc : c ∈ D9
      · rw [if_pos hc] at h
        exact na_pairs (d :: t) true (Bool.and_eq_true_iff.mp h).2 z hz'
      · rw [if_neg hc] at h
        exact na_pairs (d :: t) false h z hz'
def LD : List Nat := [97, 98, 99, 100, 101, 102, 103, 104, 105, 106, 107, 108, 109, 110, 111, 112, 113, 114, 115, 116, 117, 118, 119, 120, 121, 122, 49, 50, 51, 52, 53, 54, 55, 56, 57]
def LL : List Nat := [97, 98, 99, 100, 101, 102, 103, 104, 105, 106, 107, 108, 109, 110, 111, 112, 113, 114, 115, 116, 117, 118, 119, 120, 121, 122]
theorem let_all : ∀ k : Fin 26, (97 + k.val) ∈ LL ∧ (97 + k.val) ∈ LD := by decide
theorem let_LL {c : Nat} (h : isLet c) : c ∈ LL ∧ c ∈ LD := by
  unfold isLet at h
  have := let_all ⟨c - 97, by omega⟩
  have e : 97 + (c - 97) = c := by omega
  simpa only [e] using this
theorem d9_LD : ∀ c ∈ D9, c ∈ LD := by decide
end G

end
section
set_option Elab.async false
set_option linter.all false
set_option maxRecDepth 100000
set_option maxHeartbeats 4000000
set_option autoImplicit false
/-! M: valid patterns are taken for such. -/
namespace G
open PySem L2 Lw
theorem ends_last (x : List Nat) (c : Nat) : Txt.endswith (S (x ++ [c])) (S [46]) = decide (c = 46) := by
  unfold Txt.endswith
  rw [StrLaws.subAt_eq, S_len, S_len]
  have e : (x ++ [c]).length - [46].length = x.length := by rw [List.length_append]; simp
  rw [e]
  show (decide (0 + 1 ≤ (x ++ [c]).length) && (((x ++ [c]).drop x.length).take 1 == [46])) = _
  rw [List.drop_left, decide_eq_true (by rw [List.length_append]; simp), Bool.true_and]
  by_cases h : c = 46
  · subst h; rfl
  · rw [decide_eq_false h]; simp [h]
theorem ends_dot (x : List Nat) : Txt.endswith (S (x ++ [46])) (S [46]) = true := ends_last x 46
theorem ends_no {t : List Nat} (h : 0 < t.length) (nd : 46 ∉ t) : Txt.endswith (S t) (S [46]) = false := by
  obtain ⟨x, c, rfl⟩ : ∃ x c, t = x ++ [c] := by
    refine ⟨t.dropLast, t.getLast (by intro e; subst e; cases h), ?_⟩
    exact (List.dropLast_concat_getLast _).symm
  rw [ends_last]
  exact decide_eq_false fun e => nd (by rw [e]; simp)
theorem sg_noDot {t : List Nat} (h : ∀ c ∈ t, c ∈ D9 ∨ isLet c) : 46 ∉ t := fun hc => by
  rcases h 46 hc with hd | hd
  · have := d9_le hd; omega
  · unfold isLet at hd; omega
theorem pattern_ok {p : List Nat} (hp : VP p) : fn_is_pattern [.shr (.str p)] = some (.ret (.shr (.bl true)), [.un]) := by
  obtain ⟨d1, t, d2, h⟩ := hp
  have hl := h.len
  have hok := h.ok
  have tl : t.length ≤ 11 := by have := h.eq; have := h.len; subst p; rw [List.length_append, List.length_append] at this; omega
  have tp : 0 < t.length := by have := h.c1; have := h.lt; omega
  have all1 : t.all (fun c => decide (c ∈ LD)) = true := List.all_eq_true.mpr fun c hc => decide_eq_true (by
    rcases h.sg c hc with hd | hd
    · exact d9_LD c hd
    · exact (let_LL hd).2)
  have any1 : (t.zip (t.drop 1)).any (fun z => decide (z.1 ∈ D9) && decide (z.2 ∈ D9)) = false := List.any_eq_false.mpr fun z hz => by rw [na_pairs t false h.na z hz]; decide
  have nd := sg_noDot h.sg
  obtain ⟨c0, t0, ht⟩ : ∃ c0 t0, t = c0 :: t0 := by
    cases t with
    | nil => cases tp
    | cons a b => exact ⟨a, b, rfl⟩
  have nc : c0 ≠ 46 := fun e => nd (by rw [ht, ← e]; exact List.mem_cons_self ..)
  have dn : decide (p = []) = false := decide_eq_false (by
    intro e; have := h.eq; rw [e, ht] at this; simp at this)
  have nd2 : Txt.endswith (S t) (S [46]) = false := ends_no tp nd
  apply OX_det
  unfold fn_is_pattern g_is_pattern
  refine FX_run rfl ?_
  have f1 : ∃ (e1 e2 : Bool) (i1 : List Nat) (x0 : Nat), i1.length ≤ 12 ∧ atI p 0 = some x0 ∧ decide ([x0] = [46]) = e1 ∧ (e1 = true → cutG p (some 1) none = i1) ∧ (e1 = false → p = i1) ∧ Txt.endswith (S i1) (S [46]) = e2 ∧ (e2 = true → cutG i1 none (some (-1)) = t) ∧ (e2 = false → t = i1) := by
    have l2 := h.l2
    have f2 : ∃ e2 : Bool, Txt.endswith (S (t ++ d2)) (S [46]) = e2 ∧ (e2 = true → cutG (t ++ d2) none (some (-1)) = t) ∧ (e2 = false → t = t ++ d2) := by
      rcases h.h2 with rfl | rfl
      · exact ⟨false, by rw [List.append_nil]; exact nd2, (fun q => by cases q), fun _ => (List.append_nil t).symm⟩
      · exact ⟨true, ends_dot t, (fun _ => cut_init _ _), (fun q => by cases q)⟩
    obtain ⟨e2, r1, r2, r3⟩ := f2
    rcases h.h1 with rfl | rfl
    · refine ⟨false, e2, t ++ d2, c0, by rw [List.length_append]; omega, ?_, decide_eq_false (by simp [nc]), (fun q => by cases q), (fun _ => h.eq), r1, r2, r3⟩
      rw [h.eq, ht]; exact atI_nat0
    · refine ⟨true, e2, t ++ d2, 46, by rw [List.length_append]; omega, ?_, decide_eq_true rfl, (fun _ => by rw [h.eq]; exact cut_tail _ _), (fun q => by cases q), r1, r2, r3⟩
      rw [h.eq]; exact atI_nat0
  obtain ⟨e1, e2, i1, x0, il, q1, q2, q3, q4, r1, r2, r3⟩ := f1
  have okx : okS [x0] := fun c hc => by
    rw [List.mem_singleton] at hc; subst hc
    obtain ⟨y, hy, hm, _⟩ := atI_in (xs := p) (i := 0) (by decide) (by have := h.eq; rw [this, ht]; simp; omega)
    rw [q1] at hy; cases hy
    exact hok _ hm
  have en : oEnds (.str i1) [.str [46]] = some (.shr (.bl e2)) := by rw [← r1]; rfl
  have c1 := h.c1
  have c4 := h.c4
  have lt := h.lt
  have ok0 : okS ([] : List Nat) := fun c hc => by cases hc
  have ok46 : okS [46] := fun c hc => by rw [List.mem_singleton] at hc; subst hc; decide
  clear h
  have hl16 : p.length ≤ 16000000 := by omega
  have tl16 : t.length ≤ 16000000 := by omega
  have il16 : i1.length ≤ 16000000 := by omega
  have c16 : (charsM t).length ≤ 16000000 := by omega
  have c1i : decide ((1 : Int) ≤ ((charsM t).length : Int)) = true := decide_eq_true (by omega)
  have c4i : decide (((charsM t).length : Int) ≤ 4) = true := decide_eq_true (by omega)
  have lti : decide (((charsM t).length : Int) < (t.length : Int)) = true := decide_eq_true (by omega)
  have X : (e1 = false ∧ p = i1 ∧ True ∨ e1 = true ∧ cutG p (some 1) none = i1) := by
    cases e1
    · exact .inl ⟨rfl, q4 rfl, trivial⟩
    · exact .inr ⟨rfl, q3 rfl⟩
  have Y : (e2 = false ∧ t = i1 ∧ True ∨ e2 = true ∧ cutG i1 none (some (-1)) = t) := by
    cases e2
    · exact .inl ⟨rfl, r3 rfl, trivial⟩
    · exact .inr ⟨rfl, r2 rfl⟩
  have all2 : oAll [.lst (t.map fun c => .bl (decide (c ∈ LD)))] = some (.shr (.bl true)) := by rw [all_bls, all1]
  have any2 : oAny [.lst ((t.zip (t.drop 1)).map fun z => .bl (decide (z.1 ∈ D9) && decide (z.2 ∈ D9)))] = some (.shr (.bl false)) := by rw [any_bls, any1]
  have cut1 : cutG t (some 1) none = t.drop 1 := by rw [ht]; exact cut_tail _ _
  clear r1 r2 r3 q3 q4
  rcases X with ⟨rfl, rfl, X⟩ | ⟨rfl, X⟩ <;> rcases Y with ⟨rfl, rfl, Y⟩ | ⟨rfl, Y⟩
  all_goals
    simp_arith [isi_ss, eqv_ss hok ok0, dn, q1, Bool.not_true, Bool.not_false, eqv_ss okx ok46, q2, tyOf, en, EX_lc, itS, wipe?, plainAt, plainS, wipeE, List.all_cons, List.all_nil, Bool.and_self, EX_yes, Bool.true_eq_false, hl16, tl16, il16, X, Y]
    refine LC_pure (fun c => some (.bl (decide (c ∈ LD)))) tl16 (fun c hc => ?_) ?_
    · simp_arith [EX_yes, inS]
      exact ⟨_, rfl, fun _ => ⟨_, rfl, rfl, rfl⟩, (fun q => by cases q)⟩
    · rw [fm_some]
      refine ⟨rfl, ?_⟩
      simp_arith [restE, Option.getD_some, all2, Bool.not_true, Bool.true_eq_false, tl16, cut1, itS, zipS, wipe?, plainAt, plainS, wipeE, List.all_cons, List.all_nil, Bool.and_self]
      refine LC_pure (fun z => some (.bl (decide (z.1 ∈ D9) && decide (z.2 ∈ D9)))) (by rw [List.length_zip]; omega) (fun z hz => ?_) ?_
      · simp_arith [EX_yes, inS]
        refine ⟨_, rfl, fun _ => ⟨fun h1 => ⟨_, rfl, ?_, rfl⟩, fun h1 => ⟨_, rfl, ?_, rfl⟩⟩, (fun q => by cases q)⟩
        · show _ = some (Val.bl (decide (z.2 ∈ D9)))
          rw [decide_eq_true (show z.1 ∈ D9 from h1), Bool.true_and]
        · rw [decide_eq_false (show ¬z.1 ∈ D9 from h1), Bool.false_and]
      · rw [fm_some]
        refine ⟨rfl, ?_⟩
        simp_arith [restE, Option.getD_some, any2, Bool.not_true, Bool.true_eq_false, tl16, chars_ok t (by omega), c16, c1i, c4i, lti]
end G

end
section
set_option Elab.async false
set_option linter.all false
set_option maxRecDepth 100000
set_option maxHeartbeats 4000000
set_option autoImplicit false
/-! M: valid rules and words; levels, breaks, why. -/
namespace G
open PySem L2 Lw
theorem S_inj {a b : List Nat} (h : S a = S b) : a = b := by
  have : (S a).cps.toList = (S b).cps.toList := by rw [h]
  exact this
theorem puts_nodup : ∀ (xs : List (List Nat)) (ms : List PySem.Str), (∀ x ∈ xs, S x ∉ ms) → xs.Nodup → (Lw.ST.puts ms (xs.map S)).length = ms.length + xs.length
  | [], ms, _, _ => rfl
  | x :: xs, ms, h, nd => by
    obtain ⟨n1, n2⟩ := List.nodup_cons.mp nd
    show (Lw.ST.puts (Lw.ST.put ms (S x)) (xs.map S)).length = _
    have e : Lw.ST.put ms (S x) = S x :: ms := by unfold Lw.ST.put; rw [if_neg (h x (List.mem_cons_self ..))]
    rw [e, puts_nodup xs (S x :: ms) (fun y hy hm => ?_) n2, List.length_cons, List.length_cons]
    · omega
    · rcases List.mem_cons.mp hm with q | q
      · exact n1 (S_inj q ▸ hy)
      · exact h y (List.mem_cons_of_mem _ hy) q
theorem lenSet_nodup {ls : List (List Nat)} (nd : ls.Nodup) (hl : ls.length ≤ 4000) : oLenSet (.lst (ls.map Val.str)) = some (.shr (.int (ls.length : Nat))) := by
  show (match strs? (ls.map Val.str) with
    | some ls => if ls.length ≤ 4000 then some (RV.shr (.int (uniqN ls))) else none
    | none => none) = _
  rw [strs_map]
  dsimp only
  rw [if_pos hl]
  have : uniqN ls = ls.length := by
    have := puts_nodup ls [] (fun _ _ h => by cases h) nd
    unfold uniqN
    rw [this]; simp
  rw [this]
theorem EX_lenSet {f : EF} {env : Lw.Env} {Q : ERes → Lw.Env → Prop} : OX (sLenSet f env) Q = OX (f env) (rE Q fun o e => OB (o.get e) fun x => OB (oLenSet x) fun r => Q (.val r.opd) e) := EX_un
/-- valid rules -/
structure VR (ps : List (List Nat)) (l r : Int) : Prop where
  vp : ∀ p ∈ ps, VP p
  nd : (ps.map charsM).Nodup
  n6 : ps.length ≤ 6
  l1 : 1 ≤ l
  l4 : l ≤ 4
  r1 : 1 ≤ r
  r4 : r ≤ 4
theorem VP.len {p : List Nat} (h : VP p) : p.length ≤ 11 := by obtain ⟨_, _, _, h⟩ := h; exact h.len
theorem VP.ok {p : List Nat} (h : VP p) : okS p := by obtain ⟨_, _, _, h⟩ := h; exact h.ok
theorem rules_ok {ps : List (List Nat)} {l r : Int} (h : VR ps l r) : fn_is_rules [.shr (rulesV ps l r)] = some (.ret (.shr (.bl true)), [.un]) := by
  obtain ⟨vp, nd, n6, l1, l4, r1, r4⟩ := h
  apply OX_det
  unfold fn_is_rules g_is_rules rulesV
  refine FX_run rfl ?_
  have en : (([l, r] : List Int).map Val.int) = [.int l, .int r] := rfl
  have cutT : ∀ v : Val, cutG [v, .int l, .int r] (some 1) none = ([l, r] : List Int).map Val.int := fun v => cut_tail _ _
  have alln : oAll [.lst (([l, r] : List Int).map fun i => .bl (decide (1 ≤ i) && decide (i ≤ 4)))] = some (.shr (.bl true)) := by rw [all_bls]; simp [l1, l4, r1, r4]
  have alln2 : oAll [.lst [.bl (decide (1 ≤ l) && decide (l ≤ 4)), .bl (decide (1 ≤ r) && decide (r ≤ 4))]] = some (.shr (.bl true)) := alln
  have allp : oAll [.lst (ps.map fun _ => .bl true)] = some (.shr (.bl true)) := by rw [all_bls ps fun _ => true]; simp
  have n6i : ¬(6 : Int) < (ps.length : Int) := by omega
  have e3 : decide (((3 : Nat) : Int) = 3) = true := rfl
  have ls := lenSet_nodup nd (by rw [List.length_map]; omega)
  rw [List.length_map] at ls
  simp_arith [isi_tt, EX_lc, itT, itL, wipe?, plainAt, plainS, wipeE, List.all_cons, List.all_nil, Bool.and_self, tyOf, cutT, EX_yes, restE, Option.getD_some, Bool.not_true, Bool.not_false, e3, Bool.true_eq_false, List.length_map, n6i, not_false_eq_true]
  refine LC_pure (xs := [l, r]) (fun i => some (.bl (decide (1 ≤ i) && decide (i ≤ 4)))) (by show 2 ≤ 16000000; decide) (fun i hi => ?_) ?_
  · simp_arith [EX_yes, count_ok]
    exact ⟨_, rfl, fun _ => ⟨_, rfl, rfl, rfl⟩, (fun q => by cases q)⟩
  rw [fm_some]
  refine ⟨rfl, ?_⟩
  simp_arith [alln2, Bool.not_true, Bool.not_false, Bool.true_eq_false, List.length_map, n6i, not_false_eq_true, isi_tt, EX_lc, itT, itL, wipe?, plainAt, plainS, wipeE, List.all_cons, List.all_nil, Bool.and_self, tyOf, EX_yes, restE, Option.getD_some]
  refine LC_pure (xs := ps) (fun p => some (.bl true)) (by omega) (fun p hp => ?_) ?_
  · simp_arith [EX_yes, pattern_ok (vp p hp)]
    exact ⟨_, rfl, fun _ => ⟨_, rfl, rfl, rfl⟩, (fun q => by cases q)⟩
  rw [fm_some]
  refine ⟨rfl, ?_⟩
  simp_arith [allp, EX_lenSet, Bool.not_true, Bool.not_false, Bool.true_eq_false, List.length_map, isi_tt, EX_lc, itT, itL, wipe?, plainAt, plainS, wipeE, List.all_cons, List.all_nil, Bool.and_self, tyOf, EX_yes, restE, Option.getD_some]
  refine LC_pure (xs := ps) (fun p => some (.str (charsM p))) (by omega) (fun p hp => ?_) ?_
  · simp_arith [EX_yes, chars_ok p (by have := (vp p hp).len; omega)]
    exact ⟨_, rfl, fun _ => ⟨_, rfl, rfl, rfl⟩, (fun q => by cases q)⟩
  rw [fm_some]
  have em : (ps.map fun p => Val.str (charsM p)) = (ps.map charsM).map Val.str := by rw [List.map_map]; rfl
  refine ⟨rfl, ?_⟩
  simp_arith [em, ls, List.length_map, decide_true, and_self]
theorem need_rules_ok {ps : List (List Nat)} {l r : Int} (h : VR ps l r) : fn_need_rules [.shr (rulesV ps l r)] = some (.ret (.shr .non), [.un]) := by
  apply OX_det
  unfold fn_need_rules g_need_rules
  refine FX_run rfl ?_
  simp_arith [rules_ok h, Bool.not_true, Bool.true_eq_false, and_self]
end G

end
section
set_option Elab.async false
set_option linter.all false
set_option maxRecDepth 100000
set_option maxHeartbeats 4000000
set_option autoImplicit false
/-! M: breaks and why. -/
namespace G
open PySem L2 Lw
def oddAt (ps : List (List Nat)) (w : List Nat) (g : Int) : Bool := decide ((levM ps w).getD g.toNat 0 % 2 = 1)
def gapsM (l r : Int) (n : Nat) : List Int := (List.range ((n : Int) - r + 1 - l).toNat).map fun i => l + (i : Nat)
def breaksM (ps : List (List Nat)) (l r : Int) (w : List Nat) : List Int := (gapsM l r w.length).filter (oddAt ps w)
theorem gaps_mem {l r : Int} {n : Nat} {g : Int} : g ∈ gapsM l r n ↔ l ≤ g ∧ g ≤ (n : Int) - r := by
  unfold gapsM
  rw [List.mem_map]
  constructor
  · rintro ⟨i, hi, rfl⟩
    have := List.mem_range.mp hi
    omega
  · rintro ⟨h1, h2⟩
    exact ⟨(g - l).toNat, List.mem_range.mpr (by omega), by omega⟩
theorem breaks_mem {ps : List (List Nat)} {l r : Int} {w : List Nat} {g : Int} : g ∈ breaksM ps l r w ↔ (l ≤ g ∧ g ≤ (w.length : Int) - r) ∧ oddAt ps w g = true := by
  unfold breaksM
  rw [List.mem_filter, gaps_mem]
/-- the places of the patterns that give a gap its level -/
def whyM (ps : List (List Nat)) (w : List Nat) (g : Int) : List Int :=
  if (levM ps w).getD g.toNat 0 = 0 then [] else (ps.zipIdx.filter fun z => decide ((g, (levM ps w).getD g.toNat 0) ∈ foundM z.1 w)).map fun z => ((z.2 : Nat) : Int)
theorem enumS (ps : List (List Nat)) : enumV (ps.map Val.str) = ps.zipIdx.map fun z => Val.tup [.int (z.2 : Nat), .str z.1] := by
  unfold enumV
  rw [List.mapIdx_eq_zipIdx_map, List.zipIdx_map, List.map_map]
  rfl
end G

end
section
set_option Elab.async false
set_option linter.all false
set_option maxRecDepth 100000
set_option maxHeartbeats 4000000
set_option autoImplicit false
/-! M: what the law makes of a script. -/
namespace G
open PySem L2 Lw

/-! digits and letters, one by one -/
theorem na_d : ∀ (t : List Nat) (b : Bool) (d : Nat), d ∈ D9 → noAdj b (t ++ [d]) = noAdj b (t ++ [49])
  | [], b, d, h => by
    show noAdj b [d] = noAdj b [49]
    unfold noAdj
    rw [if_pos h, if_pos (show 49 ∈ D9 by decide)]
  | c :: t, b, d, h => by
    show noAdj b (c :: (t ++ [d])) = noAdj b (c :: (t ++ [49]))
    unfold noAdj
    rw [na_d t true d h, na_d t false d h]
theorem na_l : ∀ (t : List Nat) (b : Bool) (c : Nat), c ∉ D9 → noAdj b (t ++ [c]) = noAdj b t ∧ noAdj b (t ++ [c] ++ [49]) = noAdj b t
  | [], b, c, h => by
    refine ⟨?_, ?_⟩
    · show noAdj b [c] = _
      unfold noAdj
      rw [if_neg h]
      rfl
    · show noAdj b [c, 49] = _
      unfold noAdj
      rw [if_neg h]
      rfl
  | a :: t, b, c, h => by
    refine ⟨?_, ?_⟩
    · show noAdj b (a :: (t ++ [c])) = noAdj b (a :: t)
      unfold noAdj
      rw [(na_l t true c h).1, (na_l t false c h).1]
    · show noAdj b (a :: (t ++ [c] ++ [49])) = noAdj b (a :: t)
      unfold noAdj
      rw [(na_l t true c h).2, (na_l t false c h).2]
theorem na_of : ∀ (t : List Nat) (b : Bool), noAdj b (t ++ [49]) = true → noAdj b t = true
  | [], b, _ => by cases b <;> rfl
  | a :: t, b, h => by
    have h : noAdj b (a :: (t ++ [49])) = true := h
    unfold noAdj at h ⊢
    by_cases ha : a ∈ D9
    · rw [if_pos ha] at h ⊢
      obtain ⟨h1, h2⟩ := Bool.and_eq_true_iff.mp h
      rw [h1, na_of t true h2]; rfl
    · rw [if_neg ha] at h ⊢
      exact na_of t false h
/-- the digits that a law's pattern takes -/
def D5 : List Nat := [49, 50, 51, 52, 53]
theorem d5_9 {c : Nat} (h : c ∈ D5) : c ∈ D9 := by
  have : c = 49 ∨ c = 50 ∨ c = 51 ∨ c = 52 ∨ c = 53 := by simpa [D5] using h
  exact d9_of (by omega) (by omega)
structure Way (z t : List Nat) (i : Nat) : Prop where
  fit : noAdj false (t ++ [49]) = true
  cl : (charsM t).length = i
  sg : ∀ c ∈ t, c ∈ D9 ∨ isLet c
  sz : ∀ c ∈ t, c ∈ D5 ∨ c ∈ z
theorem Way.len {z t : List Nat} {i : Nat} (h : Way z t i) : t.length ≤ 2 * i + 1 := by
  have := na_len t false (na_of t false h.fit)
  rw [h.cl] at this
  simpa using this
theorem let_nd {c : Nat} (h : isLet c) : c ∉ D9 := fun q => by have := d9_le q; unfold isLet at h; omega
theorem Way.letter {z t : List Nat} {i : Nat} (h : noAdj false t = true) (cl : (charsM t).length = i) (sg : ∀ c ∈ t, c ∈ D9 ∨ isLet c) (sz : ∀ c ∈ t, c ∈ D5 ∨ c ∈ z) {c : Nat} (hc : isLet c ∧ c ∈ z) : Way z (t ++ [c]) (i + 1) where
  fit := by rw [(na_l t false c (let_nd hc.1)).2]; exact h
  cl := by rw [chars_snoc, if_neg (let_nd hc.1), cl]
  sg := fun a ha => by
    rcases List.mem_append.mp ha with q | q
    · exact sg a q
    · rw [List.mem_singleton] at q; subst q; exact .inr hc.1
  sz := fun a ha => by
    rcases List.mem_append.mp ha with q | q
    · exact sz a q
    · rw [List.mem_singleton] at q; subst q; exact .inr hc.2
/-- .. or a digit has been set -/
structure Way1 (z t : List Nat) (i : Nat) : Prop where
  na : noAdj false t = true
  cl : (charsM t).length = i
  sg : ∀ c ∈ t, c ∈ D9 ∨ isLet c
  sz : ∀ c ∈ t, c ∈ D5 ∨ c ∈ z
theorem Way.one {z t : List Nat} {i : Nat} (h : Way z t i) : Way1 z t i := ⟨na_of t false h.fit, h.cl, h.sg, h.sz⟩
theorem Way.digit {z t : List Nat} {i : Nat} (h : Way z t i) {d : Nat} (hd5 : d ∈ D5) : Way1 z (t ++ [d]) i ∧ (charsM (t ++ [d])).length < (t ++ [d]).length := by
  have hd := d5_9 hd5
  have e : (charsM (t ++ [d])).length = i := by rw [chars_snoc, if_pos hd, h.cl]; rfl
  have le : (charsM t).length ≤ t.length := List.length_filter_le _ _
  refine ⟨⟨by rw [na_d t false d hd]; exact h.fit, e, fun a ha => ?_, fun a ha => ?_⟩, ?_⟩
  · rcases List.mem_append.mp ha with q | q
    · exact h.sg a q
    · rw [List.mem_singleton] at q; subst q; exact .inl hd
  · rcases List.mem_append.mp ha with q | q
    · exact h.sz a q
    · rw [List.mem_singleton] at q; subst q; exact .inl hd5
  · rw [e, List.length_append]
    have := h.cl
    simp only [List.length_cons, List.length_nil]
    omega
theorem dig_lt {t : List Nat} (h : t.any (fun c => decide (c ∈ D9)) = true) : (charsM t).length < t.length := by
  obtain ⟨c, hc, hd⟩ := List.any_eq_true.mp h
  have le : (charsM t).length ≤ t.length := List.length_filter_le _ _
  rcases Nat.lt_or_ge (charsM t).length t.length with q | q
  · exact q
  · exfalso
    have := List.length_filter_eq_length_iff.mp (Nat.le_antisymm le q) c hc
    simp at this
    exact this (of_decide_eq_true hd)
end G

end
section
set_option Elab.async false
set_option linter.all false
set_option maxRecDepth 100000
set_option maxHeartbeats 4000000
set_option autoImplicit false
/-! M: the law's patterns. -/
namespace G
open PySem L2 Lw
theorem in_t2 (i a b : Int) : oIn (.int i) (.tup [.int a, .int b]) = some (.shr (.bl ([a, b].contains i))) := rfl
theorem lpat_ok2 (ns : List Int) (v : Val) (hv : Tn v) (z : List Nat) (hz : 0 < z.length) (hz2 : z.length ≤ 1000) (hzl : lets z) :
    OX (fn__law_pattern [.shr (.scr ns), .io v, .shr (.str z)]) fun o ss => ∃ p v1, o = .ret (.shr (.str p)) ∧ (VP p ∧ ∀ c ∈ p, c = 46 ∨ c ∈ D5 ∨ c ∈ z) ∧ Tn v1 ∧ ss = [.un, .io v1, .un] := by
  unfold fn__law_pattern g__law_pattern
  refine FX_run rfl ?_
  simp_arith []
  refine OX_mono (pick_ok ns v hv (.lst [.int 1, .int 1, .int 2, .int 2, .int 3, .int 4]) _ rfl (by decide) (by decide)) fun o ss q => ?_
  obtain ⟨r, v1, rfl, hr, t1, rfl⟩ := q
  obtain ⟨m, rfl, m1, m4⟩ : ∃ m : Nat, r = .int (m : Nat) ∧ 1 ≤ m ∧ m ≤ 4 := by
    have : r = .int 1 ∨ r = .int 1 ∨ r = .int 2 ∨ r = .int 2 ∨ r = .int 3 ∨ r = .int 4 := by simpa using hr
    rcases this with rfl | rfl | rfl | rfl | rfl | rfl
    · exact ⟨1, rfl, by decide, by decide⟩
    · exact ⟨1, rfl, by decide, by decide⟩
    · exact ⟨2, rfl, by decide, by decide⟩
    · exact ⟨2, rfl, by decide, by decide⟩
    · exact ⟨3, rfl, by decide, by decide⟩
    · exact ⟨4, rfl, by decide, by decide⟩
  have em : ((m : Int) + 1).toNat = m + 1 := by omega
  simp_arith [smI (show (0 : Int) ≤ (m : Int) + 1 by omega) (by omega), em]
  refine FL_inv (fun i e => ∃ t v' s5, (i ≤ m → Way z t i) ∧ (i = m + 1 → Way1 z t m ∧ (charsM t).length < t.length) ∧ Tn v' ∧ setOk (some s5) = true ∧ e = [.shr (.scr ns), .io v', .shr (.str z), .shr (.str t), .shr (.int (m : Nat)), s5, .un, .un])
    ⟨[], v1, .un, fun _ => ⟨rfl, rfl, (fun c hc => by cases hc), fun c hc => by cases hc⟩, (fun q => by omega), t1, rfl, rfl⟩ (fun i x e hx hI => ?_) (fun e hI => ?_)
  · obtain ⟨t, v', s5, w1, _, tv, h5, rfl⟩ := hI
    have hi : i < m + 1 := by
      have := (List.getElem?_eq_some_iff.mp hx).1
      rwa [rangeV_len] at this
    rw [rangeV_get hi] at hx
    cases hx
    have w1 := w1 (by omega)
    have tl := w1.len
    simp_arith [h5]
    refine OX_mono (draw_ok ns v' tv 5 (by decide) (by decide)) fun o ss q => ?_
    obtain ⟨r, v2, rfl, r0, r1, t2, rfl⟩ := q
    -- what follows a digit or none
    have digit : ∀ (v : Val), Tn v → ∀ (Q : ORes → List Lw.Slot → Prop), (∀ c v3, c ∈ D5 → Tn v3 → Q (.ret (.shr (.str [c]))) [.un, .io v3, .un]) → OX (fn__law_pick [.shr (.scr ns), .io v, .shr (.str [49, 50, 49, 50, 51, 52, 53])]) Q := fun v hv Q hQ =>
      OX_mono (pick_ok ns v hv (.str [49, 50, 49, 50, 51, 52, 53]) _ rfl (by decide) (by decide)) fun o ss q => by
        obtain ⟨r, v3, rfl, hr, t3, rfl⟩ := q
        obtain ⟨c, hc, rfl⟩ := List.mem_map.mp hr
        exact hQ c v3 (by
          have : c = 49 ∨ c = 50 ∨ c = 49 ∨ c = 50 ∨ c = 51 ∨ c = 52 ∨ c = 53 := by simpa using hc
          have : c = 49 ∨ c = 50 ∨ c = 51 ∨ c = 52 ∨ c = 53 := by omega
          simpa [D5] using this) t3
    have letter : ∀ (v : Val), Tn v → ∀ (Q : ORes → List Lw.Slot → Prop), (∀ c v3, isLet c ∧ c ∈ z → Tn v3 → Q (.ret (.shr (.str [c]))) [.un, .io v3, .un]) → OX (fn__law_pick [.shr (.scr ns), .io v, .shr (.str z)]) Q := fun v hv Q hQ =>
      OX_mono (pick_ok ns v hv (.str z) _ rfl (by rw [List.length_map]; omega) (by rw [List.length_map]; omega)) fun o ss q => by
        obtain ⟨r, v3, rfl, hr, t3, rfl⟩ := q
        obtain ⟨c, hc, rfl⟩ := List.mem_map.mp hr
        exact hQ c v3 ⟨hzl c hc, hc⟩ t3
    simp_arith [EX_lc, itS, wipe?, plainAt, plainS, wipeE, List.all_cons, List.all_nil, Bool.and_self]
    refine ⟨fun h1 => ?_, fun h1 => ⟨fun h2 => ?_, fun h2 => ?_⟩⟩
    · refine digit v2 t2 _ fun c v3 hc t3 => ?_
      obtain ⟨F1, F2'⟩ := w1.digit hc
      have F2 : i = m → (charsM (t ++ [c])).length < (t ++ [c]).length := fun _ => F2'
      simp_arith []
      refine ⟨by omega, ?_⟩
      have tl2 : (t ++ [c]).length ≤ 100 := by rw [List.length_append]; simp only [List.length_cons, List.length_nil]; omega
      refine ⟨fun h3 => ?_, fun h3 => ?_⟩
      · refine letter v3 t3 _ fun c' v4 hc' t4 => ?_
        have W := Way.letter F1.na F1.cl F1.sg F1.sz hc'
        simp_arith []
        exact ⟨by omega, (t ++ [c]) ++ [c'], v4, .shr (.int (i : Nat)), fun _ => W, (fun q => by omega), t4, rfl, rfl⟩
      · have ei : i = m := by omega
        exact ⟨(t ++ [c]), v3, .shr (.int (i : Nat)), (fun q => by omega), fun _ => ⟨ei ▸ F1, F2 ei⟩, t3, rfl, rfl⟩
      
    · refine LC_pure (xs := t) (fun c => some (.bl (decide (c ∈ D9)))) (by omega) (fun c hc => ?_) ?_
      · simp_arith [EX_yes, inS]
        exact ⟨_, rfl, fun _ => ⟨_, rfl, rfl, rfl⟩, (fun q => by cases q)⟩
      rw [fm_some]
      refine ⟨rfl, ?_⟩
      simp_arith [restE, Option.getD_some, any_bls]
      refine ⟨fun h4 => ?_, fun h4 => ?_⟩
      · refine digit v2 t2 _ fun c v3 hc t3 => ?_
        obtain ⟨F1, F2'⟩ := w1.digit hc
        have F2 : i = m → (charsM (t ++ [c])).length < (t ++ [c]).length := fun _ => F2'
        simp_arith []
        refine ⟨by omega, ?_⟩
        have tl2 : (t ++ [c]).length ≤ 100 := by rw [List.length_append]; simp only [List.length_cons, List.length_nil]; omega
        refine ⟨fun h3 => ?_, fun h3 => ?_⟩
        · refine letter v3 t3 _ fun c' v4 hc' t4 => ?_
          have W := Way.letter F1.na F1.cl F1.sg F1.sz hc'
          simp_arith []
          exact ⟨by omega, (t ++ [c]) ++ [c'], v4, .shr (.int (i : Nat)), fun _ => W, (fun q => by omega), t4, rfl, rfl⟩
        · have ei : i = m := by omega
          exact ⟨(t ++ [c]), v3, .shr (.int (i : Nat)), (fun q => by omega), fun _ => ⟨ei ▸ F1, F2 ei⟩, t3, rfl, rfl⟩
        
      · have F1 := w1.one
        have F2 : i = m → (charsM t).length < t.length := fun _ => dig_lt (by simpa using h4)
        refine ⟨fun h3 => ?_, fun h3 => ?_⟩
        · refine letter v2 t2 _ fun c' v4 hc' t4 => ?_
          have W := Way.letter F1.na F1.cl F1.sg F1.sz hc'
          simp_arith []
          exact ⟨by omega, t ++ [c'], v4, .shr (.int (i : Nat)), fun _ => W, (fun q => by omega), t4, rfl, rfl⟩
        · have ei : i = m := by omega
          exact ⟨t, v2, .shr (.int (i : Nat)), (fun q => by omega), fun _ => ⟨ei ▸ F1, F2 ei⟩, t2, rfl, rfl⟩
        
    · have F1 := w1.one
      have F2 : i = m → (charsM t).length < t.length := fun q => absurd (by omega) h2
      refine ⟨fun h3 => ?_, fun h3 => ?_⟩
      · refine letter v2 t2 _ fun c' v4 hc' t4 => ?_
        have W := Way.letter F1.na F1.cl F1.sg F1.sz hc'
        simp_arith []
        exact ⟨by omega, t ++ [c'], v4, .shr (.int (i : Nat)), fun _ => W, (fun q => by omega), t4, rfl, rfl⟩
      · have ei : i = m := by omega
        exact ⟨t, v2, .shr (.int (i : Nat)), (fun q => by omega), fun _ => ⟨ei ▸ F1, F2 ei⟩, t2, rfl, rfl⟩
      
  · obtain ⟨t, v', s5, _, w2, tv, h5, rfl⟩ := hI
    rw [rangeV_len] at w2
    obtain ⟨w2, w3⟩ := w2 rfl
    have tl : t.length ≤ 20 := by
      have := na_len t false w2.na
      rw [w2.cl] at this
      simp at this
      omega
    simp_arith []
    refine OX_mono (draw_ok ns v' tv 8 (by decide) (by decide)) fun o ss q => ?_
    obtain ⟨r, v2, rfl, r0, r1, t2, rfl⟩ := q
    have mk : ∀ d1 d2 : List Nat, (d1 = [] ∨ d1 = [46]) → (d2 = [] ∨ d2 = [46]) → VP (d1 ++ t ++ d2) ∧ ∀ c ∈ d1 ++ t ++ d2, c = 46 ∨ c ∈ D5 ∨ c ∈ z := fun d1 d2 h1 h2 =>
      ⟨⟨d1, t, d2, rfl, h1, h2, w2.sg, w2.na, by rw [w2.cl]; exact m1, by rw [w2.cl]; exact m4, w3⟩, fun c hc => by
        have dot : ∀ d : List Nat, (d = [] ∨ d = [46]) → c ∈ d → c = 46 := fun d h hc => by
          rcases h with rfl | rfl
          · cases hc
          · exact List.mem_singleton.mp hc
        rcases List.mem_append.mp hc with hc | hc
        · rcases List.mem_append.mp hc with hc | hc
          · exact .inl (dot d1 h1 hc)
          · exact .inr (w2.sz c hc)
        · exact .inl (dot d2 h2 hc)⟩
    simp_arith [in_t2]
    exact ⟨fun _ => ⟨by omega, fun _ => ⟨by omega, _, v2, rfl, mk [46] [46] (.inr rfl) (.inr rfl), t2, rfl⟩, fun _ => ⟨by omega, _, v2, rfl, mk [46] [] (.inr rfl) (.inl rfl), t2, rfl⟩⟩,
      fun _ => ⟨by omega, fun _ => ⟨by omega, _, v2, rfl, mk [] [46] (.inl rfl) (.inr rfl), t2, rfl⟩, fun _ => ⟨by omega, _, v2, rfl, mk [] [] (.inl rfl) (.inl rfl), t2, rfl⟩⟩⟩
end G

end
section
set_option Elab.async false
set_option linter.all false
set_option maxRecDepth 100000
set_option maxHeartbeats 4000000
set_option autoImplicit false
/-! M: the law's rules. -/
namespace G
open PySem L2 Lw
theorem okS_charsV {p : List Nat} (h : VP p) : okS (charsM p) := okS_chars h.ok
theorem VP.bare {p : List Nat} (h : VP p) : fn__law_bare [.shr (.str p)] = some (.ret (.shr (.str (charsM p))), [.un]) := by
  have := bare_ok p (by have := h.len; omega)
  obtain ⟨_, _, _, h⟩ := h
  rwa [bare_chars h.no0] at this
/-- the bounds that a law picks -/
theorem bnd_ok (ns : List Int) (v : Val) (hv : Tn v) : OX (fn__law_pick [.shr (.scr ns), .io v, .shr (.lst [.int 1, .int 1, .int 2, .int 3])]) fun o ss => ∃ (i : Int) (v1 : Val), o = .ret (.shr (.int i)) ∧ 1 ≤ i ∧ i ≤ 3 ∧ Tn v1 ∧ ss = [.un, .io v1, .un] :=
  OX_mono (pick_ok ns v hv (.lst [.int 1, .int 1, .int 2, .int 3]) _ rfl (by decide) (by decide)) fun o ss q => by
    obtain ⟨r, v1, rfl, hr, t1, rfl⟩ := q
    have : r = .int 1 ∨ r = .int 1 ∨ r = .int 2 ∨ r = .int 3 := by simpa using hr
    rcases this with rfl | rfl | rfl | rfl
    · exact ⟨1, v1, rfl, by decide, by decide, t1, rfl⟩
    · exact ⟨1, v1, rfl, by decide, by decide, t1, rfl⟩
    · exact ⟨2, v1, rfl, by decide, by decide, t1, rfl⟩
    · exact ⟨3, v1, rfl, by decide, by decide, t1, rfl⟩
theorem lrules_ok2 (ns : List Int) (v : Val) (hv : Tn v) (m : Nat) (hm : m ≤ 6) (z : List Nat) (hz : 0 < z.length) (hz2 : z.length ≤ 1000) (hzl : lets z) :
    OX (fn__law_rules [.shr (.scr ns), .io v, .shr (.int (m : Nat)), .shr (.str z)]) fun o ss => ∃ ps l r v1, o = .ret (.shr (rulesV ps l r)) ∧ (VR ps l r ∧ ps.length ≤ m ∧ ∀ p ∈ ps, ∀ c ∈ p, c = 46 ∨ c ∈ D5 ∨ c ∈ z) ∧ l ≤ 3 ∧ r ≤ 3 ∧ Tn v1 ∧ ss = [.un, .io v1, .un, .un] := by
  unfold fn__law_rules g__law_rules
  refine FX_run rfl ?_
  simp_arith []
  refine OX_mono (draw_ok ns v hv ((m : Int) + 1) (by omega) (by omega)) fun o ss q => ?_
  obtain ⟨k, v1, rfl, k0, k1, t1, rfl⟩ := q
  simp_arith [smI k0 (by omega)]
  refine FL_inv (fun i e => ∃ ps v' s6 s7, (∀ p ∈ ps, VP p ∧ ∀ c ∈ p, c = 46 ∨ c ∈ D5 ∨ c ∈ z) ∧ (ps.map charsM).Nodup ∧ ps.length ≤ i ∧ Tn v' ∧ setOk (some s6) = true ∧ setOk (some s7) = true ∧ e = [.shr (.scr ns), .io v', .shr (.int (m : Nat)), .shr (.str z), .own (.lst (ps.map Val.str)), .own (.lst ((ps.map charsM).map Val.str)), s6, s7])
    ⟨[], v1, .un, .un, (fun p hp => nomatch hp), List.nodup_nil, Nat.le_refl _, t1, rfl, rfl, rfl⟩ (fun i x e hx hI => ?_) (fun e hI => ?_)
  · obtain ⟨ps, v', s6, s7, vp, nd, pl, tv, h6, h7, rfl⟩ := hI
    have hi : i < k.toNat := by
      have := (List.getElem?_eq_some_iff.mp hx).1
      rwa [rangeV_len] at this
    rw [rangeV_get hi] at hx
    cases hx
    simp_arith [h6, h7]
    refine OX_mono (lpat_ok2 ns v' tv z hz hz2 hzl) fun o ss q => ?_
    obtain ⟨p, v2, rfl, hp, t2, rfl⟩ := q
    have nin := notin_strs (okS_charsV hp.1) (ys := ps.map charsM) (fun y hy => by
      obtain ⟨q, hq, rfl⟩ := List.mem_map.mp hy
      exact okS_charsV (vp q hq).1)
    simp_arith [hp.1.bare, nin, h7]
    refine ⟨fun h1 => ?_, fun h1 => ?_⟩
    · simp_arith [hp.1.bare, app_ok, List.length_map]
      have h1 : charsM p ∉ ps.map charsM := by simpa using h1
      refine ⟨by omega, by omega, ps ++ [p], v2, .shr (.int (i : Nat)), .shr (.str p), fun q hq => ?_, ?_, by rw [List.length_append]; simp only [List.length_cons, List.length_nil]; omega, t2, rfl, rfl, ?_⟩
      · rcases List.mem_append.mp hq with hq | hq
        · exact vp q hq
        · rw [List.mem_singleton] at hq; subst hq; exact hp
      · rw [List.map_append, List.map_cons, List.map_nil]
        refine List.nodup_append.mpr ⟨nd, List.nodup_cons.mpr ⟨by simp, List.nodup_nil⟩, fun a ha b hb e => ?_⟩
        rw [List.mem_singleton] at hb
        subst hb e
        exact h1 ha
      · rw [List.map_append, List.map_append, List.map_append]; rfl
    · exact ⟨ps, v2, .shr (.int (i : Nat)), .shr (.str p), vp, nd, by omega, t2, rfl, rfl, rfl⟩
  · obtain ⟨ps, v', s6, s7, vp, nd, pl, tv, h6, h7, rfl⟩ := hI
    rw [rangeV_len] at pl
    simp_arith [tupleOf_l]
    refine OX_mono (bnd_ok ns v' tv) fun o ss q => ?_
    obtain ⟨l, v2, rfl, l1, l3, t2, rfl⟩ := q
    simp_arith []
    refine OX_mono (bnd_ok ns v2 t2) fun o ss q => ?_
    obtain ⟨r, v3, rfl, r1, r3, t3, rfl⟩ := q
    simp_arith []
    exact ⟨ps, l, r, v3, rfl, ⟨⟨fun p hp => (vp p hp).1, nd, by omega, l1, by omega, r1, by omega⟩, by omega, fun p hp => (vp p hp).2⟩, l3, r3, t3, rfl⟩
theorem lrules_ok (ns : List Int) (v : Val) (hv : Tn v) (m : Nat) (hm : m ≤ 6) (z : List Nat) (hz : 0 < z.length) (hz2 : z.length ≤ 1000) (hzl : lets z) :
    OX (fn__law_rules [.shr (.scr ns), .io v, .shr (.int (m : Nat)), .shr (.str z)]) fun o ss => ∃ ps l r v1, o = .ret (.shr (rulesV ps l r)) ∧ VR ps l r ∧ l ≤ 3 ∧ r ≤ 3 ∧ Tn v1 ∧ ss = [.un, .io v1, .un, .un] :=
  OX_mono (lrules_ok2 ns v hv m hm z hz hz2 hzl) fun o ss ⟨ps, l, r, v1, h1, h2, h3⟩ => ⟨ps, l, r, v1, h1, h2.1, h3⟩
end G

end
section
set_option Elab.async false
set_option linter.all false
set_option maxRecDepth 100000
set_option maxHeartbeats 4000000
set_option autoImplicit false
set_option pp.maxSteps 700
/-! M: try, picked functions, statements one by one. -/
namespace G
open PySem L2 Lw
theorem SX_cutT {g1 g2 : SF} {env : Lw.Env} {QS : FRes → Lw.Env → Prop} (I : Lw.Env → Prop) (h1 : OX (g1 env) fun r e => r = .nx ∧ I e) (h2 : ∀ e, I e → OX (g2 e) QS) : OX (sSeq g1 g2 env) QS := by
  rw [SX_seq]
  refine OX_mono h1 ?_
  rintro r e ⟨rfl, he⟩
  exact h2 e he
/-- a statement that may end the def -/
theorem SX_stepT {g1 g2 : SF} {env : Lw.Env} {QS : FRes → Lw.Env → Prop} (I : Lw.Env → Prop) (h1 : OX (g1 env) (nxS QS I)) (h2 : ∀ e, I e → OX (g2 e) QS) : OX (sSeq g1 g2 env) QS := by
  rw [SX_seq]
  refine OX_mono h1 fun r e h => ?_
  cases r with
  | nx => exact h2 e h
  | _ => exact h
def tryR (i : Nat) (cs : List PySem.Str) (QS : FRes → Lw.Env → Prop) : FRes → Lw.Env → Prop
  | .exc c, e => (match posI c cs 0 with
    | some k => i < e.length ∧ QS (.ret (.shr (rdV k))) e
    | none => False)
  | r, e => QS r e
section
variable {i : Nat} {cs : List PySem.Str} {QS : FRes → Lw.Env → Prop} {env e : Lw.Env} {g : SF}
theorem SX_tryW : OX (sTryW i cs g env) QS = OX (g env) (tryR i cs QS) := by
  unfold sTryW
  cases g env with
  | none => rfl
  | some z =>
    obtain ⟨r, e⟩ := z
    cases r with
    | exc c =>
      show OX (match posI c cs 0 with
        | some k => if i < e.length then some (FRes.ret (.shr (rdV k)), e) else none
        | none => none) QS = (match posI c cs 0 with
        | some k => i < e.length ∧ QS (.ret (.shr (rdV k))) e
        | none => False)
      cases posI c cs 0 with
      | none => rfl
      | some k =>
        dsimp only
        by_cases hi : i < e.length
        · rw [if_pos hi]; exact propext ⟨fun q => ⟨hi, q⟩, fun q => q.2⟩
        · rw [if_neg hi]; exact propext ⟨fun q => q.elim, fun q => hi q.1⟩
    | _ => rfl
theorem tryR_nx : tryR i cs QS .nx e = QS .nx e := rfl
theorem tryR_ret {v : RV} : tryR i cs QS (.ret v) e = QS (.ret v) e := rfl
theorem tryR_exc {c : PySem.Str} {k : Nat} (h : posI c cs 0 = some k) : tryR i cs QS (.exc c) e = (i < e.length ∧ QS (.ret (.shr (rdV k))) e) := by
  show (match posI c cs 0 with
    | some k => i < e.length ∧ QS (.ret (.shr (rdV k))) e
    | none => False) = _
  rw [h]
end
section
variable {T : List (PySem.Str × Fn)} {ff : EF} {fs : List EF} {env : Lw.Env} {Q : ERes → Lw.Env → Prop}
theorem EX_callV : OX (sCallV T ff fs env) Q = OX (ff env) (rE Q fun o e => shO o e fun v e => OX (sPickC T fs (.shr v) e) Q) := by
  unfold sCallV
  rw [EX_bind, EX_esh]
  have key : ∀ (r : ERes) (e : Lw.Env), rE (rE Q fun o e => OX (sPickC T fs o e) Q) (fun o e => shO o e fun v e => rE Q (fun o e => OX (sPickC T fs o e) Q) (.val (.shr v)) e) r e = rE Q (fun o e => shO o e fun v e => OX (sPickC T fs (.shr v) e) Q) r e := fun r e => by cases r <;> rfl
  exact congrArg _ (funext fun r => funext fun e => key r e)
theorem pickC {x : PySem.Str} {p : PySem.Str × Fn} (h : T.find? (fun p => decide (p.1 = x)) = some p) : sPickC T fs (.shr (.glo x)) = sCall p.2 fs := by
  unfold sPickC
  dsimp only
  rw [h]
end
end G

end
section
set_option Elab.async false
set_option linter.all false
set_option maxRecDepth 100000
set_option maxHeartbeats 4000000
set_option autoImplicit false
set_option pp.maxSteps 700
/-! M: any text as a pattern, as rules. -/
namespace G
open PySem L2 Lw
theorem cutG_le {α : Type} (xs : List α) (lo hi : Option Int) : (cutG xs lo hi).length ≤ xs.length := by
  unfold cutG
  rw [List.length_take, List.length_drop]
  omega
theorem mem_cutG {α : Type} {xs : List α} {lo hi : Option Int} {x : α} (h : x ∈ cutG xs lo hi) : x ∈ xs := by
  unfold cutG at h
  exact List.mem_of_mem_drop (List.mem_of_mem_take h)
theorem ok_one {c : Nat} {p : List Nat} (h : okS p) (hc : c ∈ p) : okS [c] := fun d hd => by rw [List.mem_singleton] at hd; subst hd; exact h _ hc
theorem ok0 : okS ([] : List Nat) := fun c hc => by cases hc
theorem ok46 : okS [46] := fun c hc => by rw [List.mem_singleton] at hc; subst hc; decide
/-- any text as a pattern -/
theorem pattern_any {p : List Nat} (ok : okS p) (hl : p.length ≤ 1000) : ∃ b, fn_is_pattern [.shr (.str p)] = some (.ret (.shr (.bl b)), [.un]) := by
  suffices h : OX (fn_is_pattern [.shr (.str p)]) fun o ss => (∃ b, o = .ret (.shr (.bl b))) ∧ ss = [.un] by
    obtain ⟨a, b, e, ⟨c, rfl⟩, rfl⟩ := OX_eq h
    exact ⟨c, e⟩
  unfold fn_is_pattern g_is_pattern
  refine FX_run rfl ?_
  refine SX_stepT (fun e => p ≠ [] ∧ e = [.shr (.str p), .un, .un, .un, .un, .un]) ?_ ?_
  · simp_arith [isi_ss, eqv_ss ok ok0, Bool.not_true, Bool.not_false]
    refine ⟨fun h => ⟨_, rfl⟩, fun h => h⟩
  rintro e ⟨pn, rfl⟩
  refine SX_stepT (fun e => ∃ i1 : List Nat, (∀ c ∈ i1, c ∈ p) ∧ i1.length ≤ 1000 ∧ e = [.shr (.str p), .shr (.str i1), .un, .un, .un, .un]) ?_ ?_
  · obtain ⟨c0, t0, rfl⟩ := List.exists_cons_of_ne_nil pn
    have okx := ok_one ok (List.mem_cons_self ..)
    have l16 : t0.length + 1 ≤ 16000000 := by rw [List.length_cons] at hl; omega
    have ct : cutG (c0 :: t0) (some 1) none = t0 := cut_tail _ _
    simp_arith [isi_ss, eqv_ss okx ok46, l16, ct]
    rw [List.length_cons] at hl
    refine ⟨fun h => ⟨t0, fun c hc => List.mem_cons_of_mem _ hc, by omega, rfl⟩, fun h => ⟨c0 :: t0, fun c hc => hc, by rw [List.length_cons]; omega, rfl⟩⟩
  rintro e ⟨i1, m1, l1, rfl⟩
  refine SX_stepT (fun e => ∃ t : List Nat, (∀ c ∈ t, c ∈ p) ∧ t.length ≤ 1000 ∧ e = [.shr (.str p), .shr (.str t), .un, .un, .un, .un]) ?_ ?_
  · have en : oEnds (.str i1) [.str [46]] = some (.shr (.bl (Txt.endswith (S i1) (S [46])))) := rfl
    have l16 : i1.length ≤ 16000000 := by omega
    generalize Txt.endswith (S i1) (S [46]) = b at en
    simp_arith [en, l16, tyOf]
    refine ⟨fun h => ⟨_, fun c hc => m1 c (mem_cutG hc), by have := cutG_le i1 none (some (-1)); omega, rfl⟩, fun h => ⟨i1, m1, l1, rfl⟩⟩
  rintro e ⟨t, m2, l2, rfl⟩
  have tl16 : t.length ≤ 16000000 := by omega
  refine SX_stepT (fun e => e = [.shr (.str p), .shr (.str t), .un, .un, .un, .un]) ?_ ?_
  · simp_arith [tyOf, EX_lc, itS, wipe?, plainAt, plainS, wipeE, List.all_cons, List.all_nil, Bool.and_self, EX_yes]
    refine LC_pure (fun c => some (.bl (decide (c ∈ LD)))) tl16 (fun c hc => ?_) ?_
    · simp_arith [EX_yes, inS]
      exact ⟨_, rfl, fun _ => ⟨_, rfl, rfl, rfl⟩, (fun q => by cases q)⟩
    · rw [fm_some]
      refine ⟨rfl, ?_⟩
      simp_arith [restE, Option.getD_some, all_bls]
      exact fun h => ⟨_, rfl⟩
  rintro e rfl
  refine SX_stepT (fun e => e = [.shr (.str p), .shr (.str t), .un, .un, .un, .un]) ?_ ?_
  · have ct : cutG t (some 1) none = t.drop 1 := by
      cases t with
      | nil => rfl
      | cons a t => exact cut_tail _ _
    simp_arith [tyOf, EX_lc, tl16, ct, zipS, itS, wipe?, plainAt, plainS, wipeE, List.all_cons, List.all_nil, Bool.and_self, EX_yes]
    refine LC_pure (fun z => some (.bl (decide (z.1 ∈ D9) && decide (z.2 ∈ D9)))) (by rw [List.length_zip]; omega) (fun z hz => ?_) ?_
    · simp_arith [EX_yes, inS]
      refine ⟨_, rfl, fun _ => ⟨fun h1 => ⟨_, rfl, ?_, rfl⟩, fun h1 => ⟨_, rfl, ?_, rfl⟩⟩, (fun q => by cases q)⟩
      · show _ = some (Val.bl (decide (z.2 ∈ D9)))
        rw [decide_eq_true (show z.1 ∈ D9 from h1), Bool.true_and]
      · rw [decide_eq_false (show ¬z.1 ∈ D9 from h1), Bool.false_and]
    · rw [fm_some]
      refine ⟨rfl, ?_⟩
      simp_arith [restE, Option.getD_some, any_bls]
      exact fun h => ⟨_, rfl⟩
  rintro e rfl
  have cl : (charsM t).length ≤ 16000000 := Nat.le_trans (List.length_filter_le ..) tl16
  simp_arith [tyOf, tl16, cl, chars_ok t (by omega)]
  exact ⟨fun _ => ⟨fun _ => ⟨_, rfl⟩, fun _ => ⟨_, rfl⟩⟩, fun _ => ⟨_, rfl⟩⟩
theorem lenSet_any (ls : List (List Nat)) (hl : ls.length ≤ 4000) : oLenSet (.lst (ls.map Val.str)) = some (.shr (.int (uniqN ls))) := by
  show (match strs? (ls.map Val.str) with
    | some ls => if ls.length ≤ 4000 then some (RV.shr (.int (uniqN ls))) else none
    | none => none) = _
  rw [strs_map]
  dsimp only
  rw [if_pos hl]
/-- any texts as rules -/
theorem rules_any {ps : List (List Nat)} {l r : Int} (ok : ∀ p ∈ ps, okS p ∧ p.length ≤ 1000) (hl : ps.length ≤ 1000) : ∃ b, fn_is_rules [.shr (rulesV ps l r)] = some (.ret (.shr (.bl b)), [.un]) := by
  suffices h : OX (fn_is_rules [.shr (rulesV ps l r)]) fun o ss => (∃ b, o = .ret (.shr (.bl b))) ∧ ss = [.un] by
    obtain ⟨a, b, e, ⟨c, rfl⟩, rfl⟩ := OX_eq h
    exact ⟨c, e⟩
  unfold fn_is_rules g_is_rules rulesV
  refine FX_run rfl ?_
  have en : (([l, r] : List Int).map Val.int) = [.int l, .int r] := rfl
  have cutT : ∀ v : Val, cutG [v, .int l, .int r] (some 1) none = ([l, r] : List Int).map Val.int := fun v => cut_tail _ _
  have e3 : decide (((3 : Nat) : Int) = 3) = true := rfl
  have alln2 : oAll [.lst [.bl (decide (1 ≤ l) && decide (l ≤ 4)), .bl (decide (1 ≤ r) && decide (r ≤ 4))]] = some (.shr (.bl (([l, r] : List Int).all fun i => decide (1 ≤ i) && decide (i ≤ 4)))) := all_bls ([l, r] : List Int) fun i => decide (1 ≤ i) && decide (i ≤ 4)
  refine SX_stepT (fun e => e = [.shr (.tup [.tup (ps.map Val.str), .int l, .int r]), .un, .un, .un, .un]) ?_ ?_
  · simp_arith [isi_tt, EX_lc, itT, itL, wipe?, plainAt, plainS, wipeE, List.all_cons, List.all_nil, Bool.and_self, tyOf, cutT, EX_yes, restE, Option.getD_some, Bool.not_true, Bool.not_false, e3, Bool.true_eq_false]
    refine LC_pure (xs := [l, r]) (fun i => some (.bl (decide (1 ≤ i) && decide (i ≤ 4)))) (by show 2 ≤ 16000000; decide) (fun i hi => ?_) ?_
    · simp_arith [EX_yes, count_ok]
      exact ⟨_, rfl, fun _ => ⟨_, rfl, rfl, rfl⟩, (fun q => by cases q)⟩
    rw [fm_some]
    refine ⟨rfl, ?_⟩
    simp_arith [alln2]
    exact fun h => ⟨_, rfl⟩
  rintro e rfl
  refine SX_stepT (fun e => e = [.shr (.tup [.tup (ps.map Val.str), .int l, .int r]), .shr (.tup (ps.map Val.str)), .un, .un, .un]) ?_ ?_
  · simp_arith []
  rintro e rfl
  have wk : ∀ p ∈ ps, ∃ b, fn_is_pattern [.shr (.str p)] = some (.ret (.shr (.bl b)), [.un]) := fun p hp => pattern_any (ok p hp).1 (ok p hp).2
  let f : List Nat → Bool := fun p => if h : p ∈ ps then Classical.choose (wk p h) else false
  have wf : ∀ p ∈ ps, fn_is_pattern [.shr (.str p)] = some (.ret (.shr (.bl (f p))), [.un]) := fun p hp => by
    show _ = some (ORes.ret (.shr (.bl (if h : p ∈ ps then Classical.choose (wk p h) else false))), _)
    rw [dif_pos hp]
    exact Classical.choose_spec (wk p hp)
  refine SX_stepT (fun e => e = [.shr (.tup [.tup (ps.map Val.str), .int l, .int r]), .shr (.tup (ps.map Val.str)), .un, .un, .un]) ?_ ?_
  · simp_arith [isi_tt, EX_lc, itT, itL, wipe?, plainAt, plainS, wipeE, List.all_cons, List.all_nil, Bool.and_self, tyOf, EX_yes, restE, Option.getD_some, Bool.not_true, Bool.not_false, Bool.true_eq_false, List.length_map]
    refine ⟨fun h => ⟨_, rfl⟩, fun h => ?_⟩
    refine LC_pure (xs := ps) (fun p => some (.bl (f p))) (by omega) (fun p hp => ?_) ?_
    · simp_arith [EX_yes, wf p hp]
      exact ⟨_, rfl, fun _ => ⟨_, rfl, rfl, rfl⟩, (fun q => by cases q)⟩
    rw [fm_some]
    refine ⟨rfl, ?_⟩
    simp_arith [all_bls]
    exact fun h => ⟨_, rfl⟩
  rintro e rfl
  simp_arith [EX_lenSet, List.length_map, EX_lc, itT, itL, wipe?, plainAt, plainS, wipeE, List.all_cons, List.all_nil, Bool.and_self, tyOf, EX_yes, restE, Option.getD_some]
  refine LC_pure (xs := ps) (fun p => some (.str (charsM p))) (by omega) (fun p hp => ?_) ?_
  · simp_arith [EX_yes, chars_ok p (by have := (ok p hp).2; omega)]
    exact ⟨_, rfl, fun _ => ⟨_, rfl, rfl, rfl⟩, (fun q => by cases q)⟩
  rw [fm_some]
  have em : (ps.map fun p => Val.str (charsM p)) = (ps.map charsM).map Val.str := by rw [List.map_map]; rfl
  refine ⟨rfl, ?_⟩
  have ls := lenSet_any (ps.map charsM) (by rw [List.length_map]; omega)
  simp_arith [em, ls, List.length_map]
  exact ⟨_, rfl⟩
/-! ### rules as text -/
def fmtM (ps : List (List Nat)) (l r : Int) : List Nat := [48 + l.toNat, 32, 48 + r.toNat, 58] ++ (ps.map (32 :: ·)).flatten
theorem str1_ok {i : Int} (h0 : 0 ≤ i) (h9 : i ≤ 9) : oStr1 [.int i] = some (.shr (.str [48 + i.toNat])) := if_pos ⟨h0, h9⟩
theorem join_flat : ∀ ls : List (List Nat), TL.joinL [] ls = ls.flatten
  | [] => rfl
  | [p] => by show p = _; rw [List.flatten_cons]; simp
  | p :: q :: ls => by
    show p ++ ([] ++ TL.joinL [] (q :: ls)) = _
    rw [join_flat (q :: ls), List.nil_append, List.flatten_cons (l := p)]
theorem joinN (ls : List (List Nat)) (h : ls.flatten.length ≤ 16000000) : oJoin (.str []) [.lst (ls.map Val.str)] = some (.shr (.str ls.flatten)) := by
  show (match strs? (ls.map Val.str) with
    | some ls => if (ls.map List.length).sum + ls.length * ([] : List Nat).length ≤ 16000000 then some (RV.shr (.str (TL.joinL [] ls))) else none
    | none => none) = _
  rw [strs_map]
  dsimp only
  rw [List.length_flatten] at h
  rw [join_flat, if_pos (by simpa using h)]
theorem flat_len : ∀ (ps : List (List Nat)), (∀ p ∈ ps, p.length ≤ 1000) → (ps.map (32 :: ·)).flatten.length ≤ ps.length * 1001
  | [], _ => Nat.zero_le _
  | p :: ps, h => by
    have := flat_len ps fun q hq => h q (List.mem_cons_of_mem _ hq)
    have := h p (List.mem_cons_self ..)
    rw [List.map_cons, List.flatten_cons, List.length_append, List.length_cons, List.length_cons, Nat.succ_mul]
    omega
theorem formatted_ok {ps : List (List Nat)} {l r : Int} (ok : ∀ p ∈ ps, p.length ≤ 1000) (hl : ps.length ≤ 1000) (l0 : 0 ≤ l) (l9 : l ≤ 9) (r0 : 0 ≤ r) (r9 : r ≤ 9) : fn_formatted [.shr (rulesV ps l r)] = some (.ret (.shr (.str (fmtM ps l r))), [.un]) := by
  apply OX_det
  unfold fn_formatted g_formatted rulesV
  refine FX_run rfl ?_
  have fl := flat_len ps ok
  have jn := joinN (ps.map (32 :: ·)) (by omega)
  simp_arith [str1_ok l0 l9, str1_ok r0 r9, EX_lc, itT, itL, wipe?, plainAt, plainS, wipeE, List.all_cons, List.all_nil, Bool.and_self, tyOf, EX_yes, restE, Option.getD_some]
  refine LC_pure (xs := ps) (fun p => some (.str (32 :: p))) (by omega) (fun p hp => ?_) ?_
  · have := ok p hp
    simp_arith [EX_yes]
    exact ⟨_, rfl, fun _ => ⟨by omega, _, rfl, rfl, rfl⟩, (fun q => by cases q)⟩
  rw [fm_some]
  have em : (ps.map fun p => Val.str (32 :: p)) = (ps.map (32 :: ·)).map Val.str := by rw [List.map_map]; rfl
  refine ⟨rfl, ?_⟩
  simp_arith [em, jn]
  exact ⟨by omega, rfl⟩
theorem law_text_ok {ps : List (List Nat)} {l r : Int} (ok : ∀ p ∈ ps, p.length ≤ 1000) (hl : ps.length ≤ 1000) (l0 : 0 ≤ l) (l9 : l ≤ 9) (r0 : 0 ≤ r) (r9 : r ≤ 9) : fn__law_text [.shr (rulesV ps l r)] = some (.ret (.shr (.str (fmtM ps l r))), [.un]) := by
  apply OX_det
  unfold fn__law_text g__law_text rulesV
  refine FX_run rfl ?_
  have fl := flat_len ps ok
  have jn := joinN (ps.map (32 :: ·)) (by omega)
  simp_arith [str1_ok l0 l9, str1_ok r0 r9, EX_lc, itT, itL, wipe?, plainAt, plainS, wipeE, List.all_cons, List.all_nil, Bool.and_self, tyOf, EX_yes, restE, Option.getD_some]
  refine LC_pure (xs := ps) (fun p => some (.str (32 :: p))) (by omega) (fun p hp => ?_) ?_
  · have := ok p hp
    simp_arith [EX_yes]
    exact ⟨_, rfl, fun _ => ⟨by omega, _, rfl, rfl, rfl⟩, (fun q => by cases q)⟩
  rw [fm_some]
  have em : (ps.map fun p => Val.str (32 :: p)) = (ps.map (32 :: ·)).map Val.str := by rw [List.map_map]; rfl
  refine ⟨rfl, ?_⟩
  simp_arith [em, jn]
  exact ⟨by omega, rfl⟩
end G

end
section
set_option Elab.async false
set_option linter.all false
set_option maxRecDepth 100000
set_option maxHeartbeats 4000000
set_option autoImplicit false
set_option pp.maxSteps 700
/-! M: texts read as rules. -/
namespace G
open PySem L2 Lw
def sD1 (z : List Nat) : PyData := .str ⟨z.toArray⟩
abbrev Rl1 := List (List Nat) × Int × Int
def ruV1 (R : Rl1) : Val := rulesV R.1 R.2.1 R.2.2
def ruD1 (R : Rl1) : PyData := .tuple [.tuple (R.1.map sD1), .int R.2.1, .int R.2.2]
theorem kdR1 : Kd Rl1 ruV1 ruD1 fun R => ∀ p ∈ R.1, okS p where
  to R := by
    have e : toD (.tup (R.1.map Val.str)) = some (.tuple (R.1.map sD1)) := kS.tup.to R.1
    show (match toD (.tup (R.1.map Val.str)), (match toD (.int R.2.1), (match toD (.int R.2.2), toDs [] with
        | some d, some ds => some (d :: ds)
        | _, _ => none) with
        | some d, some ds => some (d :: ds)
        | _, _ => none) with
        | some d, some ds => some (d :: ds)
        | _, _ => none).map PyData.tuple = _
    rw [e]; rfl
  lay R h := by
    have b := (kS.tup).lay R.1 ⟨h, fun _ _ => Nat.zero_le _⟩
    show (PyData.canLay0 (.tuple (R.1.map sD1)) && (true && (true && true))) = true
    have b : PyData.canLay0 (.tuple (R.1.map sD1)) = true := b
    rw [b]; rfl
  dep R _ := by
    have b := depAll_map sD1 0 R.1 fun _ _ => Nat.zero_le _
    show max (PyData.depthAll (R.1.map sD1) + 1) (max 0 (max 0 0)) + 1 ≤ 8
    omega
  eq x y := by
    have b := (kS.tup).eq x.1 y.1
    have b : PyData.eqv (.tuple (x.1.map sD1)) (.tuple (y.1.map sD1)) = decide (x.1 = y.1) := b
    show (PyData.eqv (.tuple (x.1.map sD1)) (.tuple (y.1.map sD1)) && ((x.2.1 == y.2.1) && ((x.2.2 == y.2.2) && true))) = _
    rw [b]
    obtain ⟨a1, a2, a3⟩ := x
    obtain ⟨b1, b2, b3⟩ := y
    by_cases h1 : a1 = b1
    · by_cases h2 : a2 = b2
      · by_cases h3 : a3 = b3
        · subst h1 h2 h3; simp
        · simp [h3]
      · simp [h2]
    · simp [h1]
/-- rules and what was raised -/
theorem ne_raised {R : Rl1} (h : ∀ p ∈ R.1, okS p) : oNe (ruV1 R) (.tup [.str [114, 97, 105, 115, 101, 100], .int 8]) = some (.shr (.bl true)) := by
  have e : vEq (ruV1 R) (.tup [.str [114, 97, 105, 115, 101, 100], .int 8]) = some false := by
    unfold Lw.vEq
    rw [kdR1.to]
    show (if SeqAt.shaped (ruD1 R) = true ∧ SeqAt.shaped (.tuple [.str ⟨raisedC.toArray⟩, .int 8]) = true then some (PyData.eqv (ruD1 R) (.tuple [.str ⟨raisedC.toArray⟩, .int 8])) else none) = _
    rw [if_pos ⟨kdR1.shaped h, by decide +kernel⟩]
    rfl
  unfold oNe
  rw [e]; rfl
theorem ne_self {R : Rl1} (h : ∀ p ∈ R.1, okS p) : oNe (ruV1 R) (ruV1 R) = some (.shr (.bl false)) := by
  have := kdR1.nev h h
  rwa [decide_eq_true rfl] at this
/-! ### parts -/
theorem spl_sep {s : Nat} : ∀ (P : List (List Nat)), P ≠ [] → (∀ p ∈ P, s ∉ p) → TL.spl [s] 0 [] (TL.joinL [s] P) = P
  | [], h, _ => absurd rfl h
  | [p], _, h => by
    show TL.spl [s] 0 [] p = [p]
    rw [TL.spl_last1 (h p (List.mem_cons_self ..))]; rfl
  | p :: q :: P, _, h => by
    have ih := spl_sep (q :: P) (by simp) fun x hx => h x (List.mem_cons_of_mem _ hx)
    show TL.spl [s] 0 [] (p ++ ([s] ++ TL.joinL [s] (q :: P))) = _
    rw [TL.spl_part1 (h p (List.mem_cons_self ..)), ih]; rfl
theorem join_cons (s : Nat) (p q : List Nat) (P : List (List Nat)) : TL.joinL [s] (p :: q :: P) = p ++ s :: TL.joinL [s] (q :: P) := rfl
theorem parts_of (s : Nat) : ∀ y : List Nat, ∃ p P, y = TL.joinL [s] (p :: P) ∧ (∀ q ∈ p :: P, s ∉ q)
  | [] => ⟨[], [], rfl, fun q hq => by rw [List.mem_singleton] at hq; subst hq; exact fun z => nomatch z⟩
  | c :: y => by
    obtain ⟨p, P, e, h⟩ := parts_of s y
    by_cases hc : c = s
    · subst hc
      refine ⟨[], p :: P, by rw [e]; rfl, fun q hq => ?_⟩
      rcases List.mem_cons.mp hq with rfl | hq
      · exact fun z => nomatch z
      · exact h q hq
    · refine ⟨c :: p, P, ?_, fun q hq => ?_⟩
      · rw [e]
        cases P <;> rfl
      · rcases List.mem_cons.mp hq with rfl | hq
        · intro z
          rcases List.mem_cons.mp z with rfl | z
          · exact hc rfl
          · exact h p (List.mem_cons_self ..) z
        · exact h q (List.mem_cons_of_mem _ hq)
theorem join_in (s : Nat) : ∀ (P : List (List Nat)) (p : List Nat), p ∈ P → (∀ c ∈ p, c ∈ TL.joinL [s] P) ∧ p.length ≤ (TL.joinL [s] P).length ∧ P.length ≤ (TL.joinL [s] P).length + 1
  | [], p, h => nomatch h
  | [q], p, h => by
    rw [List.mem_singleton] at h; subst h
    exact ⟨fun c hc => hc, Nat.le_refl _, by show 1 ≤ _; omega⟩
  | q :: r :: P, p, h => by
    rw [join_cons, List.length_append, List.length_cons, List.length_cons]
    have l2 := (join_in s (r :: P) r (List.mem_cons_self ..)).2.2
    rcases List.mem_cons.mp h with rfl | h
    · exact ⟨fun c hc => List.mem_append_left _ hc, by omega, by omega⟩
    · obtain ⟨a, b, c⟩ := join_in s (r :: P) p h
      exact ⟨fun d hd => List.mem_append_right _ (List.mem_cons_of_mem _ (a d hd)), by omega, by omega⟩
theorem split_sp {P : List (List Nat)} (hn : P ≠ []) (h : ∀ p ∈ P, 32 ∉ p) (hl : (TL.joinL [32] P).length ≤ 1000000) : oSplit (.str (TL.joinL [32] P)) [.str [32]] = some (.new (.lst (P.map Val.str))) := by
  have e : Txt.split (S (TL.joinL [32] P)) (S [32]) = P.map S := by
    have this : Txt.split (S (TL.joinL [32] P)) (S [32]) = (TL.spl [32] 0 [] (TL.joinL [32] P)).map S := SX.split_S (a := TL.joinL [32] P) (b := [32]) (by simp) (by decide)
    rw [this, spl_sep P hn h]
  show (if ([32] : List Nat).length ≠ 0 ∧ (TL.joinL [32] P).length ≤ 1000000 then some (RV.new (.lst ((Txt.split (S (TL.joinL [32] P)) (S [32])).map fun x => .str x.cps.toList))) else none) = _
  rw [if_pos ⟨by decide, hl⟩, e, List.map_map]
  rfl
theorem split_any (y : List Nat) (hl : y.length ≤ 1000) : ∃ P : List (List Nat), oSplit (.str y) [.str [32]] = some (.new (.lst (P.map Val.str))) ∧ P.length ≤ y.length + 1 ∧ ∀ p ∈ P, p.length ≤ y.length ∧ ∀ c ∈ p, c ∈ y := by
  obtain ⟨p, P, rfl, h⟩ := parts_of 32 y
  have j := join_in 32 (p :: P)
  refine ⟨p :: P, split_sp (by simp) h (by omega), by have := (j p (List.mem_cons_self ..)).2.2; omega, fun q hq => ⟨by have := (j q hq).2.1; omega, (j q hq).1⟩⟩
theorem flat_join : ∀ (p : List Nat) (P : List (List Nat)), ((p :: P).map (32 :: ·)).flatten = 32 :: TL.joinL [32] (p :: P)
  | p, [] => by simp; rfl
  | p, q :: P => by
    rw [List.map_cons, List.flatten_cons, flat_join q P, join_cons]
    simp
end G

end
section
set_option Elab.async false
set_option linter.all false
set_option maxRecDepth 100000
set_option maxHeartbeats 4000000
set_option autoImplicit false
set_option pp.maxSteps 700
/-! M: a text read as rules. -/
namespace G
open PySem L2 Lw
def D4 : List Nat := [49, 50, 51, 52]
theorem d4_9 {c : Nat} (h : c ∈ D4) : c ∈ D9 ∧ 49 ≤ c ∧ c ≤ 52 := by
  have : c = 49 ∨ c = 50 ∨ c = 51 ∨ c = 52 := by simpa [D4] using h
  rcases this with rfl | rfl | rfl | rfl <;> decide
/-- what a text that is read tells -/
structure Rd11 (z : List Nat) (R : Rl1) : Prop where
  ok : ∀ p ∈ R.1, okS p ∧ p.length ≤ 1000
  n : R.1.length ≤ 1000
  isr : fn_is_rules [.shr (ruV1 R)] = some (.ret (.shr (.bl true)), [.un])
  txt : fn__law_text [.shr (ruV1 R)] = some (.ret (.shr (.str z)), [.un])
theorem fmt_okS {ps : List (List Nat)} {l r : Int} (ok : ∀ p ∈ ps, okS p) (hl : l ≤ 9) (hr : r ≤ 9) : okS (fmtM ps l r) := fun c hc => by
  unfold fmtM at hc
  rcases List.mem_append.mp hc with hc | hc
  · have : c = 48 + l.toNat ∨ c = 32 ∨ c = 48 + r.toNat ∨ c = 58 := by simpa using hc
    rcases this with rfl | rfl | rfl | rfl <;> omega
  · obtain ⟨q, hq, hc⟩ := List.mem_flatten.mp hc
    obtain ⟨p, hp, rfl⟩ := List.mem_map.mp hq
    rcases List.mem_cons.mp hc with rfl | hc
    · omega
    · exact ok p hp c hc
theorem parse_any {z : List Nat} (ok : okS z) (hl : z.length ≤ 900) (Q : ORes → List Lw.Slot → Prop) (q1 : Q (.exc "InvalidFormat") [.un]) (q2 : ∀ R, Rd11 z R → Q (.ret (.shr (ruV1 R))) [.un]) : OX (fn_parse_rules [.shr (.str z)]) Q := by
  unfold fn_parse_rules g_parse_rules
  refine FX_run rfl ?_
  have l16 : z.length ≤ 16000000 := by omega
  by_cases h4 : 4 ≤ z.length
  case neg =>
    have d4 : decide (((z.length : Nat) : Int) < 4) = true := decide_eq_true (by omega)
    simp_arith [isi_ss, Bool.not_true, Bool.not_false, l16, d4]
    exact q1
  obtain ⟨a, b, c, d, t, rfl⟩ : ∃ a b c d t, z = a :: b :: c :: d :: t := by
    match z, h4 with
    | a :: b :: c :: d :: t, _ => exact ⟨a, b, c, d, t, rfl⟩
  have l16' : t.length + 1 + 1 + 1 + 1 ≤ 16000000 := l16
  refine SX_stepT (fun e => (a ∈ D4 ∧ c ∈ D4) ∧ e = [.shr (.str (a :: b :: c :: d :: t)), .un, .un]) ?_ ?_
  · suffices h : ∀ I : Lw.Env → Prop, (a ∈ D4 → c ∈ D4 → I [.shr (.str (a :: b :: c :: d :: t)), .un, .un]) → OX ((sIfS (sOr (sNot (sCallB oIsi [sVar 0, sC (.ty "str")])) (sOr (sBin oLt (sCallB oLen [sVar 0]) (sC (.int 4))) (sOr (sBin oNotIn (sBin oIx (sVar 0) (sC (.int 0))) (sC (.str [49, 50, 51, 52]))) (sBin oNotIn (sBin oIx (sVar 0) (sC (.int 2))) (sC (.str [49, 50, 51, 52])))))) (sRaise "InvalidFormat") (sNil)) [.shr (.str (a :: b :: c :: d :: t)), .un, .un]) (nxS (fnR [.shr (.str (a :: b :: c :: d :: t))] Q) I) from h _ fun x y => ⟨⟨x, y⟩, rfl⟩
    intro I hI
    simp_arith [isi_ss, Bool.not_true, Bool.not_false, l16', inS, notInS, atI_nat0, atI_nat2, Bool.not_eq_true', Bool.not_eq_false', decide_eq_false_iff_not, decide_eq_true_eq, Decidable.not_not]
    exact ⟨fun _ => q1, fun _ => ⟨fun _ => q1, fun h1 => ⟨fun _ => q1, fun h2 => hI h1 h2⟩⟩⟩
  rintro e ⟨⟨ha, hc⟩, rfl⟩
  have ia := int_sign a (d4_9 ha).1
  have ic := int_sign c (d4_9 hc).1
  obtain ⟨_, a1, a2⟩ := d4_9 ha
  obtain ⟨_, c1, c2⟩ := d4_9 hc
  have x0 : oIx (.str (a :: b :: c :: d :: t)) (.int 0) = some (.shr (.str [a])) := by rw [ev_ixS, if_pos l16, atI_nat0]; rfl
  have x2 : oIx (.str (a :: b :: c :: d :: t)) (.int 2) = some (.shr (.str [c])) := by rw [ev_ixS, if_pos l16, atI_nat2]; rfl
  clear h4 l16' ha hc
  generalize a :: b :: c :: d :: t = z at ok hl q2 l16 x0 x2 ⊢
  refine SX_stepT (fun e => (∃ P : List (List Nat), P.length ≤ 1000 ∧ (∀ p ∈ P, okS p ∧ p.length ≤ 1000) ∧ e = [.shr (.str z), .own (.lst (P.map Val.str)), .un])) ?_ ?_
  · obtain ⟨P, sp, pl, pm⟩ := split_any (cutG z (some 5) none) (by have := cutG_le z (some 5) none; omega)
    have cl := cutG_le z (some 5) none
    suffices h : ∀ I : Lw.Env → Prop, (I [.shr (.str z), .own (.lst (P.map Val.str)), .un]) → (I [.shr (.str z), .own (.lst []), .un]) → OX ((sAsg 1 (sIf (sBin oGt (sCallB oLen [sVar 0]) (sC (.int 5))) (sMeth "str" oSplit (sSl oSl (sVar 0) (some (sC (.int 5))) none) [sC (.str [32])]) (sLst []))) [.shr (.str z), .un, .un]) (nxS (fnR [.shr (.str z)] Q) I) from
      h _ ⟨P, by omega, fun p hp => ⟨fun x hx => ok x (mem_cutG ((pm p hp).2 x hx)), by have := (pm p hp).1; omega⟩, rfl⟩ ⟨[], Nat.zero_le _, (fun p hp => nomatch hp), rfl⟩
    intro I i1 i2
    simp_arith [l16, sp, tyOf]
    exact ⟨fun _ => i1, fun _ => i2⟩
  rintro e ⟨P, pl, pm, rfl⟩
  refine SX_stepT (fun e => e = [.shr (.str z), .own (.lst (P.map Val.str)), .shr (ruV1 (P, (a : Int) - 48, (c : Int) - 48))]) ?_ ?_
  · simp_arith [x0, x2, ia, ic, tupleOf_l, tyOf]
    try rfl
  rintro e rfl
  obtain ⟨g, hg⟩ := rules_any (l := (a : Int) - 48) (r := (c : Int) - 48) pm pl
  have hg : fn_is_rules [.shr (ruV1 (P, (a : Int) - 48, (c : Int) - 48))] = some (.ret (.shr (.bl g)), [.un]) := hg
  have fm : fn_formatted [.shr (ruV1 (P, (a : Int) - 48, (c : Int) - 48))] = some (.ret (.shr (.str (fmtM P ((a : Int) - 48) ((c : Int) - 48)))), [.un]) := formatted_ok (l := (a : Int) - 48) (r := (c : Int) - 48) (fun p hp => (pm p hp).2) pl (by omega) (by omega) (by omega) (by omega)
  have tx : fn__law_text [.shr (ruV1 (P, (a : Int) - 48, (c : Int) - 48))] = some (.ret (.shr (.str (fmtM P ((a : Int) - 48) ((c : Int) - 48)))), [.un]) := law_text_ok (l := (a : Int) - 48) (r := (c : Int) - 48) (fun p hp => (pm p hp).2) pl (by omega) (by omega) (by omega) (by omega)
  have fo : okS (fmtM P ((a : Int) - 48) ((c : Int) - 48)) := fmt_okS (fun p hp => (pm p hp).1) (by omega) (by omega)
  have mk : g = true → fmtM P ((a : Int) - 48) ((c : Int) - 48) = z → Rd11 z (P, (a : Int) - 48, (c : Int) - 48) := fun e1 e2 => ⟨pm, pl, by rw [hg, e1], by rw [tx, e2]⟩
  have q2' := q2 (P, (a : Int) - 48, (c : Int) - 48)
  have nz := nev_ss fo ok
  clear fo tx x0 x2 ia ic q2
  generalize ruV1 (P, (a : Int) - 48, (c : Int) - 48) = R at *
  generalize fmtM P ((a : Int) - 48) ((c : Int) - 48) = y at *
  refine SX_stepT (fun e => (g = true ∧ y = z) ∧ e = [.shr (.str z), .own (.lst (P.map Val.str)), .shr R]) ?_ ?_
  · suffices h : ∀ I : Lw.Env → Prop, (g = true → y = z → I [.shr (.str z), .own (.lst (P.map Val.str)), .shr R]) → OX ((sIfS (sOr (sNot (sCall fn_is_rules [esh (sVar 2)])) (sBin oNe (sCall fn_formatted [esh (sVar 2)]) (sVar 0))) (sRaise "InvalidFormat") (sNil)) [.shr (.str z), .own (.lst (P.map Val.str)), .shr R]) (nxS (fnR [.shr (.str z)] Q) I) from h _ fun x y => ⟨⟨x, y⟩, rfl⟩
    intro I hI
    simp_arith [hg, fm, nz, Bool.not_eq_true', Bool.not_eq_false', decide_eq_false_iff_not, decide_eq_true_eq, Decidable.not_not]
    exact ⟨fun _ => q1, fun h1 => ⟨fun _ => q1, fun h2 => hI h1 h2⟩⟩
  rintro e ⟨⟨g1, g2⟩, rfl⟩
  simp_arith []
  exact q2' (mk g1 g2)
theorem VP.two {p : List Nat} (h : VP p) : 2 ≤ p.length := by
  obtain ⟨d1, t, d2, h⟩ := h
  have e := h.eq
  have c1 := h.c1
  have lt := h.lt
  rw [e, List.length_append, List.length_append]
  omega
theorem VP.no32 {p : List Nat} (h : VP p) : 32 ∉ p := fun hc => by
  obtain ⟨d1, t, d2, h⟩ := h
  rw [h.eq] at hc
  rcases List.mem_append.mp hc with hc | hc
  · rcases List.mem_append.mp hc with hc | hc
    · rcases h.h1 with rfl | rfl
      · cases hc
      · have := List.mem_singleton.mp hc; omega
    · rcases h.sg 32 hc with q | q
      · have := d9_le q; omega
      · unfold isLet at q; omega
  · rcases h.h2 with rfl | rfl
    · cases hc
    · have := List.mem_singleton.mp hc; omega
theorem dig_D4 {l : Int} (h1 : 1 ≤ l) (h4 : l ≤ 4) : 48 + l.toNat ∈ D4 := by
  have : l = 1 ∨ l = 2 ∨ l = 3 ∨ l = 4 := by omega
  rcases this with rfl | rfl | rfl | rfl <;> decide
theorem parse_fmt {ps : List (List Nat)} {l r : Int} (h : VR ps l r) : fn_parse_rules [.shr (.str (fmtM ps l r))] = some (.ret (.shr (rulesV ps l r)), [.un]) := by
  have l1 := h.l1
  have l4 := h.l4
  have r1 := h.r1
  have r4 := h.r4
  have pm : ∀ p ∈ ps, p.length ≤ 1000 := fun p hp => by have := (h.vp p hp).len; omega
  have pl : ps.length ≤ 1000 := by have := h.n6; omega
  have fm := formatted_ok pm pl (show (0 : Int) ≤ l by omega) (by omega) (show (0 : Int) ≤ r by omega) (by omega)
  have fo : okS (fmtM ps l r) := fmt_okS (fun p hp => (h.vp p hp).ok) (by omega) (by omega)
  have fl : (ps.map (32 :: ·)).flatten.length ≤ 6006 := by have := flat_len ps pm; have := h.n6; omega
  have ir := rules_ok h
  have ia := int_sign _ (d4_9 (dig_D4 l1 l4)).1
  have ic := int_sign _ (d4_9 (dig_D4 r1 r4)).1
  have ha : decide (48 + l.toNat ∈ ([49, 50, 51, 52] : List Nat)) = true := decide_eq_true (dig_D4 l1 l4)
  have hc : decide (48 + r.toNat ∈ ([49, 50, 51, 52] : List Nat)) = true := decide_eq_true (dig_D4 r1 r4)
  have el : ((48 + l.toNat : Nat) : Int) - 48 = l := by omega
  have er : ((48 + r.toNat : Nat) : Int) - 48 = r := by omega
  rw [el] at ia
  rw [er] at ic
  have zl : (fmtM ps l r).length ≤ 16000000 := by unfold fmtM; rw [List.length_append]; simp only [List.length_cons, List.length_nil]; omega
  have x0 : oIx (.str (fmtM ps l r)) (.int 0) = some (.shr (.str [48 + l.toNat])) := by rw [ev_ixS, if_pos zl]; unfold fmtM; rw [List.cons_append, atI_nat0]; rfl
  have x2 : oIx (.str (fmtM ps l r)) (.int 2) = some (.shr (.str [48 + r.toNat])) := by rw [ev_ixS, if_pos zl]; unfold fmtM; rw [List.cons_append, List.cons_append, List.cons_append, atI_nat2]; rfl
  have z4 : decide (((fmtM ps l r).length : Int) < 4) = false := decide_eq_false (by unfold fmtM; rw [List.length_append]; simp only [List.length_cons, List.length_nil]; omega)
  have nz := nev_ss fo fo
  rw [decide_eq_true rfl] at nz
  have pn : ps = [] ∧ decide (((fmtM ps l r).length : Int) > 5) = false ∨ decide (((fmtM ps l r).length : Int) > 5) = true ∧ oSplit (.str (cutG (fmtM ps l r) (some 5) none)) [.str [32]] = some (.new (.lst (ps.map Val.str))) := by
    cases ps with
    | nil => exact .inl ⟨rfl, by unfold fmtM; rfl⟩
    | cons p P =>
      refine .inr ⟨decide_eq_true ?_, ?_⟩
      · have := (h.vp p (List.mem_cons_self ..)).two
        unfold fmtM
        rw [List.map_cons, List.flatten_cons, List.length_append, List.length_append]
        simp only [List.length_cons, List.length_nil]
        omega
      · have e : fmtM (p :: P) l r = [48 + l.toNat, 32, 48 + r.toNat, 58, 32] ++ TL.joinL [32] (p :: P) := by
          unfold fmtM
          rw [flat_join]; rfl
        have lj : (TL.joinL [32] (p :: P)).length ≤ 1000000 := by
          rw [flat_join] at fl
          rw [List.length_cons] at fl
          omega
        have c5 : cutG (fmtM (p :: P) l r) (some 5) none = TL.joinL [32] (p :: P) := by
          rw [e]
          unfold cutG
          simp [HT.sIx]
          try omega
        rw [c5]
        exact split_sp (by simp) (fun q hq => (h.vp q hq).no32) lj
  apply OX_det
  unfold fn_parse_rules g_parse_rules
  refine FX_run rfl ?_
  have rv : rulesV ps l r = .tup [.tup (ps.map Val.str), .int l, .int r] := rfl
  generalize fmtM ps l r = z at *
  rw [rv] at fm ir ⊢
  rcases pn with ⟨rfl, z5⟩ | ⟨z5, sp⟩
  · simp_arith [isi_ss, Bool.not_true, Bool.not_false, zl, z4, z5, x0, x2, ha, hc, inS, notInS, ia, ic, tupleOf_l, tyOf]
    have ir : fn_is_rules [.shr (.tup [.tup [], .int l, .int r])] = _ := ir
    have fm : fn_formatted [.shr (.tup [.tup [], .int l, .int r])] = _ := fm
    simp_arith [ir, fm, nz, Bool.not_true, Bool.not_false]
    try rfl
  · simp_arith [isi_ss, Bool.not_true, Bool.not_false, zl, z4, z5, x0, x2, ha, hc, inS, notInS, ia, ic, tupleOf_l, tyOf, sp, ir, fm, nz]
    try rfl
end G

end
section
set_option Elab.async false
set_option linter.all false
set_option maxRecDepth 100000
set_option maxHeartbeats 4000000
set_option autoImplicit false
set_option pp.maxSteps 700
/-! L11: the law of formats. -/
namespace G
open PySem L2 Lw
theorem fp0 {fs : List EF} : sPickC [("format_rules", fn_format_rules), ("parse_rules", fn_parse_rules)] fs (.shr (.glo "format_rules")) = sCall fn_format_rules fs := pickC (T := [("format_rules", fn_format_rules), ("parse_rules", fn_parse_rules)]) (x := "format_rules") (p := ("format_rules", fn_format_rules)) rfl
theorem fp1 {fs : List EF} : sPickC [("format_rules", fn_format_rules), ("parse_rules", fn_parse_rules)] fs (.shr (.glo "parse_rules")) = sCall fn_parse_rules fs := pickC (T := [("format_rules", fn_format_rules), ("parse_rules", fn_parse_rules)]) (x := "parse_rules") (p := ("parse_rules", fn_parse_rules)) rfl
theorem pos8 : posI "InvalidFormat" CS 0 = some 8 := by decide +kernel
theorem format_ok {ps : List (List Nat)} {l r : Int} (h : VR ps l r) : fn_format_rules [.shr (rulesV ps l r)] = some (.ret (.shr (.str (fmtM ps l r))), [.un]) := by
  have l1 := h.l1
  have l4 := h.l4
  have r1 := h.r1
  have r4 := h.r4
  have fm := formatted_ok (ps := ps) (l := l) (r := r) (fun p hp => by have := (h.vp p hp).len; omega) (by have := h.n6; omega) (by omega) (by omega) (by omega) (by omega)
  have nr := need_rules_ok h
  apply OX_det
  unfold fn_format_rules g_format_rules
  refine FX_run rfl ?_
  generalize rulesV ps l r = R at *
  simp_arith [nr, fm]
  try rfl
theorem ask0_ok {ps : List (List Nat)} {l r : Int} (h : VR ps l r) : fn__law_ask [.shr (.int 0), .shr (rulesV ps l r)] = some (.ret (.shr (.str (fmtM ps l r))), [.un, .un]) := by
  have fo := format_ok h
  apply OX_det
  unfold fn__law_ask g__law_ask
  refine FX_run rfl ?_
  generalize rulesV ps l r = R at *
  simp_arith [SX_tryW, EX_callV, fp0, fo, tryR_ret]
  try rfl
theorem ask1_ok {ps : List (List Nat)} {l r : Int} (h : VR ps l r) : fn__law_ask [.shr (.int 1), .shr (.str (fmtM ps l r))] = some (.ret (.shr (rulesV ps l r)), [.un, .un]) := by
  have fo := parse_fmt h
  apply OX_det
  unfold fn__law_ask g__law_ask
  refine FX_run rfl ?_
  generalize rulesV ps l r = R at *
  simp_arith [SX_tryW, EX_callV, fp1, fo, tryR_ret]
  try rfl
theorem ask1_any {z : List Nat} (ok : okS z) (hl : z.length ≤ 900) (Q : ORes → List Lw.Slot → Prop) (q1 : Q (.ret (.shr (rdV 8))) [.un, .un]) (q2 : ∀ R, Rd11 z R → Q (.ret (.shr (ruV1 R))) [.un, .un]) : OX (fn__law_ask [.shr (.int 1), .shr (.str z)]) Q := by
  unfold fn__law_ask g__law_ask
  refine FX_run rfl ?_
  simp_arith [SX_tryW, EX_callV, fp1]
  refine parse_any ok hl _ ?_ fun R hR => ?_
  · simp_arith [tryR_exc pos8]
    exact ⟨by decide, q1⟩
  · simp_arith [tryR_ret]
    exact q2 R hR
theorem lab11 : lets [97, 98] := fun c hc => by
  have : c = 97 ∨ c = 98 := by simpa using hc
  unfold isLet; omega
def E11 (ns : List Int) (v A B : Val) (s4 s5 s6 s7 s8 : Lw.Slot) : Lw.Env := [.shr (.scr ns), .own v, .shr A, .shr B, s4, s5, s6, s7, s8, .un, .un, .un]
theorem SX_fst {g : SF} {env : Lw.Env} {QS : FRes → Lw.Env → Prop} {r : FRes} (h : (g env).map Prod.fst = some r) (q : ∀ e, QS r e) : OX (g env) QS := by
  cases hg : g env with
  | none => rw [hg] at h; cases h
  | some z =>
    rw [hg] at h
    cases h
    exact q _
theorem a11 (ns : List Int) (v : Val) (tv : Tn v) (A : Val) (s4 s6 s7 s8 : Lw.Slot) (z : List Nat) (zl : z.length ≤ 400) (s5 : Lw.Slot) (h5 : setOk (some s5) = true) :
    OX ((sAsg 5 (sCall fn__law_draw [esh (sVar 0), sVar 1, esh (sBin oAdd (sCallB oLen [sVar 3]) (sC (.int 1)))])) (E11 ns v A (.str z) s4 s5 s6 s7 s8)) fun r e => r = .nx ∧ ∃ (k : Int) (v1 : Val), 0 ≤ k ∧ k ≤ z.length ∧ Tn v1 ∧ e = E11 ns v1 A (.str z) s4 (.shr (.int k)) s6 s7 s8 := by
  unfold E11
  have l16 : z.length ≤ 16000000 := by omega
  simp_arith [l16]
  refine OX_mono (draw_ok ns v tv ((z.length : Int) + 1) (by omega) (by omega)) fun o ss q => ?_
  obtain ⟨k, v1, rfl, k0, k1, t1, rfl⟩ := q
  simp_arith [h5]
  exact ⟨k, v1, k0, by omega, t1, rfl⟩
theorem b11 (ns : List Int) (v : Val) (tv : Tn v) (A B : Val) (s4 s5 s7 s8 : Lw.Slot) (s6 : Lw.Slot) (h6 : setOk (some s6) = true) :
    OX ((sAsg 6 (sCall fn__law_pick [esh (sVar 0), sVar 1, esh (sLst [sC (.str []), sC (.str [97]), sC (.str [32]), sC (.str [49]), sC (.str [52]), sC (.str [46]), sC (.str [58]), sC (.str [53]), sC (.str [120]), sC (.str [45])])])) (E11 ns v A B s4 s5 s6 s7 s8)) fun r e => r = .nx ∧ ∃ (y : List Nat) (v1 : Val), y.length ≤ 1 ∧ okS y ∧ Tn v1 ∧ e = E11 ns v1 A B s4 s5 (.shr (.str y)) s7 s8 := by
  unfold E11
  simp_arith []
  refine OX_mono (pick_ok ns v tv (.lst [.str [], .str [97], .str [32], .str [49], .str [52], .str [46], .str [58], .str [53], .str [120], .str [45]]) _ rfl (by decide) (by decide)) fun o ss q => ?_
  obtain ⟨r, v1, rfl, hr, t1, rfl⟩ := q
  obtain ⟨y, rfl, y1, y2⟩ : ∃ y : List Nat, r = .str y ∧ y.length ≤ 1 ∧ okS y := by
    have : r = .str [] ∨ r = .str [97] ∨ r = .str [32] ∨ r = .str [49] ∨ r = .str [52] ∨ r = .str [46] ∨ r = .str [58] ∨ r = .str [53] ∨ r = .str [120] ∨ r = .str [45] := by simpa using hr
    have one : ∀ c : Nat, c < 1000 → okS [c] := fun c hc d hd => by rw [List.mem_singleton] at hd; omega
    rcases this with rfl | rfl | rfl | rfl | rfl | rfl | rfl | rfl | rfl | rfl
    · exact ⟨[], rfl, by decide, ok0⟩
    all_goals exact ⟨_, rfl, by decide, one _ (by decide)⟩
  simp_arith [h6]
  exact ⟨y, v1, y1, y2, t1, rfl⟩
theorem c11 (ns : List Int) (v : Val) (tv : Tn v) (A : Val) (s4 s8 : Lw.Slot) (z : List Nat) (zl : z.length ≤ 400) (oz : okS z) (k : Int) (y : List Nat) (yl : y.length ≤ 1) (oy : okS y) (s7 : Lw.Slot) (h7 : setOk (some s7) = true) :
    OX ((sAsg 7 (sBin oAdd (sBin oAdd (sSl oSl (sVar 3) none (some (sVar 5))) (sVar 6)) (sSl oSl (sVar 3) (some (sBin oAdd (sVar 5) (sCall fn__law_draw [esh (sVar 0), sVar 1, esh (sC (.int 2))]))) none))) (E11 ns v A (.str z) s4 (.shr (.int k)) (.shr (.str y)) s7 s8)) fun r e => r = .nx ∧ ∃ (w : List Nat) (v1 : Val), w.length ≤ 900 ∧ (okS w) ∧ Tn v1 ∧ e = E11 ns v1 A (.str z) s4 (.shr (.int k)) (.shr (.str y)) (.shr (.str w)) s8 := by
  unfold E11
  have l16 : z.length ≤ 16000000 := by omega
  have c1 := cutG_le z none (some k)
  simp_arith [l16]
  refine ⟨by omega, OX_mono (draw_ok ns v tv 2 (by omega) (by omega)) fun o ss q => ?_⟩
  obtain ⟨k2, v1, rfl, k0, k1, t1, rfl⟩ := q
  have c2 := cutG_le z (some (k + k2)) none
  simp_arith [h7, l16]
  refine ⟨by simp only [List.length_append]; omega, _, v1, ?_, ?_, t1, rfl⟩
  · simp only [List.length_append]; omega
  · intro c hc
    rcases List.mem_append.mp hc with hc | hc
    · rcases List.mem_append.mp hc with hc | hc
      · exact oz c (mem_cutG hc)
      · exact oy c hc
    · exact oz c (mem_cutG hc)
theorem d11 (ns : List Int) (v A B : Val) (s4 s5 s6 s8 : Lw.Slot) (w : List Nat) (wl : w.length ≤ 900) (ow : okS w) (h8 : setOk (some s8) = true) (QS : FRes → Lw.Env → Prop) (q : ∀ s8, setOk (some s8) = true → QS .nx (E11 ns v A B s4 s5 s6 (.shr (.str w)) s8)) :
    OX (sSeq ((sAsg 8 (sCall fn__law_ask [esh (sC (.int 1)), esh (sVar 7)]))) ((sIfS (sAnd (sBin oNe (sVar 8) (sTup [sC (.str [114, 97, 105, 115, 101, 100]), sC (.int 8)])) (sOr (sBin oIsNot (sCall fn_is_rules [esh (sVar 8)]) (sC (.bl true))) (sBin oNe (sCall fn__law_text [esh (sVar 8)]) (sVar 7)))) (sRet (sC (.bl false))) (sNil))) (E11 ns v A B s4 s5 s6 (.shr (.str w)) s8)) QS := by
  unfold E11 at *
  refine SX_stepT (fun e => (e = [.shr (.scr ns), .own v, .shr A, .shr B, s4, s5, s6, .shr (.str w), .shr (rdV 8), .un, .un, .un]) ∨ ∃ R, Rd11 w R ∧ e = [.shr (.scr ns), .own v, .shr A, .shr B, s4, s5, s6, .shr (.str w), .shr (ruV1 R), .un, .un, .un]) ?_ ?_
  · suffices h : ∀ I : Lw.Env → Prop, I [.shr (.scr ns), .own v, .shr A, .shr B, s4, s5, s6, .shr (.str w), .shr (rdV 8), .un, .un, .un] → (∀ R, Rd11 w R → I [.shr (.scr ns), .own v, .shr A, .shr B, s4, s5, s6, .shr (.str w), .shr (ruV1 R), .un, .un, .un]) → OX ((sAsg 8 (sCall fn__law_ask [esh (sC (.int 1)), esh (sVar 7)])) [.shr (.scr ns), .own v, .shr A, .shr B, s4, s5, s6, .shr (.str w), s8, .un, .un, .un]) (nxS QS I) from
      h _ (.inl rfl) fun R hR => .inr ⟨R, hR, rfl⟩
    intro I i1 i2
    simp_arith []
    refine ask1_any ow wl _ ?_ fun R hR => ?_
    · simp_arith [h8]
      exact i1
    · simp_arith [h8]
      exact i2 R hR
  rintro e (rfl | ⟨R, hR, rfl⟩)
  · have n8 : oNe (rdV 8) (.tup [.str [114, 97, 105, 115, 101, 100], .int 8]) = some (.shr (.bl false)) := by kernel_rfl
    simp_arith [n8]
    exact q _ rfl
  · have n8 := ne_raised (R := R) fun p hp => (hR.ok p hp).1
    have ir := hR.isr
    have tx := hR.txt
    have no : oIsNot (.bl true) (.bl true) = some (.shr (.bl false)) := rfl
    have nw := nev_ss ow ow
    rw [decide_eq_true rfl] at nw
    generalize ruV1 R = V at *
    simp_arith [n8, ir, tx, no, nw, Bool.not_true, Bool.not_false]
    exact q _ rfl
theorem fmt_len {ps : List (List Nat)} {l r : Int} (h : VR ps l r) : (fmtM ps l r).length ≤ 400 := by
  have f : ∀ qs : List (List Nat), (∀ p ∈ qs, p.length ≤ 11) → (qs.map (32 :: ·)).flatten.length ≤ qs.length * 12 := fun qs => by
    induction qs with
    | nil => exact fun _ => Nat.zero_le _
    | cons q qs ih =>
      intro hq
      have := ih fun p hp => hq p (List.mem_cons_of_mem _ hp)
      have := hq q (List.mem_cons_self ..)
      rw [List.map_cons, List.flatten_cons, List.length_append, List.length_cons, List.length_cons, Nat.succ_mul]
      omega
  have := f ps fun p hp => (h.vp p hp).len
  have := h.n6
  unfold fmtM
  rw [List.length_append]
  simp only [List.length_cons, List.length_nil]
  omega
abbrev R11 : SF := sSeq ((sAsg 9 (sLst [sC (.str []), sC (.str [49]), sC (.str [49, 32, 49]), sC (.str [49, 49, 58]), sC (.str [49, 32, 49, 58, 32]), sC (.str [49, 32, 49, 32, 58]), sC (.str [49, 32, 53, 58]), sC (.str [48, 32, 49, 58]), sC (.str [32, 49, 32, 49, 58]), sC (.str [49, 32, 49, 58, 49, 98]), sC (.str [49, 32, 49, 58, 32, 32, 49, 98])]))) (sSeq ((sExpr (sExtend 9 (sLst [sC (.str [49, 32, 49, 58, 32, 49, 98, 32]), sC (.str [49, 32, 49, 58, 32, 49, 98, 32, 98, 49]), sC (.str [49, 32, 49, 58, 32, 98]), sC .non, sC (.int 5), sLst [sC (.str [49, 32, 49, 58])]])))) (sSeq ((sExpr (sExtend 9 (sLst [sC (.str [49, 32, 49, 58, 32, 49, 66]), sC (.str [49, 32, 32, 49, 58, 32, 49, 98]), sC (.str [48, 49, 32, 49, 58, 32, 49, 98]), sC (.str [49, 32, 49, 58, 32, 49, 98, 10]), sC (.str [49, 32, 49, 59, 32, 49, 98])])))) (sSeq ((sExpr (sExtend 9 (sLst [sBin oAdd (sC (.str [49, 32, 49, 58, 32])) (sMeth "str" oJoin (sC (.str [32])) [sLC (.one 10) [10] (sAny (sC (.str [97, 98, 99, 100, 101, 102, 103]))) (sYes) (sBin oAdd (sC (.str [49])) (sVar 10))])])))) (sSeq ((sIfS (sBin oNe (sLC (.one 11) [11] (sAny (sVar 9)) (sYes) (sCall fn__law_ask [esh (sC (.int 1)), esh (sVar 11)])) (sBin oMul (sLst [sTup [sC (.str [114, 97, 105, 115, 101, 100]), sC (.int 8)]]) (sCallB oLen [sVar 9]))) (sRet (sC (.bl false))) (sNil))) (sSeq ((sIfS (sOr (sBin oNe (sCall fn__law_ask [esh (sC (.int 1)), esh (sC (.str [52, 32, 52, 58]))]) (sTup [sTup [], sC (.int 4), sC (.int 4)])) (sBin oNe (sCall fn__law_ask [esh (sC (.int 1)), esh (sC (.str [49, 32, 50, 58, 32, 46, 49, 97, 46, 32, 50, 98, 99, 51]))]) (sTup [sTup [sC (.str [46, 49, 97, 46]), sC (.str [50, 98, 99, 51])], sC (.int 1), sC (.int 2)]))) (sRet (sC (.bl false))) (sNil))) ((sRet (sBin oEq (sLC (.one 11) [11] (sAny (sTup [sC .non, sTup [], sC (.str [49, 32, 49, 58]), sTup [sLst [sC (.str [49, 98])], sC (.int 1), sC (.int 1)], sTup [sTup [sC (.str [98])], sC (.int 1), sC (.int 1)]])) (sYes) (sCall fn__law_ask [esh (sC (.int 0)), esh (sVar 11)])) (sBin oMul (sLst [sTup [sC (.str [114, 97, 105, 115, 101, 100]), sC (.int 0)]]) (sC (.int 5)))))))))))
theorem e11 (ns : List Int) (v A B : Val) (s4 s5 s6 s7 s8 : Lw.Slot) : (R11 (E11 ns v A B s4 s5 s6 s7 s8)).map Prod.fst = some (.ret (.shr (.bl true))) := by kernel_rfl
theorem f11 (ns : List Int) (A B : Val) (e : Lw.Env) (h : ∃ (v : Val) (s4 s5 s6 s7 s8 : Lw.Slot), e = E11 ns v A B s4 s5 s6 s7 s8) (QS : FRes → Lw.Env → Prop) (q : ∀ e, QS (.ret (.shr (.bl true))) e) : OX (R11 e) QS := by
  obtain ⟨v, s4, s5, s6, s7, s8, he⟩ := h
  have e1 := e11 ns v A B s4 s5 s6 s7 s8
  rw [← he] at e1
  exact SX_fst e1 q
theorem law_ok (ns : List Int) (hl : ns.length ≤ 63) : ∃ ss, fn_law [.shr (.scr ns)] = some (.ret (.shr (.bl true)), ss) := by
  suffices h : OX (fn_law [.shr (.scr ns)]) fun o ss => o = .ret (.shr (.bl true)) by
    obtain ⟨a, b, e, rfl⟩ := OX_eq h
    exact ⟨b, e⟩
  unfold fn_law g_law
  refine FX_run rfl ?_
  have t0 : Tn (.lst [.int 0, .int 0]) := ⟨0, 0, Int.le_refl _, Int.le_refl _, rfl⟩
  refine SX_cutT (fun e => e = [.shr (.scr ns), .own (.lst [.int 0, .int 0]), .un, .un, .un, .un, .un, .un, .un, .un, .un, .un]) ?_ ?_
  · simp_arith []
    try first | exact rfl | exact ⟨rfl, rfl⟩
  rintro e rfl
  refine SX_cutT (fun e => ∃ (ps : List (List Nat)) (l r : Int) (v : Val), VR ps l r ∧ Tn v ∧ e = [.shr (.scr ns), .own v, .shr (rulesV ps l r), .un, .un, .un, .un, .un, .un, .un, .un, .un]) ?_ ?_
  · simp_arith []
    refine OX_mono (lrules_ok ns _ t0 5 (by decide) [97, 98] (by decide) (by decide) lab11) fun o ss q => ?_
    obtain ⟨ps, l, r, v1, rfl, hR, _, _, t1, rfl⟩ := q
    simp_arith []
    exact ⟨ps, l, r, v1, hR, t1, rfl⟩
  rintro e ⟨ps, l, r, v, hR, tv, rfl⟩
  have l1 := hR.l1
  have l4 := hR.l4
  have r1 := hR.r1
  have r4 := hR.r4
  have tx := law_text_ok (ps := ps) (l := l) (r := r) (fun p hp => by have := (hR.vp p hp).len; omega) (by have := hR.n6; omega) (by omega) (by omega) (by omega) (by omega)
  have a0 := ask0_ok hR
  have a1 := ask1_ok hR
  have fo : okS (fmtM ps l r) := fmt_okS (fun p hp => (hR.vp p hp).ok) (by omega) (by omega)
  have zl := fmt_len hR
  have nz := nev_ss fo fo
  rw [decide_eq_true rfl] at nz
  have nr : oNe (rulesV ps l r) (rulesV ps l r) = some (.shr (.bl false)) := ne_self (R := (ps, l, r)) fun p hp => (hR.vp p hp).ok
  clear t0 hR
  generalize rulesV ps l r = A at *
  generalize fmtM ps l r = z at *
  refine SX_cutT (fun e => e = [.shr (.scr ns), .own v, .shr A, .shr (.str z), .un, .un, .un, .un, .un, .un, .un, .un]) ?_ ?_
  · simp_arith [tx]
    try first | exact rfl | exact ⟨rfl, rfl⟩
  rintro e rfl
  refine SX_cutT (fun e => e = [.shr (.scr ns), .own v, .shr A, .shr (.str z), .un, .un, .un, .un, .un, .un, .un, .un]) ?_ ?_
  · simp_arith [a0, a1, nz, nr, Bool.not_true, Bool.not_false]
    try first | exact rfl | exact ⟨rfl, rfl⟩
  rintro e rfl
  refine SX_cutT (fun e => ∃ (v : Val) (s4 s5 s6 s7 s8 : Lw.Slot), e = E11 ns v A (.str z) s4 s5 s6 s7 s8) ?_ (fun e he => f11 ns A (.str z) e he _ fun e => rfl)
  · have start : OX (sRange1 (sC (.int 8)) [.shr (.scr ns), .own v, .shr A, .shr (.str z), .un, .un, .un, .un, .un, .un, .un, .un]) fun r e => r = .items (rangeV 0 8) ∧ e = E11 ns v A (.str z) .un .un .un .un .un := by
      unfold E11
      simp_arith [smI (show (0 : Int) ≤ 8 by decide) (by decide)]
      try first | exact rfl | exact ⟨rfl, rfl⟩
    rw [SX_for]
    refine OX_mono start ?_
    rintro r e ⟨rfl, rfl⟩
    rw [rF_items]
    refine FL_inv (fun i e => ∃ (v : Val) (s4 s5 s6 s7 s8 : Lw.Slot), Tn v ∧ setOk (some s4) = true ∧ setOk (some s5) = true ∧ setOk (some s6) = true ∧ setOk (some s7) = true ∧ setOk (some s8) = true ∧ e = E11 ns v A (.str z) s4 s5 s6 s7 s8)
      ⟨v, .un, .un, .un, .un, .un, tv, rfl, rfl, rfl, rfl, rfl, rfl⟩ (fun i k e hv hI => ?_) fun e hI => ?_
    · clear tv
      obtain ⟨v, s4, s5, s6, s7, s8, tv, h4, h5, h6, h7, h8, rfl⟩ := hI
      have st : tgSet (.one 4) k (E11 ns v A (.str z) s4 s5 s6 s7 s8) = some (E11 ns v A (.str z) (.shr k) s5 s6 s7 s8) := by
        rw [tg_one, set_shr]
        show (if setOk (some s4) = true then _ else _) = _
        rw [if_pos h4]; rfl
      rw [st, OB_some]
      clear st
      refine SX_cutT _ (a11 ns v tv A _ s6 s7 s8 z zl s5 h5) ?_
      clear tv
      rintro e ⟨kk, v, k0, k1, tv, rfl⟩
      refine SX_cutT _ (b11 ns v tv A _ _ _ s7 s8 s6 h6) ?_
      clear tv
      rintro e ⟨y, v, y1, oy, tv, rfl⟩
      refine SX_cutT _ (c11 ns v tv A _ s8 z zl fo kk y y1 oy s7 h7) ?_
      clear tv
      rintro e ⟨w, v, wl, ow, tv, rfl⟩
      exact d11 ns v A _ _ _ _ _ w wl ow h8 _ fun s8 h8 => ⟨v, _, _, _, _, _, tv, rfl, rfl, rfl, rfl, h8, rfl⟩
    · obtain ⟨v, s4, s5, s6, s7, s8, tv, h4, h5, h6, h7, h8, rfl⟩ := hI
      exact ⟨rfl, v, s4, s5, s6, s7, s8, rfl⟩
end G

end
namespace G
open PySem PySem.Spec PyProof.Rows L2 Lw
def names1 : List PySem.Str := ["HyphenError", "InvalidRules", "InvalidWord", "InvalidContext", "InvalidLetters", "InvalidSize", "InvalidTold", "InvalidText", "NotThere", "InvalidFormat", "LETTERS", "DIGITS", "PATTERNS", "LONGEST", "is_count", "chars_of", "is_pattern", "is_rules", "need_rules", "formatted", "format_rules", "parse_rules", "_law_draw", "_law_pick", "_law_pattern", "_law_bare", "_law_rules", "_law_which"]
def names2 : List PySem.Str := ["_law_text", "_law_ask"]
def names3 : List PySem.Str := []
abbrev names : List PySem.Str := names1 ++ (names2 ++ names3)
abbrev R : PySem.W.OpenRow := PySem.W.OpenLaw.row PySem.Challenge.rw_hyphenpatterns_k11_whole_formats
abbrev hk : PySem.W.Hook := hookX 6 (excB CS "HyphenError") fa fn
def ob (s : PySem.W.SharedT) : He.AlD := obsX 6 (excB CS "HyphenError") fa fn (HandSHeadRun.getT s)
theorem ob_eq (s : PySem.W.SharedT) : ob s = hk.obs s.abs := obsX_eq (HandSHeadRun.getT_eq s)
theorem run (w : World) : HandSHeadRun.RunEq R (PySem.W.view R.prog [34]) hk ob 4000 names w := by
  intro os
  kernel_rfl
theorem facts {P : Program} {w : World} {K : PySem.W.Frag} {h : Heap} {mg : Str → Option Value} {f : Addr} (X : K.In h) (G : h.Ns mainGlobals mg) (hfa : mg ("law" : Str) = some (.ref f)) (e : excB CS "HyphenError" K = true) (c : He.SaysD fa fn K) :
    ∃ fd : FuncData, (∀ (s : Shared) (v : Value), BindsTo s fd ⟨[v], []⟩ [("_law_script", v)]) ∧ ∀ base : Heap, FnOk P w K mg base (L2.CX P w) 8 f fd ["_law_script"] (spF ⟨P, w, K⟩ 1 fn_law) := by
  have Z := Facts.of X G c e
  obtain ⟨fd, F⟩ := c.def_ 16 (d := d_law) rfl
  have F : FnP K "law" s_law (He.ga K "law") fd := F
  have e := hfa.symm.trans (m_law Z)
  cases e
  have b := FunD.bindsA (ps := ["_law_script"]) F fun _ _ _ _ _ _ us hl => match us, hl with | [_], _ => rfl
  exact ⟨fd, fun s v => b s [v] rfl, fun base => ok_law Z F⟩
end G
open PySem PySem.W PySem.Calls PyProof.Rows
set_option maxHeartbeats 16000000 in
theorem PySem.Challenge.cw_hyphenpatterns_k11_whole_formats_holds : PySem.Challenge.rw_hyphenpatterns_k11_whole_formats.Holds := by
  w_on; o_law
  refine HandSHeadRun.head_any (r := OpenLaw.row PySem.Challenge.rw_hyphenpatterns_k11_whole_formats) (q := view (OpenLaw.row PySem.Challenge.rw_hyphenpatterns_k11_whole_formats).prog [34]) (H := G.hk) (ob := G.ob) (M := 4000) (loose := G.names) (d := HandSHeadRun.topDef (OpenLaw.row PySem.Challenge.rw_hyphenpatterns_k11_whole_formats).prog 34) (kwd := []) G.ob_eq
    (by kernel_rfl) (fun s => by kernel_rfl) G.run (by kernel_rfl) (by kernel_rfl) (by kernel_rfl) (by rfl) (by first | assumption | decide +kernel) (by decide +kernel) ⟨rfl, rfl, rfl, rfl, rfl, by decide +kernel⟩ ?hw ?hc
  case hw => w_witness2
  case hc =>
    refine Lw.walk_ofW (l := PySem.Challenge.rw_hyphenpatterns_k11_whole_formats) (n := 63) (k := 8) (x := "_law_script") rfl (by decide) (by kernel_rfl) ⟨rfl, by decide, by decide⟩ ?F
    intro w mg fa h Y NS hmg0
    obtain ⟨K, KX, ex, c⟩ := Y
    have hmg : mg ("law" : PySem.Str) = some (.ref fa) := by
      have e : (HandSHeadRun.topDef (OpenLaw.row PySem.Challenge.rw_hyphenpatterns_k11_whole_formats).prog 34).name = ("law" : PySem.Str) := by kernel_rfl
      rw [← e]
      exact hmg0
    obtain ⟨fd, hb, hF⟩ := G.facts (P := (PySem.Challenge.rw_hyphenpatterns_k11_whole_formats).prog) (w := w) KX NS hmg ex c
    refine ⟨K, fd, _, KX, hb, fun H a ns hl hS => ?_, fun base _ _ => hF base⟩
    obtain ⟨ss, e⟩ := G.law_ok ns hl
    exact Lw.law_sp (T := ⟨(PySem.Challenge.rw_hyphenpatterns_k11_whole_formats).prog, w, K⟩) hS e

