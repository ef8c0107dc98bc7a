import PyProof.Rows.All
import Wide.All
import OpenK.AllK
import Wide.FinOn
import KE.SortData
import HandS.ForMost
import HandS.SetKeys
import HandS.SetBool
import HandS.Exc
import HandS.ExcInit
import HandS.CallSlots
import HandS.Defaults
import HandS.HeadHook2
import HandS.NestedK
import KE.KExcSuper
import HandS.Deep
import HandS.TupAny
import HandS.Style
import HandS.IsInst
import HandS.Conv
import HandS.Finally
import HandS.Small
import HandS.More
import HandS.TupLen
import HandS.RaiseMore
import KE.SortKeyHeap
import HandS.SortInts
import HandS.ExcIs
import HandS.ExcField
import HandS.ExcOwn
import HandS.Iter
import KE.KExcIs
import HandS.HeadHook1
import HandS.TryMany
import HandS.ExcValue
import HandS.TryOnly
import HandS.HeadHook4
import HandS.Words
import HandS.Ends
import HandS.Head0
import HandS.Head1
import HandS.Head2
import PySem.Challenge.RW_unseendials_k00_heads_and_tails
set_option Elab.async false
set_option linter.all false
set_option maxRecDepth 100000
set_option maxHeartbeats 4000000
/-! SM0: sets of ints and texts whose members can be walked (in some order): added to, asked, sorted. -/
namespace SM
open PySem PySem.Spec PyProof.Rows L2

/-- the key that an entry holds -/
def enK (e : Int × Value) : Key := match e.2 with
  | .int i _ => .inl i
  | .str x _ => .inr x
  | _ => .inl 0
def OkE (P : Program) (w : World) (e : Int × Value) : Prop := RelV (kV (enK e)) e.2 ∧ e.1 = (mixKind P w).hash (enK e)
/-- the set at a: its members S, their number n; its table rises -/
def SetM (P : Program) (w : World) (h : Heap) (a : Addr) (S : Key → Bool) (n : Nat) : Prop :=
  ∃ o es ep t, h.get? a = some o ∧ o.ExactSet ∧ o.data = .set es ep t ∧ (∀ e ∈ es.toList, OkE P w e) ∧ (es.toList.map enK).Nodup ∧ (∀ k, S k = true ↔ k ∈ es.toList.map enK) ∧
    es.size < scanBound ∧ t.fits es.size = true ∧ es.size = n ∧ Ris t.place.toList ∧ (w.params.followText "set-order" = true ∨ t.led = true)
section
variable {P : Program} {w : World} {h h' : Heap} {a : Addr} {S : Key → Bool} {n : Nat}
theorem enK_of {k : Key} {u : Value} {j : Int} (r : RelV (kV k) u) : enK (j, u) = k := by
  cases k with
  | inl i => obtain ⟨t, rfl⟩ := r; rfl
  | inr x => obtain ⟨t, rfl⟩ := r; rfl
theorem okE_new {k : Key} {u : Value} (r : RelV (kV k) u) : OkE P w ((mixKind P w).hash k, u) := by
  have e : enK ((mixKind P w).hash k, u) = k := enK_of r
  exact ⟨by rw [e]; exact r, by rw [e]⟩
theorem okE_is {e : Int × Value} (g : OkE P w e) (k : Key) : (mixKind P w).is k e.2 = true ↔ enK e = k :=
  ⟨fun q => (mixKind P w).inj e.2 _ _ (kV_is g.1) q, fun q => by rw [← q]; exact kV_is g.1⟩
theorem okE_elems {l : List (Int × Value)} (g : ∀ e ∈ l, OkE P w e) : ElemsOf (mixKind P w) l := fun e he => ⟨⟨_, kV_is (g e he).1, (g e he).2⟩, key_scan (g e he).1⟩
theorem okE_mem {l : List (Int × Value)} (g : ∀ e ∈ l, OkE P w e) (k : Key) : k ∈ l.map enK ↔ ∃ e ∈ l, (mixKind P w).is k e.2 = true := by
  rw [List.mem_map]
  exact ⟨fun ⟨e, he, q⟩ => ⟨e, he, (okE_is (g e he) k).2 q⟩, fun ⟨e, he, q⟩ => ⟨e, he, (okE_is (g e he) k).1 q⟩⟩
theorem SetM.setOf (R : SetM P w h a S n) : h.SetOf (mixKind P w) a S n := by
  obtain ⟨o, es, ep, t, ho, hx, hd, g, nd, hm, hb, hf, hn, _⟩ := R
  exact ⟨o, es, ep, t, ho, hx, hd, okE_elems g, fun k => (hm k).trans (okE_mem g k), hb, hf, hn⟩
theorem SetM.at (R : SetM P w h a S n) (k : ∀ o, h.get? a = some o → h'.get? a = some o) : SetM P w h' a S n := by
  obtain ⟨o, es, ep, t, ho, r⟩ := R
  exact ⟨o, es, ep, t, k o ho, r⟩
theorem setM_empty : SetM P w (h.push { cls := .type "set", dict := none, data := .set #[] 0 (.fresh 0 0 (!w.params.followText "set-order")) }) h.objs.size (fun _ => false) 0 := by
  refine ⟨_, #[], 0, _, Heap.get?_push_size _ rfl, ⟨rfl, rfl, rfl⟩, rfl, fun e he => by simp at he, by simp, fun k => by simp, by decide, rfl, rfl, List.Pairwise.nil, ?_⟩
  cases q : w.params.followText "set-order" with
  | true => exact .inl rfl
  | false => exact .inr rfl
end
section
variable {P : Program} {w : World} {A : Around} {E : Value → Shared → Prop} {s : Shared} {a : Addr} {S : Key → Bool} {n : Nat}
/-- behind the look: the entry is laid, the table perhaps relaid -/
theorem setM_lay {g : Bool → Sem Unit} (hg : ∀ (b : Bool) (s₁ : Shared) (Q' : Unit → Shared → Prop), Q' () s₁ → wpAny (model P w) A (g b) Q' E s₁)
    {o : Obj} {es es1 : Array (Int × Value)} {ep : Nat} {t t2 : SetTable} (ho : s.heap.get? a = some o) (hex : o.ExactSet) (hd : o.data = .set es ep t) {S' : Key → Bool} (g1 : ∀ e ∈ es1.toList, OkE P w e) (nd1 : (es1.toList.map enK).Nodup)
    (m1 : ∀ k, S' k = true ↔ k ∈ es1.toList.map enK) (hb1 : es1.size < scanBound) (hf2 : t2.fits es1.size = true) (hr : Ris t2.place.toList) (hl : w.params.followText "set-order" = true ∨ t2.led = true) {wd : Bool} {R : Option Bool → Shared → Prop}
    (hR : ∀ h', Heap.SameBut a s.heap h' → SetM P w h' a S' es1.size → R (some true) { s with heap := h' }) :
    wpAny (model P w) A (do
        storeSet a es1 t2
        if (!wd && t2.tooFull) = true then do
            g (relayAll t2 es1 (SetTable.grown es1.size)).2.2
            storeSet a (relayAll t2 es1 (SetTable.grown es1.size)).1 (relayAll t2 es1 (SetTable.grown es1.size)).2.1
            pure (some true)
          else pure (some true)) R E s := by
  have e1 := store_at (es' := es1) (t' := t2) ho hd
  have same := Heap.SameBut.update s.heap a (Obj.putSet es1 t2)
  refine wpAny_bind (wpAny_storeSet_of ho hd ?_ (fits_of_scanBound hb1))
  by_cases full : (!wd && t2.tooFull) = true
  · rw [if_pos full]
    have q1 := relayAll_perm t2 es1 (SetTable.grown es1.size)
    have q2 := relayAll_fits t2 es1 (SetTable.grown es1.size)
    have q3 := relayAll_ris t2 es1 (SetTable.grown es1.size)
    have q4 := relayAll_led t2 es1 (SetTable.grown es1.size)
    revert q1 q2 q3 q4
    generalize relayAll t2 es1 (SetTable.grown es1.size) = Z
    obtain ⟨es2, t3, gave⟩ := Z
    intro q1 q2 q3 q4
    dsimp only at q1 q2 q3 q4 ⊢
    have hz : es2.size = es1.size := by simpa using q1.length_eq
    have hb2 : es2.size < scanBound := hz ▸ hb1
    refine wpAny_bind (hg _ _ _ (wpAny_bind (wpAny_storeSet_of e1 rfl (wpAny_pure (hR _ (same.trans (Heap.SameBut.update _ a _)) ?_)) (fits_of_scanBound hb2))))
    have pk := q1.map enK
    refine ⟨_, es2, _, t3, store_at (es' := es2) (t' := t3) e1 rfl, hex, rfl, fun e he => g1 e (q1.mem_iff.mp he), pk.nodup_iff.mpr nd1, fun k => (m1 k).trans pk.mem_iff.symm, hb2, q2, hz, q3, ?_⟩
    rw [q4]
    exact hl
  · rw [if_neg full]
    exact wpAny_pure (hR _ same ⟨_, es1, _, t2, e1, hex, rfl, g1, nd1, m1, hb1, hf2, rfl, hr, hl⟩)
theorem setM_hashed {k : Key} {u : Value} {Q : Bool → Shared → Prop} (ru : RelV (kV k) u) (R : SetM P w s.heap a S n) (room : n + 1 < scanBound)
    (hQ : ∀ h', Heap.SameBut a s.heap h' → SetM P w h' a (fun j => S j || decide (j = k)) (if S k = true then n else n + 1) → Q (!S k) { s with heap := h' }) :
    wpAny (model P w) A (setAddHashed a u ((mixKind P w).hash k)) Q E s := by
  obtain ⟨o, es, ep, t, ho, hex, hd, g, nd, hm, hb, hf, hn, hr, hl⟩ := R
  have hkey : (mixKind P w).is k u = true := kV_is ru
  have hsc : u.scannable = true := key_scan ru
  have hel : ElemsOf (mixKind P w) es.toList := okE_elems g
  have gives : ∀ (b : Bool) {s₁ : Shared} {Q' : Unit → Shared → Prop}, Q' () s₁ → wpAny (model P w) A (match b with | true => rule "set.scan.the-table-gave-way" | false => pure ()) Q' E s₁ :=
    fun b s₁ Q' q => by cases b <;> first | exact wpAny_pure q | exact wpAny_rule q
  unfold setAddHashed setAddHashedIn
  refine wpAny_holding (wpAny_bind (wpAny_setState_of ho hd hf ?_))
  dsimp only
  rw [byScan_of hsc hb hel]
  simp only [↓reduceIte]
  unfold setAddByScan
  refine wpAny_bind (wpAny_bind (wpAny_rule (wpAny_bind (wpAny_setScan_of hkey ho hd hf hel ?_))))
  cases hfi : List.findIdx? (fun e => (mixKind P w).is k e.2) es.toList with
  | some j =>
    dsimp only
    obtain ⟨hj, pj, _⟩ := List.findIdx?_eq_some_iff_getElem.mp hfi
    have there : S k = true := (hm k).2 ((okE_mem g k).2 ⟨es.toList[j], List.getElem_mem hj, pj⟩)
    have q := hQ s.heap (Heap.SameBut.refl a s.heap) ⟨o, es, ep, t, ho, hex, hd, g, nd, fun i => by
      rw [Bool.or_eq_true, decide_eq_true_eq, ← hm i]
      exact ⟨fun z => z.elim id (fun e => e ▸ there), .inl⟩, hb, hf, by rw [if_pos there]; exact hn, hr, hl⟩
    rw [there] at q
    exact wpAny_pure (wpAny_pure q)
  | none =>
    dsimp only
    have fresh : k ∉ es.toList.map enK := fun z => by
      obtain ⟨e, he, q⟩ := (okE_mem g k).1 z
      exact absurd q (by rw [List.findIdx?_eq_none_iff.mp hfi e he]; decide)
    have hSk : S k = false := Bool.eq_false_iff.mpr fun q => fresh ((hm k).1 q)
    have q1 := layNew_perm t es ((mixKind P w).hash k) u
    have q2 := layNew_fits t es ((mixKind P w).hash k) u
    have q3 := layNew_ris t es ((mixKind P w).hash k) u hr
    have q4 := layNew_led t es ((mixKind P w).hash k) u
    revert q1 q2 q3 q4
    generalize layNew t es ((mixKind P w).hash k) u = Z
    obtain ⟨es1, t1, wasDummy, gave⟩ := Z
    intro q1 q2 q3 q4
    dsimp only at q1 q2 q3 q4 ⊢
    rw [Array.toList_push] at q1
    have pc : es1.toList.Perm (((mixKind P w).hash k, u) :: es.toList) := q1.trans (List.perm_append_singleton _ _)
    have pk : (es1.toList.map enK).Perm (k :: es.toList.map enK) := by
      have z := pc.map enK
      rw [List.map_cons, enK_of ru] at z
      exact z
    have g1 : ∀ e ∈ es1.toList, OkE P w e := fun e he => (List.mem_cons.mp (pc.mem_iff.mp he)).elim (fun z => z ▸ okE_new ru) (g e)
    have m1 : ∀ i, (S i || decide (i = k)) = true ↔ i ∈ es1.toList.map enK := fun i => by
      rw [Bool.or_eq_true, decide_eq_true_eq, hm i, pk.mem_iff, List.mem_cons]
      exact Or.comm
    have hz : es1.size = n + 1 := by
      have z := pc.length_eq
      simp only [Array.length_toList, List.length_cons] at z
      omega
    have hb1 : es1.size < scanBound := hz ▸ room
    have hled : w.params.followText "set-order" = true ∨ t1.led = true := by rw [q4]; exact hl
    have fin : ∀ h', Heap.SameBut a s.heap h' → SetM P w h' a (fun j => S j || decide (j = k)) es1.size → Q true { s with heap := h' } := fun h' sb r => by
      have q := hQ h' sb
      rw [hSk, if_neg Bool.false_ne_true] at q
      exact q (hz ▸ r)
    refine wpAny_bind (gives _ ?_)
    split
    · refine wpAny_bind ?_
      rw [hashByValue_scannable 8 hsc]
      refine wpAny_pure (setM_lay (fun b s₁ Q' q => ?_) ho hex hd g1 (pk.nodup_iff.mpr (List.nodup_cons.mpr ⟨fresh, nd⟩)) m1 hb1 ?_ ?_ ?_ fun h' sb r => ?_)
      · cases b <;> first | exact wpAny_pure q | exact wpAny_rule q
      · first | (split <;> first | exact q2 | exact SetTable.fits_plain_off q2) | exact q2
      · first | (split <;> exact q3) | exact q3
      · first | (split <;> exact hled) | exact hled
      · exact wpAny_pure (fin h' sb r)
    · refine wpAny_bind (wpAny_pure ?_)
      simp only [↓reduceIte]
      refine setM_lay (fun b s₁ Q' q => ?_) ho hex hd g1 (pk.nodup_iff.mpr (List.nodup_cons.mpr ⟨fresh, nd⟩)) m1 hb1 q2 q3 hled fun h' sb r => ?_
      · cases b <;> first | exact wpAny_pure q | exact wpAny_rule q
      · exact wpAny_pure (fin h' sb r)
/-- set.add -/
theorem setM_add {k : Key} {u : Value} {Q : Value → Shared → Prop} (ru : RelV (kV k) u) (R : SetM P w s.heap a S n) (room : n + 1 < scanBound)
    (hQ : ∀ h', Heap.SameBut a s.heap h' → SetM P w h' a (fun j => S j || decide (j = k)) (if S k = true then n else n + 1) → Q .none { s with heap := h', toks := s.toks + 1 }) :
    wpAny (model P w) A (call (.builtin "set.add") [.ref a, u]) Q E s := by
  refine wpAny_call_entry F.slot_set_add R.setOf.typeIs F.entry_set_add ?_ (F.args_set_add_2 _ _)
  unfold Builtin.«set.add» Builtin.Frozenset.oneOther
  simp only [List.isEmpty_nil, bind_assoc]
  unfold Builtin.Frozenset.addrOf setAdd
  refine wpAny_bind (wpAny_pure ?_)
  try dsimp only
  refine wpAny_bind (wpAny_pure ?_)
  try dsimp only
  refine wpAny_bind (wpAny_holding (wpAny_bind ((mixKind P w).pyHash (kV_is ru) (setM_hashed (s := { s with toks := s.toks + 1 }) ru R room fun h' sb r => ?_))))
  exact wpAny_pure ⟨_, rfl, hQ h' sb r⟩
end
/-! ### as a tracked thing -/
def SetX (P : Program) (w : World) (a : Addr) (S : Key → Bool) (n : Nat) : HO := .ext fun h => SetM P w h a S n
theorem setX_ok {P : Program} {w : World} {H : Hp} {h : Heap} {a : Addr} {S : Key → Bool} {n : Nat} (R : SetM P w h a S n) : ObjOk P w H h a (SetX P w a S n) := by
  obtain ⟨o, es, ep, t, ho, r⟩ := id R
  exact ⟨R, ⟨o, ho⟩, fun h1 h2 p k => SetM.at p k⟩
section
variable {X : Cx} {pins : List (Addr × Obj)} {σ : L2.St} {H : Hp} {s : Shared} {a : Addr} {S : Key → Bool} {n : Nat}
theorem setX_at (I : Inv X pins σ H s) (ha : H a = some (SetX X.prog X.w a S n)) : SetM X.prog X.w s.heap a S n := (I.hok a _ ha).1
theorem setX_laid {t' : Nat} (I : Inv X pins σ H s) : Inv X pins σ (upd H s.heap.objs.size (SetX X.prog X.w s.heap.objs.size (fun _ => false) 0)) { s with heap := s.heap.push { cls := .type "set", dict := none, data := .set #[] 0 (.fresh 0 0 (!X.w.params.followText "set-order")) }, toks := t' } :=
  I.laid (t' := t') (fun b u e => Heap.get?_push_of_some _ e) (Nat.le_refl _) (setX_ok setM_empty)
theorem setX_add {E : Value → Shared → Prop} {A : Around} {k : Key} {u : Value} {Q : Value → Shared → Prop} (I : Inv X pins σ H s) (ha : H a = some (SetX X.prog X.w a S n)) (ru : RelV (kV k) u) (room : n + 1 < scanBound)
    (h : ∀ s', Inv X pins σ (upd H a (SetX X.prog X.w a (fun j => S j || decide (j = k)) (if S k = true then n else n + 1))) s' → Q .none s') : wpAny (model X.prog X.w) A (call (.builtin "set.add") [.ref a, u]) Q E s := by
  refine setM_add ru (setX_at I ha) room fun h' sb new => h _ ?_
  obtain ⟨o, _, _, _, ho, _⟩ := id new
  exact I.write (e := a) (t' := s.toks + 1) (by rw [ha]; trivial) (.inl rfl) (fun b u hb hu => (sb.2 b hb).trans hu) ⟨o, ho⟩ (setX_ok new)
/-- k in s, k not in s -/
def rInM (P : Program) (w : World) (neg : Bool) : R2 := fun x y H Q => ∃ (k : Key) (a : Addr) (S : Key → Bool) (n : Nat), x = kV k ∧ y = V.ref a ∧ H a = some (SetX P w a S n) ∧ Q (.bl (if neg then !S k else S k)) H
theorem op_inM : OpR X (compareOp .In) (rInM X.prog X.w false) := by
  intro pins s σ H x y v u Q I rx ry h
  obtain ⟨k, a, S, n, rfl, rfl, ha, q⟩ := h
  cases ry
  exact wpAny_inSet_of (kV_is rx) (key_scan rx) (setX_at I ha).setOf ⟨.bl (S k), H, I.tok _, rfl, q⟩
theorem op_notInM : OpR X (compareOp .NotIn) (rInM X.prog X.w true) := by
  intro pins s σ H x y v u Q I rx ry h
  obtain ⟨k, a, S, n, rfl, rfl, ha, q⟩ := h
  cases ry
  exact wpAny_notInSet_of (kV_is rx) (key_scan rx) (setX_at I ha).setOf ⟨.bl (!S k), H, I.tok _, rfl, q⟩
end
end SM
set_option Elab.async false
set_option linter.all false
set_option maxRecDepth 100000
set_option maxHeartbeats 4000000
/-! SM: a store mirror. Values, a store of objects, how they stand in the abstract heap. -/
namespace SM
open PySem PySem.Spec PyProof.Rows L2

/-! ### data -/
inductive Va where
  | non | bl (b : Bool) | int (i : Int) | str (x : Str) | ref (i : Nat) | tup (xs : List Va) | fl (xs : List Va) | fz (xs : List Va)
  | sts (ks : List Key) | ty (n : String) | cls (c : Str) | exo (c : Str) (fs : List (Str × Va))
inductive Ob where
  | lst (xs : List Va) | dct (lk : Bool) (kvs : List (Key × Va)) | dtt (lk : Bool) (kvs : List (List Key × Va)) | set (ks : List Key) | ins (c : Str) (fs : List (Str × Va))
abbrev Sto := List Ob
abbrev Slo := List (Option Va)
structure Exn where
  cls : Str
  fs : List (Str × Va)
inductive Rs (α : Type) where
  | ok (a : α) (st : Sto)
  | err (x : Exn) (st : Sto)
  | stuck
def Rs.bind {α β : Type} (r : Rs α) (k : α → Sto → Rs β) : Rs β := match r with
  | .ok a st => k a st
  | .err x st => .err x st
  | .stuck => .stuck
def Rs.of {α : Type} : Option (α × Sto) → Rs α
  | some (a, st) => .ok a st
  | none => .stuck
theorem Rs.bind_ok {α β : Type} {a : α} {st : Sto} {k : α → Sto → Rs β} : (Rs.ok a st).bind k = k a st := rfl
theorem Rs.bind_err {α β : Type} {x : Exn} {st : Sto} {k : α → Sto → Rs β} : (Rs.err x st).bind k = .err x st := rfl
theorem Rs.bind_stuck {α β : Type} {k : α → Sto → Rs β} : (Rs.stuck : Rs α).bind k = .stuck := rfl

/-! ### how they stand -/
structure Gc where
  P : Program
  w : World
  K : PySem.W.Frag
abbrev gc (X : Cx) : Gc := ⟨X.prog, X.w, X.K⟩

/-- a list of the written part -/
def KLs (K : PySem.W.Frag) (a : Addr) (xs : List V) : Prop :=
  ∃ (o : Obj) (its : Array Value) (n : Nat), K.lookup a = some o ∧ o.cls = .type "list" ∧ o.dict = none ∧ o.data = .seq its n ∧ its.size ≤ sizeLine ∧ Vals xs its.toList

inductive Vr (G : Gc) (ρ : List Addr) (S : Addr → Prop) (H : Hp) : V → Va → Prop
  | non : Vr G ρ S H .non .non
  | bl (b : Bool) : Vr G ρ S H (.bl b) (.bl b)
  | int (i : Int) : Vr G ρ S H (.int i) (.int i)
  | str (x : Str) : Vr G ρ S H (.str x) (.str x)
  | ref {i : Nat} {a : Addr} (e : ρ[i]? = some a) : Vr G ρ S H (.ref a) (.ref i)
  | tup {a : Addr} {vs : List V} {xs : List Va} (s : S a) (e : H a = some (.tup vs)) (l : vs.length = xs.length)
      (h : ∀ (j : Nat) (v : V) (x : Va), vs[j]? = some v → xs[j]? = some x → Vr G ρ S H v x) : Vr G ρ S H (.ref a) (.tup xs)
  | fl {a : Addr} {vs : List V} {xs : List Va} (s : S a) (e : H a = some (.lst vs)) (l : vs.length = xs.length)
      (h : ∀ (j : Nat) (v : V) (x : Va), vs[j]? = some v → xs[j]? = some x → Vr G ρ S H v x) : Vr G ρ S H (.ref a) (.fl xs)
  | fz {a : Addr} {vs : List V} {xs : List Va} (e : (S a ∧ Rd H a (.lst vs)) ∨ KLs G.K a vs) (l : vs.length = xs.length)
      (h : ∀ (j : Nat) (v : V) (x : Va), vs[j]? = some v → xs[j]? = some x → Vr G ρ S H v x) : Vr G ρ S H (.ref a) (.fz xs)
  | sts {a : Addr} {ks : List Key} {M : Key → Bool} (s : S a) (e : H a = some (SetX G.P G.w a M ks.length)) (m : ∀ k, M k = true ↔ k ∈ ks) (d : ks.Nodup) : Vr G ρ S H (.ref a) (.sts ks)
  | ty (n : String) : Vr G ρ S H (.ty n) (.ty n)
  | cls (c : Str) : Vr G ρ S H (.ref (He.ga G.K c)) (.cls c)
  | exo {a dx : Addr} {c : Str} {fvs : List (Str × V)} {fs : List (Str × Va)} (s : S a) (s2 : S dx) (e : H a = some (L2.exo a (He.ga G.K c) (some dx))) (e2 : H dx = some (exd dx fvs)) (k : fvs.map (·.1) = fs.map (·.1))
      (h : ∀ (j : Nat) (v : V) (x : Va), (fvs.map (·.2))[j]? = some v → (fs.map (·.2))[j]? = some x → Vr G ρ S H v x) : Vr G ρ S H (.ref a) (.exo c fs)
  | exn {a : Addr} {c : Str} (s : S a) (e : H a = some (L2.exo a (He.ga G.K c) none)) : Vr G ρ S H (.ref a) (.exo c [])

def Vrs (G : Gc) (ρ : List Addr) (S : Addr → Prop) (H : Hp) (vs : List V) (xs : List Va) : Prop :=
  vs.length = xs.length ∧ ∀ (j : Nat) (v : V) (x : Va), vs[j]? = some v → xs[j]? = some x → Vr G ρ S H v x

/-- the world grows -/
structure Ext (ρ : List Addr) (S : Addr → Prop) (H : Hp) (ρ' : List Addr) (S' : Addr → Prop) (H' : Hp) : Prop where
  pre : ∀ (i : Nat) (a : Addr), ρ[i]? = some a → ρ'[i]? = some a
  sub : ∀ a, S a → S' a
  keep : ∀ a o, S a → H a = some o → H' a = some o
  rest : ∀ a o, H a = some o → (∀ i : Nat, ρ[i]? ≠ some a) → H' a = some o
  new : ∀ (i : Nat) (a : Addr), ρ'[i]? = some a → ρ[i]? = some a ∨ H a = none
  newS : ∀ a, S' a → S a ∨ H a = none
  more : ∀ a o, H a = some o → ∃ u, H' a = some u
theorem Ext.refl {ρ : List Addr} {S : Addr → Prop} {H : Hp} : Ext ρ S H ρ S H := ⟨fun _ _ h => h, fun _ h => h, fun _ _ _ h => h, fun _ _ h _ => h, fun _ _ h => .inl h, fun _ h => .inl h, fun _ o h => ⟨o, h⟩⟩
theorem Ext.out {ρ ρ' : List Addr} {S S' : Addr → Prop} {H H' : Hp} (E : Ext ρ S H ρ' S' H') {a : Addr} {o : HO} (h : H a = some o) (n : ∀ i : Nat, ρ[i]? ≠ some a) : ∀ i : Nat, ρ'[i]? ≠ some a := fun i e => by
  rcases E.new i a e with e | e
  · exact n i e
  · rw [h] at e; cases e
theorem Ext.trans {ρ ρ1 ρ2 : List Addr} {S S1 S2 : Addr → Prop} {H H1 H2 : Hp} (a : Ext ρ S H ρ1 S1 H1) (b : Ext ρ1 S1 H1 ρ2 S2 H2) : Ext ρ S H ρ2 S2 H2 := by
  refine ⟨fun i x h => b.pre i x (a.pre i x h), fun x h => b.sub x (a.sub x h), fun x o s h => b.keep x o (a.sub x s) (a.keep x o s h), fun x o h n => b.rest x o (a.rest x o h n) (a.out h n), fun i x h => ?_, fun x h => ?_, fun x o h => ?_⟩
  · rcases b.new i x h with h | h
    · exact a.new i x h
    · refine .inr ?_
      cases e : H x with
      | none => rfl
      | some o =>
        obtain ⟨u, q⟩ := a.more x o e
        rw [h] at q; cases q
  · rcases b.newS x h with h | h
    · exact a.newS x h
    · refine .inr ?_
      cases e : H x with
      | none => rfl
      | some o =>
        obtain ⟨u, q⟩ := a.more x o e
        rw [h] at q; cases q
  · obtain ⟨u, q⟩ := a.more x o h
    exact b.more x u q

/-- what values ask of a growth -/
structure Ext0 (ρ : List Addr) (S : Addr → Prop) (H : Hp) (ρ' : List Addr) (S' : Addr → Prop) (H' : Hp) : Prop where
  pre : ∀ (i : Nat) (a : Addr), ρ[i]? = some a → ρ'[i]? = some a
  sub : ∀ a, S a → S' a
  keep : ∀ a o, S a → H a = some o → H' a = some o
theorem Ext.e0 {ρ ρ' : List Addr} {S S' : Addr → Prop} {H H' : Hp} (E : Ext ρ S H ρ' S' H') : Ext0 ρ S H ρ' S' H' := ⟨E.pre, E.sub, E.keep⟩
theorem Ext0.refl {ρ : List Addr} {S : Addr → Prop} {H : Hp} : Ext0 ρ S H ρ S H := ⟨fun _ _ h => h, fun _ h => h, fun _ _ _ h => h⟩
theorem Ext0.trans {ρ ρ1 ρ2 : List Addr} {S S1 S2 : Addr → Prop} {H H1 H2 : Hp} (a : Ext0 ρ S H ρ1 S1 H1) (b : Ext0 ρ1 S1 H1 ρ2 S2 H2) : Ext0 ρ S H ρ2 S2 H2 :=
  ⟨fun i x h => b.pre i x (a.pre i x h), fun x h => b.sub x (a.sub x h), fun x o s h => b.keep x o (a.sub x s) (a.keep x o s h)⟩

section
variable {G : Gc} {ρ ρ' : List Addr} {S S' : Addr → Prop} {H H' : Hp}
theorem Vr.mono0 (E : Ext0 ρ S H ρ' S' H') {v : V} {x : Va} (h : Vr G ρ S H v x) : Vr G ρ' S' H' v x := by
  induction h with
  | non => exact .non
  | bl b => exact .bl b
  | int i => exact .int i
  | str x => exact .str x
  | ref e => exact .ref (E.pre _ _ e)
  | tup s e l _ ih => exact .tup (E.sub _ s) (E.keep _ _ s e) l ih
  | fl s e l _ ih => exact .fl (E.sub _ s) (E.keep _ _ s e) l ih
  | fz e l _ ih =>
    refine .fz ?_ l ih
    rcases e with ⟨s, e | ⟨o, e⟩⟩ | e
    · exact .inl ⟨E.sub _ s, .inl (E.keep _ _ s e)⟩
    · exact .inl ⟨E.sub _ s, .inr ⟨o, E.keep _ _ s e⟩⟩
    · exact .inr e
  | sts s e m d => exact .sts (E.sub _ s) (E.keep _ _ s e) m d
  | ty n => exact .ty n
  | cls c => exact .cls c
  | exo s s2 e e2 k _ ih => exact .exo (E.sub _ s) (E.sub _ s2) (E.keep _ _ s e) (E.keep _ _ s2 e2) k ih
  | exn s e => exact .exn (E.sub _ s) (E.keep _ _ s e)
theorem Vr.mono (E : Ext ρ S H ρ' S' H') {v : V} {x : Va} (h : Vr G ρ S H v x) : Vr G ρ' S' H' v x := h.mono0 E.e0
theorem Vrs.mono0 (E : Ext0 ρ S H ρ' S' H') {vs : List V} {xs : List Va} (h : Vrs G ρ S H vs xs) : Vrs G ρ' S' H' vs xs :=
  ⟨h.1, fun j v x a b => (h.2 j v x a b).mono0 E⟩
theorem Vrs.mono (E : Ext ρ S H ρ' S' H') {vs : List V} {xs : List Va} (h : Vrs G ρ S H vs xs) : Vrs G ρ' S' H' vs xs :=
  ⟨h.1, fun j v x a b => (h.2 j v x a b).mono E⟩
theorem Vrs.nil : Vrs G ρ S H [] [] := ⟨rfl, fun j v x a _ => by simp at a⟩
theorem Vrs.cons {v : V} {x : Va} {vs : List V} {xs : List Va} (h : Vr G ρ S H v x) (t : Vrs G ρ S H vs xs) : Vrs G ρ S H (v :: vs) (x :: xs) := by
  refine ⟨by rw [List.length_cons, List.length_cons, t.1], fun j u y a b => ?_⟩
  cases j with
  | zero => simp at a b; rw [← a, ← b]; exact h
  | succ j => exact t.2 j u y (by simpa using a) (by simpa using b)
theorem Vrs.nil_l {xs : List Va} (h : Vrs G ρ S H [] xs) : xs = [] := by
  have := h.1
  cases xs with
  | nil => rfl
  | cons _ _ => simp at this
theorem Vrs.nil_r {vs : List V} (h : Vrs G ρ S H vs []) : vs = [] := by
  have := h.1
  cases vs with
  | nil => rfl
  | cons _ _ => simp at this
theorem Vrs.cons_r {vs : List V} {x : Va} {xs : List Va} (h : Vrs G ρ S H vs (x :: xs)) : ∃ v r, vs = v :: r ∧ Vr G ρ S H v x ∧ Vrs G ρ S H r xs := by
  cases vs with
  | nil => have := h.1; simp at this
  | cons v r => exact ⟨v, r, rfl, h.2 0 v x rfl rfl, by have := h.1; simpa using this, fun j u y a b => h.2 (j + 1) u y (by simpa using a) (by simpa using b)⟩
theorem Vrs.append {vs ws : List V} {xs ys : List Va} (a : Vrs G ρ S H vs xs) (b : Vrs G ρ S H ws ys) : Vrs G ρ S H (vs ++ ws) (xs ++ ys) := by
  refine ⟨by rw [List.length_append, List.length_append, a.1, b.1], fun j v x h1 h2 => ?_⟩
  by_cases hj : j < vs.length
  · rw [List.getElem?_append_left hj] at h1
    rw [List.getElem?_append_left (by rw [← a.1]; exact hj)] at h2
    exact a.2 j v x h1 h2
  · have hj' : vs.length ≤ j := Nat.le_of_not_lt hj
    rw [List.getElem?_append_right hj'] at h1
    rw [List.getElem?_append_right (by rw [← a.1]; exact hj'), ← a.1] at h2
    exact b.2 _ v x h1 h2
theorem Vrs.snoc {vs : List V} {xs : List Va} {v : V} {x : Va} (a : Vrs G ρ S H vs xs) (b : Vr G ρ S H v x) : Vrs G ρ S H (vs ++ [v]) (xs ++ [x]) := a.append (.cons b .nil)
theorem Vrs.get {vs : List V} {xs : List Va} (h : Vrs G ρ S H vs xs) {j : Nat} {x : Va} (e : xs[j]? = some x) : ∃ v, vs[j]? = some v ∧ Vr G ρ S H v x := by
  have hj : j < vs.length := by rw [h.1]; exact (List.getElem?_eq_some_iff.mp e).1
  exact ⟨vs[j], by simp [hj], h.2 j _ x (by simp [hj]) e⟩
theorem Vrs.getL {vs : List V} {xs : List Va} (h : Vrs G ρ S H vs xs) {j : Nat} {v : V} (e : vs[j]? = some v) : ∃ x, xs[j]? = some x ∧ Vr G ρ S H v x := by
  have hj : j < xs.length := by rw [← h.1]; exact (List.getElem?_eq_some_iff.mp e).1
  exact ⟨xs[j], by simp [hj], h.2 j v _ e (by simp [hj])⟩
theorem Vrs.set {vs : List V} {xs : List Va} {v : V} {x : Va} (h : Vrs G ρ S H vs xs) (j : Nat) (r : Vr G ρ S H v x) : Vrs G ρ S H (vs.set j v) (xs.set j x) := by
  refine ⟨by rw [List.length_set, List.length_set, h.1], fun i u y a b => ?_⟩
  rw [List.getElem?_set] at a b
  by_cases e : j = i
  · subst e
    rw [if_pos rfl] at a b
    split at a
    · split at b
      · cases a; cases b; exact r
      · cases b
    · cases a
  · rw [if_neg e] at a b
    exact h.2 i u y a b
theorem Vrs.take {vs : List V} {xs : List Va} (h : Vrs G ρ S H vs xs) (n : Nat) : Vrs G ρ S H (vs.take n) (xs.take n) := by
  refine ⟨by rw [List.length_take, List.length_take, h.1], fun j v x a b => ?_⟩
  rw [List.getElem?_take] at a b
  split at a
  · rename_i hj
    rw [if_pos hj] at b
    exact h.2 j v x a b
  · cases a
theorem Vrs.drop {vs : List V} {xs : List Va} (h : Vrs G ρ S H vs xs) (n : Nat) : Vrs G ρ S H (vs.drop n) (xs.drop n) := by
  refine ⟨by rw [List.length_drop, List.length_drop, h.1], fun j v x a b => ?_⟩
  rw [List.getElem?_drop] at a b
  exact h.2 _ v x a b
theorem Vrs.reverse {vs : List V} {xs : List Va} (h : Vrs G ρ S H vs xs) : Vrs G ρ S H vs.reverse xs.reverse := by
  refine ⟨by rw [List.length_reverse, List.length_reverse, h.1], fun j v x a b => ?_⟩
  have hj : j < vs.length := by
    have := (List.getElem?_eq_some_iff.mp a).1
    rwa [List.length_reverse] at this
  rw [List.getElem?_reverse hj] at a
  rw [List.getElem?_reverse (by rw [← h.1]; exact hj), ← h.1] at b
  exact h.2 _ v x a b
theorem vrs_ints {ns : List Int} : Vrs G ρ S H (ns.map V.int) (ns.map Va.int) := by
  refine ⟨by simp, fun j v x a b => ?_⟩
  rw [List.getElem?_map] at a b
  cases e : ns[j]? with
  | none => rw [e] at a; cases a
  | some n => rw [e] at a b; cases a; cases b; exact .int n
theorem vrs_strs {ns : List Str} : Vrs G ρ S H (ns.map V.str) (ns.map Va.str) := by
  refine ⟨by simp, fun j v x a b => ?_⟩
  rw [List.getElem?_map] at a b
  cases e : ns[j]? with
  | none => rw [e] at a; cases a
  | some n => rw [e] at a b; cases a; cases b; exact .str n
end

/-- what stands at a store's place -/
def KVr (G : Gc) (ρ : List Addr) (S : Addr → Prop) (H : Hp) {κ : Type} (ks : List (κ × V)) (xs : List (κ × Va)) : Prop :=
  ks.map (·.1) = xs.map (·.1) ∧ Vrs G ρ S H (ks.map (·.2)) (xs.map (·.2))
def Obr (G : Gc) (ρ : List Addr) (S : Addr → Prop) (H : Hp) (a : Addr) : Ob → Prop
  | .lst xs => ∃ vs, H a = some (.lst vs) ∧ Vrs G ρ S H vs xs
  | .dct false kvs => ∃ ks, H a = some (.dK ks) ∧ KVr G ρ S H ks kvs
  | .dct true kvs => ∃ o ks, H a = some (.frz o (.dK ks)) ∧ KVr G ρ S H ks kvs
  | .dtt false kvs => ∃ ks, H a = some (.dT ks) ∧ KVr G ρ S H ks kvs
  | .dtt true kvs => ∃ o ks, H a = some (.frz o (.dT ks)) ∧ KVr G ρ S H ks kvs
  | .set ks => ∃ M, H a = some (SetX G.P G.w a M ks.length) ∧ (∀ k, M k = true ↔ k ∈ ks) ∧ ks.Nodup
  | .ins c fs => ∃ dx fvs, H a = some (.ins (He.ga G.K c) dx fvs) ∧ KVr G ρ S H fvs fs
structure Rep (G : Gc) (ρ : List Addr) (S : Addr → Prop) (st : Sto) (H : Hp) : Prop where
  len : ρ.length = st.length
  inj : ∀ (i j : Nat) (a : Addr), ρ[i]? = some a → ρ[j]? = some a → i = j
  off : ∀ (i : Nat) (a : Addr), ρ[i]? = some a → ¬ S a
  obj : ∀ (i : Nat) (a : Addr) (o : Ob), ρ[i]? = some a → st[i]? = some o → Obr G ρ S H a o
  thr : ∀ a, S a → ∃ o, H a = some o
structure Rp (G : Gc) (ρ : List Addr) (S : Addr → Prop) (sl : Slo) (st : Sto) (σ : L2.St) (H : Hp) : Prop where
  rep : Rep G ρ S st H
  len : sl.length = σ.length
  slot : ∀ (i : Nat) (x : Va), sl[i]? = some (some x) → ∃ v, σ[i]? = some (some v) ∧ Vr G ρ S H v x
/-- an exception's class and dict -/
def ExR (G : Gc) (ρ : List Addr) (S : Addr → Prop) (H : Hp) (cls : Value) (d : Option Addr) (e : Exn) : Prop :=
  cls = .ref (He.ga G.K e.cls) ∧ ((e.fs = [] ∧ d = none) ∨ ∃ dd fvs, d = some dd ∧ S dd ∧ H dd = some (.xd fvs) ∧ KVr G ρ S H fvs e.fs)

section
variable {G : Gc} {ρ ρ' : List Addr} {S S' : Addr → Prop} {H H' : Hp}
theorem KVr.mono {κ : Type} (E : Ext ρ S H ρ' S' H') {ks : List (κ × V)} {xs : List (κ × Va)} (h : KVr G ρ S H ks xs) : KVr G ρ' S' H' ks xs := ⟨h.1, h.2.mono E⟩
theorem Obr.mono (E : Ext ρ S H ρ' S' H') {a : Addr} {o : Ob} (ha : H' a = H a) (h : Obr G ρ S H a o) : Obr G ρ' S' H' a o := by
  cases o with
  | lst xs => obtain ⟨vs, e, r⟩ := h; exact ⟨vs, ha.trans e, r.mono E⟩
  | dct lk kvs =>
    cases lk with
    | false => obtain ⟨ks, e, r⟩ := h; exact ⟨ks, ha.trans e, r.mono E⟩
    | true => obtain ⟨ob, ks, e, r⟩ := h; exact ⟨ob, ks, ha.trans e, r.mono E⟩
  | dtt lk kvs =>
    cases lk with
    | false => obtain ⟨ks, e, r⟩ := h; exact ⟨ks, ha.trans e, r.mono E⟩
    | true => obtain ⟨ob, ks, e, r⟩ := h; exact ⟨ob, ks, ha.trans e, r.mono E⟩
  | set ks => obtain ⟨M, e, r⟩ := h; exact ⟨M, ha.trans e, r⟩
  | ins c fs => obtain ⟨dx, fvs, e, r⟩ := h; exact ⟨dx, fvs, ha.trans e, r.mono E⟩
theorem ExR.mono (E : Ext ρ S H ρ' S' H') {cls : Value} {d : Option Addr} {e : Exn} (h : ExR G ρ S H cls d e) : ExR G ρ' S' H' cls d e := by
  obtain ⟨c, h | ⟨dd, fvs, h1, h2, h3, h4⟩⟩ := h
  · exact ⟨c, .inl h⟩
  · exact ⟨c, .inr ⟨dd, fvs, h1, E.sub _ h2, E.keep _ _ h2 h3, h4.mono E⟩⟩
theorem Obr.ex {a : Addr} {o : Ob} (h : Obr G ρ S H a o) : ∃ u, H a = some u := by
  cases o with
  | lst xs => obtain ⟨vs, e, r⟩ := h; exact ⟨_, e⟩
  | dct lk kvs => cases lk <;> first | (obtain ⟨ks, e, r⟩ := h; exact ⟨_, e⟩) | (obtain ⟨ob, ks, e, r⟩ := h; exact ⟨_, e⟩)
  | dtt lk kvs => cases lk <;> first | (obtain ⟨ks, e, r⟩ := h; exact ⟨_, e⟩) | (obtain ⟨ob, ks, e, r⟩ := h; exact ⟨_, e⟩)
  | set ks => obtain ⟨M, e, r⟩ := h; exact ⟨_, e⟩
  | ins c fs => obtain ⟨dx, fvs, e, r⟩ := h; exact ⟨_, e⟩
theorem Rep.there {st : Sto} (R : Rep G ρ S st H) {i : Nat} {a : Addr} (e : ρ[i]? = some a) : ∃ o u, st[i]? = some o ∧ Obr G ρ S H a o ∧ H a = some u := by
  have hi : i < st.length := by rw [← R.len]; exact (List.getElem?_eq_some_iff.mp e).1
  have ho : st[i]? = some st[i] := by simp [hi]
  have q := R.obj i a _ e ho
  obtain ⟨u, hu⟩ := q.ex
  exact ⟨_, u, ho, q, hu⟩
theorem Rep.at {st : Sto} (R : Rep G ρ S st H) {i : Nat} {o : Ob} (e : st[i]? = some o) : ∃ a, ρ[i]? = some a ∧ Obr G ρ S H a o := by
  have hi : i < ρ.length := by rw [R.len]; exact (List.getElem?_eq_some_iff.mp e).1
  have ha : ρ[i]? = some ρ[i] := by simp [hi]
  exact ⟨_, ha, R.obj i _ o ha e⟩
/-- a fresh address -/
theorem Rep.fresh {st : Sto} (R : Rep G ρ S st H) {p : Addr} (hp : H p = none) : ¬ S p ∧ ∀ (i : Nat), ρ[i]? ≠ some p := by
  refine ⟨fun s => ?_, fun i e => ?_⟩
  · obtain ⟨o, h⟩ := R.thr p s
    rw [hp] at h; cases h
  · obtain ⟨o, u, _, _, h⟩ := R.there e
    rw [hp] at h; cases h
/-- a new immutable thing -/
theorem Rep.frozen {st : Sto} (R : Rep G ρ S st H) {p : Addr} (hp : H p = none) (o : HO) : Ext ρ S H ρ (fun a => S a ∨ a = p) (upd H p o) ∧ Rep G ρ (fun a => S a ∨ a = p) st (upd H p o) := by
  obtain ⟨f1, f2⟩ := R.fresh hp
  have up : ∀ a u, H a = some u → upd H p o a = some u := fun a u h => by rw [upd_ne (ne_of_none h hp)]; exact h
  have E : Ext ρ S H ρ (fun a => S a ∨ a = p) (upd H p o) := ⟨fun _ _ h => h, fun _ h => .inl h, fun a u _ h => up a u h, fun a u h _ => up a u h, fun _ _ h => .inl h, fun a h => Or.elim h .inl fun (e : a = p) => .inr (by rw [e]; exact hp), fun a u h => ⟨u, up a u h⟩⟩
  refine ⟨E, R.len, R.inj, fun i a e h => ?_, fun i a ob e h => ?_, fun a h => ?_⟩
  · rcases h with h | h
    · exact R.off i a e h
    · exact f2 i (h ▸ e)
  · have q := R.obj i a ob e h
    refine q.mono E (upd_ne fun z => f2 i (z ▸ e))
  · rcases h with h | h
    · obtain ⟨u, hu⟩ := R.thr a h
      exact ⟨u, by rw [upd_ne (ne_of_none hu hp)]; exact hu⟩
    · exact ⟨o, by rw [h, upd_same]⟩
theorem getElem?_snoc {α : Type} {l : List α} {x : α} {i : Nat} {y : α} (h : (l ++ [x])[i]? = some y) : (l[i]? = some y) ∨ (i = l.length ∧ y = x) := by
  by_cases hi : i < l.length
  · rw [List.getElem?_append_left hi] at h; exact .inl h
  · rw [List.getElem?_append_right (Nat.le_of_not_lt hi)] at h
    obtain ⟨h1, h2⟩ := List.getElem?_eq_some_iff.mp h
    have : i - l.length = 0 := by simpa using h1
    refine .inr ⟨by omega, ?_⟩
    simp [this] at h2
    exact h2.symm
theorem getElem?_snoc_last {α : Type} {l : List α} {x : α} : (l ++ [x])[l.length]? = some x := by simp
theorem getElem?_snoc_old {α : Type} {l : List α} {x y : α} {i : Nat} (h : l[i]? = some y) : (l ++ [x])[i]? = some y := by
  have hi := (List.getElem?_eq_some_iff.mp h).1
  rw [List.getElem?_append_left hi]; exact h
/-- a new place of the store -/
theorem Rep.alloc {st : Sto} (R : Rep G ρ S st H) {p : Addr} (hp : H p = none) {H' : Hp} {o : Ob} (hk : ∀ a u, a ≠ p → H a = some u → H' a = some u) (ho : Ext ρ S H (ρ ++ [p]) S H' → Obr G (ρ ++ [p]) S H' p o) :
    Ext ρ S H (ρ ++ [p]) S H' ∧ Rep G (ρ ++ [p]) S (st ++ [o]) H' ∧ (ρ ++ [p])[st.length]? = some p := by
  obtain ⟨f1, f2⟩ := R.fresh hp
  have up : ∀ a u, H a = some u → H' a = some u := fun a u h => hk a u (ne_of_none h hp) h
  have E : Ext ρ S H (ρ ++ [p]) S H' := ⟨fun _ _ h => getElem?_snoc_old h, fun _ h => h, fun a u _ h => up a u h, fun a u h _ => up a u h, fun i a h => Or.elim (getElem?_snoc h) .inl fun e => .inr (by rw [e.2]; exact hp), fun _ h => .inl h, fun a u h => ⟨u, up a u h⟩⟩
  have hl : (ρ ++ [p])[st.length]? = some p := by rw [← R.len]; exact getElem?_snoc_last
  refine ⟨E, ⟨by rw [List.length_append, List.length_append, R.len] <;> rfl, fun i j a h1 h2 => ?_, fun i a e h => ?_, fun i a ob e h => ?_, fun a h => ?_⟩, hl⟩
  · rcases getElem?_snoc h1 with h1 | ⟨h1, e1⟩
    · rcases getElem?_snoc h2 with h2 | ⟨h2, e2⟩
      · exact R.inj i j a h1 h2
      · exact absurd (e2 ▸ h1) (f2 i)
    · rcases getElem?_snoc h2 with h2 | ⟨h2, e2⟩
      · exact absurd (e1 ▸ h2) (f2 j)
      · rw [h1, h2]
  · rcases getElem?_snoc e with e | ⟨e1, e2⟩
    · exact R.off i a e h
    · exact f1 (e2 ▸ h)
  · rcases getElem?_snoc e with e | ⟨e1, e2⟩
    · rcases getElem?_snoc h with h | ⟨h1, h2⟩
      · have q := R.obj i a ob e h
        obtain ⟨u, hu⟩ := q.ex
        exact q.mono E ((hk a u (ne_of_none hu hp) hu).trans hu.symm)
      · have := (List.getElem?_eq_some_iff.mp e).1
        rw [R.len] at this
        omega
    · rcases getElem?_snoc h with h | ⟨h1, h2⟩
      · have := (List.getElem?_eq_some_iff.mp h).1
        rw [← R.len] at this
        omega
      · rw [e2, h2]; exact ho E
  · obtain ⟨u, hu⟩ := R.thr a h
    exact ⟨u, hk a u (ne_of_none hu hp) hu⟩
/-- a place of the store changed -/
theorem Rep.write {st : Sto} (R : Rep G ρ S st H) {i : Nat} {a : Addr} (e : ρ[i]? = some a) {u : HO} {o : Ob} (ho : Ext ρ S H ρ S (upd H a u) → Obr G ρ S (upd H a u) a o) :
    Ext ρ S H ρ S (upd H a u) ∧ Rep G ρ S (st.set i o) (upd H a u) := by
  have ns := R.off i a e
  have E : Ext ρ S H ρ S (upd H a u) := ⟨fun _ _ h => h, fun _ h => h, fun b v s h => by
    have hb : b ≠ a := fun z => ns (by rw [← z]; exact s)
    rw [upd_ne hb]; exact h, fun b v h n => by
    have hb : b ≠ a := fun z => n i (by rw [z]; exact e)
    rw [upd_ne hb]; exact h, fun _ _ h => .inl h, fun _ h => .inl h, fun b v h => by
    by_cases hb : b = a
    · exact ⟨u, by rw [hb, upd_same]⟩
    · exact ⟨v, by rw [upd_ne hb]; exact h⟩⟩
  refine ⟨E, by rw [List.length_set]; exact R.len, R.inj, R.off, fun j b ob e2 h => ?_, fun b h => ?_⟩
  · rw [List.getElem?_set] at h
    by_cases hij : i = j
    · subst hij
      rw [e] at e2; cases e2
      rw [if_pos rfl] at h
      split at h
      · cases h; exact ho E
      · cases h
    · rw [if_neg hij] at h
      have hb : b ≠ a := fun z => hij (R.inj i j a e (z ▸ e2))
      exact (R.obj j b ob e2 h).mono E (upd_ne hb)
  · obtain ⟨v, hv⟩ := R.thr b h
    by_cases hb : b = a
    · exact ⟨u, by rw [hb, upd_same]⟩
    · exact ⟨v, by rw [upd_ne hb]; exact hv⟩
theorem Rp.mono {sl : Slo} {st st' : Sto} {σ : L2.St} (R : Rp G ρ S sl st σ H) (E : Ext ρ S H ρ' S' H') (R' : Rep G ρ' S' st' H') : Rp G ρ' S' sl st' σ H' :=
  ⟨R', R.len, fun i x h => let ⟨v, h1, h2⟩ := R.slot i x h; ⟨v, h1, h2.mono E⟩⟩
theorem Rp.mono0 {sl : Slo} {st st' : Sto} {σ : L2.St} (R : Rp G ρ S sl st σ H) (E : Ext0 ρ S H ρ' S' H') (R' : Rep G ρ' S' st' H') : Rp G ρ' S' sl st' σ H' :=
  ⟨R', R.len, fun i x h => let ⟨v, h1, h2⟩ := R.slot i x h; ⟨v, h1, h2.mono0 E⟩⟩
end
end SM
set_option Elab.async false
set_option linter.all false
set_option maxRecDepth 100000
set_option maxHeartbeats 4000000
/-! SM2: readings by the mirror; expressions. -/
namespace SM
open PySem PySem.Spec PyProof.Rows L2

/-! ### looking -/
def lookL (st : Sto) : Va → Option (List Va)
  | .fl xs => some xs
  | .fz xs => some xs
  | .ref i => match st[i]? with
    | some (.lst xs) => some xs
    | _ => none
  | _ => none
def lookT : Va → Option (List Va)
  | .tup xs => some xs
  | _ => none
/-- a list that is no script's -/
def lookM (st : Sto) : Va → Option (List Va)
  | .fl xs => some xs
  | .ref i => match st[i]? with
    | some (.lst xs) => some xs
    | _ => none
  | _ => none
section
variable {G : Gc} {ρ ρ' : List Addr} {S S' : Addr → Prop} {H H' : Hp} {st : Sto}
theorem lookM_ok (R : Rep G ρ S st H) {v : V} {x : Va} {xs : List Va} (h : Vr G ρ S H v x) (e : lookM st x = some xs) : ∃ a vs, v = .ref a ∧ H a = some (.lst vs) ∧ Vrs G ρ S H vs xs := by
  cases h with
  | fl s e1 l h => cases e; exact ⟨_, _, rfl, e1, l, h⟩
  | ref e1 =>
    unfold lookM at e
    rename_i i a
    cases e2 : st[i]? with
    | none => simp [e2] at e
    | some o =>
      cases o with
      | lst ys =>
        simp [e2] at e
        subst e
        obtain ⟨vs, h1, h2⟩ := R.obj i a _ e1 e2
        exact ⟨a, vs, rfl, h1, h2⟩
      | _ => simp [e2] at e
  | _ => cases e
theorem lookL_ok (R : Rep G ρ S st H) {v : V} {x : Va} {xs : List Va} (h : Vr G ρ S H v x) (e : lookL st x = some xs) : ∃ a vs, v = .ref a ∧ SqL G.K H a vs ∧ Vrs G ρ S H vs xs := by
  cases x with
  | fz ys =>
    cases e
    cases h with
    | fz e l h =>
      refine ⟨_, _, rfl, ?_, l, h⟩
      rcases e with ⟨_, e⟩ | e
      · exact .inl e
      · exact .inr e
  | ref i =>
    obtain ⟨a, vs, h1, h2, h3⟩ := lookM_ok R h (xs := xs) e
    exact ⟨a, vs, h1, .of h2, h3⟩
  | fl ys =>
    obtain ⟨a, vs, h1, h2, h3⟩ := lookM_ok R h (xs := xs) e
    exact ⟨a, vs, h1, .of h2, h3⟩
  | _ => cases e
theorem lookT_ok {v : V} {x : Va} {xs : List Va} (h : Vr G ρ S H v x) (e : lookT x = some xs) : ∃ a vs, v = .ref a ∧ SqT G.K H a vs ∧ Vrs G ρ S H vs xs := by
  cases h with
  | tup s e1 l h => cases e; exact ⟨_, _, rfl, .of e1, l, h⟩
  | _ => cases e
/-- a new list in the store -/
theorem new_cell (R : Rep G ρ S st H) {vs : List V} {xs : List Va} (r : Vrs G ρ S H vs xs) {p : Addr} (hp : H p = none) :
    Ext ρ S H (ρ ++ [p]) S (upd H p (.lst vs)) ∧ Rep G (ρ ++ [p]) S (st ++ [.lst xs]) (upd H p (.lst vs)) ∧ Vr G (ρ ++ [p]) S (upd H p (.lst vs)) (.ref p) (.ref st.length) := by
  obtain ⟨E, R', l⟩ := R.alloc (H' := upd H p (.lst vs)) (o := .lst xs) hp (fun a u h e => by rw [upd_ne h]; exact e) fun E => ⟨vs, upd_same, r.mono E⟩
  exact ⟨E, R', .ref l⟩
theorem new_fl (R : Rep G ρ S st H) {vs : List V} {xs : List Va} (r : Vrs G ρ S H vs xs) {p : Addr} (hp : H p = none) :
    Ext ρ S H ρ (fun a => S a ∨ a = p) (upd H p (.lst vs)) ∧ Rep G ρ (fun a => S a ∨ a = p) st (upd H p (.lst vs)) ∧ Vr G ρ (fun a => S a ∨ a = p) (upd H p (.lst vs)) (.ref p) (.fl xs) := by
  obtain ⟨E, R'⟩ := R.frozen hp (.lst vs)
  exact ⟨E, R', .fl (.inr rfl) upd_same r.1 (r.mono E).2⟩
theorem new_tup (R : Rep G ρ S st H) {vs : List V} {xs : List Va} (r : Vrs G ρ S H vs xs) {p : Addr} (hp : H p = none) :
    Ext ρ S H ρ (fun a => S a ∨ a = p) (upd H p (.tup vs)) ∧ Rep G ρ (fun a => S a ∨ a = p) st (upd H p (.tup vs)) ∧ Vr G ρ (fun a => S a ∨ a = p) (upd H p (.tup vs)) (.ref p) (.tup xs) := by
  obtain ⟨E, R'⟩ := R.frozen hp (.tup vs)
  exact ⟨E, R', .tup (.inr rfl) upd_same r.1 (r.mono E).2⟩
end

/-! ### what is wanted of an end -/
abbrev Rel (α β : Type) := List Addr → (Addr → Prop) → Hp → β → α → Prop
def PostR {α β : Type} (G : Gc) (W : WX) (rel : Rel α β) (ρ : List Addr) (S : Addr → Prop) (H : Hp) (sl : Slo) (σ : L2.St) (r : Rs α) (Q : β → Hp → Prop) : Prop := match r with
  | .ok x st' => ∀ ρ' S' H' v, Ext ρ S H ρ' S' H' → Rp G ρ' S' sl st' σ H' → rel ρ' S' H' v x → Q v H'
  | .err e st' => ∀ ρ' S' H' cls d, Ext ρ S H ρ' S' H' → Rp G ρ' S' sl st' σ H' → ExR G ρ' S' H' cls d e → W cls d σ H'
  | .stuck => False
abbrev relV (G : Gc) : Rel Va V := fun ρ S H v x => Vr G ρ S H v x
abbrev relA (G : Gc) : Rel (List Va) (List V) := fun ρ S H v x => Vrs G ρ S H v x
abbrev relB : Rel Bool Bool := fun _ _ _ v x => v = x
section
variable {α β γ δ : Type} {G : Gc} {W : WX} {rel : Rel α β} {rel2 : Rel γ δ} {ρ ρ1 : List Addr} {S S1 : Addr → Prop} {H H1 : Hp} {sl : Slo} {σ : L2.St}
theorem PostR.shift {r : Rs α} {Q : β → Hp → Prop} (E : Ext ρ S H ρ1 S1 H1) (h : PostR G W rel ρ S H sl σ r Q) : PostR G W rel ρ1 S1 H1 sl σ r Q := by
  cases r with
  | ok x st => exact fun ρ' S' H' v e => h ρ' S' H' v (E.trans e)
  | err x st => exact fun ρ' S' H' cls d e => h ρ' S' H' cls d (E.trans e)
  | stuck => exact h
theorem PostR.bind {r : Rs α} {k : α → Sto → Rs γ} {Q : δ → Hp → Prop} {Q1 : β → Hp → Prop} (h : PostR G W rel2 ρ S H sl σ (r.bind k) Q)
    (c : ∀ x st1 ρ1 S1 H1 v, Ext ρ S H ρ1 S1 H1 → Rp G ρ1 S1 sl st1 σ H1 → rel ρ1 S1 H1 v x → PostR G W rel2 ρ1 S1 H1 sl σ (k x st1) Q → Q1 v H1) : PostR G W rel ρ S H sl σ r Q1 := by
  cases r with
  | ok x st => exact fun ρ' S' H' v e rp rv => c x st ρ' S' H' v e rp rv (PostR.shift e h)
  | err x st => exact h
  | stuck => exact h
theorem PostR.imp {r : Rs α} {Q Q1 : β → Hp → Prop} (h : PostR G W rel ρ S H sl σ r Q) (c : ∀ v H', Q v H' → Q1 v H') : PostR G W rel ρ S H sl σ r Q1 := by
  cases r with
  | ok x st => exact fun ρ' S' H' v e rp rv => c v H' (h ρ' S' H' v e rp rv)
  | err x st => exact h
  | stuck => exact h
theorem PostR.ok {x : α} {st : Sto} {v : β} {Q : β → Hp → Prop} (h : PostR G W rel ρ S H sl σ (.ok x st) Q) (rp : Rp G ρ S sl st σ H) (rv : rel ρ S H v x) : Q v H := h ρ S H v .refl rp rv
end

abbrev ME := Slo → Sto → Rs Va
abbrev MB := Slo → Sto → Rs Bool
abbrev MA := Slo → Sto → Rs (List Va)
def tD (G : Gc) (W : WX) (m : ME) : TE := fun σ H Q => ∃ ρ S sl st, Rp G ρ S sl st σ H ∧ PostR G W (relV G) ρ S H sl σ (m sl st) Q
def tDb (G : Gc) (W : WX) (m : MB) : TT := fun σ H Q => ∃ ρ S sl st, Rp G ρ S sl st σ H ∧ PostR G W relB ρ S H sl σ (m sl st) Q
def tDa (G : Gc) (W : WX) (m : MA) : TA := fun σ H Q => ∃ ρ S sl st, Rp G ρ S sl st σ H ∧ PostR G W (relA G) ρ S H sl σ (m sl st) Q
abbrev ED (X : Cx) (W : WX) (e : Expr) (m : ME) : Prop := PE X e (tD (gc X) W m)
abbrev EB (X : Cx) (W : WX) (e : Expr) (m : MB) : Prop := PT X e (tDb (gc X) W m)
abbrev EA (X : Cx) (W : WX) (es : List Expr) (m : MA) : Prop := PA X es (tDa (gc X) W m)
theorem pe_weak {X : Cx} {e : Expr} {t t' : TE} (h : PE X e t) (w : ∀ σ H Q, t' σ H Q → t σ H Q) : PE X e t' := ⟨fun pins s σ H Q I q => h.run pins s σ H Q I (w σ H Q q)⟩
theorem pt_weak {X : Cx} {e : Expr} {t t' : TT} (h : PT X e t) (w : ∀ σ H Q, t' σ H Q → t σ H Q) : PT X e t' := ⟨fun pins s σ H Q I q => h.run pins s σ H Q I (w σ H Q q)⟩
theorem pw_weak {X : Cx} {e : Expr} {t t' : TT} (h : PW X e t) (w : ∀ σ H Q, t' σ H Q → t σ H Q) : PW X e t' := ⟨fun wh pins s σ H Q I q => h.run wh pins s σ H Q I (w σ H Q q)⟩
theorem pa_weak {X : Cx} {e : List Expr} {t t' : TA} (h : PA X e t) (w : ∀ σ H Q, t' σ H Q → t σ H Q) : PA X e t' := ⟨fun pos pins s σ H Q I q => h.run pos pins s σ H Q I (w σ H Q q)⟩
theorem ps_weak {X : Cx} {e : Stmt} {t t' : TS} (h : PS X e t) (w : ∀ D σ H, t' D σ H → t D σ H) : PS X e t' := ⟨fun pins s σ H D I q => h.run pins s σ H D I (w D σ H q)⟩
theorem pss_weak {X : Cx} {e : List Stmt} {t t' : TS} (h : PSs X e t) (w : ∀ D σ H, t' D σ H → t D σ H) : PSs X e t' := ⟨fun pins s σ H D I q => h.run pins s σ H D I (w D σ H q)⟩

/-! ### names, constants -/
def mVar (i : Nat) : ME := fun sl st => match sl[i]? with
  | some (some x) => .ok x st
  | _ => .stuck
def mC (x : Va) : ME := fun _ st => .ok x st
section
variable {X : Cx} {W : WX} {pos : Pos}
theorem ed_var (i : Nat) {x : Str} (hN : X.N[i]? = some x := by rfl) (hv : Vis X.env.scope x := by first | exact Or.inl rfl | exact Or.inr (Or.inl rfl) | exact Or.inr (Or.inr rfl)) (hd : (x == ("__debug__" : Str)) = false := by decide)
    (hcd : (x == ("__classdict__" : Str)) = false := by decide) : ED X W (.Name x pos) (mVar i) := by
  refine pe_weak (pe_var hN hv hd hcd) fun σ H Q h => ?_
  obtain ⟨ρ, S, sl, st, rp, h⟩ := h
  unfold mVar at h
  cases e : sl[i]? with
  | none => rw [e] at h; exact h.elim
  | some o =>
    rw [e] at h
    cases o with
    | none => exact h.elim
    | some y =>
      obtain ⟨v, e1, r1⟩ := rp.slot i y e
      exact ⟨v, e1, h.ok rp r1⟩
theorem ed_const {e : Expr} {v : V} {x : Va} (h : PE X e (tC v)) (r : ∀ ρ S H, Vr (gc X) ρ S H v x) : ED X W e (mC x) := by
  refine pe_weak h fun σ H Q h => ?_
  obtain ⟨ρ, S, sl, st, rp, h⟩ := h
  exact PostR.ok h rp (r _ _ _)
theorem ed_int {i j} : ED X W (.Constant (.int i) j pos) (mC (.int i)) := ed_const pe_int fun _ _ _ => .int i
theorem ed_bl {b j} : ED X W (.Constant (.bool b) j pos) (mC (.bl b)) := ed_const pe_bl fun _ _ _ => .bl b
theorem ed_non {j} : ED X W (.Constant .none j pos) (mC .non) := ed_const pe_non fun _ _ _ => .non
theorem ed_str {x j} : ED X W (.Constant (.str x) j pos) (mC (.str x)) := ed_const pe_str fun _ _ _ => .str x
theorem ed_gint {x : Str} {i : Int} (hg : Gl X x) (hm : ∃ t, X.mg x = some (.int i t)) (hd : (x == ("__debug__" : Str)) = false := by decide) : ED X W (.Name x pos) (mC (.int i)) := by
  obtain ⟨t, hm⟩ := hm
  exact ed_const (v := V.int i) (pe_glob hg hm ⟨t, rfl⟩ hd) fun _ _ _ => .int i
theorem ed_gstr {x y : Str} (hg : Gl X x) (hm : ∃ t, X.mg x = some (.str y t)) (hd : (x == ("__debug__" : Str)) = false := by decide) : ED X W (.Name x pos) (mC (.str y)) := by
  obtain ⟨t, hm⟩ := hm
  exact ed_const (v := V.str y) (pe_glob hg hm ⟨t, rfl⟩ hd) fun _ _ _ => .str y
end

/-! ### operators by values -/
abbrev Op1 := Va → Sto → Option (Va × Sto)
abbrev Op2 := Va → Va → Sto → Option (Va × Sto)
abbrev OpN := List Va → Sto → Option (Va × Sto)
/-- the end of an operation -/
def EndO (G : Gc) (ρ : List Addr) (S : Addr → Prop) (H : Hp) (r : Option (Va × Sto)) (Q : VK) : Prop :=
  ∃ z st', r = some (z, st') ∧ ∀ ρ' S' H' v, Ext ρ S H ρ' S' H' → Rep G ρ' S' st' H' → Vr G ρ' S' H' v z → Q v H'
def rD1 (G : Gc) (f : Op1) : V → Hp → VK → Prop := fun vx H Q => ∃ ρ S st x, Rep G ρ S st H ∧ Vr G ρ S H vx x ∧ EndO G ρ S H (f x st) Q
def rD2 (G : Gc) (f : Op2) : R2 := fun vx vy H Q => ∃ ρ S st x y, Rep G ρ S st H ∧ Vr G ρ S H vx x ∧ Vr G ρ S H vy y ∧ EndO G ρ S H (f x y st) Q
def rDN (G : Gc) (f : OpN) : List V → Hp → VK → Prop := fun vs H Q => ∃ ρ S st xs, Rep G ρ S st H ∧ Vrs G ρ S H vs xs ∧ EndO G ρ S H (f xs st) Q
def rDM (G : Gc) (f : Va → OpN) : V → List V → Hp → VK → Prop := fun v vs H Q => ∃ ρ S st x xs, Rep G ρ S st H ∧ Vr G ρ S H v x ∧ Vrs G ρ S H vs xs ∧ EndO G ρ S H (f x xs st) Q
section
variable {G : Gc} {W : WX} {ρ : List Addr} {S : Addr → Prop} {H : Hp} {sl : Slo} {st : Sto} {σ : L2.St}
theorem EndO.of_post {r : Option (Va × Sto)} {Q : VK} (rp : Rp G ρ S sl st σ H) (h : PostR G W (relV G) ρ S H sl σ (Rs.of r) Q) : EndO G ρ S H r Q := by
  cases r with
  | none => exact h.elim
  | some p => exact ⟨p.1, p.2, rfl, fun ρ' S' H' v E R rv => h ρ' S' H' v E (rp.mono E R) rv⟩
/-- nothing changed -/
theorem EndO.same {z : Va} {v : V} {r : Option (Va × Sto)} {Q : VK} (h : EndO G ρ S H r Q) (R : Rep G ρ S st H) (e : r = some (z, st)) (rv : Vr G ρ S H v z) : Q v H := by
  obtain ⟨z', st', e2, h⟩ := h
  rw [e] at e2
  cases e2
  exact h ρ S H v .refl R rv
/-- a new list, inline or in the store; a new tuple -/
theorem EndO.cell {vs : List V} {xs : List Va} {r : Option (Va × Sto)} {Q : VK} (h : EndO G ρ S H r Q) (R : Rep G ρ S st H) (e : r = some (.ref st.length, st ++ [.lst xs])) (rv : Vrs G ρ S H vs xs) : ∀ p, H p = none → Q (.ref p) (upd H p (.lst vs)) := by
  intro p hp
  obtain ⟨z', st', e2, h⟩ := h
  rw [e] at e2
  cases e2
  obtain ⟨E, R', r'⟩ := new_cell R rv hp
  exact h _ _ _ _ E R' r'
theorem EndO.inl {vs : List V} {xs : List Va} {r : Option (Va × Sto)} {Q : VK} (h : EndO G ρ S H r Q) (R : Rep G ρ S st H) (e : r = some (.fl xs, st)) (rv : Vrs G ρ S H vs xs) : ∀ p, H p = none → Q (.ref p) (upd H p (.lst vs)) := by
  intro p hp
  obtain ⟨z', st', e2, h⟩ := h
  rw [e] at e2
  cases e2
  obtain ⟨E, R', r'⟩ := new_fl R rv hp
  exact h _ _ _ _ E R' r'
theorem EndO.tup {vs : List V} {xs : List Va} {r : Option (Va × Sto)} {Q : VK} (h : EndO G ρ S H r Q) (R : Rep G ρ S st H) (e : r = some (.tup xs, st)) (rv : Vrs G ρ S H vs xs) : ∀ p, H p = none → Q (.ref p) (upd H p (.tup vs)) := by
  intro p hp
  obtain ⟨z', st', e2, h⟩ := h
  rw [e] at e2
  cases e2
  obtain ⟨E, R', r'⟩ := new_tup R rv hp
  exact h _ _ _ _ E R' r'
end
/-- a new list where it is wanted: true: in the store -/
def mkL (c : Bool) (xs : List Va) (st : Sto) : Va × Sto := if c then (.ref st.length, st ++ [.lst xs]) else (.fl xs, st)
theorem EndO.mk {G : Gc} {ρ : List Addr} {S : Addr → Prop} {H : Hp} {st : Sto} {vs : List V} {xs : List Va} {c : Bool} {r : Option (Va × Sto)} {Q : VK} (h : EndO G ρ S H r Q) (R : Rep G ρ S st H) (e : r = some (mkL c xs st)) (rv : Vrs G ρ S H vs xs) : ∀ p, H p = none → Q (.ref p) (upd H p (.lst vs)) := by
  cases c with
  | true => exact h.cell R e rv
  | false => exact h.inl R e rv

def mUn (f : Op1) (ma : ME) : ME := fun sl st => (ma sl st).bind fun x st1 => Rs.of (f x st1)
def mBin (f : Op2) (ma mb : ME) : ME := fun sl st => (ma sl st).bind fun x st1 => (mb sl st1).bind fun y st2 => Rs.of (f x y st2)
section
variable {X : Cx} {W : WX} {a b : Expr} {ma mb : ME} {pos : Pos}
theorem bin_w {f : Op2} {σ : L2.St} {H : Hp} {Q : VK} (h : tD (gc X) W (mBin f ma mb) σ H Q) : tOp (rD2 (gc X) f) (tD (gc X) W ma) (tD (gc X) W mb) σ H Q := by
  obtain ⟨ρ, S, sl, st, rp, h⟩ := h
  refine ⟨ρ, S, sl, st, rp, PostR.bind h fun x st1 ρ1 S1 H1 v E1 rp1 r1 h1 => ?_⟩
  refine ⟨ρ1, S1, sl, st1, rp1, PostR.bind h1 fun y st2 ρ2 S2 H2 u E2 rp2 r2 h2 => ?_⟩
  exact ⟨ρ2, S2, st2, x, y, rp2.rep, r1.mono E2, r2, .of_post rp2 h2⟩
theorem ed_bin {op : Operator} {f : Op2} (ho : OpR X (binaryOp op) (rD2 (gc X) f)) (ha : ED X W a ma) (hb : ED X W b mb) : ED X W (.BinOp a op b pos) (mBin f ma mb) :=
  pe_weak (pe_op ho ha hb) fun σ H Q h => bin_w h
theorem ed_cmp {op : CmpOp} {f : Op2} (ho : OpR X (compareOp op) (rD2 (gc X) f)) (ha : ED X W a ma) (hb : ED X W b mb) (hm : behindInMarks op b = false := by first | rfl | exact nomark _) : ED X W (.Compare a [op] [b] pos) (mBin f ma mb) :=
  pe_weak (pe_cmpR ho ha hb hm) fun σ H Q h => bin_w h
theorem ed_un {op : UnaryOp} {f : Op1} (ho : UnR X (unaryOp op) (rD1 (gc X) f)) (ha : ED X W a ma) : ED X W (.UnaryOp op a pos) (mUn f ma) := by
  refine pe_weak (pe_un ho ha) fun σ H Q h => ?_
  obtain ⟨ρ, S, sl, st, rp, h⟩ := h
  refine ⟨ρ, S, sl, st, rp, PostR.bind h fun x st1 ρ1 S1 H1 v E1 rp1 r1 h1 => ?_⟩
  exact ⟨ρ1, S1, st1, x, rp1.rep, r1, .of_post rp1 h1⟩
theorem ed_ix {f : Op2} (hr : IxR X (rD2 (gc X) f)) (ha : ED X W a ma) (hb : ED X W b mb) (hs : PlainIx b := by first | exact (fun _ _ => rfl) | (intro _ _; rfl)) : ED X W (.Subscript a b pos) (mBin f ma mb) :=
  pe_weak (pe_ix hr ha hb hs) fun σ H Q h => bin_w h
end

/-! ### tests -/
def truOf (st : Sto) : Va → Option Bool
  | .non => some false
  | .bl b => some b
  | .int i => some (i != 0)
  | .str x => if x.length ≤ sizeLine then some ((x.length : Int) != 0) else none
  | .tup xs => some (!xs.isEmpty)
  | .fl xs => some (!xs.isEmpty)
  | .fz xs => some (!xs.isEmpty)
  | .ref i => match st[i]? with
    | some (.lst xs) => some (!xs.isEmpty)
    | some (.dct false kvs) => some (!kvs.isEmpty)
    | _ => none
  | _ => none
theorem isE_len {α β : Type} {xs : List α} {ys : List β} (h : xs.length = ys.length) : xs.isEmpty = ys.isEmpty := by
  cases xs <;> cases ys <;> simp_all
theorem truOf_ok {G : Gc} {ρ : List Addr} {S : Addr → Prop} {H : Hp} {st : Sto} {v : V} {x : Va} {k : Bool} (R : Rep G ρ S st H) (h : Vr G ρ S H v x) (e : truOf st x = some k) : TruV G.K v H k := by
  cases h with
  | non => cases e; rfl
  | bl b => cases e; rfl
  | int i => cases e; rfl
  | str y =>
    have e : (if y.length ≤ sizeLine then some ((y.length : Int) != 0) else none) = some k := e
    split at e
    · rename_i hy
      cases e
      exact ⟨hy, rfl⟩
    · cases e
  | tup s e1 l h => cases e; exact .inr (.inl ⟨_, .of e1, by rw [isE_len l]⟩)
  | fl s e1 l h => cases e; exact .inl ⟨_, .of e1, by rw [isE_len l]⟩
  | fz e1 l h =>
    cases e
    rcases e1 with ⟨_, e1⟩ | e1
    · exact .inl ⟨_, .inl e1, by rw [isE_len l]⟩
    · exact .inl ⟨_, .inr e1, by rw [isE_len l]⟩
  | ref e1 =>
    rename_i i a
    unfold truOf at e
    cases e2 : st[i]? with
    | none => simp [e2] at e
    | some o =>
      have q := R.obj i a o e1 e2
      cases o with
      | lst xs =>
        simp [e2] at e
        obtain ⟨vs, h1, h2⟩ := q
        exact .inl ⟨vs, .of h1, by rw [isE_len h2.1]; simpa using e.symm⟩
      | dct lk kvs =>
        cases lk with
        | true => simp [e2] at e
        | false =>
          simp [e2] at e
          obtain ⟨ks, h1, h2⟩ := q
          refine .inr (.inr ⟨ks, h1, ?_⟩)
          have : ks.length = kvs.length := by simpa using congrArg List.length h2.1
          rw [isE_len this]; simpa using e.symm
      | _ => simp [e2] at e
  | _ => cases e
def mTru (ma : ME) : MB := fun sl st => (ma sl st).bind fun x st1 => match truOf st1 x with
  | some k => .ok k st1
  | none => .stuck
def mAnd (a b : MB) : MB := fun sl st => (a sl st).bind fun k st1 => if k then b sl st1 else .ok false st1
def mOr (a b : MB) : MB := fun sl st => (a sl st).bind fun k st1 => if k then .ok true st1 else b sl st1
def mNot (a : MB) : MB := fun sl st => (a sl st).bind fun k st1 => .ok (!k) st1
def mIfE (c : MB) (a b : ME) : ME := fun sl st => (c sl st).bind fun k st1 => if k then a sl st1 else b sl st1
/-- a test as a value -/
def mBv (c : MB) : ME := fun sl st => (c sl st).bind fun k st1 => .ok (.bl k) st1
section
variable {X : Cx} {W : WX} {a b : Expr} {ma mb : ME} {pos : Pos} {ka kb : MB}
theorem tru_w {σ : L2.St} {H : Hp} {Q : Bool → Hp → Prop} (h : tDb (gc X) W (mTru ma) σ H Q) : tD (gc X) W ma σ H fun x H' => ∃ k, TruV X.K x H' k ∧ Q k H' := by
  obtain ⟨ρ, S, sl, st, rp, h⟩ := h
  refine ⟨ρ, S, sl, st, rp, PostR.bind h fun x st1 ρ1 S1 H1 v E1 rp1 r1 h1 => ?_⟩
  cases e : truOf st1 x with
  | none => simp only [e] at h1; exact h1.elim
  | some k =>
    simp only [e] at h1
    exact ⟨k, truOf_ok rp1.rep r1 e, h1.ok rp1 rfl⟩
theorem eb_tru (ha : ED X W a ma) (he : ∀ whole, isTrue a X.env whole = (do let v ← whole; standAt a.pos; holding [v] (truthy v)) := by intro _; rfl) : EB X W a (mTru ma) :=
  pt_weak (pt_truth ha he) fun σ H Q h => tru_w h
/-- a comparison as a test: its value is a bool -/
theorem eb_cmp {op : CmpOp} {f : Op2} (ho : OpR X (compareOp op) (rD2 (gc X) f)) (hf : ∀ x y st z st', f x y st = some (z, st') → ∃ k, z = .bl k) (ha : ED X W a ma) (hb : ED X W b mb) (hm : behindInMarks op b = false := by first | rfl | exact nomark _) :
    EB X W (.Compare a [op] [b] pos) (mTru (mBin f ma mb)) := by
  refine pt_weak (pt_cmpR ho ha hb hm) fun σ H Q h => ?_
  show tOp (rD2 (gc X) f) (tD (gc X) W ma) (tD (gc X) W mb) σ H fun x H' => ∃ k, x = .bl k ∧ Q k H'
  obtain ⟨ρ, S, sl, st, rp, h⟩ := tru_w h
  refine bin_w ⟨ρ, S, sl, st, rp, ?_⟩
  cases e : mBin f ma mb sl st with
  | stuck => rw [e] at h; exact h
  | err x s' => rw [e] at h; exact h
  | ok z st' =>
    rw [e] at h
    intro ρ' S' H' v E rp' rv
    obtain ⟨k, hk, q⟩ := h ρ' S' H' v E rp' rv
    have hz : ∃ k, z = .bl k := by
      unfold mBin at e
      cases e1 : ma sl st with
      | stuck => rw [e1] at e; cases e
      | err x s' => rw [e1] at e; cases e
      | ok x st1 =>
        rw [e1, Rs.bind_ok] at e
        cases e2 : mb sl st1 with
        | stuck => rw [e2] at e; cases e
        | err x s' => rw [e2] at e; cases e
        | ok y st2 =>
          rw [e2, Rs.bind_ok] at e
          cases e3 : f x y st2 with
          | none => rw [e3] at e; cases e
          | some p =>
            rw [e3] at e
            obtain ⟨z', s'⟩ := p
            cases e
            exact hf _ _ _ _ _ e3
    obtain ⟨k', rfl⟩ := hz
    cases rv
    have : k = k' := hk
    subst this
    exact ⟨k, rfl, q⟩
theorem eb_not (ha : EB X W a ka) : EB X W (.UnaryOp .Not a pos) (mNot ka) := by
  refine pt_weak (pt_not ha) fun σ H Q h => ?_
  obtain ⟨ρ, S, sl, st, rp, h⟩ := h
  refine ⟨ρ, S, sl, st, rp, PostR.bind h fun x st1 ρ1 S1 H1 v E1 rp1 r1 h1 => ?_⟩
  exact h1.ok rp1 (by rw [r1])
abbrev EW (X : Cx) (W : WX) (e : Expr) (m : MB) : Prop := PW X e (tDb (gc X) W m)
theorem EW.eb (h : EW X W a ka) : EB X W a ka := PW.pt h
theorem ew_and1 (ha : EB X W a ka) : EW X W (.BoolOp .And [a] pos) ka := pw_and1 ha
theorem ew_or1 (ha : EB X W a ka) : EW X W (.BoolOp .Or [a] pos) ka := pw_or1 ha
theorem ew_and {rest : List Expr} (ha : EB X W a ka) (hb : EW X W (.BoolOp .And (b :: rest) pos) kb) : EW X W (.BoolOp .And (a :: b :: rest) pos) (mAnd ka kb) := by
  refine pw_weak (pw_and ha hb) fun σ H Q h => ?_
  obtain ⟨ρ, S, sl, st, rp, h⟩ := h
  refine ⟨ρ, S, sl, st, rp, PostR.bind h fun x st1 ρ1 S1 H1 v E1 rp1 r1 h1 => ?_⟩
  obtain rfl : v = x := r1
  cases v with
  | true => exact ⟨ρ1, S1, sl, st1, rp1, h1⟩
  | false => exact PostR.ok (v := false) h1 rp1 rfl
theorem ew_or {rest : List Expr} (ha : EB X W a ka) (hb : EW X W (.BoolOp .Or (b :: rest) pos) kb) : EW X W (.BoolOp .Or (a :: b :: rest) pos) (mOr ka kb) := by
  refine pw_weak (pw_or ha hb) fun σ H Q h => ?_
  obtain ⟨ρ, S, sl, st, rp, h⟩ := h
  refine ⟨ρ, S, sl, st, rp, PostR.bind h fun x st1 ρ1 S1 H1 v E1 rp1 r1 h1 => ?_⟩
  obtain rfl : v = x := r1
  cases v with
  | false => exact ⟨ρ1, S1, sl, st1, rp1, h1⟩
  | true => exact PostR.ok (v := true) h1 rp1 rfl
theorem ed_ifE {c : Expr} (hc : EB X W c ka) (ha : ED X W a ma) (hb : ED X W b mb) : ED X W (.IfExp c a b pos) (mIfE ka ma mb) := by
  refine pe_weak (pe_ifExp hc ha hb) fun σ H Q h => ?_
  obtain ⟨ρ, S, sl, st, rp, h⟩ := h
  refine ⟨ρ, S, sl, st, rp, PostR.bind h fun x st1 ρ1 S1 H1 v E1 rp1 r1 h1 => ?_⟩
  obtain rfl : v = x := r1
  cases v with
  | true => exact ⟨ρ1, S1, sl, st1, rp1, h1⟩
  | false => exact ⟨ρ1, S1, sl, st1, rp1, h1⟩
end
/-! ### and, or, not as values: all but the last are bools -/
def asBl : Va → Option Bool
  | .bl b => some b
  | _ => none
def mAndV (a b : ME) : ME := fun sl st => (a sl st).bind fun x st1 => match asBl x with
  | some true => b sl st1
  | some false => .ok (.bl false) st1
  | none => .stuck
def mOrV (a b : ME) : ME := fun sl st => (a sl st).bind fun x st1 => match asBl x with
  | some true => .ok (.bl true) st1
  | some false => b sl st1
  | none => .stuck
def mNotV (a : ME) : ME := fun sl st => (a sl st).bind fun x st1 => match asBl x with
  | some k => .ok (.bl (!k)) st1
  | none => .stuck
section
variable {X : Cx} {W : WX} {a b : Expr} {ma mb : ME} {pos : Pos}
theorem ed_one {op} (ha : ED X W a ma) : ED X W (.BoolOp op [a] pos) ma := pe_one ha
theorem asBl_ok {G : Gc} {ρ : List Addr} {S : Addr → Prop} {H : Hp} {v : V} {x : Va} {k : Bool} (h : Vr G ρ S H v x) (e : asBl x = some k) : v = .bl k := by
  cases h <;> cases e
  rfl
theorem ed_and {rest : List Expr} (ha : ED X W a ma) (hb : ED X W (.BoolOp .And (b :: rest) pos) mb) : ED X W (.BoolOp .And (a :: b :: rest) pos) (mAndV ma mb) := by
  refine pe_weak (pe_and ha hb) fun σ H Q h => ?_
  obtain ⟨ρ, S, sl, st, rp, h⟩ := h
  refine ⟨ρ, S, sl, st, rp, PostR.bind h fun x st1 ρ1 S1 H1 v E1 rp1 r1 h1 => ?_⟩
  cases e : asBl x with
  | none => simp only [e] at h1; exact h1.elim
  | some k =>
    simp only [e] at h1
    refine ⟨k, asBl_ok r1 e, ?_⟩
    cases k with
    | true => exact ⟨ρ1, S1, sl, st1, rp1, h1⟩
    | false => exact PostR.ok (v := V.bl false) h1 rp1 (.bl false)
theorem ed_or {rest : List Expr} (ha : ED X W a ma) (hb : ED X W (.BoolOp .Or (b :: rest) pos) mb) : ED X W (.BoolOp .Or (a :: b :: rest) pos) (mOrV ma mb) := by
  refine pe_weak (pe_or ha hb) fun σ H Q h => ?_
  obtain ⟨ρ, S, sl, st, rp, h⟩ := h
  refine ⟨ρ, S, sl, st, rp, PostR.bind h fun x st1 ρ1 S1 H1 v E1 rp1 r1 h1 => ?_⟩
  cases e : asBl x with
  | none => simp only [e] at h1; exact h1.elim
  | some k =>
    simp only [e] at h1
    refine ⟨k, asBl_ok r1 e, ?_⟩
    cases k with
    | false => exact ⟨ρ1, S1, sl, st1, rp1, h1⟩
    | true => exact PostR.ok (v := V.bl true) h1 rp1 (.bl true)
theorem ed_not (ha : ED X W a ma) : ED X W (.UnaryOp .Not a pos) (mNotV ma) := by
  refine pe_weak (pe_not ha) fun σ H Q h => ?_
  obtain ⟨ρ, S, sl, st, rp, h⟩ := h
  refine ⟨ρ, S, sl, st, rp, PostR.bind h fun x st1 ρ1 S1 H1 v E1 rp1 r1 h1 => ?_⟩
  cases e : asBl x with
  | none => simp only [e] at h1; exact h1.elim
  | some k =>
    simp only [e] at h1
    exact ⟨k, asBl_ok r1 e, PostR.ok (v := V.bl (!k)) h1 rp1 (.bl _)⟩
end
/-! ### arguments, displays -/
def mNil : MA := fun _ st => .ok [] st
def mCons (m : ME) (r : MA) : MA := fun sl st => (m sl st).bind fun x st1 => (r sl st1).bind fun xs st2 => .ok (x :: xs) st2
def mLst (c : Bool) (ma : MA) : ME := fun sl st => (ma sl st).bind fun xs st1 => if xs.length ≤ sizeLine then (let p := mkL c xs st1; .ok p.1 p.2) else .stuck
def mTup (ma : MA) : ME := fun sl st => (ma sl st).bind fun xs st1 => if xs.length ≤ sizeLine then .ok (.tup xs) st1 else .stuck
def mCallN (f : OpN) (ma : MA) : ME := fun sl st => (ma sl st).bind fun xs st1 => Rs.of (f xs st1)
def mMeth (f : Va → OpN) (mo : ME) (ma : MA) : ME := fun sl st => (mo sl st).bind fun x st1 => (ma sl st1).bind fun xs st2 => Rs.of (f x xs st2)
section
variable {X : Cx} {W : WX} {e : Expr} {es : List Expr} {m : ME} {ma : MA} {pos : Pos}
theorem ea_nil : EA X W [] mNil := by
  refine pa_weak pa_nil fun σ H Q h => ?_
  obtain ⟨ρ, S, sl, st, rp, h⟩ := h
  exact PostR.ok (v := ([] : List V)) h rp .nil
theorem ea_cons (h1 : ED X W e m) (h2 : EA X W es ma) (hs : starEach (e :: es) X.env = (false, eval e X.env) :: starEach es X.env := by rfl) : EA X W (e :: es) (mCons m ma) := by
  refine pa_weak (pa_cons h1 h2 hs) fun σ H Q h => ?_
  obtain ⟨ρ, S, sl, st, rp, h⟩ := h
  refine ⟨ρ, S, sl, st, rp, PostR.bind h fun x st1 ρ1 S1 H1 v E1 rp1 r1 h1 => ?_⟩
  refine ⟨ρ1, S1, sl, st1, rp1, PostR.bind h1 fun xs st2 ρ2 S2 H2 vs E2 rp2 r2 h2 => ?_⟩
  exact PostR.ok (v := v :: vs) h2 rp2 (.cons (r1.mono E2) r2)
theorem ed_lst (c : Bool) (h : EA X W es ma) : ED X W (.List es pos) (mLst c ma) := by
  refine pe_weak (pe_lst h) fun σ H Q h => ?_
  obtain ⟨ρ, S, sl, st, rp, h⟩ := h
  refine ⟨ρ, S, sl, st, rp, PostR.bind h fun xs st1 ρ1 S1 H1 vs E1 rp1 r1 h1 => ?_⟩
  by_cases hl : xs.length ≤ sizeLine
  · simp only [hl, if_true] at h1
    refine ⟨by rw [r1.1]; exact hl, fun p hp => ?_⟩
    exact EndO.mk (st := st1) (c := c) (xs := xs) (EndO.of_post (r := some (mkL c xs st1)) rp1 h1) rp1.rep rfl r1 p hp
  · simp only [hl, if_false] at h1
    exact h1.elim
theorem ed_tup {x1} (h : EA X W es ma) : ED X W (.Tuple es x1 pos) (mTup ma) := by
  refine pe_weak (pe_tup h) fun σ H Q h => ?_
  obtain ⟨ρ, S, sl, st, rp, h⟩ := h
  refine ⟨ρ, S, sl, st, rp, PostR.bind h fun xs st1 ρ1 S1 H1 vs E1 rp1 r1 h1 => ?_⟩
  by_cases hl : xs.length ≤ sizeLine
  · simp only [hl, if_true] at h1
    refine ⟨by rw [r1.1]; exact hl, fun p hp => ?_⟩
    exact EndO.tup (st := st1) (xs := xs) (EndO.of_post (r := some (.tup xs, st1)) rp1 h1) rp1.rep rfl r1 p hp
  · simp only [hl, if_false] at h1
    exact h1.elim
theorem callN_w {f : OpN} {σ : L2.St} {H : Hp} {Q : VK} (h : tD (gc X) W (mCallN f ma) σ H Q) : tCB (rDN (gc X) f) (tDa (gc X) W ma) σ H Q := by
  obtain ⟨ρ, S, sl, st, rp, h⟩ := h
  refine ⟨ρ, S, sl, st, rp, PostR.bind h fun xs st1 ρ1 S1 H1 vs E1 rp1 r1 h1 => ?_⟩
  exact ⟨ρ1, S1, st1, xs, rp1.rep, r1, .of_post rp1 h1⟩
theorem ed_callB {f : OpN} {id : String} {x : Str} {p : Pos} (hc : CallR X (.builtin id) (rDN (gc X) f)) (hg : Gl X x) (hm : X.mg x = none) (hv : bootBuiltins x = some (.builtin id)) (ha : EA X W (e :: es) ma) (hn : x ≠ "__name__" := by decide) (hdb : (x == ("__debug__" : Str)) = false := by decide)
    (he : starEach (e :: es) X.env = (false, eval e X.env) :: starEach es X.env := by rfl) (hpl : (backTo pos (starEach es X.env)).any (·.1) = false := by rfl) : ED X W (.Call (.Name x p) (e :: es) [] pos) (mCallN f ma) :=
  pe_weak (pe_callB hc hg hm hv ha hn hdb he hpl) fun σ H Q h => callN_w h
theorem ed_callTy {f : OpN} {T : String} {x : Str} {p : Pos} (hc : CallR X (.type T) (rDN (gc X) f)) (hg : Gl X x) (hm : X.mg x = none) (hv : bootBuiltins x = some (.type T)) (ha : EA X W (e :: es) ma) (hn : x ≠ "__name__" := by decide) (hdb : (x == ("__debug__" : Str)) = false := by decide)
    (he : starEach (e :: es) X.env = (false, eval e X.env) :: starEach es X.env := by rfl) (hpl : (backTo pos (starEach es X.env)).any (·.1) = false := by rfl) : ED X W (.Call (.Name x p) (e :: es) [] pos) (mCallN f ma) :=
  pe_weak (pe_callTy hc hg hm hv ha hn hdb he hpl) fun σ H Q h => callN_w h
end
end SM
set_option Elab.async false
set_option linter.all false
set_option maxRecDepth 100000
set_option maxHeartbeats 4000000
/-! SM3: statements, loops, defs and their calls. -/
namespace SM
open PySem PySem.Spec PyProof.Rows L2

inductive Fl where
  | nx | rt (x : Va) | bk | ct
inductive RsS where
  | ok (fl : Fl) (sl : Slo) (st : Sto)
  | err (x : Exn) (sl : Slo) (st : Sto)
  | stuck
abbrev MS := Slo → Sto → RsS
def FlD (G : Gc) (D : Ends) (fl : Fl) (ρ : List Addr) (S : Addr → Prop) (σ : L2.St) (H : Hp) : Prop := match fl with
  | .nx => D.nx σ H
  | .rt x => ∀ v, Vr G ρ S H v x → D.rt v H
  | .bk => D.bk σ H
  | .ct => D.ct σ H
def PostS (G : Gc) (W : WX) (ρ : List Addr) (S : Addr → Prop) (H : Hp) (r : RsS) (D : Ends) : Prop := match r with
  | .ok fl sl' st' => ∀ ρ' S' σ' H', Ext ρ S H ρ' S' H' → Rp G ρ' S' sl' st' σ' H' → FlD G D fl ρ' S' σ' H'
  | .err e sl' st' => ∀ ρ' S' σ' H' cls d, Ext ρ S H ρ' S' H' → Rp G ρ' S' sl' st' σ' H' → ExR G ρ' S' H' cls d e → W cls d σ' H'
  | .stuck => False
def eS {α : Type} (r : Rs α) (sl : Slo) (k : α → Sto → RsS) : RsS := match r with
  | .ok x st' => k x st'
  | .err e st' => .err e sl st'
  | .stuck => .stuck
def RsS.seq (r : RsS) (k : Slo → Sto → RsS) : RsS := match r with
  | .ok .nx sl st => k sl st
  | r => r
section
variable {α β : Type} {G : Gc} {W : WX} {rel : Rel α β} {ρ ρ1 : List Addr} {S S1 : Addr → Prop} {H H1 : Hp} {sl : Slo} {st : Sto} {σ : L2.St} {D : Ends}
theorem PostS.shift {r : RsS} (E : Ext ρ S H ρ1 S1 H1) (h : PostS G W ρ S H r D) : PostS G W ρ1 S1 H1 r D := by
  cases r with
  | ok x sl st => exact fun ρ' S' σ' H' e => h ρ' S' σ' H' (E.trans e)
  | err x sl st => exact fun ρ' S' σ' H' cls d e => h ρ' S' σ' H' cls d (E.trans e)
  | stuck => exact h
theorem PostS.bindE {r : Rs α} {k : α → Sto → RsS} {Q1 : β → Hp → Prop} (h : PostS G W ρ S H (eS r sl k) D)
    (c : ∀ x st1 ρ1 S1 H1 v, Ext ρ S H ρ1 S1 H1 → Rp G ρ1 S1 sl st1 σ H1 → rel ρ1 S1 H1 v x → PostS G W ρ1 S1 H1 (k x st1) D → Q1 v H1) : PostR G W rel ρ S H sl σ r Q1 := by
  cases r with
  | ok x st => exact fun ρ' S' H' v e rp rv => c x st ρ' S' H' v e rp rv (PostS.shift e h)
  | err x st => exact fun ρ' S' H' cls d => h ρ' S' σ H' cls d
  | stuck => exact h
theorem PostS.ok {fl : Fl} (h : PostS G W ρ S H (.ok fl sl st) D) (rp : Rp G ρ S sl st σ H) : FlD G D fl ρ S σ H := h ρ S σ H .refl rp
theorem PostS.seq {r : RsS} {k : Slo → Sto → RsS} {Nx : L2.St → Hp → Prop} (h : PostS G W ρ S H (r.seq k) D)
    (c : ∀ sl1 st1 ρ1 S1 σ1 H1, Ext ρ S H ρ1 S1 H1 → Rp G ρ1 S1 sl1 st1 σ1 H1 → PostS G W ρ1 S1 H1 (k sl1 st1) D → Nx σ1 H1) : PostS G W ρ S H r { D with nx := Nx } := by
  cases r with
  | ok fl sl st =>
    cases fl with
    | nx => exact fun ρ' S' σ' H' e rp => c sl st ρ' S' σ' H' e rp (PostS.shift e h)
    | rt x => exact h
    | bk => exact h
    | ct => exact h
  | err x sl st => exact h
  | stuck => exact h
end
def tDs (G : Gc) (W : WX) (m : MS) : TS := fun D σ H => ∃ ρ S sl st, Rp G ρ S sl st σ H ∧ PostS G W ρ S H (m sl st) D
abbrev SD (X : Cx) (W : WX) (s : Stmt) (m : MS) : Prop := PS X s (tDs (gc X) W m)
abbrev SDs (X : Cx) (W : WX) (s : List Stmt) (m : MS) : Prop := PSs X s (tDs (gc X) W m)

/-! ### blocks and small statements -/
def sNop : MS := fun sl st => .ok .nx sl st
def sSeq (a b : MS) : MS := fun sl st => (a sl st).seq b
def sBrk : MS := fun sl st => .ok .bk sl st
def sCnt : MS := fun sl st => .ok .ct sl st
def sStk : MS := fun _ _ => .stuck
def sExp (m : ME) : MS := fun sl st => eS (m sl st) sl fun _ st1 => .ok .nx sl st1
def sRet (m : ME) : MS := fun sl st => eS (m sl st) sl fun x st1 => .ok (.rt x) sl st1
def sIf (c : MB) (a b : MS) : MS := fun sl st => eS (c sl st) sl fun k st1 => if k then a sl st1 else b sl st1
def sAsg (i : Nat) (m : ME) : MS := fun sl st => eS (m sl st) sl fun x st1 => .ok .nx (sl.set i (some x)) st1
section
variable {X : Cx} {W : WX} {s : Stmt} {rest : List Stmt} {a b : MS} {e : Expr} {m : ME} {pos : Pos}
theorem sds_nil : SDs X W [] sNop := by
  refine pss_weak pss_nil fun D σ H h => ?_
  obtain ⟨ρ, S, sl, st, rp, h⟩ := h
  exact h.ok rp
theorem sds_one (h : SD X W s a) : SDs X W [s] a := pss_one h
theorem sds_cons (h1 : SD X W s a) (h2 : SDs X W rest b) : SDs X W (s :: rest) (sSeq a b) := by
  refine pss_weak (pss_cons h1 h2) fun D σ H h => ?_
  obtain ⟨ρ, S, sl, st, rp, h⟩ := h
  exact ⟨ρ, S, sl, st, rp, h.seq fun sl1 st1 ρ1 S1 σ1 H1 E1 rp1 h1 => ⟨ρ1, S1, sl1, st1, rp1, h1⟩⟩
theorem sd_pass : SD X W (.Pass pos) sNop := by
  refine ps_weak ps_pass fun D σ H h => ?_
  obtain ⟨ρ, S, sl, st, rp, h⟩ := h
  exact h.ok rp
theorem sd_break : SD X W (.Break pos) sBrk := by
  refine ps_weak ps_break fun D σ H h => ?_
  obtain ⟨ρ, S, sl, st, rp, h⟩ := h
  exact h.ok rp
theorem sd_continue : SD X W (.Continue pos) sCnt := by
  refine ps_weak ps_continue fun D σ H h => ?_
  obtain ⟨ρ, S, sl, st, rp, h⟩ := h
  exact h.ok rp
/-- never reached -/
theorem sd_stuck : SD X W s sStk := by
  refine ps_weak ps_never fun D σ H h => ?_
  obtain ⟨ρ, S, sl, st, rp, h⟩ := h
  exact h
theorem sds_stuck : SDs X W rest sStk := by
  refine pss_weak pss_never fun D σ H h => ?_
  obtain ⟨ρ, S, sl, st, rp, h⟩ := h
  exact h
theorem sd_expr (h : ED X W e m) (hs : swapsWith e none pos.line X.env = pure false := by rfl) : SD X W (.Expr e pos) (sExp m) := by
  refine ps_weak (ps_expr h hs) fun D σ H h => ?_
  obtain ⟨ρ, S, sl, st, rp, h⟩ := h
  exact ⟨ρ, S, sl, st, rp, h.bindE fun x st1 ρ1 S1 H1 v E1 rp1 r1 h1 => h1.ok rp1⟩
theorem sd_ret (h : ED X W e m) : SD X W (.Return (some e) pos) (sRet m) := by
  refine ps_weak (ps_ret h) fun D σ H h => ?_
  obtain ⟨ρ, S, sl, st, rp, h⟩ := h
  exact ⟨ρ, S, sl, st, rp, h.bindE fun x st1 ρ1 S1 H1 v E1 rp1 r1 h1 => h1.ok rp1 v r1⟩
theorem sd_retN : SD X W (.Return none pos) (sRet (mC .non)) := by
  refine ps_weak ps_retN fun D σ H h => ?_
  obtain ⟨ρ, S, sl, st, rp, h⟩ := h
  exact h ρ S σ H .refl rp .non .non
theorem sd_if {c : Expr} {k : MB} {sa sb : List Stmt} (hc : EB X W c k) (ha : SDs X W sa a) (hb : SDs X W sb b) : SD X W (.If c sa sb pos) (sIf k a b) := by
  refine ps_weak (ps_if hc ha hb) fun D σ H h => ?_
  obtain ⟨ρ, S, sl, st, rp, h⟩ := h
  refine ⟨ρ, S, sl, st, rp, h.bindE fun x st1 ρ1 S1 H1 v E1 rp1 r1 h1 => ?_⟩
  obtain rfl : v = x := r1
  cases v with
  | true => exact ⟨ρ1, S1, sl, st1, rp1, h1⟩
  | false => exact ⟨ρ1, S1, sl, st1, rp1, h1⟩
end

/-! ### targets -/
abbrev MG := Va → Slo → Sto → Option (Slo × Sto)
abbrev MGs := List Va → Slo → Sto → Option (Slo × Sto)
def PostG (G : Gc) (ρ : List Addr) (S : Addr → Prop) (H : Hp) (r : Option (Slo × Sto)) (Q : L2.St → Hp → Prop) : Prop :=
  ∃ sl' st', r = some (sl', st') ∧ ∀ ρ' S' σ' H', Ext ρ S H ρ' S' H' → Rp G ρ' S' sl' st' σ' H' → Q σ' H'
def tDg (G : Gc) (m : MG) : TG := fun v σ H Q => ∃ ρ S sl st x, Rp G ρ S sl st σ H ∧ Vr G ρ S H v x ∧ PostG G ρ S H (m x sl st) Q
def tDgs (G : Gc) (m : MGs) : TGs := fun vs σ H Q => ∃ ρ S sl st xs, Rp G ρ S sl st σ H ∧ Vrs G ρ S H vs xs ∧ PostG G ρ S H (m xs sl st) Q
abbrev GD (X : Cx) (e : Expr) (m : MG) : Prop := PG X e (tDg (gc X) m)
abbrev GDs (X : Cx) (es : List Expr) (m : MGs) : Prop := PGs X es (tDgs (gc X) m)
theorem pg_weak {X : Cx} {e : Expr} {t t' : TG} (h : PG X e t) (w : ∀ v σ H Q, t' v σ H Q → t v σ H Q) : PG X e t' := ⟨fun pins s σ H v u Q I r q => h.run pins s σ H v u Q I r (w v σ H Q q)⟩
theorem pgs_weak {X : Cx} {e : List Expr} {t t' : TGs} (h : PGs X e t) (w : ∀ v σ H Q, t' v σ H Q → t v σ H Q) : PGs X e t' := ⟨fun pins s σ H v u Q I r q => h.run pins s σ H v u Q I r (w v σ H Q q)⟩
def gN (i : Nat) : MG := fun x sl st => some (sl.set i (some x), st)
def gNl : MGs := fun xs sl st => if xs.isEmpty then some (sl, st) else none
def gCs (g : MG) (r : MGs) : MGs := fun xs sl st => match xs with
  | [] => none
  | x :: xs => (g x sl st).bind fun p => r xs p.1 p.2
def gT (n : Nat) (g : MGs) : MG := fun x sl st => match lookT x with
  | some xs => if xs.length = n then g xs sl st else none
  | none => none
theorem Rp.set {G : Gc} {ρ : List Addr} {S : Addr → Prop} {H : Hp} {sl : Slo} {st : Sto} {σ : L2.St} {v : V} {x : Va} (rp : Rp G ρ S sl st σ H) (i : Nat) (r : Vr G ρ S H v x) : Rp G ρ S (sl.set i (some x)) st (σ.set i (some v)) H := by
  refine ⟨rp.rep, by rw [List.length_set, List.length_set]; exact rp.len, fun j y h => ?_⟩
  rw [List.getElem?_set] at h
  rw [List.getElem?_set]
  by_cases e : i = j
  · subst e
    rw [if_pos rfl] at h ⊢
    split at h
    · rename_i hl
      cases h
      rw [if_pos (by rw [← rp.len]; exact hl)]
      exact ⟨v, rfl, r⟩
    · cases h
  · rw [if_neg e] at h ⊢
    exact rp.slot j y h
section
variable {X : Cx} {W : WX} {pos : Pos}
theorem gd_name (i : Nat) {x : Str} (hN : X.N.Nodup) (hi : X.N[i]? = some x := by rfl) (hx : Loc X.env.scope x := by first | exact Or.inl rfl | exact Or.inr rfl)
    (hf : X.fn x = true ∨ X.env.scope.names.lookup x = some .local := by first | exact .inl rfl | exact .inr rfl) : GD X (.Name x pos) (gN i) := by
  refine pg_weak (pg_name hN hi hx hf) fun v σ H Q h => ?_
  obtain ⟨ρ, S, sl, st, x, rp, rv, sl', st', e, h⟩ := h
  cases e
  exact h ρ S _ H .refl (rp.set i rv)
theorem gds_nil : GDs X [] gNl := by
  refine pgs_weak pgs_nil fun vs σ H Q h => ?_
  obtain ⟨ρ, S, sl, st, xs, rp, rv, sl', st', e, h⟩ := h
  unfold gNl at e
  cases xs with
  | nil => cases e; exact ⟨rv.nil_r, h ρ S σ H .refl rp⟩
  | cons _ _ => cases e
theorem gds_cons {e : Expr} {es : List Expr} {g : MG} {r : MGs} (h1 : GD X e g) (h2 : GDs X es r) (hs : (assignEach (e :: es) X.env).map (·.2) = assign e X.env :: (assignEach es X.env).map (·.2) := by rfl) : GDs X (e :: es) (gCs g r) := by
  refine pgs_weak (pgs_cons h1 h2 hs) fun vs σ H Q h => ?_
  obtain ⟨ρ, S, sl, st, xs, rp, rv, sl', st', e, h⟩ := h
  cases xs with
  | nil => cases e
  | cons x xs =>
    obtain ⟨v, ws, rfl, r1, r2⟩ := rv.cons_r
    have e : ((g x sl st).bind fun p => r xs p.1 p.2) = some (sl', st') := e
    cases e1 : g x sl st with
    | none => rw [e1] at e; cases e
    | some p =>
      rw [e1] at e
      refine ⟨v, ws, rfl, ρ, S, sl, st, x, rp, r1, p.1, p.2, e1, fun ρ1 S1 σ1 H1 E1 rp1 => ?_⟩
      exact ⟨ρ1, S1, p.1, p.2, xs, rp1, r2.mono E1, sl', st', e, fun ρ2 S2 σ2 H2 E2 rp2 => h ρ2 S2 σ2 H2 (E1.trans E2) rp2⟩
theorem gd_tup {es : List Expr} {k n : Nat} {g : MGs} (hc : X.calm = true) (h : GDs X es g) (hn : (assignEach es X.env).length = n := by rfl) (hst : (assignEach es X.env).findIdx? (·.1) = none := by rfl) : GD X (.Tuple es k pos) (gT n g) := by
  refine pg_weak (pg_tup hc h hn hst) fun v σ H Q h => ?_
  obtain ⟨ρ, S, sl, st, x, rp, rv, sl', st', e, h⟩ := h
  unfold gT at e
  cases e1 : lookT x with
  | none => rw [e1] at e; cases e
  | some xs =>
    rw [e1] at e
    by_cases hl : xs.length = n
    · simp only [hl, if_true] at e
      obtain ⟨a, vs, h1, h2, h3⟩ := lookT_ok rv e1
      exact ⟨a, vs, h1, h2, by rw [h3.1, hl], ρ, S, sl, st, xs, rp, h3, sl', st', e, h⟩
    · simp only [hl, if_false] at e
      cases e
theorem sd_set (i : Nat) {x : Str} {e : Expr} {m : ME} {pos' : Pos} (hN : X.N.Nodup) (he : ED X W e m) (hi : X.N[i]? = some x := by rfl) (hx : Loc X.env.scope x := by first | exact Or.inl rfl | exact Or.inr rfl)
    (hs : swapsWith e (some (.Name x pos')) pos.line X.env = pure false := by rfl) (hf : X.fn x = true ∨ X.env.scope.names.lookup x = some .local := by first | exact .inl rfl | exact .inr rfl) :
    SD X W (.Assign [.Name x pos'] e pos) (sAsg i m) := by
  refine ps_weak (ps_set hN hi hx he hs hf) fun D σ H h => ?_
  obtain ⟨ρ, S, sl, st, rp, h⟩ := h
  refine ⟨ρ, S, sl, st, rp, h.bindE fun x st1 ρ1 S1 H1 v E1 rp1 r1 h1 => ?_⟩
  exact h1 ρ1 S1 _ H1 .refl (rp1.set i r1)
/-- any other target -/
def sAsgG (g : MG) (m : ME) : MS := fun sl st => eS (m sl st) sl fun x st1 => match g x sl st1 with
  | some p => .ok .nx p.1 p.2
  | none => .stuck
theorem sd_asg {tg e : Expr} {g : MG} {m : ME} (he : ED X W e m) (hg : GD X tg g) (hs : swapsWithSole [tg] e pos.line X.env = pure false := by rfl) (hw : swappedStores [tg] e X.env = pure none := by rfl)
    (h1 : (assignEach [tg] X.env).map (·.2) = [assign tg X.env] := by rfl) : SD X W (.Assign [tg] e pos) (sAsgG g m) := by
  refine ps_weak (ps_asg he hg hs hw h1) fun D σ H h => ?_
  obtain ⟨ρ, S, sl, st, rp, h⟩ := h
  refine ⟨ρ, S, sl, st, rp, h.bindE fun x st1 ρ1 S1 H1 v E1 rp1 r1 h1 => ?_⟩
  cases e1 : g x sl st1 with
  | none => simp only [e1] at h1; exact h1.elim
  | some p =>
    simp only [e1] at h1
    exact ⟨ρ1, S1, sl, st1, x, rp1, r1, p.1, p.2, e1, fun ρ2 S2 σ2 H2 E2 rp2 => h1 ρ2 S2 σ2 H2 E2 rp2⟩
def sPar (i j : Nat) (ma : MA) : MS := fun sl st => eS (ma sl st) sl fun xs st1 => match xs with
  | [x, y] => .ok .nx ((sl.set i (some x)).set j (some y)) st1
  | _ => .stuck
theorem sd_par (i j : Nat) {x y : Str} {a b : Expr} {ma : MA} {px py pt : Pos} {kt k2 pt2} (hc : X.calm = true) (hN : X.N.Nodup) (ha : EA X W [a, b] ma) (hi : X.N[i]? = some x := by rfl) (hj : X.N[j]? = some y := by rfl) (hij : i ≠ j := by decide)
    (hx : X.env.scope.names.lookup x = some .local := by rfl) (hy : X.env.scope.names.lookup y = some .local := by rfl)
    (hw : swappedStores [.Tuple [.Name x px, .Name y py] kt pt] (.Tuple [a, b] k2 pt2) X.env = pure (some [x, y]) := by rfl)
    (hs : swapsWithSole [.Tuple [.Name x px, .Name y py] kt pt] (.Tuple [a, b] k2 pt2) pos.line X.env = pure false := by rfl) :
    SD X W (.Assign [.Tuple [.Name x px, .Name y py] kt pt] (.Tuple [a, b] k2 pt2) pos) (sPar i j ma) := by
  refine ps_weak (ps_par hc hN hi hj hij hx hy ha hw hs) fun D σ H h => ?_
  obtain ⟨ρ, S, sl, st, rp, h⟩ := h
  refine ⟨ρ, S, sl, st, rp, h.bindE fun xs st1 ρ1 S1 H1 vs E1 rp1 r1 h1 => ?_⟩
  match xs, h1 with
  | [x, y], h1 =>
    obtain ⟨v, ws, rfl, q1, q2⟩ := Vrs.cons_r r1
    obtain ⟨u, ws', rfl, q3, q4⟩ := Vrs.cons_r q2
    obtain rfl := q4.nil_r
    exact ⟨v, u, rfl, h1 ρ1 S1 _ H1 .refl ((rp1.set i q1).set j q3)⟩
  | [], h1 => exact h1.elim
  | [_], h1 => exact h1.elim
  | _ :: _ :: _ :: _, h1 => exact h1.elim
/-- x op= e -/
def sAug (f : Op2) (i : Nat) (m : ME) : MS := fun sl st => match sl[i]? with
  | some (some x) => eS (m sl st) sl fun y st1 => match f x y st1 with
    | some p => .ok .nx (sl.set i (some p.1)) p.2
    | none => .stuck
  | _ => .stuck
theorem sd_aug (i : Nat) {x : Str} {e : Expr} {m : ME} {op : Operator} {f : Op2} {pos' : Pos} (hN : X.N.Nodup) (ho : PIp X op (rD2 (gc X) f)) (he : ED X W e m) (hi : X.N[i]? = some x := by rfl) (hx : Loc X.env.scope x := by first | exact Or.inl rfl | exact Or.inr rfl)
    (hf : X.fn x = true ∨ X.env.scope.names.lookup x = some .local := by first | exact .inl rfl | exact .inr rfl) : SD X W (.AugAssign (.Name x pos') op e pos) (sAug f i m) := by
  refine ps_weak (ps_aug hN hi hx he ho hf) fun D σ H h => ?_
  obtain ⟨ρ, S, sl, st, rp, h⟩ := h
  unfold sAug at h
  cases e1 : sl[i]? with
  | none => simp only [e1] at h; exact h.elim
  | some o =>
    cases o with
    | none => simp only [e1] at h; exact h.elim
    | some y =>
      simp only [e1] at h
      obtain ⟨v, h1, r1⟩ := rp.slot i y e1
      refine ⟨v, h1, ρ, S, sl, st, rp, h.bindE fun z st1 ρ1 S1 H1 u E1 rp1 r2 h2 => ?_⟩
      cases e2 : f y z st1 with
      | none => simp only [e2] at h2; exact h2.elim
      | some p =>
        simp only [e2] at h2
        refine ⟨ρ1, S1, st1, y, z, rp1.rep, r1.mono E1, r2, p.1, p.2, e2, fun ρ2 S2 H2 w E2 R2 r3 => ?_⟩
        exact h2 ρ2 S2 _ H2 E2 ((rp1.mono E2 R2).set i r3)
end

/-! ### while -/
def whileL (c : MB) (b : MS) : Nat → Slo → Sto → RsS
  | 0, _, _ => .stuck
  | n + 1, sl, st => eS (c sl st) sl fun k st1 => if k then (match b sl st1 with
      | .ok .nx sl2 st2 => whileL c b n sl2 st2
      | .ok .ct sl2 st2 => whileL c b n sl2 st2
      | .ok .bk sl2 st2 => .ok .nx sl2 st2
      | r => r) else .ok .nx sl st1
def fuel : Nat := 1000000
def sWhile (c : MB) (b : MS) : MS := fun sl st => whileL c b fuel sl st
section
variable {X : Cx} {W : WX} {pos : Pos}
theorem while_w {c : MB} {b : MS} {D : Ends} {σ : L2.St} {H : Hp} (h : tDs (gc X) W (sWhile c b) D σ H) : tWhile (tDb (gc X) W c) (tDs (gc X) W b) D σ H := by
  obtain ⟨ρ, S, sl, st, rp, h⟩ := h
  refine ⟨fun m σ H => ∃ ρ S sl st, Rp (gc X) ρ S sl st σ H ∧ PostS (gc X) W ρ S H (whileL c b m sl st) D, ⟨fuel, ρ, S, sl, st, rp, h⟩, ?_⟩
  rintro m σ H ⟨ρ, S, sl, st, rp, h⟩
  cases m with
  | zero => exact h.elim
  | succ m =>
    refine ⟨ρ, S, sl, st, rp, PostS.bindE (rel := relB) h fun x st1 ρ1 S1 H1 v E1 rp1 r1 h1 => ?_⟩
    obtain rfl : v = x := r1
    cases v with
    | false => exact PostS.ok (fl := .nx) h1 rp1
    | true =>
      simp only [if_true] at h1 ⊢
      refine ⟨fun σ' H' => ∃ ρ S sl st, Rp (gc X) ρ S sl st σ' H' ∧ PostS (gc X) W ρ S H' (whileL c b m sl st) D, fun σ' H' q => ⟨m, Nat.lt_succ_self m, q⟩, ρ1, S1, sl, st1, rp1, ?_⟩
      cases e : b sl st1 with
      | stuck => rw [e] at h1; exact h1
      | err x sl2 st2 => rw [e] at h1; exact h1
      | ok fl sl2 st2 =>
        rw [e] at h1
        cases fl with
        | nx => exact fun ρ' S' σ' H' E rp' => ⟨ρ', S', sl2, st2, rp', PostS.shift E h1⟩
        | ct => exact fun ρ' S' σ' H' E rp' => ⟨ρ', S', sl2, st2, rp', PostS.shift E h1⟩
        | bk => exact fun ρ' S' σ' H' E rp' => h1 ρ' S' σ' H' E rp'
        | rt y => exact h1
theorem sd_while {c : Expr} {k : MB} {body : List Stmt} {b : MS} (hp : PassesOwn (model X.prog X.w) X.A X.env X.xe) (hc : EB X W c k) (hb : SDs X W body b) : SD X W (.While c body [] pos) (sWhile k b) :=
  ps_weak (ps_while hp hc hb) fun D σ H h => while_w h
end

/-! ### for -/
/-- at turn i: yields, ends, or is not told -/
abbrev Gt := Nat → Sto → Option (Option Va)
abbrev MI := Slo → Sto → Rs Gt
abbrev relI (G : Gc) : Rel Gt It := fun ρ S H J get => ∀ ρ' S' st' H' i, Ext0 ρ S H ρ' S' H' → Rep G ρ' S' st' H' → (get i st' = some none → J.stop i H') ∧
  ∀ y, get i st' = some (some y) → J.go i H' ∧ ∀ x H'', J.yld i H' x H'' → ∃ S'', Ext ρ' S' H' ρ' S'' H'' ∧ Rep G ρ' S'' st' H'' ∧ Vr G ρ' S'' H'' x y
def tDi (G : Gc) (W : WX) (m : MI) : TI := fun σ H R => ∃ ρ S sl st, Rp G ρ S sl st σ H ∧ PostR G W (relI G) ρ S H sl σ (m sl st) R
abbrev ID (X : Cx) (W : WX) (tg iter : Expr) (m : MI) : Prop := PI X tg iter (tDi (gc X) W m)
theorem pi_weak {X : Cx} {tg e : Expr} {t t' : TI} (h : PI X tg e t) (w : ∀ σ H R, t' σ H R → t σ H R) : PI X tg e t' := ⟨fun pins s σ H R I q => h.run pins s σ H R I (w σ H R q)⟩
def forL (get : Gt) (g : MG) (b : MS) : Nat → Nat → Slo → Sto → RsS
  | 0, _, _, _ => .stuck
  | n + 1, i, sl, st => match get i st with
    | none => .stuck
    | some none => .ok .nx sl st
    | some (some y) => match g y sl st with
      | none => .stuck
      | some p => match b p.1 p.2 with
        | .ok .nx sl2 st2 => forL get g b n (i + 1) sl2 st2
        | .ok .ct sl2 st2 => forL get g b n (i + 1) sl2 st2
        | .ok .bk sl2 st2 => .ok .nx sl2 st2
        | r => r
def sFor (mi : MI) (g : MG) (b : MS) : MS := fun sl st => eS (mi sl st) sl fun get st1 => forL get g b fuel 0 sl st1
section
variable {X : Cx} {W : WX} {pos : Pos}
theorem sd_for {tg iter : Expr} {mi : MI} {g : MG} {body : List Stmt} {b : MS} (hp : PassesOwn (model X.prog X.w) X.A X.env X.xe) (hc : X.calm = true) (hi : ID X W tg iter mi) (hg : GD X tg g) (hb : SDs X W body b)
    (hs : ∀ x, foldedSetIterable iter X.env x = pure x := by intro _; rfl) : SD X W (.For tg iter body [] pos) (sFor mi g b) := by
  refine ps_weak (ps_for hp hc hi hg hb hs) fun D σ H h => ?_
  obtain ⟨ρ, S, sl, st, rp, h⟩ := h
  refine ⟨ρ, S, sl, st, rp, PostS.bindE (rel := relI (gc X)) h fun get st1 ρ1 S1 H1 J E1 rp1 rJ h1 => ?_⟩
  refine ⟨fun i m σ H => ∃ ρ S sl st, Ext ρ1 S1 H1 ρ S H ∧ Rp (gc X) ρ S sl st σ H ∧ PostS (gc X) W ρ S H (forL get g b m i sl st) D, ⟨fuel, ρ1, S1, sl, st1, .refl, rp1, h1⟩, ?_⟩
  rintro i m σ H ⟨ρ, S, sl, st, E, rp, h⟩
  cases m with
  | zero => exact h.elim
  | succ m =>
    obtain ⟨q1, q2⟩ := rJ ρ S st H i E.e0 rp.rep
    unfold forL at h
    cases e : get i st with
    | none => simp only [e] at h; exact h.elim
    | some o =>
      cases o with
      | none =>
        simp only [e] at h
        exact .inl ⟨q1 e, PostS.ok (fl := .nx) h rp⟩
      | some y =>
        simp only [e] at h
        obtain ⟨go, yl⟩ := q2 y e
        refine .inr ⟨go, fun σ H => ∃ ρ S sl st, Ext ρ1 S1 H1 ρ S H ∧ Rp (gc X) ρ S sl st σ H ∧ PostS (gc X) W ρ S H (forL get g b m (i + 1) sl st) D, fun σ' H' q => ⟨m, Nat.lt_succ_self m, q⟩, fun x H' hy => ?_⟩
        obtain ⟨S2, E2, R2, r2⟩ := yl x H' hy
        cases e2 : g y sl st with
        | none => simp only [e2] at h; exact h.elim
        | some p =>
          simp only [e2] at h
          refine ⟨ρ, S2, sl, st, y, rp.mono E2 R2, r2, p.1, p.2, e2, fun ρ3 S3 σ3 H3 E3 rp3 => ⟨ρ3, S3, p.1, p.2, rp3, ?_⟩⟩
          have E03 := E2.trans E3
          cases e3 : b p.1 p.2 with
          | stuck => rw [e3] at h; exact h
          | err x sl4 st4 => rw [e3] at h; exact PostS.shift (r := .err x sl4 st4) E03 h
          | ok fl sl4 st4 =>
            rw [e3] at h
            cases fl with
            | nx => exact fun ρ' S' σ' H' E' rp' => ⟨ρ', S', sl4, st4, (E.trans E03).trans E', rp', PostS.shift (E03.trans E') h⟩
            | ct => exact fun ρ' S' σ' H' E' rp' => ⟨ρ', S', sl4, st4, (E.trans E03).trans E', rp', PostS.shift (E03.trans E') h⟩
            | bk => exact fun ρ' S' σ' H' E' rp' => h ρ' S' σ' H' (E03.trans E') rp'
            | rt z => exact fun ρ' S' σ' H' E' rp' => h ρ' S' σ' H' (E03.trans E') rp'
end
/-! ### what is walked -/
def getL (x : Va) : Gt := fun i st => (lookL st x).map fun xs => xs[i]?
def getT (xs : List Va) : Gt := fun i _ => some xs[i]?
def getR (lo : Int) (n : Nat) : Gt := fun i _ => if i < n then some (some (.int (lo + i))) else some none
/-- over a list or a tuple -/
def iSq (m : ME) : MI := fun sl st => (m sl st).bind fun x st1 => match lookL st1 x with
  | some _ => .ok (getL x) st1
  | none => .stuck
def iTp (m : ME) : MI := fun sl st => (m sl st).bind fun x st1 => match lookT x with
  | some xs => .ok (getT xs) st1
  | none => .stuck
def asI : Va → Option Int
  | .int i => some i
  | _ => none
def lim62 (i : Int) : Bool := decide (-(2 ^ 62) ≤ i) && decide (i < 2 ^ 62)
def iR1 (ma : MA) : MI := fun sl st => (ma sl st).bind fun xs st1 => match xs with
  | [.int j] => if lim62 j then .ok (getR 0 j.toNat) st1 else .stuck
  | _ => .stuck
def iR2 (ma : MA) : MI := fun sl st => (ma sl st).bind fun xs st1 => match xs with
  | [.int i, .int j] => if lim62 i && lim62 j then .ok (getR i (j - i).toNat) st1 else .stuck
  | _ => .stuck
theorem lim62_ok {i : Int} (h : lim62 i = true) : -(2 ^ 62) ≤ i ∧ i < 2 ^ 62 := by
  obtain ⟨a, b⟩ := Bool.and_eq_true_iff.mp h
  exact ⟨of_decide_eq_true a, of_decide_eq_true b⟩
section
variable {X : Cx} {W : WX} {pos p : Pos} {tg : Expr}
theorem id_list {e : Expr} {m : ME} (h : ED X W e m) : ID X W tg e (iSq m) := by
  refine pi_weak (pi_list h) fun σ H R h => ?_
  obtain ⟨ρ, S, sl, st, rp, h⟩ := h
  refine ⟨ρ, S, sl, st, rp, PostR.bind h fun x st1 ρ1 S1 H1 v E1 rp1 r1 h1 => ?_⟩
  cases e1 : lookL st1 x with
  | none => simp only [e1] at h1; exact h1.elim
  | some xs =>
    simp only [e1] at h1
    obtain ⟨a, vs, rfl, h2, h3⟩ := lookL_ok rp1.rep r1 e1
    refine ⟨a, rfl, ⟨vs, h2⟩, PostR.ok h1 rp1 ?_⟩
    intro ρ' S' st' H' i E' R'
    constructor
    · intro q
      unfold getL at q
      cases e2 : lookL st' x with
      | none => rw [e2] at q; cases q
      | some ys =>
        rw [e2] at q
        obtain ⟨b, ws, hb, q1, q2⟩ := lookL_ok R' (r1.mono0 E') e2
        cases hb
        have hn : ys[i]? = none := Option.some.inj q
        exact ⟨ws, q1, by rw [q2.1]; exact List.getElem?_eq_none_iff.mp hn⟩
    · intro y q
      unfold getL at q
      cases e2 : lookL st' x with
      | none => rw [e2] at q; cases q
      | some ys =>
        rw [e2] at q
        obtain ⟨b, ws, hb, q1, q2⟩ := lookL_ok R' (r1.mono0 E') e2
        cases hb
        have hn : ys[i]? = some y := Option.some.inj q
        obtain ⟨w, hw, rw'⟩ := q2.get hn
        refine ⟨⟨ws, w, q1, hw⟩, fun x' H'' hy => ?_⟩
        obtain ⟨rfl, hy⟩ := hy
        have := hy ws q1
        rw [hw] at this
        cases this
        exact ⟨S', .refl, R', rw'⟩
theorem id_tup {e : Expr} {m : ME} (h : ED X W e m) : ID X W tg e (iTp m) := by
  refine pi_weak (pi_tup h) fun σ H R h => ?_
  obtain ⟨ρ, S, sl, st, rp, h⟩ := h
  refine ⟨ρ, S, sl, st, rp, PostR.bind h fun x st1 ρ1 S1 H1 v E1 rp1 r1 h1 => ?_⟩
  cases e1 : lookT x with
  | none => simp only [e1] at h1; exact h1.elim
  | some xs =>
    simp only [e1] at h1
    obtain ⟨a, vs, rfl, h2, h3⟩ := lookT_ok r1 e1
    refine ⟨a, rfl, ⟨vs, h2⟩, PostR.ok h1 rp1 ?_⟩
    intro ρ' S' st' H' i E' R'
    obtain ⟨b, ws, hb, q1, q2⟩ := lookT_ok (r1.mono0 E') e1
    cases hb
    constructor
    · intro q
      have hn : xs[i]? = none := Option.some.inj q
      exact ⟨ws, q1, by rw [q2.1]; exact List.getElem?_eq_none_iff.mp hn⟩
    · intro y q
      have hn : xs[i]? = some y := Option.some.inj q
      obtain ⟨w, hw, rw'⟩ := q2.get hn
      refine ⟨⟨ws, w, q1, hw⟩, fun x' H'' hy => ?_⟩
      obtain ⟨rfl, hy⟩ := hy
      have := hy ws q1
      rw [hw] at this
      cases this
      exact ⟨S', .refl, R', rw'⟩
theorem relI_range {ρ : List Addr} {S : Addr → Prop} {H : Hp} {lo : Int} {n : Nat} : relI (gc X) ρ S H (Itr lo n) (getR lo n) := by
  intro ρ' S' st' H' i E' R'
  unfold getR
  by_cases hi : i < n
  · rw [if_pos hi]
    refine ⟨fun q => (by cases q), fun y q => ⟨hi, fun x H'' hy => ?_⟩⟩
    cases q
    obtain ⟨rfl, rfl⟩ := hy
    exact ⟨S', .refl, R', .int _⟩
  · rw [if_neg hi]
    exact ⟨fun _ => Nat.le_of_not_lt hi, fun y q => by cases q⟩
theorem id_range1 {a : Expr} {ma : MA} (hg : Gl X "range") (hm : X.mg "range" = none) (ha : EA X W [a] ma) (hs : starEach [a] X.env = [(false, eval a X.env)] := by rfl) : ID X W tg (.Call (.Name "range" p) [a] [] pos) (iR1 ma) := by
  refine pi_weak (pi_range1 hg hm ha hs) fun σ H R h => ?_
  obtain ⟨ρ, S, sl, st, rp, h⟩ := h
  refine ⟨ρ, S, sl, st, rp, PostR.bind h fun xs st1 ρ1 S1 H1 vs E1 rp1 r1 h1 => ?_⟩
  match xs, h1 with
  | [.int j], h1 =>
    obtain ⟨v, ws, rfl, q1, q2⟩ := Vrs.cons_r r1
    obtain rfl := q2.nil_r
    cases q1
    by_cases hl : lim62 j = true
    · simp only [hl, if_true] at h1
      have b := lim62_ok hl
      exact ⟨j, rfl, b.1, b.2, PostR.ok h1 rp1 relI_range⟩
    · simp only [hl] at h1; exact h1.elim
theorem id_range2 {a b : Expr} {ma : MA} (hg : Gl X "range") (hm : X.mg "range" = none) (ha : EA X W [a, b] ma) (hs : starEach [a, b] X.env = [(false, eval a X.env), (false, eval b X.env)] := by rfl) (hs2 : starEach [b] X.env = [(false, eval b X.env)] := by rfl) :
    ID X W tg (.Call (.Name "range" p) [a, b] [] pos) (iR2 ma) := by
  refine pi_weak (pi_range2 hg hm ha hs hs2) fun σ H R h => ?_
  obtain ⟨ρ, S, sl, st, rp, h⟩ := h
  refine ⟨ρ, S, sl, st, rp, PostR.bind h fun xs st1 ρ1 S1 H1 vs E1 rp1 r1 h1 => ?_⟩
  match xs, h1 with
  | [.int i, .int j], h1 =>
    obtain ⟨v, ws, rfl, q1, q2⟩ := Vrs.cons_r r1
    obtain ⟨v', ws', rfl, q3, q4⟩ := Vrs.cons_r q2
    obtain rfl := q4.nil_r
    cases q1
    cases q3
    by_cases hl : (lim62 i && lim62 j) = true
    · simp only [hl, if_true] at h1
      obtain ⟨c1, c2⟩ := Bool.and_eq_true_iff.mp hl
      obtain ⟨b1, b2⟩ := lim62_ok c1
      obtain ⟨b3, b4⟩ := lim62_ok c2
      exact ⟨i, j, rfl, ⟨b1, b2, b3, b4⟩, PostR.ok h1 rp1 relI_range⟩
    · simp only [hl] at h1; exact h1.elim
end

/-! ### defs -/
abbrev MF := List Va → Sto → Rs Va
/-- what a def promises: its mirror's end -/
def spD (G : Gc) (n : Nat) (M : MF) : Sp := fun vs H Q E => ∃ ρ S st xs, xs.length = n ∧ Rep G ρ S st H ∧ Vrs G ρ S H vs xs ∧ match M xs st with
  | .ok x st' => ∀ ρ' S' H' v, Ext ρ S H ρ' S' H' → Rep G ρ' S' st' H' → Vr G ρ' S' H' v x → Q v H'
  | .err e st' => ∀ ρ' S' H' cls d, Ext ρ S H ρ' S' H' → Rep G ρ' S' st' H' → ExR G ρ' S' H' cls d e → E cls d H'
  | .stuck => False
/-- a body: n local names -/
def mBody (n : Nat) (s : MS) : MF := fun xs st => match s (xs.map some ++ List.replicate (n - xs.length) none) st with
  | .ok .nx _ st' => .ok .non st'
  | .ok (.rt x) _ st' => .ok x st'
  | .err e _ st' => .err e st'
  | _ => .stuck
theorem rp_start {G : Gc} {ρ : List Addr} {S : Addr → Prop} {H : Hp} {st : Sto} {vs : List V} {xs : List Va} {N : List Str} (R : Rep G ρ S st H) (r : Vrs G ρ S H vs xs) : Rp G ρ S (xs.map some ++ List.replicate (N.length - xs.length) none) st (L2.start N vs) H := by
  unfold L2.start
  refine ⟨R, by simp [r.1], fun i x h => ?_⟩
  by_cases hi : i < xs.length
  · rw [List.getElem?_append_left (by simpa using hi), List.getElem?_map] at h
    cases e : xs[i]? with
    | none => rw [e] at h; cases h
    | some y =>
      rw [e] at h
      have hy : y = x := by simpa using h
      subst hy
      obtain ⟨v, h1, h2⟩ := r.get e
      refine ⟨v, ?_, h2⟩
      rw [List.getElem?_append_left (by rw [List.length_map, r.1]; exact hi), List.getElem?_map, h1]
      rfl
  · rw [List.getElem?_append_right (by simpa using Nat.le_of_not_lt hi), List.getElem?_replicate] at h
    split at h <;> simp at h
/-- the context facts of a body -/
structure BodyOk (X : Cx) (W : WX) (k : Nat) : Prop where
  hr : Room k X.A
  tk : Takes X W
  pa : PassesOwn (model X.prog X.w) X.A X.env X.xe
  calm : X.calm = true
section
variable {P : Program} {w : World} {K : PySem.W.Frag} {mg : Str → Option Value} {base : Heap}
theorem fn_ok {x qual : Str} {params : Arguments} {body : List Stmt} {scope : Scope} {dvs : List V} {kws : List (Str × V)} {f : Addr} {fd : FuncData} {N ps : List Str} {k : Nat} {s : MS}
    (F : FunD K x qual params body scope dvs kws f fd) (Sc : FnScope N ps scope)
    (hbody : ∀ (cdv : Value) (A : Around) (outer : List Env) (sh : Shared) (H : Hp) (E : XK),
      BodyOk (cxOf (L2.CX P w) P w K mg base N qual scope f cdv A outer sh H E) (fun cls d _ H' => E cls d H') k → SDs (cxOf (L2.CX P w) P w K mg base N qual scope f cdv A outer sh H E) (fun cls d _ H' => E cls d H') body s) :
    FnOk P w K mg base (L2.CX P w) (k + 1) f fd ps (spD ⟨P, w, K⟩ ps.length (mBody N.length s)) := by
  refine F.ok Sc (fun vs H Q E h => ?_) (fun cdv A outer sh H vs Q E hr h => ?_)
  · obtain ⟨ρ, S, st, xs, hl, R, r, _⟩ := h
    rw [r.1, hl]
  · obtain ⟨ρ, S, st, xs, hl, R, r, h⟩ := h
    refine ⟨_, hbody cdv A outer sh H E ⟨hr, takes_of rfl rfl rfl rfl, passes_of rfl, rfl⟩, ρ, S, _, st, rp_start R r, ?_⟩
    unfold mBody at h
    cases e : s (xs.map some ++ List.replicate (N.length - xs.length) none) st with
    | stuck => rw [e] at h; exact h.elim
    | err x sl st' => rw [e] at h; exact fun ρ' S' σ' H' cls d E' rp' ex => h ρ' S' H' cls d E' rp'.rep ex
    | ok fl sl st' =>
      rw [e] at h
      cases fl with
      | nx => exact fun ρ' S' σ' H' E' rp' => h ρ' S' H' .non E' rp'.rep .non
      | rt x => exact fun ρ' S' σ' H' E' rp' v rv => h ρ' S' H' v E' rp'.rep rv
      | bk => exact h.elim
      | ct => exact h.elim
end
/-! ### calls of defs -/
def mCall (M : MF) (ma : MA) : ME := fun sl st => (ma sl st).bind fun xs st1 => M xs st1
section
variable {X : Cx} {W : WX} {k n : Nat} {f : Addr} {fd : FuncData} {ps : List Str} {ds : List Value} {dvs : List V} {dxs : List Va} {M : MF} {x : Str} {p pos : Pos} {e : Expr} {es : List Expr} {ma : MA}
/-- the written arguments, then the defaults -/
theorem ed_call (dxs : List Va) (F : FnOk X.prog X.w X.K X.mg X.base (L2.CX X.prog X.w) k f fd ps (spD (gc X) n M)) (hr : Room k X.A) (tk : Takes X W) (hg : Gl X x) (hm : X.mg x = some (.ref f)) (hk : PySem.W.keepIn X.K (.ref f) = true) (hb : Binds X.K fd ps ds) (hd : Vals dvs ds)
    (hdx : ∀ ρ S H, Vrs (gc X) ρ S H dvs dxs) (ha : EA X W (e :: es) ma) (hn : ∀ sl st xs st', ma sl st = .ok xs st' → (xs ++ dxs).length = n) (hdb : (x == ("__debug__" : Str)) = false := by decide) (he : starEach (e :: es) X.env = (false, eval e X.env) :: starEach es X.env := by rfl)
    (hpl : (backTo pos (starEach es X.env)).any (·.1) = false := by rfl) : ED X W (.Call (.Name x p) (e :: es) [] pos) (mCall (fun xs => M (xs ++ dxs)) ma) := by
  refine pe_weak (pe_callSD (E := fun σ cls d H => W cls d σ H) F hr hg hm hk hb hd (fun σ => passAt tk σ) ha hdb he hpl) fun σ H Q h => ?_
  obtain ⟨ρ, S, sl, st, rp, h⟩ := h
  cases em : ma sl st with
  | stuck => simp only [mCall, em] at h; exact h.elim
  | err y st' =>
    refine ⟨ρ, S, sl, st, rp, ?_⟩
    simp only [mCall, em] at h
    rw [em]
    exact h
  | ok xs st1 =>
    refine ⟨ρ, S, sl, st, rp, ?_⟩
    simp only [mCall, em, Rs.bind_ok] at h
    rw [em]
    intro ρ1 S1 H1 vs E1 rp1 r1
    refine ⟨ρ1, S1, st1, xs ++ dxs, hn _ _ _ _ em, rp1.rep, r1.append (hdx _ _ _), ?_⟩
    cases e2 : M (xs ++ dxs) st1 with
    | stuck => rw [e2] at h; exact h
    | err y st' => rw [e2] at h; exact fun ρ' S' H' cls d E' R' ex => h ρ' S' H' cls d (E1.trans E') (rp1.mono E' R') ex
    | ok y st' => rw [e2] at h; exact fun ρ' S' H' v E' R' rv => h ρ' S' H' v (E1.trans E') (rp1.mono E' R') rv
end
theorem mNil_len {sl st xs st'} (h : mNil sl st = .ok xs st') : xs.length = 0 := by cases h; rfl
theorem mCons_len {m : ME} {r : MA} {n : Nat} (hr : ∀ sl st xs st', r sl st = .ok xs st' → xs.length = n) : ∀ sl st xs st', mCons m r sl st = .ok xs st' → xs.length = n + 1 := by
  intro sl st xs st' h
  unfold mCons at h
  cases e : m sl st with
  | stuck => rw [e] at h; cases h
  | err x s => rw [e] at h; cases h
  | ok x st1 =>
    rw [e, Rs.bind_ok] at h
    cases e2 : r sl st1 with
    | stuck => rw [e2] at h; cases h
    | err x s => rw [e2] at h; cases h
    | ok ys st2 =>
      rw [e2, Rs.bind_ok] at h
      cases h
      rw [List.length_cons, hr _ _ _ _ e2]
end SM
set_option Elab.async false
set_option linter.all false
set_option maxRecDepth 100000
set_option maxHeartbeats 4000000
/-! SMX: exceptions whose __init__ begins by super().__init__(text). -/
namespace SM
open PySem PySem.Spec PyProof.Rows L2 NdefX
open PySem.W (kxs_mw)

section
variable {prog : Program} {w : World} {A : Around} {E : Value → Shared → Prop} {h : Heap} {g : Array GenState} {d : Drawn} {t : Nat} {os : OsState}
variable {nm q : Str} {C N : Addr} {bs bm bmB : List Value} {hdct : Bool} {sn : List Str} {sub : List Value} {ab : Bool} {col : Option Bool} {dd : Option Addr} {k0 k1 k2 k3 k5 : Option Value} {B newId initId : String}
/-- the bound built-in __init__ called -/
theorem call_mw (FB : ExcBaseFacts B newId initId bmB) {u e t0 : Addr} {rest : List Value} {Q : Value → Shared → Prop}
    (hC : h.get? C = some (excClassObj nm q C N bs bm hdct sn sub ab col dd k0 k1 k2 k3 k5 newId)) (he : h.get? e = some (PySem.HandSPX.excO C t0)) (hu : h.get? u = some (kxs_mw initId e)) (hrest : rest.length ≤ sizeLine)
    (hq : ∀ h' t1, (∀ b o, b ≠ e → h.get? b = some o → h'.get? b = some o) → h'.get? e = some (PySem.HandSPX.excO C t1) → Q .none ⟨h', g, d, t, os⟩) :
    wpAny (model prog w) A (call (.ref u) rest) Q E ⟨h, g, d, t, os⟩ := by
  refine wpAny_call (codeAny_of_tree ?_)
  show wpAny _ A.in1 (callAny (.ref u) ⟨rest, []⟩) _ _ _
  simp only [callAny]
  refine wpAny_bind (wpAny_load hu ?_)
  simp only [kxs_mw, show (Value.type "method-wrapper" == Value.type "method" || Value.type "method-wrapper" == Value.type "builtin_function_or_method" || Value.type "method-wrapper" == Value.type "method-wrapper") = true by decide, if_true]
  refine PySem.W.KFB.if_so (by decide) ?_
  refine wpAny_bind (PySem.W.check_bound_init FB.toExcCallFacts hC he rfl ?_)
  refine wpAny_bind (wpAny_pure (wpAny_pure ?_))
  refine ⟨plainId_quiet FB.init.plain _, codeAny_builtin FB.initEntry ?_⟩
  exact PySem.W.exc_init_tree (cls := .ref C) (t0 := t0) (dv := none) (c2 := .none) (c3 := .none) (b4 := .bool false) he hrest fun h' k e' _ => hq h' _ k e'
end

/-- what the written part says of such an __init__: C its class, f the def, c its code, cc the cell of its class -/
structure SupC (P : Program) (K : PySem.W.Frag) (C f c cc : Addr) (qual : Str) : Prop where
  oex : OexC K C
  along : ∃ cd, PySem.W.clsIn K C = some cd ∧ PySem.W.alongIn K "__init__" ((cd.mro.dropWhile (· != .ref C)).drop 1) = some (some (.builtin "ValueError.__init__"))
  sub : PySem.W.subIn K (.ref C) (.type "ValueError") = some true
  self : PySem.W.mroIn K C (.ref C) = some true
  opq : PySem.W.nsIn K cStatics "thirdparty.any" = some none
  code : PySem.W.codeIn K (.ref c) qual = true
  file : ∃ (ccl : Value) (cdd : Option Addr) (vs : Array Value) (ccs : Array (Option Value)) (fl : Str) (tf : Tok), K.lookup c = some ⟨ccl, cdd, .fields vs, ccs⟩ ∧ vs[2]? = some (.str fl tf) ∧ ((P.main.file : Str) == fl) = true
  cell : ∃ (cl : Value) (cld : Option Addr) (csl : Array (Option Value)), K.lookup cc = some ⟨cl, cld, .cell (some (.ref C)), csl⟩
  top : (P.main.scope.names.lookup ("super" : Str)).isSome = false

section
variable {X : Cx} {pins : List (Addr × Obj)} {σ : L2.St} {H : Hp} {s : Shared} {C f c cc a : Addr} {qual : Str} {E : Value → Shared → Prop}
theorem loadVar {i : Nat} {x : Str} {v : V} {Q : Value → Shared → Prop} (I : Inv X pins σ H s) (hN : X.N[i]? = some x) (e : σ[i]? = some (some v)) (hv : Vis X.env.scope x) (h : ∀ u, RelV v u → Q u s)
    (hcd : (x == ("__classdict__" : Str)) = false := by decide) : wpAny (model X.prog X.w) X.A (loadName X.env x) Q E s := by
  obtain ⟨m, hn, hl⟩ := I.loc
  obtain ⟨u, r, l⟩ := hl i x v hN e hv
  have fin := h u r
  rcases l with ⟨hk, hm⟩ | ⟨hk, c, hc, hcell⟩
  · exact wpAny_loadName_local I.ok.kind hk hn hm fin
  · rcases hk with hk | hk
    · exact wpAny_loadName_cell I.ok.kind hk hc hcell fin
    · exact wpAny_loadName_free I.ok.kind hk hc hcell fin hcd
theorem loadSuper {Q : Value → Shared → Prop} (I : Inv X pins σ H s) (hg : Gl X "super") (hm : X.mg "super" = none) (h : Q (.type "super") s) : wpAny (model X.prog X.w) X.A (loadName X.env "super") Q E s := by
  obtain ⟨mb, h1, h2⟩ := I.mod.blt
  exact PySem.W.ks_loadName_global I.ok.kind hg (Calls.loadGlobal_builtin (by rw [I.ok.glob]; exact I.mod.glob.keeps I.bk) hm (by rw [I.ok.blt]; exact h1.keeps I.bk) ((h2 "super" (by decide)).trans PyProof.Rows.Boot.«super») h)
/-- super().__init__(text), the first statement of a def's body -/
theorem sup_first {body : List Stmt} {fd : FuncData} {of : Obj} {ar : Arg} {txt : Str} {kc : Nat} {p0 p1 p2 p3 pos pos' : Pos} {j : Nat} {Q : Flow → Shared → Prop} (T : SupC X.prog X.K C f c cc qual) (I : Inv X pins σ H s)
    (hfu : X.env.func = some f) (hf : X.K.lookup f = some of) (hfd : of.data = .func fd) (hp : (fd.params.posonlyargs ++ fd.params.args).head? = some ar) (hco : X.env.code = .ref c)
    (hg : Gl X "super") (hm : X.mg "super" = none) (hkc : X.env.kindOf "__class__" = some .free)
    (h0 : X.N[0]? = some ar.arg) (hv0 : Vis X.env.scope ar.arg) (hs0 : σ[0]? = some (some (.ref a))) (hcd0 : (ar.arg == ("__classdict__" : Str)) = false) (hj : X.N[j]? = some ("__class__" : Str)) (hsj : σ[j]? = some (some (.ref C)))
    (ha : H a = some (exo a C none)) (h : ∀ s', Inv X pins σ H s' → Q .next s') (hi : interactive X.env = false := by rfl)
    (hs : swapsWith (.Call (.Attribute (.Call (.Name "super" p0) [] [] p1) "__init__" p2) [.Constant (.str txt) kc p3] [] pos) none pos'.line X.env = pure false := by rfl)
    (he : ∃ pl, eval (.Call (.Attribute (.Call (.Name "super" p0) [] [] p1) "__init__" p2) [.Constant (.str txt) kc p3] [] pos) X.env = (do
      let ov ← attributeBase (.Call (.Name "super" p0) [] [] p1) "__init__" X.env (eval (.Call (.Name "super" p0) [] [] p1) X.env)
      standAt p2.atName
      let (f, first) ← holding [ov] (getMethod ov "__init__" pl)
      callWith pos f first (backTo pos (starEach [.Constant (.str txt) kc p3] X.env)) []) := by exact ⟨_, rfl⟩) :
    _root_.PySem.wpAt (model X.prog X.w) X.A (.func body X.env) (exec (.Expr (.Call (.Attribute (.Call (.Name "super" p0) [] [] p1) "__init__" p2) [.Constant (.str txt) kc p3] [] pos) pos') X.env) Q E s := by
  obtain ⟨nm, q, N, bs, bm, sn, sub, ab, col, dd, k0, k1, k2, k3, k5, hC, hbm⟩ := T.oex.cls
  obtain ⟨cd, hcl, hal⟩ := T.along
  obtain ⟨ccl, cdd, vs, ccs, fl, tf, hcc, hvs, hfile⟩ := T.file
  obtain ⟨t0, ho⟩ := exo_at I.hok ha
  obtain ⟨pl, he⟩ := he
  have kin := I.kIn
  refine PySem.ks_wpAt_Expr_any ?_ hi hs
  refine PySem.ks_wpAt_MethodCall ?_ he
  refine PySem.ks_wpAt_super_base (env := X.env) hg hkc (by decide) hfu (kin _ _ hf) hfd hp hco (kin _ _ hcc) rfl hvs hfile T.top ?_
  refine loadSuper I hg hm ⟨rfl, ?_⟩
  refine loadVar I hj hsj (.inr (.inr hkc)) fun u0 r0 => ?_
  obtain rfl : u0 = Value.ref C := r0
  refine loadVar I h0 hs0 hv0 (fun u1 r1 => ?_) hcd0
  obtain rfl : u1 = Value.ref a := r1
  have hCo := kin _ _ hC
  refine PySem.ks_wpAny_isType_cls hCo rfl ⟨rfl, ?_⟩
  obtain ⟨hp0, g0, d0, tk0, os0⟩ := s
  have hne : a ≠ C := fun z => by
    have z1 : hp0.get? a = _ := ho
    have z2 : hp0.get? C = _ := hCo
    rw [z, z2] at z1
    cases z1
  refine PySem.ks_wpAny_call_super hCo rfl ho rfl (fun c z => by cases z) (PySem.W.looks_mroIn kin T.self) fun h1 e1 k1' => ?_
  have I1 : Inv X pins σ H ⟨h1, g0, d0, tk0, os0⟩ := I.kept (t' := tk0) k1'
  have kin1 := I1.kIn
  obtain ⟨t1, ho1⟩ := exo_at I1.hok ha
  have IA : PySem.W.InstAt h1 a _ C none := ⟨ho1, rfl, rfl, trivial⟩
  refine PySem.W.kxs_getMethod PySem.W.kxs_ValueError e1 (PySem.W.looks_opaque kin1 T.opq) (l₀ := cd.mro) (fun A Q E s k q => wpAny_bind ((PySem.W.looks_clsIn kin1 hcl) A _ E s k (wpAny_pure q))) rfl kin1 hal
    (IA.type.andThen (PySem.W.looks_subIn kin1 T.sub)) hne (by decide) ?_
  have k2' : ∀ b o, h1.get? b = some o → (h1.push (kxs_mw "ValueError.__init__" a)).get? b = some o := fun b o e => Heap.get?_push_of_some _ e
  have hu : (h1.push (kxs_mw "ValueError.__init__" a)).get? h1.objs.size = some (kxs_mw "ValueError.__init__" a) := Heap.get?_push_at rfl rfl
  have I2 : Inv X pins σ H ⟨h1.push (kxs_mw "ValueError.__init__" a), g0, d0, tk0 + 1, os0⟩ := I1.kept (t' := tk0 + 1) k2'
  dsimp only
  refine PySem.W.kxs_callWith (i := "ValueError.__init__") (x := a) rfl (Calls.evalArgs_plain ?_)
  refine Calls.spliced_cons (Calls.Constant_str (k := kc) (pos := p3) ?_)
  refine Calls.spliced_nil ⟨hu, ?_⟩
  have I3 := I2.tok (tk0 + 1 + 1)
  obtain ⟨t2, ho2⟩ := exo_at I3.hok ha
  refine call_mw F.excBase_ValueError (I3.kIn _ _ hC) ho2 hu (by rw [sizeLine_eq]; simp) fun h' t3 k e' => ?_
  have J := I3.write (t' := tk0 + 1 + 1) (x := a) (e := a) (o := exo a C none) (by rw [ha]; exact True.intro) (.inl rfl) k ⟨_, e'⟩ (exo_ok e')
  have eu : upd H a (exo a C none) = H := by
    funext b
    by_cases hb : b = a
    · rw [hb, upd_same, ha]
    · rw [upd_ne hb]
  rw [eu] at J
  exact h _ J
end

/-- super().__init__(text) as a statement -/
abbrev supStm (txt : Str) (kc : Nat) (p0 p1 p2 p3 pos pos' : Pos) : Stmt := .Expr (.Call (.Attribute (.Call (.Name "super" p0) [] [] p1) "__init__" p2) [.Constant (.str txt) kc p3] [] pos) pos'
/-- THE RULE: an __init__ whose first statement it is -/
theorem sup_ok {CX : CXT} {P : Program} {w : World} {K : PySem.W.Frag} {mg : Str → Option Value} {base : Heap} {N ps : List Str} {F : NF} {C f cc : Addr} {k : Nat} {sp : Sp} {oc ctv : Value} {od : Option Addr} {osl : Array (Option Value)} {doc pm : Value} {an : Option Addr}
    {ar : Arg} {txt : Str} {kc : Nat} {p0 p1 p2 p3 pos pos' : Pos} {rest : List Stmt} (T : SupC P K C f F.c cc F.qual) (lk : K.lookup f = some ⟨oc, od, .func (PySem.W.fnX F.name F.qual F.params F.body F.scope F.cl .none .none doc pm an (.ref F.c) ctv), osl⟩)
    (hcl : F.cl = [(("__class__" : Str), cc)]) (hbd : F.body = supStm txt kc p0 p1 p2 p3 pos pos' :: rest) (S : NScope N ps ["__class__"] F.scope) (hps : ps[0]? = some ar.arg) (hpar : (F.params.posonlyargs ++ F.params.args).head? = some ar) (hcd0 : (ar.arg == ("__classdict__" : Str)) = false)
    (hg : F.scope.names.lookup ("super" : Str) = some .globalImplicit) (hm : mg "super" = none)
    (len : ∀ vs H Q E, sp vs H Q E → vs.length = ps.length)
    (hbody : ∀ (A : Around) (outer : List Env) (s : Shared) (H : Hp) (vs : List V) (Q : VK) (E : XK), Room k (A.deeper (envF F f s.heap.objs.size)) → sp vs H Q E → ∃ a ys, vs = .ref a :: ys ∧ H a = some (exo a C none) ∧
      ∃ t, PSs (ncx CX P w K mg base N F f A outer s H E) rest t ∧ t { nx := fun _ H' => Q .non H', rt := Q } (startF N vs [some (.ref C)]) H)
    (hi : ∀ L, interactive (envF F f L) = false := by intro _; rfl)
    (hs : ∀ L, swapsWith (.Call (.Attribute (.Call (.Name "super" p0) [] [] p1) "__init__" p2) [.Constant (.str txt) kc p3] [] pos) none pos'.line (envF F f L) = pure false := by intro _; rfl)
    (he : ∀ L, ∃ pl, eval (.Call (.Attribute (.Call (.Name "super" p0) [] [] p1) "__init__" p2) [.Constant (.str txt) kc p3] [] pos) (envF F f L) = (do
      let ov ← attributeBase (.Call (.Name "super" p0) [] [] p1) "__init__" (envF F f L) (eval (.Call (.Name "super" p0) [] [] p1) (envF F f L))
      standAt p2.atName
      let (g, first) ← holding [ov] (getMethod ov "__init__" pl)
      callWith pos g first (backTo pos (starEach [.Constant (.str txt) kc p3] (envF F f L))) []) := by intro _; exact ⟨_, rfl⟩) :
    FnOk P w K mg base CX (k + 1) f (PySem.W.fnX F.name F.qual F.params F.body F.scope F.cl .none .none doc pm an (.ref F.c) ctv) ps sp := by
  refine ⟨len, fun A outer s H args us vs Q E hr e0 hb r hsp => ?_⟩
  have hl := len _ _ _ _ hsp
  have KX : K.In s.heap := e0.mod.kin.keeps fun b o e => (e0.bs b o e).1
  have lim : s.heap.NoLimit := e0.mod.nolimit.keeps fun b o e => (e0.bs b o e).1
  obtain ⟨a, ys, rfl, ha, t, ht, hq⟩ := hbody A outer s H vs Q E (hr.deeper _) hsp
  obtain ⟨cl, cld, csl, hcell⟩ := T.cell
  have hcc : s.heap.get? cc = some ⟨cl, cld, .cell (some (.ref C)), csl⟩ := KX _ _ hcell
  have hccN : H cc = none := (e0.bs _ _ (e0.mod.kin _ _ hcell)).2
  have CA : CellsAt F.cl ["__class__"] [some (.ref C)] s.heap H := by
    refine ⟨rfl, fun y c e => ?_, fun x y c e1 e2 => ?_, fun i y e => ?_⟩
    · rw [hcl] at e
      obtain ⟨rfl, rfl⟩ : y = "__class__" ∧ c = cc := by
        have := PySem.mem_of_lookup e
        simpa using this
      exact ⟨hccN, _, _, hcc, rfl⟩
    · rw [hcl] at e1 e2
      have a1 := PySem.mem_of_lookup e1
      have a2 := PySem.mem_of_lookup e2
      simp at a1 a2
      rw [a1.1, a2.1]
    · cases i with
      | succ i => simp at e
      | zero =>
        simp at e
        subst e
        refine ⟨cc, by rw [hcl] <;> rfl, fun v hv => ?_⟩
        simp at hv
        subst hv
        exact ⟨.ref C, rfl, _, hcc, rfl⟩
  refine PySem.ks_codeAny_call_defAt (body := F.body) (binds := ps.zip us) hr.depth (KX _ _ lk) rfl lim (PySem.W.codeRec_of KX T.code) rfl hb S.nocell (fun y hy => S.par y.1 (List.of_mem_zip hy).1) (fun h₁ hns kp => ?_) S.co S.gen S.kind
  have I : Inv (ncx CX P w K mg base N F f A outer s H E) [] (startF N (.ref a :: ys) [some (.ref C)]) H { s with heap := h₁, toks := s.toks + (ps.zip us).length } := inv_startN S hr.hd e0 hl r CA hns kp
  show _root_.PySem.wpAt (model P w) (A.deeper (envF F f s.heap.objs.size)) (.func F.body (envF F f s.heap.objs.size)) (execs F.body (envF F f s.heap.objs.size)) _ _ _
  have pre := S.pre
  have fin : ∀ {σ' : L2.St} {H' : Hp} {v : V} {u : Value} {s' : Shared}, Inv (ncx CX P w K mg base N F f A outer s H E) [] σ' H' s' → L2.RelV v u → Q v H' → CE outer P w H s Q u s' :=
    fun {σ' H' v u s'} J rv q => ⟨v, H', J.os, J.bare, J.base, J.hok, rv, q⟩
  have hN0 : N[0]? = some ar.arg := by
    have : (ps ++ (["__class__"] : List Str))[0]? = some ar.arg := by rw [List.getElem?_append_left (by cases ps <;> simp_all)]; exact hps
    rw [← pre, List.getElem?_take_of_lt (by simp)] at this
    exact this
  have hNj : N[ps.length]? = some ("__class__" : Str) := by
    have : (ps ++ (["__class__"] : List Str))[ps.length]? = some ("__class__" : Str) := by simp
    rw [← pre, List.getElem?_take_of_lt (by simp)] at this
    exact this
  have hloc : F.scope.names.lookup ar.arg = some .local := S.par _ (List.mem_of_getElem? hps)
  have hfree : F.scope.names.lookup ("__class__" : Str) = some .free := S.frk _ (by simp)
  have key : ∀ {c : Code}, c = .func F.body (envF F f s.heap.objs.size) → _root_.PySem.wpAt (model P w) (A.deeper (envF F f s.heap.objs.size)) c (execs (supStm txt kc p0 p1 p2 p3 pos pos' :: rest) (envF F f s.heap.objs.size))
      (fun f s' => CR CX outer P w H s Q E (.ok (.ret (match f with | .ret v => v | _ => .none))) s') (fun e s' => wpAny (model P w) (A.deeper (envF F f s.heap.objs.size)) (leaving (envF F f s.heap.objs.size) e) (fun _ s'' => CX outer H s E e s'') (fun e' s'' => CX outer H s E e' s'') s') { s with heap := h₁, toks := s.toks + (ps.zip us).length } := by
    intro c hc
    subst hc
    refine PySem.ks_wpAt_execs_cons ?_
    refine sup_first (X := ncx CX P w K mg base N F f A outer s H E) (a := a) (ar := ar) (j := ps.length) (f := f) T I rfl lk rfl hpar rfl hg hm hfree hN0 (.inl hloc) ?_ hcd0 hNj ?_ ha (fun s' J => ?_) (hi _) (hs _) (he _)
    · unfold startF; simp
    · unfold startF
      rw [List.getElem?_append_right (by simp; simpa using Nat.le_of_eq hl)]
      have : ps.length - (List.map some (V.ref a :: ys)).length = 0 := by rw [List.length_map, hl]; omega
      rw [this]
      simp
    · refine wpAt_of_wpAny (wpAny_mono (ht.run [] s' _ H _ J hq) (fun fl s'' hs' => ?_) fun e s'' hs' => hs')
      cases fl with
      | ret u =>
        obtain ⟨v, σ', H', J', rv, q⟩ := hs'
        exact fin J' rv q
      | next =>
        obtain ⟨σ', H', J', q⟩ := hs'
        exact fin (v := V.non) (u := Value.none) J' rfl q
      | brk =>
        obtain ⟨_, _, _, q⟩ := hs'
        exact False.elim q
      | cont =>
        obtain ⟨_, _, _, q⟩ := hs'
        exact False.elim q
  have key2 := key rfl
  rw [← hbd] at key2
  exact key2
end SM
set_option Elab.async false
set_option linter.all false
set_option maxRecDepth 100000
set_option maxHeartbeats 4000000
/-! SMX2: such an __init__ that stores its parameters; its promise. -/
namespace SM
open PySem PySem.Spec PyProof.Rows L2 NdefX

/-- what such an __init__ leaves -/
def spX (C : Addr) (flds : List Str) : Sp := fun vs H Q _ => ∃ (a : Addr) (ys : List V), vs = .ref a :: ys ∧ ys.length = flds.length ∧ H a = some (exo a C none) ∧
  ∀ dx, H dx = none → dx ≠ a → Q .non (upd (upd H dx (exd dx (flds.zip ys).reverse)) a (exo a C (some dx)))
/-- self.f = x -/
structure Asg where
  f : Str
  x : Str
  p1 : Pos
  p2 : Pos
  p3 : Pos
  pos : Pos
abbrev Asg.stm (q : Asg) : Stmt := .Assign [.Attribute (.Name "self" q.p1) q.f q.p2] (.Name q.x q.p3) q.pos
section
variable {X : Cx} {C : Addr}
/-- the names, slots and fields fit -/
structure AsgOk (X : Cx) (C : Addr) (i : Nat) (q : Asg) : Prop where
  n : X.N[i]? = some q.x
  v : Vis X.env.scope q.x
  d1 : (q.x == ("__debug__" : Str)) = false
  d2 : (q.x == ("__classdict__" : Str)) = false
  no : PySem.W.findIn X.K (.ref C) q.f = some none
theorem upd_comm {H : Hp} {a b : Addr} {o u : HO} (h : a ≠ b) : upd (upd H a o) b u = upd (upd H b u) a o := by
  funext c
  unfold upd
  by_cases h1 : c = b
  · subst h1
    rw [if_pos rfl, if_neg (Ne.symm h), if_pos rfl]
  · rw [if_neg h1]
    by_cases h2 : c = a
    · subst h2; rw [if_pos rfl, if_pos rfl]
    · rw [if_neg h2, if_neg h2, if_neg h1]
def tOld (C : Addr) (i : Nat) (flds : List Str) : TS := fun D σ H => ∃ (a dx : Addr) (fs : List (Str × V)) (ys : List V), σ[0]? = some (some (.ref a)) ∧ H a = some (exo a C (some dx)) ∧ H dx = some (exd dx fs) ∧ a ≠ dx ∧ fs.length + flds.length ≤ 900 ∧ ys.length = flds.length ∧
  (∀ j y, ys[j]? = some y → σ[i + j]? = some (some y)) ∧ D.nx σ (upd H dx (exd dx ((flds.zip ys).reverse ++ fs)))
theorem asgs_old (T : OexC X.K C) (h0 : X.N[0]? = some ("self" : Str)) (v0 : Vis X.env.scope "self") : ∀ (l : List Asg) (i : Nat), (∀ j q, l[j]? = some q → AsgOk X C (i + j) q) → PSs X (l.map Asg.stm) (tOld C i (l.map Asg.f))
  | [], i, _ => by
    refine pss_weak pss_nil fun D σ H h => ?_
    obtain ⟨a, dx, fs, ys, h1, h2, h3, _, h4, h5, h6, h7⟩ := h
    have : ys = [] := by simpa using h5
    subst this
    have eu : upd H dx (exd dx fs) = H := by
      funext b
      by_cases hb : b = dx
      · rw [hb, upd_same, h3]
      · rw [upd_ne hb]
    show D.nx σ H
    simpa [eu] using h7
  | q :: l, i, hq => by
    have q0 := hq 0 q rfl
    have st : PS X q.stm _ := ps_ost (pe_var h0 v0) (pe_var (i := i) (by simpa using q0.n) q0.v q0.d1 q0.d2) (by rfl)
    refine pss_weak (pss_cons st (asgs_old T h0 v0 l (i + 1) fun j r hr => by have := hq (j + 1) r (by simpa using hr); rwa [show i + (j + 1) = i + 1 + j by omega] at this)) fun D σ H h => ?_
    obtain ⟨a, dx, fs, ys, h1, h2, h3, ne, h4, h5, h6, h7⟩ := h
    cases ys with
    | nil => simp at h5
    | cons y ys =>
      have hy := h6 0 y rfl
      refine ⟨y, by simpa using hy, .ref a, h1, a, C, rfl, T, q0.no, .inr ⟨dx, fs, h2, h3, by simp at h4; omega, ?_⟩⟩
      refine ⟨a, dx, (q.f, y) :: fs, ys, h1, by rw [upd_ne ne]; exact h2, upd_same, ne, by simp at h4 ⊢; omega, by simpa using h5, fun j z hz => ?_, ?_⟩
      · have := h6 (j + 1) z (by simpa using hz)
        rwa [show i + (j + 1) = i + 1 + j by omega] at this
      · rw [upd_upd]
        simpa using h7
/-- all of them, from the first on -/
theorem asgs_new (T : OexC X.K C) (h0 : X.N[0]? = some ("self" : Str)) (v0 : Vis X.env.scope "self") (q : Asg) (l : List Asg) (hq : ∀ j r, (q :: l)[j]? = some r → AsgOk X C (1 + j) r) (hl : l.length ≤ 800) :
    PSs X ((q :: l).map Asg.stm) (fun D σ H => ∃ (a : Addr) (ys : List V), σ[0]? = some (some (.ref a)) ∧ H a = some (exo a C none) ∧ ys.length = (q :: l).length ∧ (∀ j y, ys[j]? = some y → σ[1 + j]? = some (some y)) ∧
      ∀ dx, H dx = none → dx ≠ a → D.nx σ (upd (upd H dx (exd dx ((((q :: l).map Asg.f).zip ys).reverse))) a (exo a C (some dx)))) := by
  have q0 := hq 0 q rfl
  have st : PS X q.stm _ := ps_ost (pe_var h0 v0) (pe_var (i := 1) (by simpa using q0.n) q0.v q0.d1 q0.d2) (by rfl)
  refine pss_weak (pss_cons st (asgs_old T h0 v0 l 2 fun j r hr => by have := hq (j + 1) r (by simpa using hr); rwa [show 1 + (j + 1) = 2 + j by omega] at this)) fun D σ H h => ?_
  obtain ⟨a, ys, h1, h2, h5, h6, h7⟩ := h
  cases ys with
  | nil => simp at h5
  | cons y ys =>
    have hy := h6 0 y rfl
    refine ⟨y, by simpa using hy, .ref a, h1, a, C, rfl, T, q0.no, .inl ⟨h2, fun dx n ne => ?_⟩⟩
    refine ⟨a, dx, [(q.f, y)], ys, h1, upd_same, by rw [upd_ne ne]; exact upd_same, Ne.symm ne, by simp; omega, by simpa using h5, fun j z hz => ?_, ?_⟩
    · have := h6 (j + 1) z (by simpa using hz)
      rwa [show 1 + (j + 1) = 2 + j by omega] at this
    · have := h7 dx n ne
      rw [upd_comm (Ne.symm ne), upd_upd]
      simpa using this
end
/-- THE RULE: an __init__ of super().__init__(text) and fields from parameters -/
theorem exi_ok {CX : CXT} {P : Program} {w : World} {K : PySem.W.Frag} {mg : Str → Option Value} {base : Heap} {N ps : List Str} {F : NF} {C f cc : Addr} {k : Nat} {oc ctv : Value} {od : Option Addr} {osl : Array (Option Value)} {doc pm : Value} {an : Option Addr}
    {ar : Arg} {txt : Str} {kc : Nat} {p0 p1 p2 p3 pos pos' : Pos} (q : Asg) (l : List Asg) (T : SupC P K C f F.c cc F.qual) (lk : K.lookup f = some ⟨oc, od, .func (PySem.W.fnX F.name F.qual F.params F.body F.scope F.cl .none .none doc pm an (.ref F.c) ctv), osl⟩)
    (hcl : F.cl = [(("__class__" : Str), cc)]) (hbd : F.body = supStm txt kc p0 p1 p2 p3 pos pos' :: (q :: l).map Asg.stm) (S : NScope N ps ["__class__"] F.scope) (hps : ps[0]? = some ar.arg) (hpar : (F.params.posonlyargs ++ F.params.args).head? = some ar) (hself : ar.arg = "self")
    (hg : F.scope.names.lookup ("super" : Str) = some .globalImplicit) (hm : mg "super" = none) (hx : ∀ j r, (q :: l)[j]? = some r → ps[1 + j]? = some r.x ∧ (r.x == ("__debug__" : Str)) = false ∧ (r.x == ("__classdict__" : Str)) = false ∧ PySem.W.findIn K (.ref C) r.f = some none)
    (hlen : ps.length = 1 + (q :: l).length) (hl : l.length ≤ 800)
    (hi : ∀ L, interactive (envF F f L) = false := by intro _; rfl)
    (hs : ∀ L, swapsWith (.Call (.Attribute (.Call (.Name "super" p0) [] [] p1) "__init__" p2) [.Constant (.str txt) kc p3] [] pos) none pos'.line (envF F f L) = pure false := by intro _; rfl)
    (he : ∀ L, ∃ pl, eval (.Call (.Attribute (.Call (.Name "super" p0) [] [] p1) "__init__" p2) [.Constant (.str txt) kc p3] [] pos) (envF F f L) = (do
      let ov ← attributeBase (.Call (.Name "super" p0) [] [] p1) "__init__" (envF F f L) (eval (.Call (.Name "super" p0) [] [] p1) (envF F f L))
      standAt p2.atName
      let (g, first) ← holding [ov] (getMethod ov "__init__" pl)
      callWith pos g first (backTo pos (starEach [.Constant (.str txt) kc p3] (envF F f L))) []) := by intro _; exact ⟨_, rfl⟩) :
    FnOk P w K mg base CX (k + 1) f (PySem.W.fnX F.name F.qual F.params F.body F.scope F.cl .none .none doc pm an (.ref F.c) ctv) ps (spX C ((q :: l).map Asg.f)) := by
  refine sup_ok T lk hcl hbd S hps hpar (by rw [hself] <;> decide) hg hm (fun vs H Q E h => ?_) (fun A outer s H vs Q E hr h => ?_) hi hs he
  · obtain ⟨a, ys, rfl, h2, _⟩ := h
    rw [List.length_map] at h2
    rw [List.length_cons, h2, hlen]; omega
  · obtain ⟨a, ys, rfl, h2, h3, h4⟩ := h
    rw [List.length_map] at h2
    have pre := S.pre
    have hN : ∀ i x, ps[i]? = some x → N[i]? = some x := fun i x e => by
      have hi := (List.getElem?_eq_some_iff.mp e).1
      have : (ps ++ (["__class__"] : List Str))[i]? = some x := by rw [List.getElem?_append_left hi]; exact e
      rw [← pre, List.getElem?_take_of_lt (by simp; omega)] at this
      exact this
    refine ⟨a, ys, rfl, h3, _, asgs_new (C := C) T.oex (hN 0 _ (by rw [← hself]; exact hps)) (.inl (S.par _ (by rw [← hself]; exact List.mem_of_getElem? hps))) q l (fun j r hr => ?_) hl, a, ys, ?_, h3, h2, fun j y hy => ?_, fun dx n ne => h4 dx n ne⟩
    · obtain ⟨x1, x2, x3, x4⟩ := hx j r hr
      exact ⟨hN _ _ x1, .inl (S.par _ (List.mem_of_getElem? x1)), x2, x3, x4⟩
    · unfold startF; simp
    · unfold startF
      have hj := (List.getElem?_eq_some_iff.mp hy).1
      rw [List.getElem?_append_left (by simp; omega), List.getElem?_map, show 1 + j = j + 1 by omega, List.getElem?_cons_succ, hy]
      rfl
end SM
set_option Elab.async false
set_option linter.all false
set_option maxRecDepth 100000
set_option maxHeartbeats 4000000
/-! SM4: operators, subscripts, slices by the mirror. -/
namespace SM
open PySem PySem.Spec PyProof.Rows L2

section
variable {G : Gc} {ρ : List Addr} {S : Addr → Prop} {H : Hp} {st : Sto}
/-- a value's end where nothing changes -/
theorem EndO.at {z : Va} {r : Option (Va × Sto)} {Q : VK} (h : EndO G ρ S H r Q) (R : Rep G ρ S st H) (e : r = some (z, st)) : ∀ v, Vr G ρ S H v z → Q v H := fun v rv => h.same R e rv
theorem EndO.no {Q : VK} (h : EndO G ρ S H none Q) : False := by obtain ⟨z, s, e, _⟩ := h; cases e
end

/-! ### + -/
def opAdd (c : Bool) : Op2 := fun x y st => match x, y with
  | .int i, .int j => some (.int (i + j), st)
  | .str a, .str b => if a.length + b.length ≤ sizeLine then some (.str (a ++ b), st) else none
  | .tup xs, .tup ys => if xs.length + ys.length ≤ sizeLine then some (.tup (xs ++ ys), st) else none
  | .int i, .bl k => some (.int (i + b2i k), st)
  | x, y => match lookM st x, lookM st y with
    | some xs, some ys => if xs.length + ys.length ≤ sizeLine then some (mkL c (xs ++ ys) st) else none
    | _, _ => none
section
variable {X : Cx}
theorem add_list {c : Bool} {pins : List (Addr × Obj)} {s : Shared} {σ : L2.St} {H : Hp} {v u : Value} {x y : V} {xa ya : Va} {Q : VK} {ρ : List Addr} {S : Addr → Prop} {st : Sto} (I : Inv X pins σ H s) (rx : RelV x v) (ry : RelV y u) (R : Rep (gc X) ρ S st H) (r1 : Vr (gc X) ρ S H x xa) (r2 : Vr (gc X) ρ S H y ya)
    (h : EndO (gc X) ρ S H (match lookM st xa, lookM st ya with
      | some xs, some ys => if xs.length + ys.length ≤ sizeLine then some (mkL c (xs ++ ys) st) else none
      | _, _ => none) Q) : wpAny (model X.prog X.w) X.A (binaryOp .Add v u) (EP X pins σ Q) X.xe s := by
  cases e1 : lookM st xa with
  | none => rw [e1] at h; exact h.no.elim
  | some xs =>
    cases e2 : lookM st ya with
    | none => rw [e1, e2] at h; exact h.no.elim
    | some ys =>
      rw [e1, e2] at h
      dsimp only at h
      split at h
      · rename_i hl
        obtain ⟨a, vs, rfl, h1, h2⟩ := lookM_ok R r1 e1
        obtain ⟨b, ws, rfl, h3, h4⟩ := lookM_ok R r2 e2
        refine op_cat pins s σ H _ _ v u Q I rx ry ⟨a, b, vs, ws, rfl, rfl, h1, h3, by rw [h2.1, h4.1]; exact hl, ?_⟩
        exact h.mk R rfl (h2.append h4)
      · exact h.no.elim
theorem or_add (c : Bool) : OpR X (binaryOp .Add) (rD2 (gc X) (opAdd c)) := by
  intro pins s σ H x y v u Q I rx ry h
  obtain ⟨ρ, S, st, xa, ya, R, r1, r2, h⟩ := h
  unfold opAdd at h
  split at h
  · cases r1; cases r2
    exact op_add pins s σ H _ _ v u Q I rx ry ⟨_, _, rfl, rfl, h.at R rfl _ (.int _)⟩
  · cases r1; cases r2
    split at h
    · rename_i hl
      exact op_add_str pins s σ H _ _ v u Q I rx ry ⟨_, _, rfl, rfl, hl, h.at R rfl _ (.str _)⟩
    · exact h.no.elim
  · split at h
    · rename_i hl
      obtain ⟨a, vs, rfl, h1, V1⟩ := lookT_ok r1 rfl
      obtain ⟨b, ws, rfl, h2, V2⟩ := lookT_ok r2 rfl
      refine op_catA pins s σ H _ _ v u Q I rx ry ⟨a, b, vs, ws, rfl, rfl, h1, h2, by rw [V1.1, V2.1]; exact hl, fun z => ?_, fun _ z => ?_, fun _ _ => h.tup R rfl (V1.append V2)⟩
      · subst z
        rw [V1.nil_l, List.nil_append] at h
        exact h.at R rfl _ r2
      · subst z
        rw [V2.nil_l, List.append_nil] at h
        exact h.at R rfl _ r1
    · exact h.no.elim
  · cases r1; cases r2
    exact op_add_ib pins s σ H _ _ v u Q I rx ry ⟨_, _, rfl, rfl, h.at R rfl _ (.int _)⟩
  · exact add_list I rx ry R r1 r2 h
/-! ### the other operators of numbers -/
def opI (C : Int → Int → Bool) (g : Int → Int → Int) : Op2 := fun x y st => match x, y with
  | .int i, .int j => if C i j then some (.int (g i j), st) else none
  | _, _ => none
def opB (g : Int → Int → Bool) (k : Str → Str → Option Bool) : Op2 := fun x y st => match x, y with
  | .int i, .int j => some (.bl (g i j), st)
  | .str a, .str b => (k a b).map fun r => (.bl r, st)
  | _, _ => none
theorem or_int {f : Value → Value → Sem Value} {C : Int → Int → Prop} {Cb : Int → Int → Bool} {g : Int → Int → Int} (h0 : OpR X f (rI C fun i j => .int (g i j))) (hC : ∀ i j, Cb i j = true → C i j) : OpR X f (rD2 (gc X) (opI Cb g)) := by
  intro pins s σ H x y v u Q I rx ry h
  obtain ⟨ρ, S, st, xa, ya, R, r1, r2, h⟩ := h
  unfold opI at h
  split at h
  · cases r1; cases r2
    split at h
    · rename_i hc
      exact h0 pins s σ H _ _ v u Q I rx ry ⟨_, _, rfl, rfl, hC _ _ hc, h.at R rfl _ (.int _)⟩
    · exact h.no.elim
  · exact h.no.elim
def in64 (i : Int) : Bool := decide (-(2 ^ 64) < i) && decide (i < 2 ^ 64)
theorem in64_ok {i : Int} (h : in64 i = true) : -(2 ^ 64) < i ∧ i < 2 ^ 64 := by
  obtain ⟨a, b⟩ := Bool.and_eq_true_iff.mp h
  exact ⟨of_decide_eq_true a, of_decide_eq_true b⟩
def opSub : Op2 := opI (fun _ _ => true) fun i j => i - j
theorem or_sub : OpR X (binaryOp .Sub) (rD2 (gc X) opSub) := by
  refine or_int (C := fun _ _ => True) ?_ fun _ _ _ => trivial
  intro pins s σ H x y v u Q I rx ry h
  obtain ⟨i, j, rfl, rfl, _, q⟩ := h
  exact op_sub pins s σ H _ _ v u Q I rx ry ⟨i, j, rfl, rfl, q⟩
def opMod : Op2 := opI (fun _ j => decide (0 < j)) fun i j => i % j
theorem or_mod : OpR X (binaryOp .Mod) (rD2 (gc X) opMod) := or_int op_mod fun i j h => of_decide_eq_true h
def opDiv : Op2 := opI (fun _ j => decide (0 < j) && decide (j < 1073741824)) fun i j => i / j
theorem or_div : OpR X (binaryOp .FloorDiv) (rD2 (gc X) opDiv) := or_int op_fdiv fun i j h => by
  obtain ⟨a, b⟩ := Bool.and_eq_true_iff.mp h
  exact ⟨of_decide_eq_true a, of_decide_eq_true b⟩
def opPow : Op2 := opI (fun i j => decide (0 ≤ j) && (decide (j ≤ 1000000) && decide (i.natAbs < 2 ^ 64))) fun i j => i ^ j.toNat
theorem or_pow : OpR X (binaryOp .Pow) (rD2 (gc X) opPow) := or_int op_pow fun i j h => by
  obtain ⟨a, b⟩ := Bool.and_eq_true_iff.mp h
  obtain ⟨b, c⟩ := Bool.and_eq_true_iff.mp b
  exact ⟨of_decide_eq_true a, of_decide_eq_true b, of_decide_eq_true c⟩
/-- a text n times -/
def repS (x : Str) (n : Nat) : Str := ⟨(List.replicate n x.cps).foldl (· ++ ·) #[]⟩
def opMul (c : Bool) : Op2 := fun x y st => match x, y with
  | .int i, .int j => if in64 i || in64 j then some (.int (i * j), st) else none
  | .str a, .int n => if decide (0 ≤ n) && (decide (n < 2 ^ 31) && decide (a.length * n.toNat ≤ sizeLine)) then some (.str (repS a n.toNat), st) else none
  | x, .int k => match lookM st x with
    | some xs => if decide (-(2 ^ 63) ≤ k) && (decide (k < 2 ^ 63) && decide (xs.length * k.toNat ≤ sizeLine)) then some (mkL c (List.replicate k.toNat xs).flatten st) else none
    | none => none
  | _, _ => none
theorem foldl_one (x : Str) : (List.replicate 1 x.cps).foldl (· ++ ·) #[] = x.cps := by simp [List.replicate]
theorem foldl_nil : ∀ n : Nat, (List.replicate n (#[] : Array Nat)).foldl (· ++ ·) #[] = #[]
  | 0 => rfl
  | n + 1 => by rw [List.replicate_succ, List.foldl_cons]; simpa using foldl_nil n
theorem foldl_size (c : Array Nat) : ∀ (n : Nat) (z : Array Nat), ((List.replicate n c).foldl (· ++ ·) z).size = z.size + c.size * n
  | 0, z => by simp
  | n + 1, z => by rw [List.replicate_succ, List.foldl_cons, foldl_size c n, Array.size_append, Nat.mul_succ]; omega
theorem repS_len (x : Str) (n : Nat) : (repS x n).length = x.length * n := by
  show ((List.replicate n x.cps).foldl (· ++ ·) #[]).size = x.cps.size * n
  rw [foldl_size x.cps n #[]]
  simp
theorem tooLong_no {n : Nat} (h : n ≤ sizeLine) : Builtin.Str.tooLong n = false := by
  unfold Builtin.Str.tooLong
  simp only [decide_eq_false_iff_not]
  first | omega | (intro z; exact absurd h (by omega))
theorem flat_rep {vs : List V} {xs : List Va} {ρ : List Addr} {S : Addr → Prop} {H : Hp} (r : Vrs (gc X) ρ S H vs xs) : ∀ n : Nat, Vrs (gc X) ρ S H (List.replicate n vs).flatten (List.replicate n xs).flatten
  | 0 => .nil
  | n + 1 => by
    rw [List.replicate_succ, List.replicate_succ, List.flatten_cons, List.flatten_cons]
    exact r.append (flat_rep r n)
theorem mul_list {c : Bool} {pins : List (Addr × Obj)} {s : Shared} {σ : L2.St} {H : Hp} {v u : Value} {x y : V} {xa : Va} {k : Int} {Q : VK} {ρ : List Addr} {S : Addr → Prop} {st : Sto} (I : Inv X pins σ H s) (rx : RelV x v) (ry : RelV y u) (R : Rep (gc X) ρ S st H) (r1 : Vr (gc X) ρ S H x xa) (r2 : Vr (gc X) ρ S H y (.int k))
    (h : EndO (gc X) ρ S H (match lookM st xa with
      | some xs => if decide (-(2 ^ 63) ≤ k) && (decide (k < 2 ^ 63) && decide (xs.length * k.toNat ≤ sizeLine)) then some (mkL c (List.replicate k.toNat xs).flatten st) else none
      | none => none) Q) : wpAny (model X.prog X.w) X.A (binaryOp .Mult v u) (EP X pins σ Q) X.xe s := by
  cases e1 : lookM st xa with
  | none => rw [e1] at h; exact h.no.elim
  | some xs =>
    rw [e1] at h
    dsimp only at h
    split at h
    · rename_i hc
      obtain ⟨a, b⟩ := Bool.and_eq_true_iff.mp hc
      obtain ⟨b, d⟩ := Bool.and_eq_true_iff.mp b
      obtain ⟨p, vs, rfl, h1, h2⟩ := lookM_ok R r1 e1
      cases r2
      exact op_rep pins s σ H _ _ v u Q I rx ry ⟨p, k, vs, rfl, rfl, h1, of_decide_eq_true a, of_decide_eq_true b, by rw [h2.1]; exact of_decide_eq_true d, h.mk R rfl (flat_rep h2 _)⟩
    · exact h.no.elim
theorem or_mul (c : Bool) : OpR X (binaryOp .Mult) (rD2 (gc X) (opMul c)) := by
  intro pins s σ H x y v u Q I rx ry h
  obtain ⟨ρ, S, st, xa, ya, R, r1, r2, h⟩ := h
  unfold opMul at h
  split at h
  · cases r1; cases r2
    split at h
    · rename_i hc
      exact op_mul pins s σ H _ _ v u Q I rx ry ⟨_, _, rfl, rfl, (Bool.or_eq_true_iff.mp hc).imp in64_ok in64_ok, h.at R rfl _ (.int _)⟩
    · exact h.no.elim
  · rename_i a n
    cases r1; cases r2
    split at h
    · rename_i hc
      obtain ⟨h1, hc⟩ := Bool.and_eq_true_iff.mp hc
      obtain ⟨h2, h3⟩ := Bool.and_eq_true_iff.mp hc
      have h1 := of_decide_eq_true h1
      have h2 := of_decide_eq_true h2
      have h3 := of_decide_eq_true h3
      have q := h.at R rfl _ (.str _)
      obtain ⟨t, rfl⟩ := rx
      obtain ⟨t2, rfl⟩ := ry
      have hlen : a.length ≤ sizeLine ∨ n < 1 := by
        by_cases z : n < 1
        · exact .inr z
        · refine .inl (Nat.le_trans (Nat.le_mul_of_pos_right _ ?_) h3)
          omega
      refine PySem.P.mul_str (by simp; omega) (fun z1 z2 => ?_) (fun z1 z2 => tooLong_no h3) ?_
      · have z3 : a.length ≤ 16777216 := by
          have := hlen.resolve_right z1
          rwa [sizeLine_eq] at this
        have z4 : (2147483648 : Int) ≤ (2 ^ 63 - 1) / n := by
          refine Int.le_ediv_of_mul_le (by omega) ?_
          have : (2147483648 : Int) * n ≤ 2147483648 * 2147483648 := Int.mul_le_mul_of_nonneg_left (by omega) (by omega)
          omega
        omega
      · by_cases z1 : n < 1
        · rw [if_pos z1]
          have : n = 0 := by omega
          subst this
          exact ⟨by decide, ⟨.str Str.empty, H, I.tok _, ⟨_, rfl⟩, q⟩⟩
        · rw [if_neg z1]
          by_cases z2 : (n == 1 || a.length == 0) = true
          · rw [if_pos z2]
            have e : repS a n.toNat = a := by
              unfold repS
              rcases Bool.or_eq_true_iff.mp z2 with z2 | z2
              · have : n = 1 := by simpa using z2
                subst this
                show Str.mk ((List.replicate 1 a.cps).foldl (· ++ ·) #[]) = a
                rw [foldl_one]
              · have z : a.length = 0 := by simpa using z2
                have z' : a.cps = #[] := Array.eq_empty_of_size_eq_zero z
                obtain ⟨cps⟩ := a
                dsimp only at z'
                subst z'
                rw [foldl_nil]
            rw [e] at q
            exact ⟨.str a, H, I, ⟨_, rfl⟩, q⟩
          · rw [if_neg z2]
            refine ⟨?_, ⟨.str (repS a n.toNat), H, I.tok _, ⟨_, rfl⟩, q⟩⟩
            exact Nat.le_trans (Nat.le_of_eq (repS_len a _)) h3
    · exact h.no.elim
  · exact mul_list I rx ry R r1 r2 h
  · exact h.no.elim
end
end SM
set_option Elab.async false
set_option linter.all false
set_option maxRecDepth 100000
set_option maxHeartbeats 4000000
/-! SM5: comparisons, in, is, subscripts, slices by the mirror. -/
namespace SM
open PySem PySem.Spec PyProof.Rows L2

/-! ### data -/
def toPy (st : Sto) : Nat → Va → Option PyData
  | 0, _ => none
  | n + 1, x => match x with
    | .non => some .none
    | .bl b => some (.bool b)
    | .int i => some (.int i)
    | .str x => some (.str x)
    | .tup xs => (xs.mapM (toPy st n)).map .tuple
    | .fl xs => (xs.mapM (toPy st n)).map .list
    | .fz xs => (xs.mapM (toPy st n)).map .list
    | .ref i => match st[i]? with
      | some (.lst xs) => (xs.mapM (toPy st n)).map .list
      | _ => none
    | _ => none
def py (st : Sto) (x : Va) : Option PyData := toPy st 12 x
section
variable {G : Gc} {ρ : List Addr} {S : Addr → Prop} {H : Hp} {st : Sto}
theorem dpAll_of {f : Va → Option PyData} (h : ∀ v x d, Vr G ρ S H v x → f x = some d → Dp G.K H v d) : ∀ {xs : List Va} {vs : List V} {ds : List PyData}, Vrs G ρ S H vs xs → xs.mapM f = some ds → DpAll G.K H vs ds
  | [], vs, ds, r, e => by
    obtain rfl := r.nil_r
    simp at e
    subst e
    exact .nil
  | x :: xs, vs, ds, r, e => by
    obtain ⟨v, ws, rfl, r1, r2⟩ := r.cons_r
    rw [List.mapM_cons] at e
    cases e1 : f x with
    | none => simp [e1] at e
    | some d =>
      cases e2 : xs.mapM f with
      | none => simp [e1, e2] at e
      | some es =>
        simp [e1, e2] at e
        subst e
        exact .cons (h _ _ _ r1 e1) (dpAll_of h r2 e2)
theorem toPy_ok (R : Rep G ρ S st H) : ∀ (n : Nat) (v : V) (x : Va) (d : PyData), Vr G ρ S H v x → toPy st n x = some d → Dp G.K H v d
  | 0, _, _, _, _, e => by cases e
  | n + 1, v, x, d, r, e => by
    have ih := toPy_ok R n
    have lst : ∀ xs, lookL st x = some xs → (xs.mapM (toPy st n)).map PyData.list = some d → Dp G.K H v d := fun xs hx e => by
      obtain ⟨a, vs, rfl, h1, h2⟩ := lookL_ok R r hx
      cases q : xs.mapM (toPy st n) with
      | none => rw [q] at e; cases e
      | some ds => rw [q] at e; cases e; exact .lst h1 (dpAll_of ih h2 q)
    unfold toPy at e
    cases x with
    | non => cases r; cases e; exact .non
    | bl b => cases r; cases e; exact .bl b
    | int b => cases r; cases e; exact .int b
    | str b => cases r; cases e; exact .str b
    | tup xs =>
      obtain ⟨a, vs, rfl, h1, h2⟩ := lookT_ok r rfl
      dsimp only at e
      cases q : xs.mapM (toPy st n) with
      | none => rw [q] at e; cases e
      | some ds => rw [q] at e; cases e; exact .tup h1 (dpAll_of ih h2 q)
    | fl xs => exact lst xs rfl e
    | fz xs => exact lst xs rfl e
    | ref i =>
      dsimp only at e
      cases q : st[i]? with
      | none => simp [q] at e
      | some o =>
        cases o with
        | lst xs => simp only [q] at e; exact lst xs (by simp only [lookL, q]) e
        | _ => simp [q] at e
    | sts _ => cases e
    | ty _ => cases e
    | cls _ => cases e
    | exo _ _ => cases e
end

/-! ### ==, != -/
def opEq (neg : Bool) : Op2 := fun x y st => match py st x, py st y with
  | some d, some e => if SeqAt.shaped d && SeqAt.shaped e then some (.bl (neg != PyData.eqv d e), st) else none
  | _, _ => none
section
variable {X : Cx}
theorem eq_w {neg : Bool} {H : Hp} {x y : V} {xa ya : Va} {Q : VK} {ρ : List Addr} {S : Addr → Prop} {st : Sto} (R : Rep (gc X) ρ S st H) (r1 : Vr (gc X) ρ S H x xa) (r2 : Vr (gc X) ρ S H y ya) (h : EndO (gc X) ρ S H (opEq neg xa ya st) Q) :
    ∃ d e, Dp X.K H x d ∧ Dp X.K H y e ∧ SeqAt.shaped d = true ∧ SeqAt.shaped e = true ∧ Q (.bl (neg != PyData.eqv d e)) H := by
  unfold opEq at h
  cases e1 : py st xa with
  | none => rw [e1] at h; exact h.no.elim
  | some d =>
    cases e2 : py st ya with
    | none => rw [e1, e2] at h; exact h.no.elim
    | some e =>
      rw [e1, e2] at h
      dsimp only at h
      split at h
      · rename_i hs
        obtain ⟨s1, s2⟩ := Bool.and_eq_true_iff.mp hs
        exact ⟨d, e, toPy_ok R _ _ _ _ r1 e1, toPy_ok R _ _ _ _ r2 e2, s1, s2, h.at R rfl _ (.bl _)⟩
      · exact h.no.elim
theorem or_eq {k : Nat} (hr : Room k X.A) : OpR X (compareOp .Eq) (rD2 (gc X) (opEq false)) := by
  intro pins s σ H x y v u Q I rx ry h
  obtain ⟨ρ, S, st, xa, ya, R, r1, r2, h⟩ := h
  obtain ⟨d, e, h1, h2, h3, h4, h5⟩ := eq_w R r1 r2 h
  exact op_eqD (by have := hr.units; omega) pins s σ H x y v u Q I rx ry ⟨d, e, h1, h2, h3, h4, by simpa using h5⟩
theorem or_ne {k : Nat} (hr : Room k X.A) : OpR X (compareOp .NotEq) (rD2 (gc X) (opEq true)) := by
  intro pins s σ H x y v u Q I rx ry h
  obtain ⟨ρ, S, st, xa, ya, R, r1, r2, h⟩ := h
  obtain ⟨d, e, h1, h2, h3, h4, h5⟩ := eq_w R r1 r2 h
  exact op_neD (by have := hr.units; omega) pins s σ H x y v u Q I rx ry ⟨d, e, h1, h2, h3, h4, by simpa using h5⟩

/-! ### <, <=, >, >= -/
def strLt (a b : Str) : Bool := decide (a.cps.toList < b.cps.toList)
theorem or_cmp {f : Value → Value → Sem Value} {g : Int → Int → Bool} {k : Str → Str → Option Bool} (h0 : OpR X f (rI0 fun i j => .bl (g i j))) (h1 : OpR X f (fun x y H Q => ∃ i j r, x = .str i ∧ y = .str j ∧ k i j = some r ∧ Q (.bl r) H)) : OpR X f (rD2 (gc X) (opB g k)) := by
  intro pins s σ H x y v u Q I rx ry h
  obtain ⟨ρ, S, st, xa, ya, R, r1, r2, h⟩ := h
  unfold opB at h
  split at h
  · cases r1; cases r2
    exact h0 pins s σ H _ _ v u Q I rx ry ⟨_, _, rfl, rfl, h.at R rfl _ (.bl _)⟩
  · rename_i a b
    cases r1; cases r2
    cases e : k a b with
    | none => rw [e] at h; exact h.no.elim
    | some r => rw [e] at h; exact h1 pins s σ H _ _ v u Q I rx ry ⟨a, b, r, rfl, rfl, e, h.at R rfl _ (.bl _)⟩
  · exact h.no.elim
def opLt : Op2 := opB (fun i j => decide (i < j)) fun a b => some (strLt a b)
def opLe : Op2 := opB (fun i j => decide (i ≤ j)) fun a b => some (!strLt b a)
def opGt : Op2 := opB (fun i j => decide (j < i)) fun a b => some (strLt b a)
def opGe : Op2 := opB (fun i j => decide (j ≤ i)) fun a b => some (!strLt a b)
theorem or_lt : OpR X (compareOp .Lt) (rD2 (gc X) opLt) := or_cmp op_lt fun pins s σ H x y v u Q I rx ry ⟨i, j, r, e1, e2, e3, q⟩ => op_lt_str pins s σ H x y v u Q I rx ry ⟨i, j, e1, e2, by cases e3; exact q⟩
theorem or_le : OpR X (compareOp .LtE) (rD2 (gc X) opLe) := or_cmp op_le fun pins s σ H x y v u Q I rx ry ⟨i, j, r, e1, e2, e3, q⟩ => op_le_str pins s σ H x y v u Q I rx ry ⟨i, j, e1, e2, by cases e3; exact q⟩
theorem or_gt : OpR X (compareOp .Gt) (rD2 (gc X) opGt) := or_cmp op_gt fun pins s σ H x y v u Q I rx ry ⟨i, j, r, e1, e2, e3, q⟩ => op_gt_str pins s σ H x y v u Q I rx ry ⟨i, j, e1, e2, by cases e3; exact q⟩
theorem or_ge : OpR X (compareOp .GtE) (rD2 (gc X) opGe) := or_cmp op_ge fun pins s σ H x y v u Q I rx ry ⟨i, j, r, e1, e2, e3, q⟩ => op_ge_str pins s σ H x y v u Q I rx ry ⟨i, j, e1, e2, by cases e3; exact q⟩
theorem bl_cmp {g : Int → Int → Bool} {k : Str → Str → Option Bool} : ∀ x y st z st', opB g k x y st = some (z, st') → ∃ b, z = .bl b := by
  intro x y st z st' h
  unfold opB at h
  split at h
  · cases h; exact ⟨_, rfl⟩
  · rename_i a b
    cases e : k a b with
    | none => rw [e] at h; cases h
    | some r => rw [e] at h; cases h; exact ⟨_, rfl⟩
  · cases h
theorem bl_eq {neg : Bool} : ∀ x y st z st', opEq neg x y st = some (z, st') → ∃ b, z = .bl b := by
  intro x y st z st' h
  unfold opEq at h
  split at h
  · split at h
    · cases h; exact ⟨_, rfl⟩
    · cases h
  · cases h

/-! ### is None, is a bool -/
def opIs (neg : Bool) : Op2 := fun x y st => match x, y with
  | .bl a, .bl b => some (.bl (neg != decide (a = b)), st)
  | .non, .non => some (.bl (!neg), st)
  | _, .non => some (.bl neg, st)
  | _, _ => none
theorem vr_non {ρ : List Addr} {S : Addr → Prop} {H : Hp} {v : V} {x : Va} {G : Gc} (r : Vr G ρ S H v x) (h : x ≠ .non) : v ≠ .non := by
  intro e
  subst e
  cases r
  exact h rfl
theorem or_is : OpR X (compareOp .Is) (rD2 (gc X) (opIs false)) := by
  intro pins s σ H x y v u Q I rx ry h
  obtain ⟨ρ, S, st, xa, ya, R, r1, r2, h⟩ := h
  unfold opIs at h
  split at h
  · cases r1; cases r2
    exact op_isBl pins s σ H _ _ v u Q I rx ry ⟨_, _, rfl, rfl, h.at R (by simp) _ (.bl _)⟩
  · cases r1; cases r2
    exact op_isN pins s σ H _ _ v u Q I rx ry ⟨rfl, by simpa using h.at R rfl _ (.bl _)⟩
  · rename_i hne
    cases r2
    exact op_isN pins s σ H _ _ v u Q I rx ry ⟨rfl, by rw [decide_eq_false (vr_non r1 fun e => hne e)]; exact h.at R rfl _ (.bl _)⟩
  · exact h.no.elim
theorem or_isNot : OpR X (compareOp .IsNot) (rD2 (gc X) (opIs true)) := by
  intro pins s σ H x y v u Q I rx ry h
  obtain ⟨ρ, S, st, xa, ya, R, r1, r2, h⟩ := h
  unfold opIs at h
  split at h
  · cases r1; cases r2
    exact op_notBl pins s σ H _ _ v u Q I rx ry ⟨_, _, rfl, rfl, h.at R (by simp) _ (.bl _)⟩
  · cases r1; cases r2
    exact op_notN pins s σ H _ _ v u Q I rx ry ⟨rfl, by simpa using h.at R rfl _ (.bl _)⟩
  · rename_i hne
    cases r2
    exact op_notN pins s σ H _ _ v u Q I rx ry ⟨rfl, by rw [decide_eq_false (vr_non r1 fun e => hne e)]; exact h.at R rfl _ (.bl _)⟩
  · exact h.no.elim
theorem bl_is {neg : Bool} : ∀ x y st z st', opIs neg x y st = some (z, st') → ∃ b, z = .bl b := by
  intro x y st z st' h
  unfold opIs at h
  split at h <;> cases h <;> exact ⟨_, rfl⟩
/-! ### unary minus -/
def opNeg : Op1 := fun x st => match x with
  | .int i => some (.int (-i), st)
  | _ => none
theorem ur_neg : UnR X (unaryOp .USub) (rD1 (gc X) opNeg) := by
  intro pins s σ H x v Q I rx h
  obtain ⟨ρ, S, st, xa, R, r1, h⟩ := h
  unfold opNeg at h
  split at h
  · cases r1
    exact un_neg pins s σ H _ v Q I rx ⟨_, rfl, h.at R rfl _ (.int _)⟩
  · exact h.no.elim
end
end SM
set_option Elab.async false
set_option linter.all false
set_option maxRecDepth 100000
set_option maxHeartbeats 4000000
/-! SM6: dicts read, in, subscripts, slices by the mirror. -/
namespace SM
open PySem PySem.Spec PyProof.Rows L2

/-! ### keys, dicts -/
def keyA : Va → Option Key
  | .int i => some (.inl i)
  | .str x => some (.inr x)
  | _ => none
def keysA (x : Va) : Option (List Key) := (lookT x).bind fun xs => xs.mapM keyA
def valA {κ : Type} [DecidableEq κ] (kvs : List (κ × Va)) (k : κ) : Option Va := (kvs.find? fun kv => decide (kv.1 = k)).map (·.2)
def putA {κ : Type} [DecidableEq κ] (kvs : List (κ × Va)) (k : κ) (v : Va) : List (κ × Va) :=
  if (kvs.any fun kv => decide (kv.1 = k)) = true then kvs.map (fun kv => if kv.1 = k then (kv.1, v) else kv) else kvs ++ [(k, v)]
section
variable {G : Gc} {ρ : List Addr} {S : Addr → Prop} {H : Hp} {st : Sto}
theorem keyA_ok {v : V} {x : Va} {k : Key} (r : Vr G ρ S H v x) (e : keyA x = some k) : v = kV k := by
  cases r <;> cases e <;> rfl
theorem keysA_all : ∀ {xs : List Va} {vs : List V} {ks : List Key}, Vrs G ρ S H vs xs → xs.mapM keyA = some ks → vs = ks.map kV
  | [], vs, ks, r, e => by
    obtain rfl := r.nil_r
    simp at e
    subst e
    rfl
  | x :: xs, vs, ks, r, e => by
    obtain ⟨v, ws, rfl, r1, r2⟩ := r.cons_r
    rw [List.mapM_cons] at e
    cases e1 : keyA x with
    | none => simp [e1] at e
    | some k =>
      cases e2 : xs.mapM keyA with
      | none => simp [e1, e2] at e
      | some js =>
        simp [e1, e2] at e
        subst e
        rw [keyA_ok r1 e1, keysA_all r2 e2]
        rfl
theorem keysA_ok {v : V} {x : Va} {ks : List Key} (r : Vr G ρ S H v x) (e : keysA x = some ks) : ∃ b, v = .ref b ∧ H b = some (.tup (ks.map kV)) := by
  cases r with
  | @tup a vs xs s e1 l h =>
    have e : xs.mapM keyA = some ks := e
    have V1 : Vrs G ρ S H vs xs := ⟨l, h⟩
    exact ⟨a, rfl, by rw [e1, keysA_all V1 e]⟩
  | _ => cases e
theorem KVr.nilL {κ : Type} {xs : List (κ × Va)} (r : KVr G ρ S H ([] : List (κ × V)) xs) : xs = [] := by
  have := r.1
  simpa using this.symm
theorem KVr.consL {κ : Type} {p : κ × V} {ks : List (κ × V)} {xs : List (κ × Va)} (r : KVr G ρ S H (p :: ks) xs) : ∃ q ys, xs = q :: ys ∧ p.1 = q.1 ∧ Vr G ρ S H p.2 q.2 ∧ KVr G ρ S H ks ys := by
  obtain ⟨h1, h2⟩ := r
  cases xs with
  | nil => simp at h1
  | cons q ys =>
    simp at h1
    obtain ⟨v, ws, e, r1, r2⟩ := h2.cons_r
    simp at e
    obtain ⟨rfl, rfl⟩ := e
    exact ⟨q, ys, rfl, h1.1, r1, h1.2, r2⟩
theorem KVr.cons {κ : Type} {k : κ} {v : V} {x : Va} {ks : List (κ × V)} {xs : List (κ × Va)} (r : Vr G ρ S H v x) (t : KVr G ρ S H ks xs) : KVr G ρ S H ((k, v) :: ks) ((k, x) :: xs) := by
  refine ⟨?_, .cons r t.2⟩
  show k :: _ = k :: _
  rw [t.1]
theorem KVr.val {κ : Type} [DecidableEq κ] (k : κ) : ∀ {ks : List (κ × V)} {xs : List (κ × Va)}, KVr G ρ S H ks xs → (valV ks k = none ∧ valA xs k = none) ∨ ∃ v x, valV ks k = some v ∧ valA xs k = some x ∧ Vr G ρ S H v x
  | [], xs, r => by
    obtain rfl := r.nilL
    exact .inl ⟨rfl, rfl⟩
  | p :: ks, xs, r => by
    obtain ⟨q, ys, rfl, e, r1, r2⟩ := r.consL
    by_cases h : p.1 = k
    · refine .inr ⟨p.2, q.2, valV_pos h, ?_, r1⟩
      simp [valA, List.find?_cons, ← e, h]
    · have h2 : valA (q :: ys) k = valA ys k := by simp [valA, List.find?_cons, ← e, h]
      rw [valV_neg h, h2]
      exact KVr.val k r2
theorem KVr.any {κ : Type} [DecidableEq κ] (k : κ) {ks : List (κ × V)} {xs : List (κ × Va)} (r : KVr G ρ S H ks xs) : (ks.any fun kv => decide (kv.1 = k)) = xs.any fun kv => decide (kv.1 = k) := by
  have a : (ks.any fun kv => decide (kv.1 = k)) = (ks.map (·.1)).any fun j => decide (j = k) := by rw [List.any_map]; rfl
  have b : (xs.any fun kv => decide (kv.1 = k)) = (xs.map (·.1)).any fun j => decide (j = k) := by rw [List.any_map]; rfl
  rw [a, b, r.1]
theorem KVr.mapK {κ : Type} [DecidableEq κ] (k : κ) {v : V} {x : Va} (rv : Vr G ρ S H v x) : ∀ {ks : List (κ × V)} {xs : List (κ × Va)}, KVr G ρ S H ks xs → KVr G ρ S H (ks.map fun kv => if kv.1 = k then (kv.1, v) else kv) (xs.map fun kv => if kv.1 = k then (kv.1, x) else kv)
  | [], xs, r => by
    obtain rfl := r.nilL
    exact ⟨rfl, .nil⟩
  | p :: ks, xs, r => by
    obtain ⟨q, ys, rfl, e, r1, r2⟩ := r.consL
    obtain ⟨p1, p2⟩ := p
    obtain ⟨q1, q2⟩ := q
    dsimp only at e r1
    subst e
    rw [List.map_cons, List.map_cons]
    by_cases h : p1 = k
    · simp only [h, if_true]
      exact (KVr.mapK k rv r2).cons rv
    · simp only [h, if_false]
      exact (KVr.mapK k rv r2).cons r1
theorem KVr.snoc {κ : Type} {k : κ} {v : V} {x : Va} {ks : List (κ × V)} {xs : List (κ × Va)} (t : KVr G ρ S H ks xs) (r : Vr G ρ S H v x) : KVr G ρ S H (ks ++ [(k, v)]) (xs ++ [(k, x)]) := by
  refine ⟨?_, ?_⟩
  · rw [List.map_append, List.map_append, t.1]; rfl
  · rw [List.map_append, List.map_append]; exact t.2.append (.cons r .nil)
theorem KVr.put {κ : Type} [DecidableEq κ] (k : κ) {v : V} {x : Va} (rv : Vr G ρ S H v x) {ks : List (κ × V)} {xs : List (κ × Va)} (r : KVr G ρ S H ks xs) : KVr G ρ S H (putK ks k v) (putA xs k x) := by
  unfold putK putA
  rw [r.any k]
  split
  · exact r.mapK k rv
  · exact r.snoc rv
theorem KVr.len {κ : Type} {ks : List (κ × V)} {xs : List (κ × Va)} (r : KVr G ρ S H ks xs) : ks.length = xs.length := by simpa using congrArg List.length r.1
end
/-- d.get: what a dict tells of a key -/
inductive Dk where
  | k (lk : Bool) (kvs : List (Key × Va)) | t (lk : Bool) (kvs : List (List Key × Va))
def lookD (st : Sto) : Va → Option Dk
  | .ref i => match st[i]? with
    | some (.dct lk kvs) => some (.k lk kvs)
    | some (.dtt lk kvs) => some (.t lk kvs)
    | _ => none
  | _ => none
/-- outer none: it can't be told -/
def getD (st : Sto) (d k : Va) : Option (Option Va) := match lookD st d with
  | some (.k _ kvs) => (keyA k).map fun j => valA kvs j
  | some (.t _ kvs) => (keysA k).map fun j => valA kvs j
  | none => none
section
variable {G : Gc} {ρ : List Addr} {S : Addr → Prop} {H : Hp} {st : Sto}
theorem lookD_ok (R : Rep G ρ S st H) {v : V} {x : Va} {D : Dk} (r : Vr G ρ S H v x) (e : lookD st x = some D) : ∃ a, v = .ref a ∧ match D with
    | .k false kvs => ∃ ks, H a = some (.dK ks) ∧ KVr G ρ S H ks kvs
    | .k true kvs => ∃ o ks, H a = some (.frz o (.dK ks)) ∧ KVr G ρ S H ks kvs
    | .t false kvs => ∃ ks, H a = some (.dT ks) ∧ KVr G ρ S H ks kvs
    | .t true kvs => ∃ o ks, H a = some (.frz o (.dT ks)) ∧ KVr G ρ S H ks kvs := by
  cases r with
  | @ref i a e1 =>
    unfold lookD at e
    dsimp only at e
    cases e2 : st[i]? with
    | none => simp [e2] at e
    | some o =>
      have q := R.obj i a o e1 e2
      cases o with
      | dct lk kvs =>
        simp [e2] at e
        subst e
        cases lk <;> exact ⟨a, rfl, q⟩
      | dtt lk kvs =>
        simp [e2] at e
        subst e
        cases lk <;> exact ⟨a, rfl, q⟩
      | _ => simp [e2] at e
  | _ => cases e
theorem getD_ok (R : Rep G ρ S st H) {v w : V} {d k : Va} {o : Option Va} (r : Vr G ρ S H v d) (rk : Vr G ρ S H w k) (e : getD st d k = some o) :
    ∃ a ov, v = .ref a ∧ DGet H a w ov ∧ ((o = none ∧ ov = none) ∨ ∃ x u, o = some x ∧ ov = some u ∧ Vr G ρ S H u x) := by
  unfold getD at e
  cases e1 : lookD st d with
  | none => rw [e1] at e; cases e
  | some D =>
    rw [e1] at e
    obtain ⟨a, rfl, q⟩ := lookD_ok R r e1
    cases D with
    | k lk kvs =>
      dsimp only at e
      obtain ⟨j, hj, ej⟩ := Option.map_eq_some_iff.mp e
      have hw := keyA_ok rk hj
      have ⟨ks, hd, hr⟩ : ∃ ks, Rd H a (.dK ks) ∧ KVr G ρ S H ks kvs := by
        cases lk with
        | false => obtain ⟨ks, h1, h2⟩ := q; exact ⟨ks, .inl h1, h2⟩
        | true => obtain ⟨o, ks, h1, h2⟩ := q; exact ⟨ks, .inr ⟨o, h1⟩, h2⟩
      refine ⟨a, valV ks j, rfl, .inl ⟨ks, j, hd, hw, rfl⟩, ?_⟩
      rw [← ej]
      rcases hr.val j with ⟨h1, h2⟩ | ⟨u, x, h1, h2, h3⟩
      · exact .inl ⟨h2, h1⟩
      · exact .inr ⟨x, u, h2, h1, h3⟩
    | t lk kvs =>
      dsimp only at e
      obtain ⟨j, hj, ej⟩ := Option.map_eq_some_iff.mp e
      obtain ⟨b, hw, hb⟩ := keysA_ok rk hj
      have ⟨ks, hd, hr⟩ : ∃ ks, Rd H a (.dT ks) ∧ KVr G ρ S H ks kvs := by
        cases lk with
        | false => obtain ⟨ks, h1, h2⟩ := q; exact ⟨ks, .inl h1, h2⟩
        | true => obtain ⟨o, ks, h1, h2⟩ := q; exact ⟨ks, .inr ⟨o, h1⟩, h2⟩
      refine ⟨a, valV ks j, rfl, .inr ⟨ks, j, b, hd, hw, hb, rfl⟩, ?_⟩
      rw [← ej]
      rcases hr.val j with ⟨h1, h2⟩ | ⟨u, x, h1, h2, h3⟩
      · exact .inl ⟨h2, h1⟩
      · exact .inr ⟨x, u, h2, h1, h3⟩
end

/-! ### in, not in -/
def flatP : PyData → Bool
  | .none => true
  | .bool _ => true
  | .int _ => true
  | .str _ => true
  | _ => false
/-- the members of a set -/
def lookS (st : Sto) : Va → Option (List Key)
  | .sts ks => some ks
  | .ref i => match st[i]? with
    | some (.set ks) => some ks
    | _ => none
  | _ => none
def opIn (neg : Bool) : Op2 := fun x y st => match y with
  | .str b => match x with
    | .str a => match a.cps.toList with
      | [c] => some (.bl (neg != decide (c ∈ b.cps.toList)), st)
      | _ => none
    | _ => none
  | .tup ys => match py st x, ys.mapM (py st) with
    | some d, some ds => if flatP d && ds.all flatP then some (.bl (neg != ds.any fun z => PyData.eqv z d), st) else none
    | _, _ => none
  | y => match lookS st y with
    | some ks => (keyA x).map fun k => (.bl (neg != ks.any fun j => decide (j = k)), st)
    | none => match getD st y x with
      | some o => some (.bl (neg != o.isSome), st)
      | none => match py st x, py st y with
        | some d, some (.list ds) => if SeqAt.shaped d && SeqAt.shaped (.list ds) then some (.bl (neg != ds.any fun z => PyData.eqv z d), st) else none
        | _, _ => none
section
variable {K : PySem.W.Frag} {H : Hp}
theorem flat_dp {v : V} {d : PyData} (h : Dp K H v d) (f : flatP d = true) : flatV v = true := by
  cases h <;> first | rfl | cases f
theorem flat_eqv {v w : V} {d e : PyData} (h : Dp K H v d) (g : Dp K H w e) (f : flatP d = true) (f' : flatP e = true) : eqV v w = PyData.eqv d e := by
  cases h <;> cases g <;> first | (cases f; done) | (cases f'; done) | (simp [eqV, PyData.eqv]; done)
theorem flat_all : ∀ {vs : List V} {ds : List PyData}, DpAll K H vs ds → ds.all flatP = true → vs.all flatV = true
  | _, _, .nil, _ => rfl
  | _, _, .cons h t, f => by
    rw [List.all_cons, Bool.and_eq_true] at f
    rw [List.all_cons, flat_dp h f.1, flat_all t f.2]; rfl
theorem flat_any {w : V} {e : PyData} (g : Dp K H w e) (f' : flatP e = true) : ∀ {vs : List V} {ds : List PyData}, DpAll K H vs ds → ds.all flatP = true → inV w vs = ds.any fun z => PyData.eqv z e
  | _, _, .nil, _ => rfl
  | _, _, .cons h t, f => by
    rw [List.all_cons, Bool.and_eq_true] at f
    unfold inV
    rw [List.any_cons, List.any_cons, flat_eqv h g f.1 f']
    congr 1
    exact flat_any g f' t f.2
end
theorem lookS_ok {G : Gc} {ρ : List Addr} {S : Addr → Prop} {H : Hp} {st : Sto} (R : Rep G ρ S st H) {v : V} {x : Va} {ks : List Key} (r : Vr G ρ S H v x) (e : lookS st x = some ks) :
    ∃ a M, v = .ref a ∧ H a = some (SetX G.P G.w a M ks.length) ∧ (∀ k, M k = true ↔ k ∈ ks) ∧ ks.Nodup := by
  cases r with
  | sts s e1 m d => cases e; exact ⟨_, _, rfl, e1, m, d⟩
  | @ref i a e1 =>
    unfold lookS at e
    dsimp only at e
    cases e2 : st[i]? with
    | none => simp [e2] at e
    | some o =>
      have q := R.obj i a o e1 e2
      cases o with
      | set js =>
        simp [e2] at e
        subst e
        obtain ⟨M, h1, h2, h3⟩ := q
        exact ⟨a, M, rfl, h1, h2, h3⟩
      | _ => simp [e2] at e
  | _ => cases e
/-- in, both ways -/
structure InF (X : Cx) (neg : Bool) (f : Value → Value → Sem Value) : Prop where
  sign : OpR X f (fun x y H Q => ∃ (c : Nat) (z : Str), x = .str ⟨#[c]⟩ ∧ y = .str z ∧ Q (.bl (neg != decide (c ∈ z.cps.toList))) H)
  seq : OpR X f (rIn X.K neg)
  set : OpR X f (rInM X.prog X.w neg)
  deep : OpR X f (fun x y H Q => ∃ d ds, Dp X.K H x d ∧ Dp X.K H y (.list ds) ∧ SeqAt.shaped d = true ∧ SeqAt.shaped (.list ds) = true ∧ Q (.bl (neg != ds.any fun z => PyData.eqv z d)) H)
  dict : OpR X f (fun x y H Q => ∃ a o, y = .ref a ∧ DGet H a x o ∧ Q (.bl (neg != o.isSome)) H)
section
variable {X : Cx}
theorem nb (b c : Bool) : (if b = true then !c else c) = (b != c) := by cases b <;> cases c <;> rfl
theorem inF {k : Nat} (hr : Room k X.A) : InF X false (compareOp .In) where
  sign := fun pins s σ H x y v u Q I rx ry ⟨c, z, e1, e2, q⟩ => op_in_sign pins s σ H x y v u Q I rx ry ⟨c, z, e1, e2, by simpa using q⟩
  seq := op_in_seq
  set := op_inM
  deep := fun pins s σ H x y v u Q I rx ry ⟨d, ds, h1, h2, h3, h4, q⟩ => op_inD (by have := hr.un; omega) pins s σ H x y v u Q I rx ry ⟨d, ds, h1, h2, h3, h4, by simpa using q⟩
  dict := fun pins s σ H x y v u Q I rx ry ⟨a, o, e, g, q⟩ => by
    subst e
    cases ry
    exact d_in (by have := hr.units; omega) I g rx fun s' I' => ⟨.bl o.isSome, H, I', rfl, by simpa using q⟩
theorem notInF {k : Nat} (hr : Room k X.A) : InF X true (compareOp .NotIn) where
  sign := fun pins s σ H x y v u Q I rx ry ⟨c, z, e1, e2, q⟩ => op_notIn_sign pins s σ H x y v u Q I rx ry ⟨c, z, e1, e2, by simpa using q⟩
  seq := op_notIn_seq
  set := op_notInM
  deep := fun pins s σ H x y v u Q I rx ry ⟨d, ds, h1, h2, h3, h4, q⟩ => op_notInD (by have := hr.un; omega) pins s σ H x y v u Q I rx ry ⟨d, ds, h1, h2, h3, h4, by simpa using q⟩
  dict := fun pins s σ H x y v u Q I rx ry ⟨a, o, e, g, q⟩ => by
    subst e
    cases ry
    exact d_notIn (by have := hr.units; omega) I g rx fun s' I' => ⟨.bl (!o.isSome), H, I', rfl, by simpa using q⟩
theorem or_in {neg : Bool} {f : Value → Value → Sem Value} (F : InF X neg f) : OpR X f (rD2 (gc X) (opIn neg)) := by
  intro pins s σ H x y v u Q I rx ry h
  obtain ⟨ρ, S, st, xa, ya, R, r1, r2, h⟩ := h
  unfold opIn at h
  split at h
  · split at h
    · rename_i a
      split at h
      · rename_i c e
        cases r1; cases r2
        have ea : a = ⟨#[c]⟩ := by
          obtain ⟨cps⟩ := a
          have : cps.toList = [c] := e
          congr
          exact Array.ext' (by simpa using this)
        subst ea
        exact F.sign pins s σ H _ _ v u Q I rx ry ⟨c, _, rfl, rfl, h.at R rfl _ (.bl _)⟩
      · exact h.no.elim
    · exact h.no.elim
  · rename_i ys
    split at h
    · rename_i d ds e1 e2
      split at h
      · rename_i hf
        obtain ⟨f1, f2⟩ := Bool.and_eq_true_iff.mp hf
        obtain ⟨a, vs, rfl, h1, h2⟩ := lookT_ok r2 rfl
        have dx := toPy_ok R _ _ _ _ r1 e1
        have da := dpAll_of (G := gc X) (toPy_ok R 12) h2 e2
        refine F.seq pins s σ H _ _ v u Q I rx ry ⟨a, vs, rfl, .inr h1, flat_dp dx f1, flat_all da f2, ?_⟩
        rw [nb, flat_any dx f1 da f2]
        exact h.at R rfl _ (.bl _)
      · exact h.no.elim
    · exact h.no.elim
  · split at h
    · rename_i ks e1
      obtain ⟨a, M, rfl, h1, h2, h3⟩ := lookS_ok R r2 e1
      cases e2 : keyA xa with
      | none => rw [e2] at h; exact h.no.elim
      | some k =>
        rw [e2] at h
        obtain rfl := keyA_ok r1 e2
        refine F.set pins s σ H _ _ v u Q I rx ry ⟨k, a, M, _, rfl, rfl, h1, ?_⟩
        have em : M k = ks.any fun j => decide (j = k) := by
          rw [Bool.eq_iff_iff, h2 k, List.any_eq_true]
          exact ⟨fun z => ⟨k, z, decide_eq_true rfl⟩, fun ⟨j, z, e⟩ => of_decide_eq_true e ▸ z⟩
        rw [nb, em]
        exact h.at R rfl _ (.bl _)
    · split at h
      · rename_i o e1
        obtain ⟨a, ov, rfl, g, ho⟩ := getD_ok R r2 r1 e1
        refine F.dict pins s σ H _ _ v u Q I rx ry ⟨a, ov, rfl, g, ?_⟩
        have : o.isSome = ov.isSome := by
          rcases ho with ⟨rfl, rfl⟩ | ⟨_, _, rfl, rfl, _⟩ <;> rfl
        rw [← this]
        exact h.at R rfl _ (.bl _)
      · split at h
        · rename_i d ds e1 e2
          split at h
          · rename_i hs
            obtain ⟨s1, s2⟩ := Bool.and_eq_true_iff.mp hs
            exact F.deep pins s σ H _ _ v u Q I rx ry ⟨d, ds, toPy_ok R _ _ _ _ r1 e1, toPy_ok R _ _ _ _ r2 e2, s1, s2, h.at R rfl _ (.bl _)⟩
          · exact h.no.elim
        · exact h.no.elim
theorem bl_in {neg : Bool} : ∀ x y st z st', opIn neg x y st = some (z, st') → ∃ b, z = .bl b := by
  intro x y st z st' h
  unfold opIn at h
  split at h
  · split at h
    · split at h
      · cases h; exact ⟨_, rfl⟩
      · cases h
    · cases h
  · split at h
    · split at h
      · cases h; exact ⟨_, rfl⟩
      · cases h
    · cases h
  · split at h
    · cases e2 : keyA x with
      | none => rw [e2] at h; cases h
      | some k => rw [e2] at h; cases h; exact ⟨_, rfl⟩
    · split at h
      · cases h; exact ⟨_, rfl⟩
      · split at h
        · split at h
          · cases h; exact ⟨_, rfl⟩
          · cases h
        · cases h
end
end SM
set_option Elab.async false
set_option linter.all false
set_option maxRecDepth 100000
set_option maxHeartbeats 4000000
/-! SM7: subscripts, slices, stores, methods of built-in types by the mirror. -/
namespace SM
open PySem PySem.Spec PyProof.Rows L2

section
variable {G : Gc} {ρ : List Addr} {S : Addr → Prop} {H : Hp} {st : Sto}
theorem Vrs.atI {vs : List V} {xs : List Va} {i : Int} {x : Va} (h : Vrs G ρ S H vs xs) (e : L2.atI xs i = some x) : ∃ v, L2.atI vs i = some v ∧ Vr G ρ S H v x := by
  unfold L2.atI at e ⊢
  rw [h.1]
  obtain ⟨j, e1, e2⟩ := Option.bind_eq_some_iff.mp e
  obtain ⟨v, h1, h2⟩ := h.get e2
  exact ⟨v, by rw [e1]; exact h1, h2⟩
end
/-! ### x[i] -/
def opIx : Op2 := fun x y st => match x, y with
  | .str z, .int i => if z.length ≤ sizeLine then (L2.atI z.cps.toList i).map fun c => (.str ⟨#[c]⟩, st) else none
  | .tup xs, .int i => (L2.atI xs i).map fun v => (v, st)
  | x, y => match lookL st x with
    | some xs => match y with
      | .int i => (L2.atI xs i).map fun v => (v, st)
      | _ => none
    | none => match getD st x y with
      | some (some v) => some (v, st)
      | _ => none
section
variable {X : Cx}
theorem ixr_dict (hu : X.A.units + 1 < cLine) : IxR X (fun x y H Q => ∃ a v, x = .ref a ∧ DGet H a y (some v) ∧ Q v H) := by
  intro value slice pins s σ H x y v u Q I rx ry h hs
  obtain ⟨a, r, rfl, g, q⟩ := h
  obtain rfl : v = Value.ref a := rx
  exact tail_any (dict_typeIs I g) slot_dict_getitem.lookup (d_getItem hu I g ry fun w' s' I' rw' => ⟨r, H, I', rw', q⟩) hs
theorem ixr {k : Nat} (hr : Room k X.A) : IxR X (rD2 (gc X) opIx) := by
  intro value slice pins s σ H x y v u Q I rx ry h hs
  obtain ⟨ρ, S, st, xa, ya, R, r1, r2, h⟩ := h
  unfold opIx at h
  split at h
  · rename_i z i
    cases r1; cases r2
    split at h
    · rename_i hz
      cases e : L2.atI z.cps.toList i with
      | none => rw [e] at h; exact h.no.elim
      | some c => rw [e] at h; exact ix_str value slice pins s σ H _ _ v u Q I rx ry ⟨z, i, c, rfl, rfl, hz, e, h.at R rfl _ (.str _)⟩ hs
    · exact h.no.elim
  · rename_i xs i
    cases r2
    obtain ⟨a, vs, rfl, h1, h2⟩ := lookT_ok r1 rfl
    cases e : L2.atI xs i with
    | none => rw [e] at h; exact h.no.elim
    | some c =>
      rw [e] at h
      obtain ⟨w, e1, rw'⟩ := h2.atI e
      exact ix_tup value slice pins s σ H _ _ v u Q I rx ry ⟨a, vs, i, w, rfl, rfl, h1, e1, h.at R rfl _ rw'⟩ hs
  · split at h
    · rename_i xs e0
      obtain ⟨a, vs, rfl, h1, h2⟩ := lookL_ok R r1 e0
      split at h
      · rename_i i _ _
        cases r2
        cases e : L2.atI xs i with
        | none => rw [e] at h; exact h.no.elim
        | some c =>
          rw [e] at h
          obtain ⟨w, e1, rw'⟩ := h2.atI e
          exact ix_list value slice pins s σ H _ _ v u Q I rx ry ⟨a, vs, i, w, rfl, rfl, h1, e1, h.at R rfl _ rw'⟩ hs
      · exact h.no.elim
    · split at h
      · rename_i z e1
        obtain ⟨a, ov, rfl, g, ho⟩ := getD_ok R r1 r2 e1
        rcases ho with ⟨z, _⟩ | ⟨x', w, z, rfl, rw'⟩
        · cases z
        · cases z
          exact ixr_dict (by have := hr.units; omega) value slice pins s σ H _ _ v u Q I rx ry ⟨a, w, rfl, g, h.at R rfl _ rw'⟩ hs
      · exact h.no.elim

/-! ### x[lo:hi] -/
def cutA (xs : List Va) (lo hi : Option Int) : List Va := (xs.drop (HT.sIx xs.length 0 lo)).take (HT.sIx xs.length xs.length hi - HT.sIx xs.length 0 lo)
def opSl (c : Bool) (x : Va) (lo hi : Option Int) (st : Sto) : Option (Va × Sto) := match x with
  | .str z => if z.length ≤ sizeLine then some (.str (cutS z lo hi), st) else none
  | .tup xs => some (.tup (cutA xs lo hi), st)
  | x => (lookL st x).map fun xs => mkL c (cutA xs lo hi) st
def rSl (G : Gc) (c : Bool) : V → Option Int → Option Int → Hp → VK → Prop := fun vx lo hi H Q => ∃ ρ S st x, Rep G ρ S st H ∧ Vr G ρ S H vx x ∧ EndO G ρ S H (opSl c x lo hi st) Q
theorem Vrs.cut {G : Gc} {ρ : List Addr} {S : Addr → Prop} {H : Hp} {vs : List V} {xs : List Va} (h : Vrs G ρ S H vs xs) (lo hi : Option Int) : Vrs G ρ S H (cutV vs lo hi) (cutA xs lo hi) := by
  unfold cutV cutA
  rw [h.1]
  exact (h.drop _).take _
theorem slr (c : Bool) : SlR X (rSl (gc X) c) := by
  intro pins s σ H x v vl vu lo hi sl Q I rx hs pl pu h
  obtain ⟨ρ, S, st, xa, R, r1, h⟩ := h
  unfold opSl at h
  split at h
  · rename_i z
    cases r1
    split at h
    · rename_i hz
      exact sl_str pins s σ H _ v vl vu lo hi sl Q I rx hs pl pu ⟨z, rfl, hz, h.at R rfl _ (.str _)⟩
    · exact h.no.elim
  · rename_i xs
    obtain ⟨a, vs, rfl, h1, h2⟩ := lookT_ok r1 rfl
    refine sl_tupA pins s σ H _ v vl vu lo hi sl Q I rx hs pl pu ⟨a, vs, rfl, h1, fun ⟨z1, z2⟩ => ?_, fun _ => h.tup R rfl (h2.cut lo hi)⟩
    have e : cutA xs lo hi = xs := by
      unfold cutA
      rw [← h2.1, z1, z2, List.drop_zero, Nat.sub_zero, h2.1, List.take_length]
    rw [e] at h
    exact h.at R rfl _ r1
  · cases e : lookL st xa with
    | none => rw [e] at h; exact h.no.elim
    | some xs =>
      rw [e] at h
      obtain ⟨a, vs, rfl, h1, h2⟩ := lookL_ok R r1 e
      exact sl_list pins s σ H _ v vl vu lo hi sl Q I rx hs pl pu ⟨a, vs, rfl, h1, h.mk R rfl (h2.cut lo hi)⟩
def asInt : Va → Option Int
  | .int i => some i
  | _ => none
abbrev MO := Slo → Sto → Rs (Option Int)
def mNoPart : MO := fun _ st => .ok none st
def mPart (m : ME) : MO := fun sl st => (m sl st).bind fun x st1 => match asInt x with
  | some i => .ok (some i) st1
  | none => .stuck
def mSl (c : Bool) (m : ME) (l h : MO) : ME := fun sl st => (m sl st).bind fun x st1 => (l sl st1).bind fun lo st2 => (h sl st2).bind fun hi st3 => Rs.of (opSl c x lo hi st3)
def tDo (G : Gc) (W : WX) (m : MO) : TO := fun σ H Q => ∃ ρ S sl st, Rp G ρ S sl st σ H ∧ PostR G W (fun _ _ _ (v : Option Int) x => v = x) ρ S H sl σ (m sl st) Q
abbrev ODc (X : Cx) (W : WX) (e : Option Expr) (m : MO) : Prop := PO X e (tDo (gc X) W m)
theorem po_weak {e : Option Expr} {t t' : TO} (h : PO X e t) (w : ∀ σ H Q, t' σ H Q → t σ H Q) : PO X e t' := ⟨fun pins s σ H Q I q => h.run pins s σ H Q I (w σ H Q q)⟩
variable {W : WX} {e : Expr} {m : ME} {pos p2 : Pos} {lo hi : Option Expr} {ml mh : MO}
theorem od_none : ODc X W none mNoPart := by
  refine po_weak po_none fun σ H Q h => ?_
  obtain ⟨ρ, S, sl, st, rp, h⟩ := h
  exact PostR.ok (v := (none : Option Int)) h rp rfl
theorem od_some (h : ED X W e m) : ODc X W (some e) (mPart m) := by
  refine po_weak (po_some h) fun σ H Q h => ?_
  obtain ⟨ρ, S, sl, st, rp, h⟩ := h
  refine ⟨ρ, S, sl, st, rp, PostR.bind h fun x st1 ρ1 S1 H1 v E1 rp1 r1 h1 => ?_⟩
  cases r1 <;> first | exact h1.elim | skip
  exact ⟨_, rfl, PostR.ok (v := some _) h1 rp1 rfl⟩
theorem ed_sl (c : Bool) (he : ED X W e m) (hl : ODc X W lo ml) (hh : ODc X W hi mh) : ED X W (.Subscript e (.Slice lo hi none p2) pos) (mSl c m ml mh) := by
  refine pe_weak (pe_slice (slr c) he hl hh) fun σ H Q h => ?_
  obtain ⟨ρ, S, sl, st, rp, h⟩ := h
  refine ⟨ρ, S, sl, st, rp, PostR.bind h fun x st1 ρ1 S1 H1 v E1 rp1 r1 h1 => ?_⟩
  refine ⟨ρ1, S1, sl, st1, rp1, PostR.bind h1 fun l st2 ρ2 S2 H2 lv E2 rp2 rl h2 => ?_⟩
  obtain rfl : lv = l := rl
  refine ⟨ρ2, S2, sl, st2, rp2, PostR.bind h2 fun u st3 ρ3 S3 H3 uv E3 rp3 ru h3 => ?_⟩
  obtain rfl : uv = u := ru
  exact ⟨ρ3, S3, st3, x, rp3.rep, r1.mono (E2.trans E3), .of_post rp3 h3⟩

/-! ### o[i] = v -/
def stIx : Va → Va → Va → Sto → Option Sto := fun o i v st => match o with
  | .ref a => match st[a]? with
    | some (.lst xs) => match i with
      | .int k => (ixN xs.length k).map fun j => st.set a (.lst (xs.set j v))
      | _ => none
    | some (.dct false kvs) => match keyA i with
      | some k => if kvs.length < sizeLine then some (st.set a (.dct false (putA kvs k v))) else none
      | none => none
    | some (.dtt false kvs) => match keysA i with
      | some k => if kvs.length < sizeLine then some (st.set a (.dtt false (putA kvs k v))) else none
      | none => none
    | _ => none
  | _ => none
def tSetD (G : Gc) : TSet := fun o i v H Q => ∃ ρ S st x y z st', Rep G ρ S st H ∧ Vr G ρ S H o x ∧ Vr G ρ S H i y ∧ Vr G ρ S H v z ∧ stIx x y z st = some st' ∧ ∀ H', Ext ρ S H ρ S H' → Rep G ρ S st' H' → Q H'
theorem pset_d {k : Nat} (hr : Room k X.A) : PSet X (tSetD (gc X)) := by
  intro pins s σ H o i v ov iv u Q I ro ri rv h
  obtain ⟨ρ, S, st, x, y, z, st', R, r1, r2, r3, e, q⟩ := h
  have hu : X.A.units + 1 < cLine := by have := hr.units; omega
  unfold stIx at e
  split at e
  · rename_i a
    cases r1 with
    | @ref _ p e1 =>
      split at e
      · rename_i xs e2
        obtain ⟨vs, h1, h2⟩ := R.obj _ _ _ e1 e2
        split at e
        · rename_i k
          cases r2
          obtain ⟨j, hj, ej⟩ := Option.map_eq_some_iff.mp e
          subst ej
          refine set_list pins s σ H _ _ v ov iv u Q I ro ri rv ⟨p, vs, k, j, rfl, rfl, h1, by rw [h2.1]; exact hj, ?_⟩
          obtain ⟨E, R'⟩ := R.write e1 (u := .lst (vs.set j v)) (o := .lst (xs.set j z)) fun E => ⟨_, upd_same, (h2.set j r3).mono E⟩
          exact q _ E R'
        · cases e
      · rename_i kvs e2
        obtain ⟨ks, h1, h2⟩ := R.obj _ _ _ e1 e2
        split at e
        · rename_i k ek
          split at e
          · rename_i hl
            cases e
            obtain rfl := keyA_ok r2 ek
            have hl2 : ks.length < sizeLine := by rw [h2.len]; exact hl
            refine set_dict hu pins s σ H _ _ v ov iv u Q I ro ri rv ⟨p, _, rfl, .k h1 hl2, ?_⟩
            obtain ⟨E, R'⟩ := R.write e1 (u := .dK (putK ks k v)) (o := .dct false (putA kvs k z)) fun E => ⟨_, upd_same, (h2.put k r3).mono E⟩
            exact q _ E R'
          · cases e
        · cases e
      · rename_i kvs e2
        obtain ⟨ks, h1, h2⟩ := R.obj _ _ _ e1 e2
        split at e
        · rename_i k ek
          split at e
          · rename_i hl
            cases e
            obtain ⟨b, rfl, hb⟩ := keysA_ok r2 ek
            have hl2 : ks.length < sizeLine := by rw [h2.len]; exact hl
            refine set_dict hu pins s σ H _ _ v ov iv u Q I ro ri rv ⟨p, _, rfl, .t h1 hb hl2, ?_⟩
            obtain ⟨E, R'⟩ := R.write e1 (u := .dT (putK ks k v)) (o := .dtt false (putA kvs k z)) fun E => ⟨_, upd_same, (h2.put k r3).mono E⟩
            exact q _ E R'
          · cases e
        · cases e
      · cases e
  · cases e
/-- the target o[i] -/
def gSubD (mo mi : ME) : MG := fun z sl st => match mo sl st with
  | .ok x st1 => match mi sl st1 with
    | .ok y st2 => (stIx x y z st2).map fun st3 => (sl, st3)
    | _ => none
  | _ => none
theorem gd_sub {k : Nat} (hr : Room k X.A) {o i : Expr} {mo mi : ME} (ho : ED X W o mo) (hi : ED X W i mi)
    (ha : ∀ v, assign (.Subscript o i pos) X.env v = (do
      let ov ← holding [v] (eval o X.env)
      let iv ← holding [v, ov] (eval i X.env)
      standAt pos
      holding [v, ov, iv] (setItem ov iv v)
      release [v, ov, iv] []) := by intro _; rfl) : GD X (.Subscript o i pos) (gSubD mo mi) := by
  refine pg_weak (pg_sub ho hi (pset_d hr) ha) fun v σ H Q h => ?_
  obtain ⟨ρ, S, sl, st, z, rp, rz, sl', st', e, q⟩ := h
  unfold gSubD at e
  cases e1 : mo sl st with
  | stuck => rw [e1] at e; cases e
  | err x s => rw [e1] at e; cases e
  | ok x st1 =>
    rw [e1] at e
    dsimp only at e
    cases e2 : mi sl st1 with
    | stuck => rw [e2] at e; cases e
    | err x s => rw [e2] at e; cases e
    | ok y st2 =>
      rw [e2] at e
      dsimp only at e
      obtain ⟨st3, e3, ee⟩ := Option.map_eq_some_iff.mp e
      cases ee
      refine ⟨ρ, S, sl, st, rp, ?_⟩
      rw [e1]
      intro ρ1 S1 H1 xv E1 rp1 r1
      refine ⟨ρ1, S1, sl, st1, rp1, ?_⟩
      rw [e2]
      intro ρ2 S2 H2 yv E2 rp2 r2
      refine ⟨ρ2, S2, st2, x, y, z, _, rp2.rep, r1.mono E2, r2, rz.mono (E1.trans E2), e3, fun H' E3 R' => ?_⟩
      exact q ρ2 S2 σ H' ((E1.trans E2).trans E3) (rp2.mono E3 R')
end
end SM
set_option Elab.async false
set_option linter.all false
set_option maxRecDepth 100000
set_option maxHeartbeats 4000000
/-! SM8: methods of built-in types by the mirror. -/
namespace SM
open PySem PySem.Spec PyProof.Rows L2

/-! ### the types that are asked -/
def isL (st : Sto) (x : Va) : Bool := (lookM st x).isSome
def isS (_ : Sto) : Va → Bool
  | .str _ => true
  | _ => false
def isD (st : Sto) (x : Va) : Bool := match lookD st x with
  | some (.k false _) => true
  | some (.t false _) => true
  | _ => false
structure TyOk (T : String) (τ : Sto → Va → Bool) : Prop where
  ok : ∀ {G : Gc} {ρ : List Addr} {S : Addr → Prop} {H : Hp} {st : Sto} {v : V} {x : Va}, Rep G ρ S st H → Vr G ρ S H v x → τ st x = true → tyV G.K T v H
theorem tyL : TyOk "list" isL := ⟨fun {G ρ S H st v x} R r e => by
  obtain ⟨xs, hx⟩ := Option.isSome_iff_exists.mp (show (lookM st x).isSome = true from e)
  obtain ⟨a, vs, rfl, h1, _⟩ := lookM_ok R r hx
  exact .inl ⟨rfl, vs, .of h1⟩⟩
theorem tyS : TyOk "str" isS := ⟨fun {G ρ S H st v x} R r e => by
  cases r <;> first | rfl | cases e⟩
theorem tyD : TyOk "dict" isD := ⟨fun {G ρ S H st v x} R r e => by
  unfold isD at e
  cases q : lookD st x with
  | none => rw [q] at e; cases e
  | some D =>
    rw [q] at e
    obtain ⟨a, rfl, h⟩ := lookD_ok R r q
    cases D with
    | k lk kvs =>
      cases lk with
      | true => cases e
      | false => obtain ⟨ks, h1, _⟩ := h; exact .inr (.inr (.inl ⟨rfl, .inl ⟨ks, h1⟩⟩))
    | t lk kvs =>
      cases lk with
      | true => cases e
      | false => obtain ⟨ks, h1, _⟩ := h; exact .inr (.inr (.inl ⟨rfl, .inr ⟨ks, h1⟩⟩))⟩
def mMt (τ : Sto → Va → Bool) (f : Va → OpN) (mo : ME) (ma : MA) : ME := fun sl st => (mo sl st).bind fun x st1 => if τ st1 x then (ma sl st1).bind fun xs st2 => Rs.of (f x xs st2) else .stuck
section
variable {X : Cx} {W : WX} {o e : Expr} {es : List Expr} {mo : ME} {ma : MA} {name : Str} {apos cpos : Pos} {T id : String} {f : Va → OpN} {τ : Sto → Va → Bool}
theorem ed_bm0 (ty : TyOk T τ) (pa : PlainAttrs T) (slot : Slot T name id) (hty : typeOf (.builtin id) = pure (.type "method_descriptor")) (hm : MtR X id (rDM (gc X) f)) (ho : ED X W o mo)
    (hbase : attributeBase o name X.env (eval o X.env) = eval o X.env := by rfl) (hline : (apos.endLine == cpos.line) = true := by rfl) : ED X W (.Call (.Attribute o name apos) [] [] cpos) (mMt τ f mo mNil) := by
  refine pe_weak (pe_bm0 pa slot hty hm ho hbase hline) fun σ H Q h => ?_
  obtain ⟨ρ, S, sl, st, rp, h⟩ := h
  refine ⟨ρ, S, sl, st, rp, PostR.bind h fun x st1 ρ1 S1 H1 v E1 rp1 r1 h1 => ?_⟩
  by_cases ht : τ st1 x = true
  · rw [if_pos ht] at h1
    exact ⟨ty.ok rp1.rep r1 ht, ρ1, S1, st1, x, [], rp1.rep, r1, .nil, .of_post rp1 h1⟩
  · rw [if_neg ht] at h1; exact h1.elim
theorem ed_bm (ty : TyOk T τ) (pa : PlainAttrs T) (slot : Slot T name id) (hty : typeOf (.builtin id) = pure (.type "method_descriptor")) (hm : MtR X id (rDM (gc X) f)) (ho : ED X W o mo) (ha : EA X W (e :: es) ma)
    (hbase : attributeBase o name X.env (eval o X.env) = eval o X.env := by rfl)
    (hfew : ((backTo cpos (starEach (e :: es) X.env)).all (fun x => !x.1) && (backToKw cpos (keywordEach [] X.env)).all (fun x => x.1.isSome)
      && decide ((e :: es).length + ([] : List Keyword).length + (if ([] : List Keyword).isEmpty then 0 else 1) < 30)) = true := by rfl)
    (hline : (apos.endLine == cpos.line) = true := by rfl) (hs : starEach (e :: es) X.env = (false, eval e X.env) :: starEach es X.env := by rfl) (hplain : (backTo cpos (starEach es X.env)).any (·.1) = false := by rfl) :
    ED X W (.Call (.Attribute o name apos) (e :: es) [] cpos) (mMt τ f mo ma) := by
  refine pe_weak (pe_bm pa slot hty hm ho ha hbase hfew hline hs hplain) fun σ H Q h => ?_
  obtain ⟨ρ, S, sl, st, rp, h⟩ := h
  refine ⟨ρ, S, sl, st, rp, PostR.bind h fun x st1 ρ1 S1 H1 v E1 rp1 r1 h1 => ?_⟩
  by_cases ht : τ st1 x = true
  · rw [if_pos ht] at h1
    refine ⟨ty.ok rp1.rep r1 ht, ρ1, S1, sl, st1, rp1, PostR.bind h1 fun xs st2 ρ2 S2 H2 vs E2 rp2 r2 h2 => ?_⟩
    exact ⟨ρ2, S2, st2, x, xs, rp2.rep, r1.mono E2, r2, .of_post rp2 h2⟩
  · rw [if_neg ht] at h1; exact h1.elim
end
section
variable {G : Gc} {ρ : List Addr} {S : Addr → Prop} {H : Hp} {st : Sto}
/-- a place of the store written -/
theorem EndO.wr {z : Va} {v : V} {i : Nat} {a : Addr} {u : HO} {o : Ob} {r : Option (Va × Sto)} {Q : VK} (h : EndO G ρ S H r Q) (R : Rep G ρ S st H) (e1 : ρ[i]? = some a) (e : r = some (z, st.set i o)) (ho : Ext ρ S H ρ S (upd H a u) → Obr G ρ S (upd H a u) a o)
    (rz : Ext ρ S H ρ S (upd H a u) → Vr G ρ S (upd H a u) v z) : Q v (upd H a u) := by
  obtain ⟨z', st', e2, h⟩ := h
  rw [e] at e2
  cases e2
  obtain ⟨E, R'⟩ := R.write e1 (u := u) (o := o) ho
  exact h _ _ _ _ E R' (rz E)
theorem vr_at {v : V} {i : Nat} (R : Rep G ρ S st H) (r : Vr G ρ S H v (.ref i)) : ∃ a, v = .ref a ∧ ρ[i]? = some a := by
  cases r with
  | ref e => exact ⟨_, rfl, e⟩
end
/-- a list's method that changes it -/
def onL (g : List Va → List Va → Option (Va × List Va)) : Va → OpN := fun x vs st => match x with
  | .ref i => match st[i]? with
    | some (.lst xs) => (g xs vs).map fun p => (p.1, st.set i (.lst p.2))
    | _ => none
  | _ => none
section
variable {X : Cx}
theorem on_l {id : String} {g : List Va → List Va → Option (Va × List Va)} {r : V → List V → Hp → VK → Prop} (hr : MtR X id r)
    (h : ∀ {ρ : List Addr} {S : Addr → Prop} {H : Hp} {a : Addr} {vs ws : List V} {xs ys zs : List Va} {z : Va} {Q : VK}, H a = some (.lst vs) → Vrs (gc X) ρ S H vs xs → Vrs (gc X) ρ S H ws ys → g xs ys = some (z, zs) →
      (∀ v us, Vr (gc X) ρ S H v z → Vrs (gc X) ρ S H us zs → Q v (upd H a (.lst us))) → r (.ref a) ws H Q) : MtR X id (rDM (gc X) (onL g)) := by
  intro pins s σ H x vs v us Q I rx rv hh
  obtain ⟨ρ, S, st, xa, ys, R, r1, r2, hh⟩ := hh
  unfold onL at hh
  split at hh
  · rename_i i
    obtain ⟨a, rfl, ea⟩ := vr_at R r1
    split at hh
    · rename_i xs e2
      obtain ⟨ws, h1, h2⟩ := R.obj _ _ _ ea e2
      cases e : g xs ys with
      | none => rw [e] at hh; exact hh.no.elim
      | some p =>
        rw [e] at hh
        refine hr pins s σ H _ _ v us Q I rx rv (h h1 h2 r2 e fun w us' rw' rus => ?_)
        exact hh.wr R ea rfl (fun E => ⟨us', upd_same, rus.mono E⟩) fun E => rw'.mono E
    · exact hh.no.elim
  · exact hh.no.elim
def gAppend (xs vs : List Va) : Option (Va × List Va) := match vs with
  | [y] => if xs.length < sizeLine then some (.non, xs ++ [y]) else none
  | _ => none
def gPop (xs vs : List Va) : Option (Va × List Va) := match vs with
  | [] => (xs[xs.length - 1]?).map fun y => (y, xs.dropLast)
  | [.int i] => if lim62 i then (seqIndex? i xs.length).bind fun k => (xs[k]?).map fun y => (y, xs.eraseIdx k) else none
  | _ => none
def gInsert (xs vs : List Va) : Option (Va × List Va) := match vs with
  | [.int i, y] => if xs.length < sizeLine ∧ 0 ≤ i ∧ lim62 i = true then some (.non, xs.take i.toNat ++ [y] ++ xs.drop i.toNat) else none
  | _ => none
def gClear (xs vs : List Va) : Option (Va × List Va) := match vs with
  | [] => some (.non, [])
  | _ => none
def gReverse (xs vs : List Va) : Option (Va × List Va) := match vs with
  | [] => some (.non, xs.reverse)
  | _ => none
theorem vrs_one {G : Gc} {ρ : List Addr} {S : Addr → Prop} {H : Hp} {ws : List V} {y : Va} (r : Vrs G ρ S H ws [y]) : ∃ w, ws = [w] ∧ Vr G ρ S H w y := by
  obtain ⟨w, rs, rfl, h1, h2⟩ := r.cons_r
  obtain rfl := h2.nil_r
  exact ⟨w, rfl, h1⟩
theorem vrs_two {G : Gc} {ρ : List Addr} {S : Addr → Prop} {H : Hp} {ws : List V} {y z : Va} (r : Vrs G ρ S H ws [y, z]) : ∃ w u, ws = [w, u] ∧ Vr G ρ S H w y ∧ Vr G ρ S H u z := by
  obtain ⟨w, rs, rfl, h1, h2⟩ := r.cons_r
  obtain ⟨u, rfl, h3⟩ := vrs_one h2
  exact ⟨w, u, rfl, h1, h3⟩
theorem mr_append : MtR X "list.append" (rDM (gc X) (onL gAppend)) := on_l mt_append fun {ρ S H a vs ws xs ys zs z Q} h1 r1 r2 e q => by
  unfold gAppend at e
  split at e
  · obtain ⟨w, rfl, r3⟩ := vrs_one r2
    split at e
    · rename_i hl
      cases e
      exact ⟨a, vs, w, rfl, rfl, h1, by rw [r1.1]; exact hl, q _ _ .non (r1.snoc r3)⟩
    · cases e
  · cases e
theorem mr_insert : MtR X "list.insert" (rDM (gc X) (onL gInsert)) := on_l mt_insert fun {ρ S H a vs ws xs ys zs z Q} h1 r1 r2 e q => by
  unfold gInsert at e
  split at e
  · obtain ⟨w, u, rfl, r3, r4⟩ := vrs_two r2
    cases r3
    split at e
    · rename_i hl
      cases e
      have := lim62_ok hl.2.2
      exact ⟨a, vs, _, u, rfl, rfl, h1, by rw [r1.1]; exact hl.1, hl.2.1, by omega, q _ _ .non (((r1.take _).snoc r4).append (r1.drop _))⟩
    · cases e
  · cases e
theorem mr_clear : MtR X "list.clear" (rDM (gc X) (onL gClear)) := on_l mt_clear fun {ρ S H a vs ws xs ys zs z Q} h1 r1 r2 e q => by
  unfold gClear at e
  split at e
  · obtain rfl := r2.nil_r
    cases e
    exact ⟨a, vs, rfl, rfl, h1, q _ _ .non .nil⟩
  · cases e
theorem mr_reverse : MtR X "list.reverse" (rDM (gc X) (onL gReverse)) := on_l mt_reverse fun {ρ S H a vs ws xs ys zs z Q} h1 r1 r2 e q => by
  unfold gReverse at e
  split at e
  · obtain rfl := r2.nil_r
    cases e
    exact ⟨a, vs, rfl, rfl, h1, q _ _ .non r1.reverse⟩
  · cases e
theorem Vrs.erase {G : Gc} {ρ : List Addr} {S : Addr → Prop} {H : Hp} {vs : List V} {xs : List Va} (h : Vrs G ρ S H vs xs) (k : Nat) : Vrs G ρ S H (vs.eraseIdx k) (xs.eraseIdx k) := by
  rw [List.eraseIdx_eq_take_drop_succ, List.eraseIdx_eq_take_drop_succ]
  exact (h.take _).append (h.drop _)
theorem mr_pop : MtR X "list.pop" (rDM (gc X) (onL gPop)) := by
  refine on_l (r := fun x vs H Q => rPop x vs H Q ∨ rPopAt x vs H Q) (fun pins s σ H x xs v us Q I rx rv h => h.elim (mt_pop pins s σ H x xs v us Q I rx rv) (mt_popAt pins s σ H x xs v us Q I rx rv)) fun {ρ S H a vs ws xs ys zs z Q} h1 r1 r2 e q => ?_
  unfold gPop at e
  split at e
  · obtain rfl := r2.nil_r
    obtain ⟨y, e1, e2⟩ := Option.map_eq_some_iff.mp e
    cases e2
    obtain ⟨w, hw, rw'⟩ := r1.get e1
    refine .inl ⟨a, vs, w, rfl, rfl, h1, by rw [r1.1]; exact hw, q _ _ rw' ?_⟩
    rw [List.dropLast_eq_take, List.dropLast_eq_take, r1.1]
    exact r1.take _
  · rename_i i
    obtain ⟨w, rfl, r3⟩ := vrs_one r2
    cases r3
    split at e
    · rename_i hl
      have b := lim62_ok hl
      obtain ⟨k, e1, e2⟩ := Option.bind_eq_some_iff.mp e
      obtain ⟨y, e3, e4⟩ := Option.map_eq_some_iff.mp e2
      cases e4
      obtain ⟨u, hu, ru⟩ := r1.get e3
      exact .inr ⟨a, vs, i, k, u, rfl, rfl, h1, by omega, by omega, by rw [r1.1]; exact e1, hu, q _ _ ru (r1.erase k)⟩
    · cases e
  · cases e
/-- xs.extend(ys) -/
def fExtend : Va → OpN := fun x vs st => match x, vs with
  | .ref i, [y] => match st[i]?, lookM st y with
    | some (.lst xs), some ys => if xs.length + ys.length ≤ sizeLine then some (.non, st.set i (.lst (xs ++ ys))) else none
    | _, _ => none
  | _, _ => none
theorem mr_extend : MtR X "list.extend" (rDM (gc X) fExtend) := by
  intro pins s σ H x vs v us Q I rx rv hh
  obtain ⟨ρ, S, st, xa, ys, R, r1, r2, hh⟩ := hh
  unfold fExtend at hh
  split at hh
  · rename_i i y
    obtain ⟨a, rfl, ea⟩ := vr_at R r1
    obtain ⟨w, rfl, r3⟩ := vrs_one r2
    split at hh
    · rename_i xs zs e2 e3
      obtain ⟨ws, h1, h2⟩ := R.obj _ _ _ ea e2
      obtain ⟨b, ts, rfl, h3, h4⟩ := lookM_ok R r3 e3
      split at hh
      · rename_i hl
        refine mt_extend pins s σ H _ _ v us Q I rx rv ⟨a, b, ws, ts, rfl, rfl, h1, h3, by rw [h2.1, h4.1]; exact hl, ?_⟩
        exact hh.wr R ea rfl (fun E => ⟨_, upd_same, (h2.append h4).mono E⟩) fun E => .non
      · exact hh.no.elim
    · exact hh.no.elim
  · exact hh.no.elim
/-! ### texts -/
def fLower : Va → OpN := fun x vs st => match x, vs with
  | .str a, [] => if a.length ≤ 5592405 then some (.str (Txt.lower a), st) else none
  | _, _ => none
def fUpper : Va → OpN := fun x vs st => match x, vs with
  | .str a, [] => if a.length ≤ 5592405 then some (.str (Txt.upper a), st) else none
  | _, _ => none
theorem mr_lower : MtR X "str.lower" (rDM (gc X) fLower) := by
  intro pins s σ H x vs v us Q I rx rv hh
  obtain ⟨ρ, S, st, xa, ys, R, r1, r2, hh⟩ := hh
  unfold fLower at hh
  split at hh
  · cases r1
    obtain rfl := r2.nil_r
    split at hh
    · rename_i hl
      exact mt_lower pins s σ H _ _ v us Q I rx rv ⟨_, rfl, rfl, hl, hh.at R rfl _ (.str _)⟩
    · exact hh.no.elim
  · exact hh.no.elim
theorem mr_upper : MtR X "str.upper" (rDM (gc X) fUpper) := by
  intro pins s σ H x vs v us Q I rx rv hh
  obtain ⟨ρ, S, st, xa, ys, R, r1, r2, hh⟩ := hh
  unfold fUpper at hh
  split at hh
  · cases r1
    obtain rfl := r2.nil_r
    split at hh
    · rename_i hl
      exact mt_upper pins s σ H _ _ v us Q I rx rv ⟨_, rfl, rfl, hl, hh.at R rfl _ (.str _)⟩
    · exact hh.no.elim
  · exact hh.no.elim
def asStr : Va → Option Str
  | .str x => some x
  | _ => none
theorem strs_all {G : Gc} {ρ : List Addr} {S : Addr → Prop} {H : Hp} : ∀ {xs : List Va} {vs : List V} {ss : List Str}, Vrs G ρ S H vs xs → xs.mapM asStr = some ss → vs = ss.map V.str
  | [], vs, ss, r, e => by
    obtain rfl := r.nil_r
    simp at e
    subst e
    rfl
  | x :: xs, vs, ss, r, e => by
    obtain ⟨v, ws, rfl, r1, r2⟩ := r.cons_r
    rw [List.mapM_cons] at e
    cases e1 : asStr x with
    | none => simp [e1] at e
    | some k =>
      cases e2 : xs.mapM asStr with
      | none => simp [e1, e2] at e
      | some js =>
        simp [e1, e2] at e
        subst e
        rw [strs_all r2 e2]
        cases r1 <;> cases e1
        rfl
def fJoin : Va → OpN := fun x vs st => match x, vs with
  | .str a, [y] => match lookL st y with
    | some xs => match xs.mapM asStr with
      | some ss => if (ss.map (·.length)).sum + ss.length * a.length ≤ 16777216 then some (.str (Txt.join a ss), st) else none
      | none => none
    | none => none
  | _, _ => none
theorem mr_join : MtR X "str.join" (rDM (gc X) fJoin) := by
  intro pins s σ H x vs v us Q I rx rv hh
  obtain ⟨ρ, S, st, xa, ys, R, r1, r2, hh⟩ := hh
  unfold fJoin at hh
  split at hh
  · cases r1
    obtain ⟨w, rfl, r3⟩ := vrs_one r2
    split at hh
    · rename_i xs e1
      obtain ⟨b, ts, rfl, h3, h4⟩ := lookL_ok R r3 e1
      split at hh
      · rename_i ss e2
        split at hh
        · rename_i hl
          have e3 := strs_all h4 e2
          subst e3
          exact mt_join pins s σ H _ _ v us Q I rx rv ⟨_, b, ss, rfl, rfl, .inl h3, hl, hh.at R rfl _ (.str _)⟩
        · exact hh.no.elim
      · exact hh.no.elim
    · exact hh.no.elim
  · exact hh.no.elim
/-! ### dicts -/
def fGet : Va → OpN := fun x vs st => match vs with
  | [k] => (getD st x k).map fun o => (o.getD .non, st)
  | [k, z] => (getD st x k).map fun o => (o.getD z, st)
  | _ => none
theorem mr_get {k : Nat} (hr : Room k X.A) : MtR X "dict.get" (rDM (gc X) fGet) := by
  intro pins s σ H x vs v us Q I rx rv hh
  obtain ⟨ρ, S, st, xa, ys, R, r1, r2, hh⟩ := hh
  have hu : X.A.units + 1 < cLine := by have := hr.units; omega
  unfold fGet at hh
  split at hh
  · obtain ⟨w, rfl, r3⟩ := vrs_one r2
    cases e : getD st xa _ with
    | none => rw [e] at hh; exact hh.no.elim
    | some o =>
      rw [e] at hh
      obtain ⟨a, ov, rfl, g, ho⟩ := getD_ok R r1 r3 e
      cases rx
      obtain ⟨u, rfl, ru⟩ := rv.one
      refine d_get1 hu I g ru fun w' s' I' rw' => ⟨_, H, I', rw', hh.at R rfl _ ?_⟩
      rcases ho with ⟨rfl, rfl⟩ | ⟨_, _, rfl, rfl, h⟩
      · exact .non
      · exact h
  · obtain ⟨w, u0, rfl, r3, r4⟩ := vrs_two r2
    cases e : getD st xa _ with
    | none => rw [e] at hh; exact hh.no.elim
    | some o =>
      rw [e] at hh
      obtain ⟨a, ov, rfl, g, ho⟩ := getD_ok R r1 r3 e
      cases rx
      obtain ⟨u1, u2, rfl, ru, ru2⟩ := rv.two
      refine d_get2 hu I g ru ru2 fun w' s' I' rw' => ⟨_, H, I', rw', hh.at R rfl _ ?_⟩
      rcases ho with ⟨rfl, rfl⟩ | ⟨_, _, rfl, rfl, h⟩
      · exact r4
      · exact h
  · exact hh.no.elim
def fDClear : Va → OpN := fun x vs st => match x, vs with
  | .ref i, [] => match st[i]? with
    | some (.dct false _) => some (.non, st.set i (.dct false []))
    | _ => none
  | _, _ => none
theorem mr_dclear : MtR X "dict.clear" (rDM (gc X) fDClear) := by
  intro pins s σ H x vs v us Q I rx rv hh
  obtain ⟨ρ, S, st, xa, ys, R, r1, r2, hh⟩ := hh
  unfold fDClear at hh
  split at hh
  · obtain ⟨a, rfl, ea⟩ := vr_at R r1
    obtain rfl := r2.nil_r
    split at hh
    · rename_i kvs e2
      obtain ⟨ks, h1, h2⟩ := R.obj _ _ _ ea e2
      exact mtd_clear pins s σ H _ _ v us Q I rx rv ⟨a, ks, rfl, rfl, h1, hh.wr R ea rfl (fun E => ⟨[], upd_same, rfl, .nil⟩) fun E => .non⟩
    · exact hh.no.elim
  · exact hh.no.elim
end
end SM
set_option Elab.async false
set_option linter.all false
set_option maxRecDepth 100000
set_option maxHeartbeats 4000000
/-! SM9: comprehensions by the mirror. -/
namespace SM
open PySem PySem.Spec PyProof.Rows L2

/-! ### a thing that is neither frozen nor a place of the store -/
section
variable {G : Gc} {ρ ρ' : List Addr} {S S' : Addr → Prop} {H H' : Hp} {st : Sto} {D : Addr}
theorem Vr.monoV (pre : ∀ (i : Nat) (a : Addr), ρ[i]? = some a → ρ'[i]? = some a) (sub : ∀ a, S a → S' a) (keep : ∀ a o, S a → H a = some o → H' a = some o) {v : V} {x : Va} (h : Vr G ρ S H v x) : Vr G ρ' S' H' v x := by
  induction h with
  | non => exact .non
  | bl b => exact .bl b
  | int i => exact .int i
  | str x => exact .str x
  | ref e => exact .ref (pre _ _ e)
  | tup s e l _ ih => exact .tup (sub _ s) (keep _ _ s e) l ih
  | fl s e l _ ih => exact .fl (sub _ s) (keep _ _ s e) l ih
  | fz e l _ ih =>
    refine .fz ?_ l ih
    rcases e with ⟨s, e | ⟨o, e⟩⟩ | e
    · exact .inl ⟨sub _ s, .inl (keep _ _ s e)⟩
    · exact .inl ⟨sub _ s, .inr ⟨o, keep _ _ s e⟩⟩
    · exact .inr e
  | sts s e m d => exact .sts (sub _ s) (keep _ _ s e) m d
  | ty n => exact .ty n
  | cls c => exact .cls c
  | exo s s2 e e2 k _ ih => exact .exo (sub _ s) (sub _ s2) (keep _ _ s e) (keep _ _ s2 e2) k ih
  | exn s e => exact .exn (sub _ s) (keep _ _ s e)
theorem Vrs.monoV (pre : ∀ (i : Nat) (a : Addr), ρ[i]? = some a → ρ'[i]? = some a) (sub : ∀ a, S a → S' a) (keep : ∀ a o, S a → H a = some o → H' a = some o) {v : List V} {x : List Va} (h : Vrs G ρ S H v x) : Vrs G ρ' S' H' v x :=
  ⟨h.1, fun j v x a b => (h.2 j v x a b).monoV pre sub keep⟩
theorem Obr.monoV (pre : ∀ (i : Nat) (a : Addr), ρ[i]? = some a → ρ'[i]? = some a) (sub : ∀ a, S a → S' a) (keep : ∀ a o, S a → H a = some o → H' a = some o) {a : Addr} {o : Ob} (ha : H' a = H a) (h : Obr G ρ S H a o) : Obr G ρ' S' H' a o := by
  cases o with
  | lst xs => obtain ⟨vs, e, r⟩ := h; exact ⟨vs, ha.trans e, r.monoV pre sub keep⟩
  | dct lk kvs =>
    cases lk with
    | false => obtain ⟨ks, e, r⟩ := h; exact ⟨ks, ha.trans e, r.1, r.2.monoV pre sub keep⟩
    | true => obtain ⟨ob, ks, e, r⟩ := h; exact ⟨ob, ks, ha.trans e, r.1, r.2.monoV pre sub keep⟩
  | dtt lk kvs =>
    cases lk with
    | false => obtain ⟨ks, e, r⟩ := h; exact ⟨ks, ha.trans e, r.1, r.2.monoV pre sub keep⟩
    | true => obtain ⟨ob, ks, e, r⟩ := h; exact ⟨ob, ks, ha.trans e, r.1, r.2.monoV pre sub keep⟩
  | set ks => obtain ⟨M, e, r⟩ := h; exact ⟨M, ha.trans e, r⟩
  | ins c fs => obtain ⟨dx, fvs, e, r⟩ := h; exact ⟨dx, fvs, ha.trans e, r.1, r.2.monoV pre sub keep⟩
theorem upO_keep (nS : ¬ S D) (u : HO) : ∀ a o, S a → H a = some o → upd H D u a = some o := fun a o s e => by
  have ne : a ≠ D := by
    intro z
    rw [z] at s
    exact nS s
  rw [upd_ne ne]; exact e
theorem Rep.upO (R : Rep G ρ S st H) (nS : ¬ S D) (nR : ∀ i : Nat, ρ[i]? ≠ some D) (u : HO) : Rep G ρ S st (upd H D u) := by
  refine ⟨R.len, R.inj, R.off, fun i a o e h => (R.obj i a o e h).monoV (fun _ _ e => e) (fun _ s => s) (upO_keep nS u) (upd_ne fun z => nR i (by rw [← z]; exact e)), fun a s => ?_⟩
  obtain ⟨o, h⟩ := R.thr a s
  exact ⟨o, upO_keep nS u a o s h⟩
theorem Vrs.upO {v : List V} {x : List Va} (nS : ¬ S D) (u : HO) (h : Vrs G ρ S H v x) : Vrs G ρ S (upd H D u) v x := h.monoV (fun _ _ e => e) (fun _ s => s) (upO_keep nS u)
theorem Ext.upO {H0 : Hp} {ρ0 : List Addr} {S0 : Addr → Prop} (E : Ext ρ0 S0 H0 ρ S H) (h0 : H0 D = none) (u : HO) : Ext ρ0 S0 H0 ρ S (upd H D u) := by
  have nd : ∀ {a : Addr} {o : HO}, H0 a = some o → a ≠ D := fun {a o} e z => by rw [z, h0] at e; cases e
  exact ⟨E.pre, E.sub, fun a o s e => by rw [upd_ne (nd e)]; exact E.keep a o s e, fun a o e n => by rw [upd_ne (nd e)]; exact E.rest a o e n, E.new, E.newS, fun a o e => by
    obtain ⟨v, q⟩ := E.more a o e
    exact ⟨v, by rw [upd_ne (nd e)]; exact q⟩⟩
/-- it becomes frozen -/
theorem Rep.addS (R : Rep G ρ S st H) (nR : ∀ i : Nat, ρ[i]? ≠ some D) {o : HO} (e : H D = some o) : Rep G ρ (fun a => S a ∨ a = D) st H := by
  refine ⟨R.len, R.inj, fun i a e s => s.elim (R.off i a e) fun z => nR i (by rw [← z]; exact e), fun i a o e h => (R.obj i a o e h).monoV (fun _ _ e => e) (fun _ s => .inl s) (fun _ _ _ h => h) rfl, fun a s => s.elim (R.thr a) fun z => ⟨o, by rw [z]; exact e⟩⟩
theorem Ext.addS {H0 : Hp} {ρ0 : List Addr} {S0 : Addr → Prop} (E : Ext ρ0 S0 H0 ρ S H) (h0 : H0 D = none) : Ext ρ0 S0 H0 ρ (fun a => S a ∨ a = D) H :=
  ⟨E.pre, fun a s => .inl (E.sub a s), E.keep, E.rest, E.new, fun a s => s.elim (E.newS a) fun z => .inr (by rw [z]; exact h0), E.more⟩
/-- it becomes a place of the store -/
theorem Rep.addC (R : Rep G ρ S st H) (nS : ¬ S D) (nR : ∀ i : Nat, ρ[i]? ≠ some D) {o : Ob} (h : Obr G ρ S H D o) : Rep G (ρ ++ [D]) S (st ++ [o]) H ∧ (ρ ++ [D])[st.length]? = some D := by
  have hl : (ρ ++ [D])[st.length]? = some D := by rw [← R.len]; exact getElem?_snoc_last
  have up : ∀ (i : Nat) (a : Addr), ρ[i]? = some a → (ρ ++ [D])[i]? = some a := fun _ _ h => getElem?_snoc_old h
  refine ⟨⟨by rw [List.length_append, List.length_append, R.len] <;> rfl, fun i j a h1 h2 => ?_, fun i a e s => ?_, fun i a ob e q => ?_, R.thr⟩, hl⟩
  · rcases getElem?_snoc h1 with h1 | ⟨h1, e1⟩
    · rcases getElem?_snoc h2 with h2 | ⟨h2, e2⟩
      · exact R.inj i j a h1 h2
      · exact absurd (e2 ▸ h1) (nR i)
    · rcases getElem?_snoc h2 with h2 | ⟨h2, e2⟩
      · exact absurd (e1 ▸ h2) (nR j)
      · rw [h1, h2]
  · rcases getElem?_snoc e with e | ⟨e1, e2⟩
    · exact R.off i a e s
    · rw [e2] at s; exact nS s
  · rcases getElem?_snoc e with e | ⟨e1, e2⟩
    · rcases getElem?_snoc q with q | ⟨q1, q2⟩
      · exact (R.obj i a ob e q).monoV up (fun _ s => s) (fun _ _ _ h => h) rfl
      · have := (List.getElem?_eq_some_iff.mp e).1
        rw [R.len] at this
        omega
    · rcases getElem?_snoc q with q | ⟨q1, q2⟩
      · have := (List.getElem?_eq_some_iff.mp q).1
        rw [← R.len] at this
        omega
      · rw [e2, q2]; exact h.monoV up (fun _ s => s) (fun _ _ _ h => h) rfl
theorem Ext.addC {H0 : Hp} {ρ0 : List Addr} {S0 : Addr → Prop} (E : Ext ρ0 S0 H0 ρ S H) (h0 : H0 D = none) : Ext ρ0 S0 H0 (ρ ++ [D]) S H :=
  ⟨fun i a h => getElem?_snoc_old (E.pre i a h), E.sub, E.keep, E.rest, fun i a h => Or.elim (getElem?_snoc h) (E.new i a) fun e => .inr (by rw [e.2]; exact h0), E.newS, E.more⟩
end
/-! ### the block's own names -/
def wipeA (sl : Slo) : List Nat → Slo
  | [] => sl
  | v :: vs => (wipeA sl vs).set v none
theorem wipeA_len (sl : Slo) : ∀ vs : List Nat, (wipeA sl vs).length = sl.length
  | [] => rfl
  | v :: vs => by unfold wipeA; rw [List.length_set, wipeA_len sl vs]
theorem Rp.wipe {G : Gc} {ρ : List Addr} {S : Addr → Prop} {H : Hp} {sl : Slo} {st : Sto} {σ : L2.St} (rp : Rp G ρ S sl st σ H) : ∀ vs : List Nat, Rp G ρ S (wipeA sl vs) st (L2.wipe σ vs) H
  | [] => rp
  | v :: vs => by
    have ih := Rp.wipe rp vs
    unfold wipeA L2.wipe
    refine ⟨ih.rep, by rw [List.length_set, List.length_set]; exact ih.len, fun i x h => ?_⟩
    rw [List.getElem?_set] at h ⊢
    by_cases e : v = i
    · rw [if_pos e] at h
      split at h <;> cases h
    · rw [if_neg e] at h ⊢
      exact ih.slot i x h
theorem wipe_set {σ : L2.St} {i : Nat} {x : Option V} : ∀ {vs : List Nat}, i ∈ vs → L2.wipe (σ.set i x) vs = L2.wipe σ vs
  | v :: vs, h => by
    unfold L2.wipe
    by_cases e : i ∈ vs
    · rw [wipe_set e]
    · have ev : i = v := by
        rcases List.mem_cons.mp h with h | h
        · exact h
        · exact absurd h e
      subst ev
      have key : ∀ {us : List Nat}, i ∉ us → L2.wipe (σ.set i x) us = (L2.wipe σ us).set i x := by
        intro us
        induction us with
        | nil => intro _; rfl
        | cons u us ih =>
          intro hn
          rw [List.mem_cons, not_or] at hn
          show ((L2.wipe (σ.set i x) us).set u none) = ((L2.wipe σ us).set u none).set i x
          rw [ih hn.2, List.set_comm _ _ (fun z => hn.1 z)]
      rw [key e, List.set_set]
theorem wipe_get {σ : L2.St} {j : Nat} : ∀ {vs : List Nat}, (L2.wipe σ vs)[j]? = if j ∈ vs ∧ j < σ.length then some none else σ[j]?
  | [] => by simp [L2.wipe]
  | v :: vs => by
    unfold L2.wipe
    rw [List.getElem?_set, wipe_length]
    by_cases e : v = j
    · subst e
      by_cases h : v < σ.length
      · simp [h]
      · rw [if_pos rfl, if_neg h, if_neg (fun z => h z.2), List.getElem?_eq_none (Nat.le_of_not_lt h)]
    · rw [if_neg e, wipe_get]
      have : (j ∈ v :: vs) ↔ j ∈ vs := by rw [List.mem_cons]; exact ⟨fun z => z.elim (fun z => absurd z.symm e) id, .inr⟩
      simp only [this]
theorem wipe_wipe {σ : L2.St} {vs : List Nat} : L2.wipe (L2.wipe σ vs) vs = L2.wipe σ vs := by
  apply List.ext_getElem?
  intro j
  rw [wipe_get, wipe_get, wipe_length]
  split
  · rfl
  · rfl
def tDgw (G : Gc) (vs : List Nat) (m : MG) : TG := fun v σ H Q => ∃ ρ S sl st x sl' st', Rp G ρ S sl st σ H ∧ Vr G ρ S H v x ∧ m x sl st = some (sl', st') ∧ ∀ σ', Rp G ρ S sl' st' σ' H → L2.wipe σ' vs = L2.wipe σ vs → Q σ' H
def tDgsw (G : Gc) (vs : List Nat) (m : MGs) : TGs := fun ws σ H Q => ∃ ρ S sl st xs sl' st', Rp G ρ S sl st σ H ∧ Vrs G ρ S H ws xs ∧ m xs sl st = some (sl', st') ∧ ∀ σ', Rp G ρ S sl' st' σ' H → L2.wipe σ' vs = L2.wipe σ vs → Q σ' H
abbrev GDw (X : Cx) (vs : List Nat) (e : Expr) (m : MG) : Prop := PG X e (tDgw (gc X) vs m)
abbrev GDsw (X : Cx) (vs : List Nat) (es : List Expr) (m : MGs) : Prop := PGs X es (tDgsw (gc X) vs m)
section
variable {X : Cx} {pos : Pos} {vs : List Nat}
theorem gdw_name (i : Nat) {x : Str} (hN : X.N.Nodup) (hv : i ∈ vs) (hi : X.N[i]? = some x := by rfl) (hx : Loc X.env.scope x := by first | exact Or.inl rfl | exact Or.inr rfl)
    (hf : X.fn x = true ∨ X.env.scope.names.lookup x = some .local := by first | exact .inl rfl | exact .inr rfl) : GDw X vs (.Name x pos) (gN i) := by
  refine pg_weak (pg_name hN hi hx hf) fun v σ H Q h => ?_
  obtain ⟨ρ, S, sl, st, x, sl', st', rp, rv, e, h⟩ := h
  cases e
  exact h _ (rp.set i rv) (wipe_set hv)
theorem gdsw_nil : GDsw X vs [] gNl := by
  refine pgs_weak pgs_nil fun ws σ H Q h => ?_
  obtain ⟨ρ, S, sl, st, xs, sl', st', rp, rv, e, h⟩ := h
  unfold gNl at e
  cases xs with
  | nil => cases e; exact ⟨rv.nil_r, h σ rp rfl⟩
  | cons _ _ => cases e
theorem gdsw_cons {e : Expr} {es : List Expr} {g : MG} {r : MGs} (h1 : GDw X vs e g) (h2 : GDsw X vs es r) (hs : (assignEach (e :: es) X.env).map (·.2) = assign e X.env :: (assignEach es X.env).map (·.2) := by rfl) : GDsw X vs (e :: es) (gCs g r) := by
  refine pgs_weak (pgs_cons h1 h2 hs) fun ws σ H Q h => ?_
  obtain ⟨ρ, S, sl, st, xs, sl', st', rp, rv, e, h⟩ := h
  cases xs with
  | nil => cases e
  | cons x xs =>
    obtain ⟨v, us, rfl, r1, r2⟩ := rv.cons_r
    have e : ((g x sl st).bind fun p => r xs p.1 p.2) = some (sl', st') := e
    cases e1 : g x sl st with
    | none => rw [e1] at e; cases e
    | some p =>
      rw [e1] at e
      exact ⟨v, us, rfl, ρ, S, sl, st, x, p.1, p.2, rp, r1, e1, fun σ1 rp1 w1 => ⟨ρ, S, p.1, p.2, xs, sl', st', rp1, r2, e, fun σ2 rp2 w2 => h σ2 rp2 (w2.trans w1)⟩⟩
theorem gdw_tup {es : List Expr} {k n : Nat} {g : MGs} (hc : X.calm = true) (h : GDsw X vs es g) (hn : (assignEach es X.env).length = n := by rfl) (hst : (assignEach es X.env).findIdx? (·.1) = none := by rfl) : GDw X vs (.Tuple es k pos) (gT n g) := by
  refine pg_weak (pg_tup hc h hn hst) fun v σ H Q h => ?_
  obtain ⟨ρ, S, sl, st, x, sl', st', rp, rv, e, h⟩ := h
  unfold gT at e
  cases e1 : lookT x with
  | none => rw [e1] at e; cases e
  | some xs =>
    rw [e1] at e
    by_cases hl : xs.length = n
    · simp only [hl, if_true] at e
      obtain ⟨a, ws, h1, h2, h3⟩ := lookT_ok rv e1
      exact ⟨a, ws, h1, h2, by rw [h3.1, hl], ρ, S, sl, st, xs, sl', st', rp, h3, e, h⟩
    · simp only [hl, if_false] at e
      cases e
end
/-! ### tests -/
abbrev ETs (X : Cx) (es : List Expr) (m : MB) : Prop := PTs X es (tDb (gc X) (fun _ _ _ _ => False) m)
def mYes : MB := fun _ st => .ok true st
theorem pts_weak {X : Cx} {es : List Expr} {t t' : TT} (h : PTs X es t) (w : ∀ σ H Q, t' σ H Q → t σ H Q) : PTs X es t' := ⟨fun pins s σ H Q I q => h.run pins s σ H Q I (w σ H Q q)⟩
theorem ets_nil {X : Cx} : ETs X [] mYes := by
  refine pts_weak pts_nil fun σ H Q h => ?_
  obtain ⟨ρ, S, sl, st, rp, h⟩ := h
  exact PostR.ok (v := true) h rp rfl
theorem ets_one {X : Cx} {e : Expr} {m : MB} (h : EB X (fun _ _ _ _ => False) e m) : ETs X [e] m := pts_one h
/-! ### [e for t in it if c] -/
def lcL (get : Gt) (g : MG) (t : MB) (e : ME) (vs : List Nat) : Nat → Nat → Slo → List Va → Sto → Rs (List Va)
  | 0, _, _, _, _ => .stuck
  | n + 1, i, sl, acc, st => match get i st with
    | none => .stuck
    | some none => .ok acc st
    | some (some y) => match g y (wipeA sl vs) st with
      | none => .stuck
      | some p => match t p.1 p.2 with
        | .ok true st3 => match e p.1 st3 with
          | .ok z st4 => if acc.length < sizeLine then lcL get g t e vs n (i + 1) sl (acc ++ [z]) st4 else .stuck
          | _ => .stuck
        | .ok false st3 => lcL get g t e vs n (i + 1) sl acc st3
        | _ => .stuck
def mLc (c : Bool) (mi : MI) (g : MG) (t : MB) (e : ME) (vs : List Nat) : ME := fun sl st => (mi sl st).bind fun get st1 => match lcL get g t e vs fuel 0 sl [] st1 with
  | .ok ys st2 => (let p := mkL c ys st2; .ok p.1 p.2)
  | _ => .stuck
section
variable {X : Cx} {W : WX} {mi : MI} {g : MG} {t : MB} {e : ME} {vs : List Nat} {c : Bool}
theorem lc_w {σ : L2.St} {H : Hp} {Q : VK} (h : tD (gc X) W (mLc c mi g t e vs) σ H Q) :
    tLc (tDi (gc X) W mi) (tDgw (gc X) vs g) (tDb (gc X) (fun _ _ _ _ => False) t) (tD (gc X) (fun _ _ _ _ => False) e) vs σ H Q := by
  obtain ⟨ρ, S, sl, st, rp, h⟩ := h
  refine ⟨ρ, S, sl, st, rp, PostR.bind h fun get st1 ρ1 S1 H1 J E1 rp1 rJ h1 => ?_⟩
  intro D hD
  have fr := rp1.rep.fresh hD
  let Fin : Rs (List Va) → Prop := fun r => match r with
    | .ok ys st2 => PostR (gc X) W (relV (gc X)) ρ1 S1 H1 sl σ (.ok (mkL c ys st2).1 (mkL c ys st2).2) Q
    | _ => False
  have h1 : Fin (lcL get g t e vs fuel 0 sl [] st1) := by
    cases q : lcL get g t e vs fuel 0 sl [] st1 with
    | ok ys st2 => rw [q] at h1; exact h1
    | err x s => rw [q] at h1; exact h1
    | stuck => rw [q] at h1; exact h1
  refine ⟨fun i m H => ∃ ρ S st acc accV, Ext ρ1 S1 H1 ρ S H ∧ Rep (gc X) ρ S st H ∧ H D = some (.lst accV) ∧ Vrs (gc X) ρ S H accV acc ∧ (∀ i : Nat, ρ[i]? ≠ some D) ∧ ¬ S D ∧ Fin (lcL get g t e vs m i sl acc st),
    ⟨fuel, ρ1, S1, st1, [], [], Ext.refl.upO hD _, rp1.rep.upO fr.1 fr.2 _, upd_same, .nil, fr.2, fr.1, h1⟩, ?_⟩
  rintro i m H ⟨ρ, S, st, acc, accV, E, R, eD, ra, nR, nS, hF⟩
  cases m with
  | zero => exact hF.elim
  | succ m =>
    unfold lcL at hF
    obtain ⟨q1, q2⟩ := rJ ρ S st H i E.e0 R
    cases eg : get i st with
    | none => rw [eg] at hF; exact hF.elim
    | some o =>
      rw [eg] at hF
      cases o with
      | none =>
        dsimp only at hF
        refine .inl ⟨q1 eg, ?_⟩
        have hF : PostR (gc X) W (relV (gc X)) ρ1 S1 H1 sl σ (.ok (mkL c acc st).1 (mkL c acc st).2) Q := hF
        cases c with
        | true =>
          obtain ⟨R', l⟩ := R.addC nS nR (o := .lst acc) ⟨accV, eD, ra⟩
          exact hF _ _ _ _ (E.addC hD) (rp1.mono (E.addC hD) R') (.ref l)
        | false =>
          have R' := R.addS nR eD
          exact hF _ _ _ _ (E.addS hD) (rp1.mono (E.addS hD) R') (.fl (.inr rfl) eD ra.1 (ra.monoV (fun _ _ e => e) (fun _ s => .inl s) (fun _ _ _ h => h)).2)
      | some y =>
        dsimp only at hF
        obtain ⟨go, yl⟩ := q2 y eg
        refine .inr ⟨go, fun H' => ∃ m', m' < m + 1 ∧ ∃ ρ S st acc accV, Ext ρ1 S1 H1 ρ S H' ∧ Rep (gc X) ρ S st H' ∧ H' D = some (.lst accV) ∧ Vrs (gc X) ρ S H' accV acc ∧ (∀ i : Nat, ρ[i]? ≠ some D) ∧ ¬ S D ∧ Fin (lcL get g t e vs m' (i + 1) sl acc st), fun H' q => q, fun x H' hy => ?_⟩
        obtain ⟨S2, E2, R2, r2⟩ := yl x H' hy
        have eD2 := E2.rest D _ eD nR
        have nS2 : ¬ S2 D := fun z => (E2.newS D z).elim nS fun z => by rw [eD] at z; cases z
        cases e2 : g y (wipeA sl vs) st with
        | none => rw [e2] at hF; exact hF.elim
        | some p =>
          rw [e2] at hF
          dsimp only at hF
          have E12 := E.trans E2
          refine ⟨ρ, S2, wipeA sl vs, st, y, p.1, p.2, (rp1.mono E12 R2).wipe vs, r2, e2, fun σ' rp' w' => ⟨by rw [w', wipe_wipe], ?_⟩⟩
          refine ⟨ρ, S2, p.1, p.2, rp', ?_⟩
          cases e3 : t p.1 p.2 with
          | stuck => rw [e3] at hF; exact hF.elim
          | err x s => rw [e3] at hF; exact hF.elim
          | ok k st3 =>
            rw [e3] at hF
            intro ρ3 S3 H3 k' E3 rp3 rk
            obtain rfl : k' = k := rk
            have eD3 := E3.rest D _ eD2 nR
            have nR3 := E3.out eD2 nR
            have nS3 : ¬ S3 D := fun z => (E3.newS D z).elim nS2 fun z => by rw [eD2] at z; cases z
            have ra3 := (ra.mono E2).mono E3
            cases k' with
            | false =>
              dsimp only at hF
              rw [if_neg Bool.false_ne_true]
              exact ⟨m, Nat.lt_succ_self m, ρ3, S3, st3, acc, accV, E12.trans E3, rp3.rep, eD3, ra3, nR3, nS3, hF⟩
            | true =>
              dsimp only at hF
              rw [if_pos rfl]
              refine ⟨ρ3, S3, p.1, st3, rp3, ?_⟩
              cases e4 : e p.1 st3 with
              | stuck => rw [e4] at hF; exact hF.elim
              | err x s => rw [e4] at hF; exact hF.elim
              | ok z st4 =>
                rw [e4] at hF
                dsimp only at hF
                intro ρ4 S4 H4 v E4 rp4 rv
                have eD4 := E4.rest D _ eD3 nR3
                have nR4 := E4.out eD3 nR3
                have nS4 : ¬ S4 D := fun z => (E4.newS D z).elim nS3 fun z => by rw [eD3] at z; cases z
                have ra4 := ra3.mono E4
                by_cases hl : acc.length < sizeLine
                · rw [if_pos hl] at hF
                  refine ⟨accV, eD4, by rw [ra.1]; exact hl, m, Nat.lt_succ_self m, ρ4, S4, st4, acc ++ [z], accV ++ [v], ((E12.trans E3).trans E4).upO hD _, rp4.rep.upO nS4 nR4 _, upd_same, (ra4.snoc rv).upO nS4 _, nR4, nS4, hF⟩
                · rw [if_neg hl] at hF
                  exact hF.elim
theorem ed_lc (c : Bool) {elt tg iter : Expr} {ifs : List Expr} {scope : Scope} {pos : Pos} (own : List (Str × Nat)) (hc : X.calm = true) (hN : X.N.Nodup) (hi : ID X W tg iter mi) (ok : BlkOk X.N X.env.scope scope own)
    (hg : ∀ (s : Shared) (H : Hp) (C : Addr) (cl : List (Str × Addr)) (fp : List Addr), GDw (X.blk s H scope (compEnvC scope cl C X.env) fp) (own.map (·.2)) tg g)
    (ht : ∀ (s : Shared) (H : Hp) (C : Addr) (cl : List (Str × Addr)) (fp : List Addr), ETs (X.blk s H scope (compEnvC scope cl C X.env) fp) ifs t)
    (he : ∀ (s : Shared) (H : Hp) (C : Addr) (cl : List (Str × Addr)) (fp : List Addr), ED (X.blk s H scope (compEnvC scope cl C X.env) fp) (fun _ _ _ _ => False) elt e) (hs : ∀ x, foldedSetIterable iter X.env x = pure x := by intro _; rfl) :
    ED X W (.ListComp elt [⟨tg, iter, ifs, 0⟩] scope pos) (mLc c mi g t e (own.map (·.2))) :=
  pe_weak (pe_lc hc hN hi ok hg ht he hs) fun σ H Q h => lc_w h
end
end SM
set_option Elab.async false
set_option linter.all false
set_option maxRecDepth 100000
set_option maxHeartbeats 4000000
/-! SMC: set comprehensions of ints and texts, one clause or two. -/
namespace SM
open PySem PySem.Spec PyProof.Rows L2

section
variable {X : Cx}
/-- where a block's loop stands between two turns -/
structure Btw (B : Cx) (fp : List Addr) (pins : List (Addr × Obj)) (σ : L2.St) (tn : Nat → Heap → Prop) (i : Nat) (H : Hp) (s : Shared) : Prop where
  inv : Inv B pins σ H s
  at_ : tn i s.heap
  out : ∀ b ∈ fp, H b = none
/-- what an iterator's own objects are to a context -/
def FpAt (B : Cx) (pins : List (Addr × Obj)) (fp : List Addr) : Prop := ∀ (H : Hp), (∀ b ∈ fp, H b = none) → ∀ b ∈ fp, FpOk B pins H b
/-- a turn is over: the slots that the loop knows are known still -/
theorem Btw.next {B : Cx} {fp : List Addr} {pins : List (Addr × Obj)} {σ σ' : L2.St} {tn : Nat → Heap → Prop} {i : Nat} {H' : Hp} {s7 s' : Shared} {tg : Expr} {J : It} {it : Addr} (T : Turn B.prog B.w B.K tg J fp it tn) (st7 : tn i s7.heap) (I' : Inv B (pins ++ pinsAt fp s7.heap) σ' H' s')
    (hl : σ.length = σ'.length) (hk : ∀ (j : Nat) (v : V), σ[j]? = some (some v) → σ'[j]? = some (some v)) : Btw B fp pins σ tn i H' s' := by
  have pin' : ∀ b ∈ fp, ∀ o, s7.heap.get? b = some o → s'.heap.get? b = some o ∧ H' b = none := fun b hb o e => by
    have z := I'.pin (b, o) (List.mem_append_right _ (List.mem_append_right _ (mem_pinsAt hb e)))
    exact ⟨z.1, z.2.1⟩
  refine ⟨(I'.unpinned (pins := pins)).weak hl hk, T.keep _ _ _ st7 fun b hb o e => (pin' b hb o e).1, fun b hb => ?_⟩
  obtain ⟨o, e, _⟩ := T.obj _ _ st7 b hb
  exact (pin' b hb o e).2
/-- the look for the next item -/
theorem turn_any {B : Cx} {fp : List Addr} {pins : List (Addr × Obj)} {σ : L2.St} {tn : Nat → Heap → Prop} {i : Nat} {H : Hp} {s : Shared} {tg : Expr} {J : It} {it : Addr} {E : Value → Shared → Prop} {Qs : Shared → Prop} {Qg : V → Value → Hp → Shared → Prop} (hc : B.calm = true) (T : Turn B.prog B.w B.K tg J fp it tn) (F : FpAt B pins fp) (b : Btw B fp pins σ tn i H s)
    (h : (J.stop i H ∧ ∀ s', Inv B pins σ H s' → Qs s') ∨ (J.go i H ∧ ∀ x u H' s', J.yld i H x H' → RelV x u → Inv B (pins ++ pinsAt fp s'.heap) σ H' s' → tn (i + 1) s'.heap → Qg x u H' s')) :
    wpAny (model B.prog B.w) B.A (pyNext (.ref it)) (fun r s1 => match r with
      | none => Qs s1
      | some u => wpAny (model B.prog B.w) B.A (letOwnedTupleGo tg (.ref it) u) (fun _ s2 => ∃ x H', RelV x u ∧ J.yld i H x H' ∧ Qg x u H' s2) (fun _ _ => False) s1) E s := by
  rcases h with ⟨stop, q⟩ | ⟨go, q⟩
  · refine thnF (T.done B rfl rfl rfl hc i pins s σ H (fun _ _ => False) b.inv (F H b.out) b.at_ stop) fun r s1 ⟨e, I1⟩ => ?_
    subst e
    exact q s1 I1
  · refine thnF (T.item B rfl rfl rfl hc i pins s σ H (fun _ _ => False) b.inv (F H b.out) b.at_ go) fun r s1 ⟨u, e, h1⟩ => ?_
    subst e
    refine thnF h1 fun _ s2 ⟨x, H', I2, rx, y, st2, n2⟩ => ⟨x, H', rx, y, q x u H' s2 y rx (I2.pinned (F H' n2) (T.obj _ _ st2)) st2⟩
end

/-! ### the machine's loops of two clauses -/
section
variable {prog : Program} {w : World} {A : Around} {R : Result → Shared → Prop} {s : Shared} {elt t0 i0 t1 i1 : Expr} {ifs0 ifs1 : List Expr} {scope : Scope} {pos : Pos} {it acc : Value} {env : Env}
abbrev sc2E (elt t0 i0 : Expr) (ifs0 : List Expr) (t1 i1 : Expr) (ifs1 : List Expr) (scope : Scope) (pos : Pos) : Expr := .SetComp elt [⟨t0, i0, ifs0, 0⟩, ⟨t1, i1, ifs1, 0⟩] scope pos
theorem sc2_out : compTurn (sc2E elt t0 i0 ifs0 t1 i1 ifs1 scope pos) 0 it acc env = (do
      standAt i0.pos
      match ← pyNext it with
      | none => pure (.done .next)
      | some v =>
        letOwnedTupleGo t0 it v
        assign t0 env v
        let mut ok := true
        for c in ifs0 do
          if ok then ok ← isTrue c env (eval c env)
        if ok then
          let x ← eval i1 env
          standAt i1.pos
          let x ← foldedSetIterable i1 env x
          let _ ← runOwn (.compStart (sc2E elt t0 i0 ifs0 t1 i1 ifs1 scope pos) 1 (← holding [x] (pyIter x)) acc env) env
        again (.compLoop (sc2E elt t0 i0 ifs0 t1 i1 ifs1 scope pos) 0 it acc env)) := by rfl
theorem sc2_in : compTurn (sc2E elt t0 i0 ifs0 t1 i1 ifs1 scope pos) 1 it acc env = (do
      standAt i1.pos
      match ← pyNext it with
      | none => pure (.done .next)
      | some v =>
        letOwnedTupleGo t1 it v
        assign t1 env v
        let mut ok := true
        for c in ifs1 do
          if ok then ok ← isTrue c env (eval c env)
        if ok then
          (do let v ← eval elt env; standAt elt.pos; let _ ← call (.builtin "set.add") [acc, v])
        again (.compLoop (sc2E elt t0 i0 ifs0 t1 i1 ifs1 scope pos) 1 it acc env)) := by rfl
abbrev NoEx : Value → Shared → Prop := fun _ _ => False
abbrev tests (ifs : List Expr) (env : Env) : Sem Bool := forIn ifs true fun c r => if r = true then do let ok ← isTrue c env (eval c env); pure (ForInStep.yield ok) else pure (ForInStep.yield r)
theorem noEx {α : Type} {t : Sem α} {Q : α → Shared → Prop} {M : Model} {E : Value → Shared → Prop} {s : Shared} (h : wpAny M A t Q NoEx s) : wpAny M A t Q E s := thnF h fun _ _ q => q
theorem loop2_out (hs : ∀ x, foldedSetIterable i1 env x = pure x) (I : Nat → Shared → Prop)
    (turn : ∀ n s, I n s → wpAny (model prog w) A (pyNext it) (fun r s₁ => match r with
      | none => R (.ok .next) s₁
      | some v => wpAny (model prog w) A (letOwnedTupleGo t0 it v) (fun _ s₁' => wpAny (model prog w) A (assign t0 env v) (fun _ s₂ => wpAny (model prog w) A (tests ifs0 env) (fun ok s₃ =>
            if ok = true then wpAny (model prog w) A (eval i1 env) (fun x s₄ => wpAny (model prog w) A (pyIter x) (fun it1 s₅ =>
              codeAny (model prog w) A (.compStart (sc2E elt t0 i0 ifs0 t1 i1 ifs1 scope pos) 1 it1 acc env) (fun r s' => match r with
                | .ok _ => ∃ m, m < n ∧ I m s'
                | .error _ => False) s₅) NoEx s₄) NoEx s₃
            else ∃ m, m < n ∧ I m s₃) NoEx s₂) NoEx s₁') NoEx s₁) NoEx s) (n : Nat) (h : I n s) :
    codeAny (model prog w) A (.compLoop (sc2E elt t0 i0 ifs0 t1 i1 ifs1 scope pos) 0 it acc env) R s := by
  refine codeAny_loop rfl I (fun n s hI => ?_) n h
  show wpAny _ A ((compTurn (sc2E elt t0 i0 ifs0 t1 i1 ifs1 scope pos) 0 it acc env).onRaise (fun x => do noteFrame x env; theTreesLotGoes x)) _ _ s
  refine wpAny_noted (wpAny_mono (E := NoEx) ?_ (fun _ _ q => q) fun _ _ q => q.elim)
  rw [sc2_out]
  refine wpAny_bind (wpAny_standAt (wpAny_bind (thnF (turn n s hI) fun r s₁ h₁ => ?_)))
  cases r with
  | none => exact wpAny_pure h₁
  | some v =>
    refine wpAny_bind (thnF h₁ fun _ s₁' h₁' => wpAny_bind (thnF h₁' fun _ s₂ h₂ => wpAny_bind (thnF h₂ fun ok s₃ h₃ => ?_)))
    cases ok with
    | false => exact wpAny_pure ⟨rfl, h₃⟩
    | true =>
      refine wpAny_bind (thnF h₃ fun x s₄ h₄ => wpAny_bind (wpAny_standAt (wpAny_bind (wpAny_of_eq (hs x) (wpAny_bind (wpAny_holding (thnF h₄ fun it1 s₅ h₅ => ?_)))))))
      refine wpAny_bind (wpAny_runOwn ?_)
      rw [Around.mark_none]
      refine codeAny_mono h₅ fun r s' hr => ?_
      cases r with
      | ok f =>
        first
          | exact wpAny_pure ⟨rfl, hr⟩
          | exact wpAny_bind (wpAny_pure (wpAny_pure ⟨rfl, hr⟩))
      | error e => exact hr.elim
theorem loop2_in (I : Nat → Shared → Prop)
    (turn : ∀ n s, I n s → wpAny (model prog w) A (pyNext it) (fun r s₁ => match r with
      | none => R (.ok .next) s₁
      | some v => wpAny (model prog w) A (letOwnedTupleGo t1 it v) (fun _ s₁' => wpAny (model prog w) A (assign t1 env v) (fun _ s₂ => wpAny (model prog w) A (tests ifs1 env) (fun ok s₃ =>
            if ok = true then wpAny (model prog w) A (eval elt env) (fun x s₄ => wpAny (model prog w) A (call (.builtin "set.add") [acc, x]) (fun _ s₅ => ∃ m, m < n ∧ I m s₅) NoEx s₄) NoEx s₃
            else ∃ m, m < n ∧ I m s₃) NoEx s₂) NoEx s₁') NoEx s₁) NoEx s) (n : Nat) (h : I n s) :
    codeAny (model prog w) A (.compLoop (sc2E elt t0 i0 ifs0 t1 i1 ifs1 scope pos) 1 it acc env) R s := by
  refine codeAny_loop rfl I (fun n s hI => ?_) n h
  show wpAny _ A ((compTurn (sc2E elt t0 i0 ifs0 t1 i1 ifs1 scope pos) 1 it acc env).onRaise (fun x => do noteFrame x env; theTreesLotGoes x)) _ _ s
  refine wpAny_noted (wpAny_mono (E := NoEx) ?_ (fun _ _ q => q) fun _ _ q => q.elim)
  rw [sc2_in]
  refine wpAny_bind (wpAny_standAt (wpAny_bind (thnF (turn n s hI) fun r s₁ h₁ => ?_)))
  cases r with
  | none => exact wpAny_pure h₁
  | some v =>
    refine wpAny_bind (thnF h₁ fun _ s₁' h₁' => wpAny_bind (thnF h₁' fun _ s₂ h₂ => wpAny_bind (thnF h₂ fun ok s₃ h₃ => ?_)))
    cases ok with
    | false => exact wpAny_pure ⟨rfl, h₃⟩
    | true => exact wpAny_bind (wpAny_bind (thnF h₃ fun x s₄ h₄ => wpAny_bind (wpAny_standAt (wpAny_bind (thnF h₄ fun _ s₅ h₅ => wpAny_pure (wpAny_pure ⟨rfl, h₅⟩))))))
theorem start2 (h0 : codeAny (model prog w) A (.compLoop (sc2E elt t0 i0 ifs0 t1 i1 ifs1 scope pos) 1 it acc env) R s)
    (h : wpAny (model prog w) A (pyIter it) (fun it' s' => codeAny (model prog w) A (.compLoop (sc2E elt t0 i0 ifs0 t1 i1 ifs1 scope pos) 1 it' acc env) R s') NoEx s) :
    codeAny (model prog w) A (.compStart (sc2E elt t0 i0 ifs0 t1 i1 ifs1 scope pos) 1 it acc env) R s := by
  refine codeAny_of_tree ?_
  show wpAny _ _ ((compStart (sc2E elt t0 i0 ifs0 t1 i1 ifs1 scope pos) 1 it acc env).onRaise (fun x => do noteFrame x env; standAt theWindowsPlace)) _ _ s
  refine wpAny_notedAt (wpAny_mono (E := NoEx) ?_ (fun _ _ q => q) fun _ _ q => q.elim)
  unfold compStart
  show wpAny _ _ (ask >>= _) _ _ s
  refine wpAny_bind (wpAny_askSetting (wpAny_ite ?_))
  split
  · first
      | exact wpAny_bind (wpAny_pure (wpAny_pure (And.intro rfl h0)))
      | exact wpAny_pure (And.intro rfl h0)
  · first
      | exact wpAny_bind (wpAny_rule (wpAny_bind (wpAny_standAt (wpAny_bind (thnF h fun it' s' h' => wpAny_pure (And.intro rfl h'))))))
      | (refine wpAny_bind (wpAny_rule ?_); show wpAny _ _ (standAt i1.pos >>= _) _ _ s; exact wpAny_bind (wpAny_standAt (wpAny_bind (thnF h fun it' s' h' => wpAny_pure (And.intro rfl h')))))
end

/-! ### the block begins -/
section
variable {X : Cx}
/-- all that is known where the loop of a set comprehension's block begins -/
structure Beg (X : Cx) (pins : List (Addr × Obj)) (σ : L2.St) (scope : Scope) (vs : List Nat) (tg : Expr) (J : It) (fp : List Addr) (it D : Addr) (tn : Nat → Heap → Prop) (H3 : Hp) (s3 : Shared) (ce : Env) (s4 : Shared) : Prop where
  turn : Turn X.prog X.w X.K tg J fp it tn
  i3 : Inv X pins σ H3 s3
  b4 : Btw (X.blk s3 H3 scope ce fp) fp [] (L2.wipe σ vs) tn 0 H3 s4
  fps : ∀ b ∈ fp, FpOk X pins H3 b
  loc : ce.locals = s3.heap.objs.size
  env : ∃ cl, ce = compEnvC scope cl s3.heap.objs.size X.env
theorem Beg.fpAt {pins : List (Addr × Obj)} {σ : L2.St} {scope : Scope} {vs : List Nat} {tg : Expr} {J : It} {fp : List Addr} {it D : Addr} {tn : Nat → Heap → Prop} {H3 : Hp} {s3 s4 : Shared} {ce : Env} (b : Beg X pins σ scope vs tg J fp it D tn H3 s3 ce s4) : FpAt (X.blk s3 H3 scope ce fp) [] fp := fun H hn c hc => by
  have I := b.b4.inv
  exact ⟨hn c hc, (I.ok.exf c hc).1, I.ok.exfs c hc, .inl hc, fun x k e => (I.ok.exf c hc).2 x k e, fun p hp => absurd (show p ∈ ([] : List (Addr × Obj)) ++ [] from hp) (by simp)⟩
/-- the block ends -/
theorem Beg.fin {pins : List (Addr × Obj)} {σ : L2.St} {scope : Scope} {vs : List Nat} {tg : Expr} {J : It} {fp : List Addr} {it D : Addr} {tn : Nat → Heap → Prop} {H3 H5 : Hp} {s3 s4 s6 : Shared} {ce : Env} {σ' : L2.St} (b : Beg X pins σ scope vs tg J fp it D tn H3 s3 ce s4)
    (I6 : Inv (X.blk s3 H3 scope ce fp) [] σ' H5 s6) : Inv X pins σ H5 s6 ∧ (∃ m, s6.heap.Ns s3.heap.objs.size m) ∧ FpOk X pins H5 s3.heap.objs.size := by
  have nC : H5 ce.locals = none := I6.free
  rw [b.loc] at nC
  obtain ⟨m, hn, _⟩ := I6.loc
  have hn : s6.heap.Ns ce.locals m := hn
  rw [b.loc] at hn
  refine ⟨b.i3.call' (ch := fp) I6.os I6.base I6.hok I6.bare fun c hc => ?_, ⟨m, hn⟩, b.i3.fpOk (Nat.le_refl _) nC⟩
  obtain ⟨_, f1, f2, f3, f4, f5⟩ := b.fps c hc
  exact ⟨f3, f1, f4, f5⟩
theorem sc_beg {pins : List (Addr × Obj)} {s : Shared} {σ : L2.St} {H : Hp} {elt tg iter : Expr} {ifs : List Expr} {gs : List Comprehension} {scope : Scope} {own : List (PySem.Str × Nat)} {pos pos' : Pos} {wi : TI} {use : Option (Value → Sem Unit)} {Qf : Value → Shared → Prop} {R : It → Hp → Prop}
    (hN : X.N.Nodup) (I : Inv X pins σ H s) (hi : PI X tg iter wi) (ok : BlkOk X.N X.env.scope scope own) (hs : ∀ x, foldedSetIterable iter X.env x = pure x) (h : wi σ H R)
    (go : ∀ J H2 D it fp tn s3 ce s4, R J H2 → H2 D = none → Beg X pins σ scope (own.map (·.2)) tg J fp it D tn (upd H2 D (SetX X.prog X.w D (fun _ => false) 0)) s3 ce s4 →
      codeAny (model X.prog X.w) X.A (.compLoop (.SetComp elt (⟨tg, iter, ifs, 0⟩ :: gs) scope pos) 0 (.ref it) (.ref D) ce) (compPost (model X.prog X.w) X.A X.xe use Qf (.ref D) s3.heap.objs.size) s4) :
    wpAny (model X.prog X.w) X.A (comprehension (.SetComp elt (⟨tg, iter, ifs, 0⟩ :: gs) scope pos) scope X.env pos' (newSet (.type "set")) false (eval iter X.env) use) Qf X.xe s := by
  have free : ∀ y ∈ scope.names, y.2 = .free → ∃ c, X.env.cells.lookup y.1 = some c := fun y hy e => I.ok.has _ (ok.free y hy e)
  refine wpAny_comprehension_free (use := use) rfl hs (closure_ok free) ok.kind (fun y hy e => by rw [ok.uniq y hy, e]) (thn (hi.run pins s σ H _ I h) fun xv s1 hx => thn hx fun itv s2 h2 => ?_)
  obtain ⟨it, fp, tn, J, H2, e, I2, T, st2, f2, q⟩ := h2
  subst e
  refine PpSet.newSet_ok (newEnv_comp ?_)
  have nD : H2 s2.heap.objs.size = none := I2.hok.fresh (Nat.le_refl _)
  have I3 := setX_laid (t' := s2.toks) I2
  have small : ∀ b ∈ fp, b < s2.heap.objs.size := fun b hb => by
    obtain ⟨o, e, _⟩ := T.obj _ _ st2 b hb
    exact Heap.lt_size e
  have old : ∀ b o, s2.heap.get? b = some o → (s2.heap.push { cls := .type "set", dict := none, data := .set #[] 0 (.fresh 0 0 (!X.w.params.followText "set-order")) }).get? b = some o := fun b o e => Heap.get?_push_of_some _ e
  generalize hH3 : upd H2 s2.heap.objs.size (SetX X.prog X.w s2.heap.objs.size (fun _ => false) 0) = H3 at I3
  generalize hs3 : ({ s2 with heap := s2.heap.push { cls := .type "set", dict := none, data := .set #[] 0 (.fresh 0 0 (!X.w.params.followText "set-order")) }, toks := s2.toks } : Shared) = s3 at I3
  have eh : s3.heap = s2.heap.push { cls := .type "set", dict := none, data := .set #[] 0 (.fresh 0 0 (!X.w.params.followText "set-order")) } := by rw [← hs3]
  have f3 : ∀ b ∈ fp, FpOk X pins H3 b ∧ b < s3.heap.objs.size := fun b hb => by
    refine ⟨⟨?_, (f2 b hb).2⟩, by rw [eh, Heap.size_push]; exact Nat.lt_succ_of_lt (small b hb)⟩
    rw [← hH3, upd_ne (Nat.ne_of_lt (small b hb))]
    exact (f2 b hb).1
  have st3 : tn 0 s3.heap := T.keep _ _ _ st2 fun b _ o e => by rw [eh]; exact old b o e
  have I4 := block_start I3 ok hN f3
  have E0 : s3 = { s2 with heap := s2.heap.push { cls := .type "set", dict := none, data := .set #[] 0 (.fresh 0 0 (!X.w.params.followText "set-order")) } } := by rw [← hs3]
  generalize hD : s2.heap.objs.size = D at nD hH3 ⊢
  have loop := go J H2 D it fp tn s3 (compEnvC scope (cellsFrom (s3.heap.objs.size + 1) scope.names (cloFrom X.env.cells scope.names [])) s3.heap.objs.size X.env) { s3 with heap := pushCells (s3.heap.push { cls := .type "dict", data := .dict #[] }) scope.names } q nD
    (by rw [hH3]; exact ⟨T, I3, ⟨I4, T.keep _ _ _ st3 fun b _ o e => pushCells_keeps _ _ _ _ (Heap.get?_push_of_some _ e), fun b hb => (f3 b hb).1.1⟩, fun b hb => (f3 b hb).1, rfl, _, rfl⟩)
  exact PpSet.codeAny_compStart_set loop (T.self X.A 0 _ _ _ (T.keep _ _ _ st3 fun b _ o e => pushCells_keeps _ _ _ _ (Heap.get?_push_of_some _ e)) loop)

/-- an element goes into the set at D -/
def addX (P : Program) (w : World) (D : Addr) (Nx : Hp → Prop) : VK := fun y H => ∃ (k : Key) (S : Key → Bool) (n : Nat), y = kV k ∧ H D = some (SetX P w D S n) ∧ n + 1 < scanBound ∧ Nx (upd H D (SetX P w D (fun j => S j || decide (j = k)) (if S k = true then n else n + 1)))
/-- {e for t in it if c}: the block's loop -/
def tScX (P : Program) (w : World) (wi : TI) (g : TG) (tt : TT) (te : TE) (vs : List Nat) : TE := fun σ H Q => wi σ H fun J H1 => ∀ D, H1 D = none → ∃ W : Nat → Nat → Hp → Prop, (∃ m, W 0 m (upd H1 D (SetX P w D (fun _ => false) 0))) ∧ ∀ i m H, W i m H →
  (J.stop i H ∧ Q (.ref D) H) ∨ (J.go i H ∧ ∃ Nx : Hp → Prop, (∀ H', Nx H' → ∃ m', m' < m ∧ W (i + 1) m' H') ∧ ∀ x H', J.yld i H x H' → g x (L2.wipe σ vs) H' fun σ2 H2 => L2.wipe σ2 vs = L2.wipe σ vs ∧ tt σ2 H2 fun b H3 =>
    if b = true then te σ2 H3 (addX P w D Nx) else Nx H3)
theorem wipe_get_some {σ : L2.St} {vs : List Nat} {σ8 : L2.St} (h : L2.wipe σ8 vs = L2.wipe σ vs) : (L2.wipe σ vs).length = σ8.length ∧ ∀ (j : Nat) (v : V), (L2.wipe σ vs)[j]? = some (some v) → σ8[j]? = some (some v) :=
  ⟨by rw [← h, wipe_length], fun j v e => (wipe_some (by rw [h]; exact e)).1⟩
theorem pe_scX {elt tg iter : Expr} {ifs : List Expr} {scope : Scope} {own : List (PySem.Str × Nat)} {pos : Pos} {wi : TI} {g : TG} {tt : TT} {te : TE} (hc : X.calm = true) (hN : X.N.Nodup) (hi : PI X tg iter wi) (ok : BlkOk X.N X.env.scope scope own)
    (hg : ∀ (s : Shared) (H : Hp) (C : Addr) (cl : List (PySem.Str × Addr)) (fp : List Addr), PG (X.blk s H scope (compEnvC scope cl C X.env) fp) tg g)
    (ht : ∀ (s : Shared) (H : Hp) (C : Addr) (cl : List (PySem.Str × Addr)) (fp : List Addr), PTs (X.blk s H scope (compEnvC scope cl C X.env) fp) ifs tt)
    (he : ∀ (s : Shared) (H : Hp) (C : Addr) (cl : List (PySem.Str × Addr)) (fp : List Addr), PE (X.blk s H scope (compEnvC scope cl C X.env) fp) elt te) (hs : ∀ x, foldedSetIterable iter X.env x = pure x := by intro _; rfl) :
    PE X (.SetComp elt [⟨tg, iter, ifs, 0⟩] scope pos) (tScX X.prog X.w wi g tt te (own.map (·.2))) := by
  refine ⟨fun pins s σ H Q I h => ?_⟩
  rw [PpSet.eval_SetComp]
  refine sc_beg hN I hi ok hs h fun J H2 D it fp tn s3 ce s4 q nD b => ?_
  obtain ⟨W, ⟨m0, w0⟩, step⟩ := q D nD
  obtain ⟨cl, ece⟩ := b.env
  have pg := hg s3 (upd H2 D (SetX X.prog X.w D (fun _ => false) 0)) s3.heap.objs.size cl fp
  have pt := ht s3 (upd H2 D (SetX X.prog X.w D (fun _ => false) 0)) s3.heap.objs.size cl fp
  have pe := he s3 (upd H2 D (SetX X.prog X.w D (fun _ => false) 0)) s3.heap.objs.size cl fp
  rw [← ece] at pg pt pe
  have F := b.fpAt
  refine PpSet.compLoopS_any (fun n s' => ∃ i H', Btw (X.blk s3 (upd H2 D (SetX X.prog X.w D (fun _ => false) 0)) scope ce fp) fp [] (L2.wipe σ (own.map (·.2))) tn i H' s' ∧ W i n H') ?_ m0 ⟨0, _, b.b4, w0⟩
  rintro n s5 ⟨i, H5, b5, w5⟩
  refine wpAny_mono (turn_any (B := X.blk s3 (upd H2 D (SetX X.prog X.w D (fun _ => false) 0)) scope ce fp) (E := NoEx) (Qs := fun s' => compPost (model X.prog X.w) X.A X.xe none (EP X pins σ Q) (.ref D) s3.heap.objs.size (.ok .next) s')
    (Qg := fun x u H' s' => wpAny (model X.prog X.w) X.A (assign tg ce u) (fun _ s2 => wpAny (model X.prog X.w) X.A (tests ifs ce) (fun ok s3' => if ok = true then wpAny (model X.prog X.w) X.A (eval elt ce) (fun z s4' => wpAny (model X.prog X.w) X.A (call (.builtin "set.add") [.ref D, z])
      (fun _ s5 => ∃ m, m < n ∧ ∃ i H', Btw (X.blk s3 (upd H2 D (SetX X.prog X.w D (fun _ => false) 0)) scope ce fp) fp [] (L2.wipe σ (own.map (·.2))) tn i H' s5 ∧ W i m H') NoEx s4') NoEx s3'
        else ∃ m, m < n ∧ ∃ i H', Btw (X.blk s3 (upd H2 D (SetX X.prog X.w D (fun _ => false) 0)) scope ce fp) fp [] (L2.wipe σ (own.map (·.2))) tn i H' s3' ∧ W i m H') NoEx s2) NoEx s') hc b.turn F b5 ?_) (fun r s1 h1 => ?_) fun _ _ z => z.elim
  · rcases step i n H5 w5 with ⟨stop, qq⟩ | ⟨go, Nx, hNx, st⟩
    · refine .inl ⟨stop, fun s' I' => ?_⟩
      obtain ⟨I7, ⟨m, hn⟩, f0, f1, f2, f3, f4, f5⟩ := b.fin I'
      exact ⟨m, hn, fun h'' sb => ⟨.ref D, H5, I7.turned (t' := s'.toks) (fun b o hb e => (sb.2 b hb).trans e) f0 f1 f3 f4 f5, rfl, qq⟩⟩
    · refine .inr ⟨go, fun x u H' s' y rx I' t' => ?_⟩
      refine thnF (pg.run _ s' _ H' x u _ I' rx (st x H' y)) fun _ s8 ⟨σ8, H8, I8, hw8, q8⟩ => thnF (pt.run _ s8 σ8 H8 _ I8 q8) fun k s9 ⟨H9, I9, q9⟩ => ?_
      obtain ⟨hl, hk⟩ := wipe_get_some hw8
      have nx : ∀ {s' : Shared} {Hx : Hp}, Inv (X.blk s3 (upd H2 D (SetX X.prog X.w D (fun _ => false) 0)) scope ce fp) ([] ++ pinsAt fp _) σ8 Hx s' → Nx Hx → ∃ m, m < n ∧ ∃ i H', Btw (X.blk s3 (upd H2 D (SetX X.prog X.w D (fun _ => false) 0)) scope ce fp) fp [] (L2.wipe σ (own.map (·.2))) tn i H' s' ∧ W i m H' := fun {s' Hx} Ix nx => by
        obtain ⟨m', hm, w'⟩ := hNx Hx nx
        exact ⟨m', hm, i + 1, Hx, Btw.next b.turn t' Ix hl hk, w'⟩
      cases k with
      | false =>
        rw [if_neg Bool.false_ne_true] at q9 ⊢
        exact nx I9 q9
      | true =>
        rw [if_pos rfl] at q9 ⊢
        refine thnF (pe.run _ s9 σ8 H9 _ I9 q9) fun z s10 ⟨yv, H10, I10, r10, kk, S0, n0, ey, hD10, hz10, hnx⟩ => ?_
        subst ey
        exact setX_add (X := X.blk s3 (upd H2 D (SetX X.prog X.w D (fun _ => false) 0)) scope ce fp) I10 hD10 r10 hz10 fun s11 I11 => nx I11 hnx
  · cases r with
    | none => exact h1
    | some u =>
      refine noEx (thnF h1 fun _ s2 ⟨x, H', rx, y, hq⟩ => noEx (thnF hq fun _ s3' h3 => noEx (thnF h3 fun k s4' h4 => ?_)))
      cases k with
      | false => exact h4
      | true =>
        rw [if_pos rfl] at h4 ⊢
        exact noEx (thnF h4 fun z s5' h5 => noEx h5)
/-- {e for t in it if c for t1 in it1 if c1} -/
def tScX2 (P : Program) (w : World) (wi : TI) (g : TG) (tt : TT) (wi1 : TI) (g1 : TG) (tt1 : TT) (te : TE) (vs vs1 : List Nat) : TE := fun σ H Q => wi σ H fun J H1 => ∀ D, H1 D = none → ∃ W : Nat → Nat → Hp → Prop, (∃ m, W 0 m (upd H1 D (SetX P w D (fun _ => false) 0))) ∧ ∀ i m H, W i m H →
  (J.stop i H ∧ Q (.ref D) H) ∨ (J.go i H ∧ ∃ Nx : Hp → Prop, (∀ H', Nx H' → ∃ m', m' < m ∧ W (i + 1) m' H') ∧ ∀ x H', J.yld i H x H' → g x (L2.wipe σ vs) H' fun σ2 H2 => L2.wipe σ2 vs = L2.wipe σ vs ∧ tt σ2 H2 fun b H3 =>
    if b = true then wi1 σ2 H3 fun J1 H4 => ∃ W1 : Nat → Nat → Hp → Prop, (∃ m, W1 0 m H4) ∧ ∀ j k H, W1 j k H →
      (J1.stop j H ∧ Nx H) ∨ (J1.go j H ∧ ∃ Nx1 : Hp → Prop, (∀ H', Nx1 H' → ∃ k', k' < k ∧ W1 (j + 1) k' H') ∧ ∀ x H', J1.yld j H x H' → g1 x (L2.wipe σ2 vs1) H' fun σ3 H5 => L2.wipe σ3 vs1 = L2.wipe σ2 vs1 ∧ tt1 σ3 H5 fun b H6 =>
        if b = true then te σ3 H6 (addX P w D Nx1) else Nx1 H6)
    else Nx H3)
theorem thnB {α : Type} {B : Cx} (hxe : B.xe = fun _ _ => False) {t : Sem α} {Q Q' : α → Shared → Prop} {M : Model} {A : Around} {E : Value → Shared → Prop} {s : Shared} (h : wpAny M A t Q B.xe s) (hQ : ∀ a s, Q a s → Q' a s) : wpAny M A t Q' E s := by
  rw [hxe] at h
  exact thnF h hQ
theorem sc2_loops {B : Cx} {elt tg iter tg1 iter1 : Expr} {ifs ifs1 : List Expr} {scope : Scope} {pos : Pos} {vs vs1 : List Nat} {wi1 : TI} {g g1 : TG} {tt tt1 : TT} {te : TE} {J : It} {fp : List Addr} {it D : Addr} {tn : Nat → Heap → Prop} {σ : L2.St} {H3 : Hp} {s4 : Shared} {Qd : Hp → Prop} {R : Result → Shared → Prop} {W : Nat → Nat → Hp → Prop} {m0 : Nat}
    (hc : B.calm = true) (hxe : B.xe = fun _ _ => False) (T : Turn B.prog B.w B.K tg J fp it tn) (F : FpAt B [] fp) (hv : ∀ i ∈ vs1, i ∈ vs) (pg : PG B tg g) (pt : PTs B ifs tt) (pi1 : PI B tg1 iter1 wi1) (pg1 : PG B tg1 g1) (pt1 : PTs B ifs1 tt1) (pe : PE B elt te) (hs1 : ∀ env x, foldedSetIterable iter1 env x = pure x)
    (b4 : Btw B fp [] (L2.wipe σ vs) tn 0 H3 s4) (w0 : W 0 m0 H3) (fin : ∀ H' s', Qd H' → Inv B [] (L2.wipe σ vs) H' s' → R (.ok .next) s')
    (step : ∀ i m H, W i m H → (J.stop i H ∧ Qd H) ∨ (J.go i H ∧ ∃ Nx : Hp → Prop, (∀ H', Nx H' → ∃ m', m' < m ∧ W (i + 1) m' H') ∧ ∀ x H', J.yld i H x H' → g x (L2.wipe σ vs) H' fun σ2 H2 => L2.wipe σ2 vs = L2.wipe σ vs ∧ tt σ2 H2 fun b H3 =>
      if b = true then wi1 σ2 H3 fun J1 H4 => ∃ W1 : Nat → Nat → Hp → Prop, (∃ m, W1 0 m H4) ∧ ∀ j k H, W1 j k H →
        (J1.stop j H ∧ Nx H) ∨ (J1.go j H ∧ ∃ Nx1 : Hp → Prop, (∀ H', Nx1 H' → ∃ k', k' < k ∧ W1 (j + 1) k' H') ∧ ∀ x H', J1.yld j H x H' → g1 x (L2.wipe σ2 vs1) H' fun σ3 H5 => L2.wipe σ3 vs1 = L2.wipe σ2 vs1 ∧ tt1 σ3 H5 fun b H6 =>
          if b = true then te σ3 H6 (addX B.prog B.w D Nx1) else Nx1 H6)
      else Nx H3)) : codeAny (model B.prog B.w) B.A (.compLoop (sc2E elt tg iter ifs tg1 iter1 ifs1 scope pos) 0 (.ref it) (.ref D) B.env) R s4 := by
  refine loop2_out (hs1 _) (fun n s' => ∃ i H', Btw B fp [] (L2.wipe σ vs) tn i H' s' ∧ W i n H') ?_ m0 ⟨0, _, b4, w0⟩
  rintro n s5 ⟨i, H5, b5, w5⟩
  have outer := turn_any (E := NoEx) (Qs := R (.ok .next)) (Qg := fun x u H' s' => wpAny (model B.prog B.w) B.A (assign tg B.env u) (fun _ s₂ => wpAny (model B.prog B.w) B.A (tests ifs B.env) (fun ok s₃ =>
            if ok = true then wpAny (model B.prog B.w) B.A (eval iter1 B.env) (fun x s₄ => wpAny (model B.prog B.w) B.A (pyIter x) (fun it1 s₅ =>
              codeAny (model B.prog B.w) B.A (.compStart (sc2E elt tg iter ifs tg1 iter1 ifs1 scope pos) 1 it1 (.ref D) B.env) (fun r s' => match r with
                | .ok _ => ∃ m, m < n ∧ ∃ i H', Btw B fp [] (L2.wipe σ vs) tn i H' s' ∧ W i m H'
                | .error _ => False) s₅) NoEx s₄) NoEx s₃
            else ∃ m, m < n ∧ ∃ i H', Btw B fp [] (L2.wipe σ vs) tn i H' s₃ ∧ W i m H') NoEx s₂) NoEx s') hc T F b5 ?_
  · refine thnF outer fun r s1 h1 => ?_
    cases r with
    | none => exact h1
    | some u => exact thnF h1 fun _ s2 ⟨x, H', rx, y, hq⟩ => hq
  · rcases step i n H5 w5 with ⟨stop, qq⟩ | ⟨go, Nx, hNx, st⟩
    · exact .inl ⟨stop, fun s' I' => fin H5 s' qq I'⟩
    · refine .inr ⟨go, fun x u H' s7 y rx I' t' => ?_⟩
      refine thnB hxe (pg.run _ s7 _ H' x u _ I' rx (st x H' y)) fun _ s8 ⟨σ8, H8, I8, hw8, q8⟩ => thnB hxe (pt.run _ s8 σ8 H8 _ I8 q8) fun k s9 ⟨H9, I9, q9⟩ => ?_
      obtain ⟨hl, hk⟩ := wipe_get_some hw8
      have nx : ∀ {s' : Shared} {Hx : Hp} {σx : L2.St}, Inv B ([] ++ pinsAt fp s7.heap) σx Hx s' → (L2.wipe σ vs).length = σx.length → (∀ (j : Nat) (v : V), (L2.wipe σ vs)[j]? = some (some v) → σx[j]? = some (some v)) → Nx Hx → ∃ m, m < n ∧ ∃ i H', Btw B fp [] (L2.wipe σ vs) tn i H' s' ∧ W i m H' := fun {s' Hx σx} Ix hl hk nx => by
        obtain ⟨m', hm, w'⟩ := hNx Hx nx
        exact ⟨m', hm, i + 1, Hx, Btw.next T t' Ix hl hk, w'⟩
      cases k with
      | false =>
        rw [if_neg Bool.false_ne_true] at q9 ⊢
        exact nx I9 hl hk q9
      | true =>
        rw [if_pos rfl] at q9 ⊢
        have hk9 : ∀ (j : Nat) (v : V), (L2.wipe σ vs)[j]? = some (some v) → (L2.wipe σ8 vs1)[j]? = some (some v) := fun j v e => by
          rw [← hw8] at e
          obtain ⟨e1, e2⟩ := wipe_some e
          rw [wipe_out fun z => e2 (hv j z)]
          exact e1
        refine thnB hxe (pi1.run _ s9 σ8 H9 _ I9 q9) fun xv s10 hx => thnB hxe hx fun itv s11 h11 => ?_
        obtain ⟨it1, fp1, tn1, J1, H11, e1, I11, T1, st11, f11, W1, ⟨m1, w1⟩, step1⟩ := h11
        subst e1
        have F1 : FpAt B ([] ++ pinsAt fp s7.heap) fp1 := fun H hn b hb => ⟨hn b hb, (f11 b hb).2⟩
        have b1 : Btw B fp1 ([] ++ pinsAt fp s7.heap) (L2.wipe σ8 vs1) tn1 0 H11 s11 := ⟨I11.weak (wipe_length _ _) fun j v e => (wipe_some e).1, st11, fun b hb => (f11 b hb).1⟩
        have inner : codeAny (model B.prog B.w) B.A (.compLoop (sc2E elt tg iter ifs tg1 iter1 ifs1 scope pos) 1 (.ref it1) (.ref D) B.env) (fun r s' => match r with
            | .ok _ => ∃ m, m < n ∧ ∃ i H', Btw B fp [] (L2.wipe σ vs) tn i H' s' ∧ W i m H'
            | .error _ => False) s11 := by
          refine loop2_in (fun k s' => ∃ j H', Btw B fp1 ([] ++ pinsAt fp s7.heap) (L2.wipe σ8 vs1) tn1 j H' s' ∧ W1 j k H') ?_ m1 ⟨0, _, b1, w1⟩
          rintro k s12 ⟨j, H12, b12, w12⟩
          have turn1 := turn_any (E := NoEx) (Qs := fun s' => ∃ m, m < n ∧ ∃ i H', Btw B fp [] (L2.wipe σ vs) tn i H' s' ∧ W i m H')
            (Qg := fun x u H' s13 => wpAny (model B.prog B.w) B.A (assign tg1 B.env u) (fun _ s₂ => wpAny (model B.prog B.w) B.A (tests ifs1 B.env) (fun ok s₃ =>
              if ok = true then wpAny (model B.prog B.w) B.A (eval elt B.env) (fun z s₄ => wpAny (model B.prog B.w) B.A (call (.builtin "set.add") [.ref D, z]) (fun _ s₅ => ∃ m, m < k ∧ ∃ j H', Btw B fp1 ([] ++ pinsAt fp s7.heap) (L2.wipe σ8 vs1) tn1 j H' s₅ ∧ W1 j m H') NoEx s₄) NoEx s₃
              else ∃ m, m < k ∧ ∃ j H', Btw B fp1 ([] ++ pinsAt fp s7.heap) (L2.wipe σ8 vs1) tn1 j H' s₃ ∧ W1 j m H') NoEx s₂) NoEx s13) hc T1 F1 b12 ?_
          · refine thnF turn1 fun r s1 h1 => ?_
            cases r with
            | none => exact h1
            | some u => exact thnF h1 fun _ s2 ⟨x, H', rx, y, hq⟩ => hq
          · rcases step1 j k H12 w12 with ⟨stop1, q1⟩ | ⟨go1, Nx1, hNx1, st1⟩
            · exact .inl ⟨stop1, fun s13 I13 => nx I13 (hl.trans (wipe_length σ8 vs1).symm) hk9 q1⟩
            · refine .inr ⟨go1, fun x1 u1 H14 s14 y1 rx1 I14 t14 => ?_⟩
              refine thnB hxe (pg1.run _ s14 _ H14 x1 u1 _ I14 rx1 (st1 x1 H14 y1)) fun _ s15 ⟨σ15, H15, I15, hw15, q15⟩ => thnB hxe (pt1.run _ s15 σ15 H15 _ I15 q15) fun k1 s16 ⟨H16, I16, q16⟩ => ?_
              obtain ⟨hl1, hk1⟩ := wipe_get_some hw15
              have nx1 : ∀ {s' : Shared} {Hx : Hp}, Inv B (([] ++ pinsAt fp s7.heap) ++ pinsAt fp1 s14.heap) σ15 Hx s' → Nx1 Hx → ∃ m, m < k ∧ ∃ j H', Btw B fp1 ([] ++ pinsAt fp s7.heap) (L2.wipe σ8 vs1) tn1 j H' s' ∧ W1 j m H' := fun {s' Hx} Ix nx => by
                obtain ⟨m', hm, w'⟩ := hNx1 Hx nx
                exact ⟨m', hm, j + 1, Hx, Btw.next T1 t14 Ix hl1 hk1, w'⟩
              cases k1 with
              | false =>
                rw [if_neg Bool.false_ne_true] at q16 ⊢
                exact nx1 I16 q16
              | true =>
                rw [if_pos rfl] at q16 ⊢
                refine thnB hxe (pe.run _ s16 σ15 H16 _ I16 q16) fun z s17 ⟨yv, H17, I17, r17, kk, S0, n0, ey, hD, hz, hnx⟩ => ?_
                subst ey
                exact setX_add I17 hD r17 hz fun s18 I18 => nx1 I18 hnx
        exact start2 inner (T1.self B.A 0 _ _ _ st11 inner)
theorem pe_scX2 {elt tg iter tg1 iter1 : Expr} {ifs ifs1 : List Expr} {scope : Scope} {own : List (PySem.Str × Nat)} {vs1 : List Nat} {pos : Pos} {wi wi1 : TI} {g g1 : TG} {tt tt1 : TT} {te : TE} (hc : X.calm = true) (hN : X.N.Nodup) (hi : PI X tg iter wi) (ok : BlkOk X.N X.env.scope scope own) (hv : ∀ i ∈ vs1, i ∈ own.map (·.2))
    (hg : ∀ (s : Shared) (H : Hp) (C : Addr) (cl : List (PySem.Str × Addr)) (fp : List Addr), PG (X.blk s H scope (compEnvC scope cl C X.env) fp) tg g)
    (ht : ∀ (s : Shared) (H : Hp) (C : Addr) (cl : List (PySem.Str × Addr)) (fp : List Addr), PTs (X.blk s H scope (compEnvC scope cl C X.env) fp) ifs tt)
    (hi1 : ∀ (s : Shared) (H : Hp) (C : Addr) (cl : List (PySem.Str × Addr)) (fp : List Addr), PI (X.blk s H scope (compEnvC scope cl C X.env) fp) tg1 iter1 wi1)
    (hg1 : ∀ (s : Shared) (H : Hp) (C : Addr) (cl : List (PySem.Str × Addr)) (fp : List Addr), PG (X.blk s H scope (compEnvC scope cl C X.env) fp) tg1 g1)
    (ht1 : ∀ (s : Shared) (H : Hp) (C : Addr) (cl : List (PySem.Str × Addr)) (fp : List Addr), PTs (X.blk s H scope (compEnvC scope cl C X.env) fp) ifs1 tt1)
    (he : ∀ (s : Shared) (H : Hp) (C : Addr) (cl : List (PySem.Str × Addr)) (fp : List Addr), PE (X.blk s H scope (compEnvC scope cl C X.env) fp) elt te) (hs : ∀ x, foldedSetIterable iter X.env x = pure x := by intro _; rfl) (hs1 : ∀ env x, foldedSetIterable iter1 env x = pure x := by intro _ _; rfl) :
    PE X (.SetComp elt [⟨tg, iter, ifs, 0⟩, ⟨tg1, iter1, ifs1, 0⟩] scope pos) (tScX2 X.prog X.w wi g tt wi1 g1 tt1 te (own.map (·.2)) vs1) := by
  refine ⟨fun pins s σ H Q I h => ?_⟩
  rw [PpSet.eval_SetComp]
  refine sc_beg hN I hi ok hs h fun J H2 D it fp tn s3 ce s4 q nD b => ?_
  obtain ⟨W, ⟨m0, w0⟩, step⟩ := q D nD
  obtain ⟨cl, ece⟩ := b.env
  have F := b.fpAt
  refine sc2_loops (B := X.blk s3 (upd H2 D (SetX X.prog X.w D (fun _ => false) 0)) scope ce fp) hc rfl b.turn F hv (ece ▸ hg _ _ _ cl _) (ece ▸ ht _ _ _ cl _) (ece ▸ hi1 _ _ _ cl _) (ece ▸ hg1 _ _ _ cl _) (ece ▸ ht1 _ _ _ cl _) (ece ▸ he _ _ _ cl _) hs1 b.b4 w0 (fun H' s' qq I' => ?_) step
  obtain ⟨I7, ⟨m, hn⟩, f0, f1, f2, f3, f4, f5⟩ := b.fin I'
  exact ⟨m, hn, fun h'' sb => ⟨.ref D, H', I7.turned (t' := s'.toks) (fun b o hb e => (sb.2 b hb).trans e) f0 f1 f3 f4 f5, rfl, qq⟩⟩
end
end SM
set_option Elab.async false
set_option linter.all false
set_option maxRecDepth 100000
set_option maxHeartbeats 4000000
/-! SMD: comprehensions by the mirror: lists and sets, one clause and two. -/
namespace SM
open PySem PySem.Spec PyProof.Rows L2

/-! ### what is gathered -/
structure Acc (α : Type) (G : Gc) where
  nil : α
  new : Addr → HO
  put : Addr → (Hp → Prop) → VK
  add : α → Va → Option α
  fin : α → Sto → Va × Sto
  At : List Addr → (Addr → Prop) → Hp → Addr → α → Prop
  at0 : ∀ {ρ S H D}, At ρ S (upd H D (new D)) D nil
  there : ∀ {ρ S H D a}, At ρ S H D a → ∃ o, H D = some o
  mono : ∀ {ρ S H ρ' S' H' D a}, Ext ρ S H ρ' S' H' → (∀ i : Nat, ρ[i]? ≠ some D) → At ρ S H D a → At ρ' S' H' D a
  ok : ∀ {ρ S H D a a' v z}, ¬ S D → At ρ S H D a → Vr G ρ S H v z → add a z = some a' → ∃ u, At ρ S (upd H D u) D a' ∧ ∀ Nx : Hp → Prop, Nx (upd H D u) → put D Nx v H
  done : ∀ {ρ S H H1 D a st ρ1 S1}, Ext ρ1 S1 H1 ρ S H → H1 D = none → Rep G ρ S st H → ¬ S D → (∀ i : Nat, ρ[i]? ≠ some D) → At ρ S H D a → ∃ ρ' S', Ext ρ1 S1 H1 ρ' S' H ∧ Rep G ρ' S' (fin a st).2 H ∧ Vr G ρ' S' H (.ref D) (fin a st).1
/-- a list, in the store or frozen -/
def accL (G : Gc) (c : Bool) : Acc (List Va) G where
  nil := []
  new := fun _ => .lst []
  put := fun D Nx y H => ∃ acc, H D = some (.lst acc) ∧ acc.length < sizeLine ∧ Nx (upd H D (.lst (acc ++ [y])))
  add := fun a z => if a.length < sizeLine then some (a ++ [z]) else none
  fin := mkL c
  At := fun ρ S H D a => ∃ vs, H D = some (.lst vs) ∧ Vrs G ρ S H vs a
  at0 := ⟨[], upd_same, .nil⟩
  there := fun ⟨_, e, _⟩ => ⟨_, e⟩
  mono := fun E n ⟨vs, e, r⟩ => ⟨vs, E.rest _ _ e n, r.mono E⟩
  ok := fun {ρ S H D a a' v z} nS ⟨vs, e, r⟩ rv h => by
    split at h
    · rename_i hl
      cases h
      exact ⟨.lst (vs ++ [v]), ⟨_, upd_same, (r.snoc rv).upO nS _⟩, fun Nx h => ⟨vs, e, by rw [r.1]; exact hl, h⟩⟩
    · cases h
  done := fun {ρ S H H1 D a st ρ1 S1} E hD R nS nR ⟨vs, e, r⟩ => by
    cases c with
    | true =>
      obtain ⟨R', l⟩ := R.addC nS nR (o := .lst a) ⟨vs, e, r⟩
      exact ⟨_, _, E.addC hD, R', .ref l⟩
    | false => exact ⟨_, _, E.addS hD, R.addS nR e, .fl (.inr rfl) e r.1 (r.monoV (fun _ _ e => e) (fun _ s => .inl s) (fun _ _ _ h => h)).2⟩
/-- a frozen set -/
def addS (ks : List Key) (k : Key) : List Key := if (ks.any fun j => decide (j = k)) = true then ks else ks ++ [k]
theorem any_mem {ks : List Key} {k : Key} : (ks.any fun j => decide (j = k)) = true ↔ k ∈ ks := by
  rw [List.any_eq_true]
  exact ⟨fun ⟨j, h, e⟩ => of_decide_eq_true e ▸ h, fun h => ⟨k, h, decide_eq_true rfl⟩⟩
def accS (G : Gc) : Acc (List Key) G where
  nil := []
  new := fun D => SetX G.P G.w D (fun _ => false) 0
  put := addX G.P G.w
  add := fun a z => (keyA z).bind fun k => if a.length + 1 < scanBound then some (addS a k) else none
  fin := fun a st => (.sts a, st)
  At := fun _ _ H D a => ∃ M, H D = some (SetX G.P G.w D M a.length) ∧ (∀ k, M k = true ↔ k ∈ a) ∧ a.Nodup
  at0 := ⟨_, upd_same, fun k => by simp, .nil⟩
  there := fun ⟨_, e, _⟩ => ⟨_, e⟩
  mono := fun E n ⟨M, e, r⟩ => ⟨M, E.rest _ _ e n, r⟩
  ok := fun {ρ S H D a a' v z} nS ⟨M, e, m, nd⟩ rv h => by
    obtain ⟨k, hk, h⟩ := Option.bind_eq_some_iff.mp h
    split at h
    · rename_i hl
      cases h
      obtain rfl := keyA_ok rv hk
      refine ⟨SetX G.P G.w D (fun j => M j || decide (j = k)) (if M k = true then a.length else a.length + 1), ⟨fun j => M j || decide (j = k), ?_, fun j => ?_, ?_⟩, fun Nx h => ⟨k, M, _, rfl, e, hl, h⟩⟩
      · rw [upd_same]
        congr 2
        unfold addS
        by_cases hm : M k = true
        · rw [if_pos hm, if_pos (any_mem.mpr ((m k).mp hm))]
        · rw [if_neg hm, if_neg (fun z => hm ((m k).mpr (any_mem.mp z))), List.length_append]; rfl
      · unfold addS
        rw [Bool.or_eq_true, decide_eq_true_eq, m j]
        by_cases hm : k ∈ a
        · rw [if_pos (any_mem.mpr hm)]
          exact ⟨fun z => z.elim id fun z => z ▸ hm, .inl⟩
        · rw [if_neg (fun z => hm (any_mem.mp z)), List.mem_append, List.mem_singleton]
      · unfold addS
        by_cases hm : k ∈ a
        · rw [if_pos (any_mem.mpr hm)]; exact nd
        · rw [if_neg (fun z => hm (any_mem.mp z))]
          refine List.nodup_append.mpr ⟨nd, List.pairwise_singleton _ _, fun x hx y hy => ?_⟩
          rw [List.mem_singleton.mp hy]
          intro z
          exact hm (z ▸ hx)
    · cases h
  done := fun {ρ S H H1 D a st ρ1 S1} E hD R nS nR ⟨M, e, m, nd⟩ => ⟨_, _, E.addS hD, R.addS nR e, .sts (.inr rfl) e m nd⟩

/-! ### the loops -/
def cL {α : Type} (get : Gt) (g : MG) (t : MB) (step : Slo → α → Sto → Rs α) (vs : List Nat) : Nat → Nat → Slo → α → Sto → Rs α
  | 0, _, _, _, _ => .stuck
  | n + 1, i, sl, acc, st => match get i st with
    | none => .stuck
    | some none => .ok acc st
    | some (some y) => match g y (wipeA sl vs) st with
      | none => .stuck
      | some p => match t p.1 p.2 with
        | .ok true st3 => match step p.1 acc st3 with
          | .ok acc' st4 => cL get g t step vs n (i + 1) sl acc' st4
          | _ => .stuck
        | .ok false st3 => cL get g t step vs n (i + 1) sl acc st3
        | _ => .stuck
def stE {α : Type} {G : Gc} (A : Acc α G) (e : ME) : Slo → α → Sto → Rs α := fun sl acc st => match e sl st with
  | .ok z st4 => match A.add acc z with
    | some a => .ok a st4
    | none => .stuck
  | _ => .stuck
def st2 {α : Type} (mi1 : MI) (g1 : MG) (t1 : MB) (vs1 : List Nat) (step : Slo → α → Sto → Rs α) : Slo → α → Sto → Rs α := fun sl acc st => match mi1 sl st with
  | .ok get st' => cL get g1 t1 step vs1 fuel 0 sl acc st'
  | _ => .stuck
def mC1 {α : Type} {G : Gc} (A : Acc α G) (mi : MI) (g : MG) (t : MB) (vs : List Nat) (step : Slo → α → Sto → Rs α) : ME := fun sl st => (mi sl st).bind fun get st1 => match cL get g t step vs fuel 0 sl A.nil st1 with
  | .ok a st2 => (let p := A.fin a st2; .ok p.1 p.2)
  | _ => .stuck
abbrev W0 : WX := fun _ _ _ _ => False
/-- a clause's loop as a reading: S what is done at each item -/
def tLoop (J : It) (D : Addr) (g : TG) (tt : TT) (body : L2.St → Hp → (Hp → Prop) → Prop) (vs : List Nat) (σ : L2.St) (W : Nat → Nat → Hp → Prop) (Qd : Hp → Prop) : Prop := ∀ i m H, W i m H →
  (J.stop i H ∧ Qd H) ∨ (J.go i H ∧ ∃ Nx : Hp → Prop, (∀ H', Nx H' → ∃ m', m' < m ∧ W (i + 1) m' H') ∧ ∀ x H', J.yld i H x H' → g x (L2.wipe σ vs) H' fun σ2 H2 => L2.wipe σ2 vs = L2.wipe σ vs ∧ tt σ2 H2 fun b H3 => if b = true then body σ2 H3 Nx else Nx H3)
section
variable {G : Gc} {α : Type} (A : Acc α G) {vs : List Nat} {g : MG} {t : MB} {ρ1 : List Addr} {S1 : Addr → Prop} {H1 : Hp} {D : Addr}
/-- where the gathered stands, the world grown since H1 -/
structure CSt (A : Acc α G) (ρ1 : List Addr) (S1 : Addr → Prop) (H1 : Hp) (D : Addr) (ρ : List Addr) (S : Addr → Prop) (st : Sto) (a : α) (H : Hp) : Prop where
  ext : Ext ρ1 S1 H1 ρ S H
  rep : Rep G ρ S st H
  here : A.At ρ S H D a
  nR : ∀ i : Nat, ρ[i]? ≠ some D
  nS : ¬ S D
theorem CSt.grow {A : Acc α G} {ρ ρ' : List Addr} {S S' : Addr → Prop} {st st' : Sto} {a : α} {H H' : Hp} (c : CSt A ρ1 S1 H1 D ρ S st a H) (E : Ext ρ S H ρ' S' H') (R : Rep G ρ' S' st' H') : CSt A ρ1 S1 H1 D ρ' S' st' a H' := by
  obtain ⟨o, e⟩ := A.there c.here
  exact ⟨c.ext.trans E, R, A.mono E c.nR c.here, E.out e c.nR, fun z => (E.newS D z).elim c.nS fun z => by rw [e] at z; cases z⟩
theorem CSt.grow0 {A : Acc α G} {ρ ρ' : List Addr} {S S' : Addr → Prop} {st st' : Sto} {a : α} {H H' : Hp} (c : CSt A ρ1 S1 H1 D ρ S st a H) (E : Ext ρ S H ρ' S' H') (R : Rep G ρ' S' st' H') : CSt A ρ1 S1 H1 D ρ' S' st' a H' := c.grow E R
/-- one loop: what is done at an item, as the mirror's step and as a reading -/
def Body (A : Acc α G) (ρ1 : List Addr) (S1 : Addr → Prop) (H1 : Hp) (D : Addr) (step : Slo → α → Sto → Rs α) (body : L2.St → Hp → (Hp → Prop) → Prop) : Prop :=
  ∀ {σ2 : L2.St} {sl2 : Slo} {acc acc' : α} {st3 st4 : Sto} {ρ : List Addr} {S : Addr → Prop} {H3 : Hp} {Nx : Hp → Prop}, Rp G ρ S sl2 st3 σ2 H3 → CSt A ρ1 S1 H1 D ρ S st3 acc H3 → step sl2 acc st3 = .ok acc' st4 →
    (∀ ρ' S' H', CSt A ρ1 S1 H1 D ρ' S' st4 acc' H' → Ext0 ρ S H3 ρ' S' H' → Nx H') → body σ2 H3 Nx
theorem loop_w {A : Acc α G} {J : It} {get : Gt} {σ : L2.St} {sl : Slo} {step : Slo → α → Sto → Rs α} {body : L2.St → Hp → (Hp → Prop) → Prop} {ρ0 : List Addr} {S0 : Addr → Prop} {H0 : Hp} {st0 : Sto} {acc0 : α} {Qd : Hp → Prop}
    (rJ : relI G ρ0 S0 H0 J get) (c0 : CSt A ρ1 S1 H1 D ρ0 S0 st0 acc0 H0) (rp : Rp G ρ0 S0 sl st0 σ H0) (hb : Body A ρ1 S1 H1 D step body)
    (accN : α) (stN : Sto) (hN : cL get g t step vs fuel 0 sl acc0 st0 = .ok accN stN) (hq : ∀ ρ S H, CSt A ρ1 S1 H1 D ρ S stN accN H → Ext0 ρ0 S0 H0 ρ S H → Qd H) :
    ∃ W : Nat → Nat → Hp → Prop, (∃ m, W 0 m H0) ∧ tLoop J D (tDgw G vs g) (tDb G W0 t) body vs σ W Qd := by
  refine ⟨fun i m H => ∃ ρ S st acc, CSt A ρ1 S1 H1 D ρ S st acc H ∧ Ext0 ρ0 S0 H0 ρ S H ∧ cL get g t step vs m i sl acc st = .ok accN stN, ⟨fuel, ρ0, S0, st0, acc0, c0, .refl, hN⟩, ?_⟩
  rintro i m H ⟨ρ, S, st, acc, c, E, hF⟩
  cases m with
  | zero => cases hF
  | succ m =>
    unfold cL at hF
    obtain ⟨q1, q2⟩ := rJ ρ S st H i E c.rep
    cases eg : get i st with
    | none => rw [eg] at hF; cases hF
    | some o =>
      rw [eg] at hF
      cases o with
      | none =>
        cases hF
        exact .inl ⟨q1 eg, hq ρ S H c E⟩
      | some y =>
        dsimp only at hF
        obtain ⟨go, yl⟩ := q2 y eg
        refine .inr ⟨go, fun H' => ∃ m', m' < m + 1 ∧ ∃ ρ S st acc, CSt A ρ1 S1 H1 D ρ S st acc H' ∧ Ext0 ρ0 S0 H0 ρ S H' ∧ cL get g t step vs m' (i + 1) sl acc st = .ok accN stN, fun H' q => q, fun x H' hy => ?_⟩
        obtain ⟨S2, E2, R2, r2⟩ := yl x H' hy
        have c2 := c.grow E2 R2
        cases e2 : g y (wipeA sl vs) st with
        | none => rw [e2] at hF; cases hF
        | some p =>
          rw [e2] at hF
          dsimp only at hF
          have E02 := E.trans E2.e0
          refine ⟨ρ, S2, wipeA sl vs, st, y, p.1, p.2, (rp.mono0 E02 R2).wipe vs, r2, e2, fun σ' rp' w' => ⟨by rw [w', wipe_wipe], ?_⟩⟩
          refine ⟨ρ, S2, p.1, p.2, rp', ?_⟩
          cases e3 : t p.1 p.2 with
          | stuck => rw [e3] at hF; cases hF
          | err x s => rw [e3] at hF; cases hF
          | ok k st3 =>
            rw [e3] at hF
            intro ρ3 S3 H3 k' E3 rp3 rk
            obtain rfl : k' = k := rk
            have c2' : CSt A ρ1 S1 H1 D ρ S2 p.2 acc H' := ⟨c2.ext, rp'.rep, c2.here, c2.nR, c2.nS⟩
            have c3 := c2'.grow E3 rp3.rep
            cases k' with
            | false =>
              dsimp only at hF
              rw [if_neg Bool.false_ne_true]
              exact ⟨m, Nat.lt_succ_self m, ρ3, S3, st3, acc, c3, E02.trans E3.e0, hF⟩
            | true =>
              dsimp only at hF
              rw [if_pos rfl]
              cases e4 : step p.1 acc st3 with
              | stuck => rw [e4] at hF; cases hF
              | err x s => rw [e4] at hF; cases hF
              | ok a4 st4 =>
                rw [e4] at hF
                dsimp only at hF
                exact hb rp3 c3 e4 fun ρ' S' H' c' E' => ⟨m, Nat.lt_succ_self m, ρ', S', st4, a4, c', (E02.trans E3.e0).trans E', hF⟩
/-- the element -/
theorem body_e (A : Acc α G) {e : ME} (hD : H1 D = none) : Body A ρ1 S1 H1 D (stE A e) fun σ H Nx => tD G W0 e σ H (A.put D Nx) := by
  intro σ2 sl2 acc acc' st3 st4 ρ S H3 Nx rp c hs k
  refine ⟨ρ, S, sl2, st3, rp, ?_⟩
  unfold stE at hs
  cases e4 : e sl2 st3 with
  | stuck => rw [e4] at hs; cases hs
  | err x s => rw [e4] at hs; cases hs
  | ok z st5 =>
    rw [e4] at hs
    dsimp only at hs
    cases ea : A.add acc z with
    | none => rw [ea] at hs; cases hs
    | some a =>
      rw [ea] at hs
      cases hs
      intro ρ4 S4 H4 v E4 rp4 rv
      have c4 := c.grow E4 rp4.rep
      obtain ⟨u, h1, h2⟩ := A.ok c4.nS c4.here rv ea
      exact h2 Nx (k ρ4 S4 _ ⟨c4.ext.upO hD _, c4.rep.upO c4.nS c4.nR _, h1, c4.nR, c4.nS⟩ (E4.e0.trans ⟨fun _ _ h => h, fun _ h => h, upO_keep c4.nS _⟩))
/-- a second clause -/
theorem body_2 (A : Acc α G) {mi1 : MI} {g1 : MG} {t1 : MB} {vs1 : List Nat} {step : Slo → α → Sto → Rs α} {body : L2.St → Hp → (Hp → Prop) → Prop} (hb : Body A ρ1 S1 H1 D step body) :
    Body A ρ1 S1 H1 D (st2 mi1 g1 t1 vs1 step) fun σ H Nx => tDi G W0 mi1 σ H fun J1 H4 => ∃ W1 : Nat → Nat → Hp → Prop, (∃ m, W1 0 m H4) ∧ tLoop J1 D (tDgw G vs1 g1) (tDb G W0 t1) body vs1 σ W1 Nx := by
  intro σ2 sl2 acc acc' st3 st4 ρ S H3 Nx rp c hs k
  refine ⟨ρ, S, sl2, st3, rp, ?_⟩
  unfold st2 at hs
  cases e4 : mi1 sl2 st3 with
  | stuck => rw [e4] at hs; cases hs
  | err x s => rw [e4] at hs; cases hs
  | ok get st5 =>
    rw [e4] at hs
    dsimp only at hs
    intro ρ4 S4 H4 J E4 rp4 rJ
    have c4 := c.grow E4 rp4.rep
    exact loop_w rJ c4 rp4 hb acc' st4 hs fun ρ' S' H' c' E' => k ρ' S' H' c' (E4.e0.trans E')
end
section
variable {X : Cx} {W : WX} {α : Type} {A : Acc α (gc X)} {mi : MI} {g : MG} {t : MB} {vs : List Nat} {step : Slo → α → Sto → Rs α}
/-- a comprehension's reading, whatever its clauses -/
def tC (A : Acc α (gc X)) (wi : TI) (g : TG) (tt : TT) (body : Addr → L2.St → Hp → (Hp → Prop) → Prop) (vs : List Nat) : TE := fun σ H Q => wi σ H fun J H1 => ∀ D, H1 D = none → ∃ W : Nat → Nat → Hp → Prop, (∃ m, W 0 m (upd H1 D (A.new D))) ∧ tLoop J D g tt (body D) vs σ W (Q (.ref D))
theorem c_w {body : Addr → L2.St → Hp → (Hp → Prop) → Prop} {σ : L2.St} {H : Hp} {Q : VK} (hb : ∀ ρ1 S1 H1 D, H1 D = none → Body A ρ1 S1 H1 D step (body D)) (h : tD (gc X) W (mC1 A mi g t vs step) σ H Q) : tC A (tDi (gc X) W mi) (tDgw (gc X) vs g) (tDb (gc X) W0 t) body vs σ H Q := by
  obtain ⟨ρ, S, sl, st, rp, h⟩ := h
  refine ⟨ρ, S, sl, st, rp, PostR.bind h fun get st1 ρ1 S1 H1 J E1 rp1 rJ h1 => ?_⟩
  intro D hD
  have fr := rp1.rep.fresh hD
  cases e : cL get g t step vs fuel 0 sl A.nil st1 with
  | stuck => rw [e] at h1; exact h1.elim
  | err x s => rw [e] at h1; exact h1.elim
  | ok a stN =>
    rw [e] at h1
    have h1 : PostR (gc X) W (relV (gc X)) ρ1 S1 H1 sl σ (.ok (A.fin a stN).1 (A.fin a stN).2) Q := h1
    have E0 : Ext ρ1 S1 H1 ρ1 S1 (upd H1 D (A.new D)) := Ext.refl.upO hD _
    have R0 := rp1.rep.upO fr.1 fr.2 (A.new D)
    refine loop_w (fun ρ' S' st' H' i E' R' => rJ ρ' S' st' H' i (E0.e0.trans E') R') ⟨E0, R0, A.at0, fr.2, fr.1⟩ (rp1.mono0 E0.e0 R0) (hb ρ1 S1 H1 D hD) a stN e fun ρ2 S2 H2 c _ => ?_
    obtain ⟨ρ', S', E', R', r'⟩ := A.done c.ext hD c.rep c.nS c.nR c.here
    exact h1 ρ' S' H2 (.ref D) E' (rp1.mono E' R') r'
/-! ### the four -/
variable {elt tg iter tg1 iter1 : Expr} {ifs ifs1 : List Expr} {scope : Scope} {pos : Pos} {e : ME} {mi1 : MI} {g1 : MG} {t1 : MB}
/-- the parts of a comprehension of one clause -/
structure C1 (X : Cx) (W : WX) (tg iter elt : Expr) (ifs : List Expr) (scope : Scope) (own : List (Str × Nat)) (mi : MI) (g : MG) (t : MB) (e : ME) : Prop where
  hi : ID X W tg iter mi
  ok : BlkOk X.N X.env.scope scope own
  hg : ∀ (s : Shared) (H : Hp) (C : Addr) (cl : List (Str × Addr)) (fp : List Addr), GDw (X.blk s H scope (compEnvC scope cl C X.env) fp) (own.map (·.2)) tg g
  ht : ∀ (s : Shared) (H : Hp) (C : Addr) (cl : List (Str × Addr)) (fp : List Addr), ETs (X.blk s H scope (compEnvC scope cl C X.env) fp) ifs t
  he : ∀ (s : Shared) (H : Hp) (C : Addr) (cl : List (Str × Addr)) (fp : List Addr), ED (X.blk s H scope (compEnvC scope cl C X.env) fp) W0 elt e
/-- .. and of the second -/
structure C2 (X : Cx) (tg1 iter1 : Expr) (ifs1 : List Expr) (scope : Scope) (own : List (Str × Nat)) (vs1 : List Nat) (mi1 : MI) (g1 : MG) (t1 : MB) : Prop where
  hv : ∀ i ∈ vs1, i ∈ own.map (·.2)
  hi1 : ∀ (s : Shared) (H : Hp) (C : Addr) (cl : List (Str × Addr)) (fp : List Addr), ID (X.blk s H scope (compEnvC scope cl C X.env) fp) W0 tg1 iter1 mi1
  hg1 : ∀ (s : Shared) (H : Hp) (C : Addr) (cl : List (Str × Addr)) (fp : List Addr), GDw (X.blk s H scope (compEnvC scope cl C X.env) fp) vs1 tg1 g1
  ht1 : ∀ (s : Shared) (H : Hp) (C : Addr) (cl : List (Str × Addr)) (fp : List Addr), ETs (X.blk s H scope (compEnvC scope cl C X.env) fp) ifs1 t1
def mL1 (G : Gc) (c : Bool) (mi : MI) (g : MG) (t : MB) (e : ME) (vs : List Nat) : ME := mC1 (accL G c) mi g t vs (stE (accL G c) e)
def mL2 (G : Gc) (c : Bool) (mi : MI) (g : MG) (t : MB) (mi1 : MI) (g1 : MG) (t1 : MB) (e : ME) (vs vs1 : List Nat) : ME := mC1 (accL G c) mi g t vs (st2 mi1 g1 t1 vs1 (stE (accL G c) e))
def mS1 (G : Gc) (mi : MI) (g : MG) (t : MB) (e : ME) (vs : List Nat) : ME := mC1 (accS G) mi g t vs (stE (accS G) e)
def mS2 (G : Gc) (mi : MI) (g : MG) (t : MB) (mi1 : MI) (g1 : MG) (t1 : MB) (e : ME) (vs vs1 : List Nat) : ME := mC1 (accS G) mi g t vs (st2 mi1 g1 t1 vs1 (stE (accS G) e))
theorem ed_l1 (c : Bool) {own : List (Str × Nat)} (hc : X.calm = true) (hN : X.N.Nodup) (p : C1 X W tg iter elt ifs scope own mi g t e) (hs : ∀ x, foldedSetIterable iter X.env x = pure x := by intro _; rfl) :
    ED X W (.ListComp elt [⟨tg, iter, ifs, 0⟩] scope pos) (mL1 (gc X) c mi g t e (own.map (·.2))) :=
  pe_weak (pe_lc hc hN p.hi p.ok p.hg p.ht p.he hs) fun σ H Q h => c_w (A := accL (gc X) c) (fun ρ1 S1 H1 D hD => body_e (accL (gc X) c) hD) h
theorem ed_l2 (c : Bool) {own : List (Str × Nat)} {vs1 : List Nat} (hc : X.calm = true) (hN : X.N.Nodup) (p : C1 X W tg iter elt ifs scope own mi g t e) (q : C2 X tg1 iter1 ifs1 scope own vs1 mi1 g1 t1) (hs : ∀ x, foldedSetIterable iter X.env x = pure x := by intro _; rfl) (hs1 : ∀ env x, foldedSetIterable iter1 env x = pure x := by intro _ _; rfl) :
    ED X W (.ListComp elt [⟨tg, iter, ifs, 0⟩, ⟨tg1, iter1, ifs1, 0⟩] scope pos) (mL2 (gc X) c mi g t mi1 g1 t1 e (own.map (·.2)) vs1) :=
  pe_weak (pe_lc2 hc hN p.hi p.ok q.hv p.hg p.ht q.hi1 q.hg1 q.ht1 p.he hs hs1) fun σ H Q h => c_w (A := accL (gc X) c) (fun ρ1 S1 H1 D hD => body_2 (accL (gc X) c) (body_e (accL (gc X) c) hD)) h
theorem ed_s1 {own : List (Str × Nat)} (hc : X.calm = true) (hN : X.N.Nodup) (p : C1 X W tg iter elt ifs scope own mi g t e) (hs : ∀ x, foldedSetIterable iter X.env x = pure x := by intro _; rfl) :
    ED X W (.SetComp elt [⟨tg, iter, ifs, 0⟩] scope pos) (mS1 (gc X) mi g t e (own.map (·.2))) :=
  pe_weak (pe_scX hc hN p.hi p.ok p.hg p.ht p.he hs) fun σ H Q h => c_w (A := accS (gc X)) (fun ρ1 S1 H1 D hD => body_e (accS (gc X)) hD) h
theorem ed_s2 {own : List (Str × Nat)} {vs1 : List Nat} (hc : X.calm = true) (hN : X.N.Nodup) (p : C1 X W tg iter elt ifs scope own mi g t e) (q : C2 X tg1 iter1 ifs1 scope own vs1 mi1 g1 t1) (hs : ∀ x, foldedSetIterable iter X.env x = pure x := by intro _; rfl) (hs1 : ∀ env x, foldedSetIterable iter1 env x = pure x := by intro _ _; rfl) :
    ED X W (.SetComp elt [⟨tg, iter, ifs, 0⟩, ⟨tg1, iter1, ifs1, 0⟩] scope pos) (mS2 (gc X) mi g t mi1 g1 t1 e (own.map (·.2)) vs1) :=
  pe_weak (pe_scX2 hc hN p.hi p.ok q.hv p.hg p.ht q.hi1 q.hg1 q.ht1 p.he hs hs1) fun σ H Q h => c_w (A := accS (gc X)) (fun ρ1 S1 H1 D hD => body_2 (accS (gc X)) (body_e (accS (gc X)) hD)) h
/-- name = [..] on one line -/
theorem sd_setL1 (c : Bool) (i : Nat) {y : Str} {py spos : Pos} {own : List (Str × Nat)} (hc : X.calm = true) (hN : X.N.Nodup) (p : C1 X W tg iter elt ifs scope own mi g t e) (hy : X.N[i]? = some y := by rfl) (hyl : X.env.scope.names.lookup y = some .local := by rfl)
    (hsw : swapsWith (.ListComp elt [⟨tg, iter, ifs, 0⟩] scope pos) (some (.Name y py)) spos.line X.env = pure true := by rfl) (hs : ∀ x, foldedSetIterable iter X.env x = pure x := by intro _; rfl) :
    SD X W (.Assign [.Name y py] (.ListComp elt [⟨tg, iter, ifs, 0⟩] scope pos) spos) (sAsg i (mL1 (gc X) c mi g t e (own.map (·.2)))) := by
  refine ps_weak (ps_setLc (wi := tDi (gc X) W mi) (g := tDgw (gc X) (own.map (·.2)) g) (tt := tDb (gc X) W0 t) (te := tD (gc X) W0 e) hc hN hy hyl hsw p.hi p.ok p.hg p.ht p.he hs) fun D σ H h => ?_
  obtain ⟨ρ, S, sl, st, rp, h⟩ := h
  refine c_w (A := accL (gc X) c) (Q := fun x H1 => gName i x σ H1 D.nx) (fun ρ1 S1 H1 D hD => body_e (accL (gc X) c) hD) ⟨ρ, S, sl, st, rp, h.bindE fun x st1 ρ1 S1 H1 v E1 rp1 r1 h1 => ?_⟩
  exact h1 ρ1 S1 _ H1 .refl (rp1.set i r1)
theorem sd_setL2 (c : Bool) (i : Nat) {y : Str} {py spos : Pos} {own : List (Str × Nat)} {vs1 : List Nat} (hc : X.calm = true) (hN : X.N.Nodup) (p : C1 X W tg iter elt ifs scope own mi g t e) (q : C2 X tg1 iter1 ifs1 scope own vs1 mi1 g1 t1) (hy : X.N[i]? = some y := by rfl) (hyl : X.env.scope.names.lookup y = some .local := by rfl)
    (hsw : swapsWith (.ListComp elt [⟨tg, iter, ifs, 0⟩, ⟨tg1, iter1, ifs1, 0⟩] scope pos) (some (.Name y py)) spos.line X.env = pure true := by rfl) (hs : ∀ x, foldedSetIterable iter X.env x = pure x := by intro _; rfl) (hs1 : ∀ env x, foldedSetIterable iter1 env x = pure x := by intro _ _; rfl) :
    SD X W (.Assign [.Name y py] (.ListComp elt [⟨tg, iter, ifs, 0⟩, ⟨tg1, iter1, ifs1, 0⟩] scope pos) spos) (sAsg i (mL2 (gc X) c mi g t mi1 g1 t1 e (own.map (·.2)) vs1)) := by
  refine ps_weak (ps_setLc2 (wi := tDi (gc X) W mi) (g := tDgw (gc X) (own.map (·.2)) g) (tt := tDb (gc X) W0 t) (wi1 := tDi (gc X) W0 mi1) (g1 := tDgw (gc X) vs1 g1) (tt1 := tDb (gc X) W0 t1) (te := tD (gc X) W0 e) hc hN hy hyl hsw p.hi p.ok q.hv p.hg p.ht q.hi1 q.hg1 q.ht1 p.he hs hs1) fun D σ H h => ?_
  obtain ⟨ρ, S, sl, st, rp, h⟩ := h
  refine c_w (A := accL (gc X) c) (Q := fun x H1 => gName i x σ H1 D.nx) (fun ρ1 S1 H1 D hD => body_2 (accL (gc X) c) (body_e (accL (gc X) c) hD)) ⟨ρ, S, sl, st, rp, h.bindE fun x st1 ρ1 S1 H1 v E1 rp1 r1 h1 => ?_⟩
  exact h1 ρ1 S1 _ H1 .refl (rp1.set i r1)
end
end SM
set_option Elab.async false
set_option linter.all false
set_option maxRecDepth 100000
set_option maxHeartbeats 4000000
/-! SME: built-in functions by the mirror. -/
namespace SM
open PySem PySem.Spec PyProof.Rows L2

section
variable {X : Cx}
/-! ### len -/
def bLen : OpN := fun xs st => match xs with
  | [.str z] => if z.length ≤ sizeLine then some (.int z.length, st) else none
  | [.tup ys] => some (.int ys.length, st)
  | [x] => match lookL st x with
    | some ys => some (.int ys.length, st)
    | none => match lookD st x with
      | some (.k false kvs) => some (.int kvs.length, st)
      | some (.t false kvs) => some (.int kvs.length, st)
      | _ => none
  | _ => none
theorem cb_len : CallR X (.builtin "len") (rDN (gc X) bLen) := by
  intro pins s σ H vs us Q I r h
  obtain ⟨ρ, S, st, xs, R, rv, h⟩ := h
  unfold bLen at h
  split at h
  · obtain ⟨v, rfl, r1⟩ := vrs_one rv
    cases r1
    split at h
    · rename_i hz
      exact call_len_str pins s σ H _ us Q I r ⟨_, rfl, hz, h.at R rfl _ (.int _)⟩
    · exact h.no.elim
  · obtain ⟨v, rfl, r1⟩ := vrs_one rv
    obtain ⟨a, ws, rfl, h1, h2⟩ := lookT_ok r1 rfl
    exact call_len_seq pins s σ H _ us Q I r ⟨a, ws, rfl, .inr h1, by rw [h2.1]; exact h.at R rfl _ (.int _)⟩
  · obtain ⟨v, rfl, r1⟩ := vrs_one rv
    split at h
    · rename_i ys e
      obtain ⟨a, ws, rfl, h1, h2⟩ := lookL_ok R r1 e
      exact call_len_seq pins s σ H _ us Q I r ⟨a, ws, rfl, .inl h1, by rw [h2.1]; exact h.at R rfl _ (.int _)⟩
    · split at h
      · rename_i kvs e
        obtain ⟨a, rfl, ks, h1, h2⟩ := lookD_ok R r1 e
        exact call_lenD pins s σ H _ us Q I r ⟨a, ks, rfl, h1, by rw [h2.len]; exact h.at R rfl _ (.int _)⟩
      · rename_i kvs e
        obtain ⟨a, rfl, ks, h1, h2⟩ := lookD_ok R r1 e
        exact call_len_dT pins s σ H _ us Q I r ⟨a, ks, rfl, h1, by rw [h2.len]; exact h.at R rfl _ (.int _)⟩
      · exact h.no.elim
  · exact h.no.elim
/-! ### abs, int, str, min, max -/
def bAbs : OpN := fun xs st => match xs with
  | [.int i] => some (.int (if i < 0 then -i else i), st)
  | _ => none
theorem cb_abs : CallR X (.builtin "abs") (rDN (gc X) bAbs) := by
  intro pins s σ H vs us Q I r h
  obtain ⟨ρ, S, st, xs, R, rv, h⟩ := h
  unfold bAbs at h
  split at h
  · obtain ⟨v, rfl, r1⟩ := vrs_one rv
    cases r1
    exact call_abs pins s σ H _ us Q I r ⟨_, rfl, h.at R rfl _ (.int _)⟩
  · exact h.no.elim
def bInt : OpN := fun xs st => match xs with
  | [.int i] => some (.int i, st)
  | [.bl k] => some (.int (if k then 1 else 0), st)
  | _ => none
theorem cb_int : CallR X (.type "int") (rDN (gc X) bInt) := by
  intro pins s σ H vs us Q I r h
  obtain ⟨ρ, S, st, xs, R, rv, h⟩ := h
  unfold bInt at h
  split at h
  · obtain ⟨v, rfl, r1⟩ := vrs_one rv
    cases r1
    exact call_int1 pins s σ H _ us Q I r (.inl ⟨_, rfl, h.at R rfl _ (.int _)⟩)
  · obtain ⟨v, rfl, r1⟩ := vrs_one rv
    cases r1
    exact call_int1 pins s σ H _ us Q I r (.inr ⟨_, rfl, h.at R rfl _ (.int _)⟩)
  · exact h.no.elim
def bStr : OpN := fun xs st => match xs with
  | [.str x] => some (.str x, st)
  | _ => none
theorem cb_str : CallR X (.type "str") (rDN (gc X) bStr) := by
  intro pins s σ H vs us Q I r h
  obtain ⟨ρ, S, st, xs, R, rv, h⟩ := h
  unfold bStr at h
  split at h
  · obtain ⟨v, rfl, r1⟩ := vrs_one rv
    cases r1
    exact SkE.call_str_str pins s σ H _ us Q I r ⟨_, rfl, h.at R rfl _ (.str _)⟩
  · exact h.no.elim
def bMax : OpN := fun xs st => match xs with
  | [.int i, .int j] => some (.int (if j > i then j else i), st)
  | _ => none
theorem cb_max (hc : X.calm = true) : CallR X (.builtin "max") (rDN (gc X) bMax) := by
  intro pins s σ H vs us Q I r h
  obtain ⟨ρ, S, st, xs, R, rv, h⟩ := h
  unfold bMax at h
  split at h
  · obtain ⟨v, w, rfl, r1, r2⟩ := vrs_two rv
    cases r1; cases r2
    exact call_max2 hc pins s σ H _ us Q I r ⟨_, _, rfl, h.at R rfl _ (.int _)⟩
  · exact h.no.elim
def bMin : OpN := fun xs st => match xs with
  | [.int i, .int j] => some (.int (if j < i then j else i), st)
  | _ => none
theorem cb_min (hc : X.calm = true) : CallR X (.builtin "min") (rDN (gc X) bMin) := by
  intro pins s σ H vs us Q I r h
  obtain ⟨ρ, S, st, xs, R, rv, h⟩ := h
  unfold bMin at h
  split at h
  · obtain ⟨v, w, rfl, r1, r2⟩ := vrs_two rv
    cases r1; cases r2
    exact call_min2 hc pins s σ H _ us Q I r ⟨_, _, rfl, h.at R rfl _ (.int _)⟩
  · exact h.no.elim
/-! ### list, tuple -/
theorem vrs_keys {G : Gc} {ρ : List Addr} {S : Addr → Prop} {H : Hp} : ∀ {ks : List (Key × V)} {xs : List (Key × Va)}, KVr G ρ S H ks xs → Vrs G ρ S H (ks.map fun kv => kV kv.1) (xs.map fun kv => match kv.1 with | .inl i => Va.int i | .inr x => Va.str x)
  | [], xs, r => by
    obtain rfl := r.nilL
    exact .nil
  | p :: ks, xs, r => by
    obtain ⟨q, ys, rfl, e, r1, r2⟩ := r.consL
    rw [List.map_cons, List.map_cons]
    refine .cons ?_ (vrs_keys r2)
    rw [e]
    obtain ⟨k, z⟩ := q
    cases k with
    | inl i => exact .int i
    | inr x => exact .str x
def bList (c : Bool) : OpN := fun xs st => match xs with
  | [.tup ys] => some (mkL c ys st)
  | [x] => match lookL st x with
    | some ys => some (mkL c ys st)
    | none => match lookD st x with
      | some (.k false kvs) => some (mkL c (kvs.map fun kv => match kv.1 with | .inl i => Va.int i | .inr x => Va.str x) st)
      | _ => none
  | _ => none
theorem cb_list (c : Bool) (hc : X.calm = true) : CallR X (.type "list") (rDN (gc X) (bList c)) := by
  intro pins s σ H vs us Q I r h
  obtain ⟨ρ, S, st, xs, R, rv, h⟩ := h
  unfold bList at h
  split at h
  · obtain ⟨v, rfl, r1⟩ := vrs_one rv
    obtain ⟨a, ws, rfl, h1, h2⟩ := lookT_ok r1 rfl
    exact call_list_of pins s σ H _ us Q I r ⟨a, ws, rfl, .inr h1, h.mk R rfl h2⟩
  · obtain ⟨v, rfl, r1⟩ := vrs_one rv
    split at h
    · rename_i ys e
      obtain ⟨a, ws, rfl, h1, h2⟩ := lookL_ok R r1 e
      exact call_list_of pins s σ H _ us Q I r ⟨a, ws, rfl, .inl h1, h.mk R rfl h2⟩
    · split at h
      · rename_i kvs e
        obtain ⟨a, rfl, ks, h1, h2⟩ := lookD_ok R r1 e
        exact call_list_dK hc pins s σ H _ us Q I r ⟨a, ks, rfl, h1, h.mk R rfl (vrs_keys h2)⟩
      · exact h.no.elim
  · exact h.no.elim
def bTuple : OpN := fun xs st => match xs with
  | [.tup ys] => some (.tup ys, st)
  | [x] => (lookL st x).map fun ys => (.tup ys, st)
  | _ => none
theorem cb_tuple : CallR X (.type "tuple") (rDN (gc X) bTuple) := by
  intro pins s σ H vs us Q I r h
  obtain ⟨ρ, S, st, xs, R, rv, h⟩ := h
  unfold bTuple at h
  split at h
  · obtain ⟨v, rfl, r1⟩ := vrs_one rv
    obtain ⟨a, ws, rfl, h1, h2⟩ := lookT_ok r1 rfl
    exact call_tuple_of pins s σ H _ us Q I r ⟨a, ws, rfl, .inr ⟨h1, h.at R rfl _ r1⟩⟩
  · rename_i x _
    obtain ⟨v, rfl, r1⟩ := vrs_one rv
    cases e : lookL st x with
    | none => rw [e] at h; exact h.no.elim
    | some ys =>
      rw [e] at h
      obtain ⟨a, ws, rfl, h1, h2⟩ := lookL_ok R r1 e
      exact call_tuple_of pins s σ H _ us Q I r ⟨a, ws, rfl, .inl ⟨h1, h.tup R rfl h2⟩⟩
  · exact h.no.elim
/-! ### all, any of bools -/
theorem bls_all {G : Gc} {ρ : List Addr} {S : Addr → Prop} {H : Hp} : ∀ {xs : List Va} {vs : List V} {ss : List Bool}, Vrs G ρ S H vs xs → xs.mapM asBl = some ss → vs = ss.map V.bl
  | [], vs, ss, r, e => by
    obtain rfl := r.nil_r
    simp at e
    subst e
    rfl
  | x :: xs, vs, ss, r, e => by
    obtain ⟨v, ws, rfl, r1, r2⟩ := r.cons_r
    rw [List.mapM_cons] at e
    cases e1 : asBl x with
    | none => simp [e1] at e
    | some k =>
      cases e2 : xs.mapM asBl with
      | none => simp [e1, e2] at e
      | some js =>
        simp [e1, e2] at e
        subst e
        rw [bls_all r2 e2, asBl_ok r1 e1]
        rfl
def bFold (f : List Bool → Bool) : OpN := fun xs st => match xs with
  | [x] => match lookL st x with
    | some ys => (ys.mapM asBl).map fun bs => (.bl (f bs), st)
    | none => none
  | _ => none
theorem cb_fold {id : String} {f : List Bool → Bool} (hr : CallR X (.builtin id) (fun vs H Q => ∃ (a : Addr) (bs : List Bool), vs = [V.ref a] ∧ SqL X.K H a (bs.map V.bl) ∧ Q (.bl (f bs)) H)) : CallR X (.builtin id) (rDN (gc X) (bFold f)) := by
  intro pins s σ H vs us Q I r h
  obtain ⟨ρ, S, st, xs, R, rv, h⟩ := h
  unfold bFold at h
  split at h
  · obtain ⟨v, rfl, r1⟩ := vrs_one rv
    split at h
    · rename_i ys e
      obtain ⟨a, ws, rfl, h1, h2⟩ := lookL_ok R r1 e
      cases e2 : ys.mapM asBl with
      | none => rw [e2] at h; exact h.no.elim
      | some bs =>
        rw [e2] at h
        rw [bls_all h2 e2] at h1
        exact hr pins s σ H _ us Q I r ⟨a, bs, rfl, h1, h.at R rfl _ (.bl _)⟩
    · exact h.no.elim
  · exact h.no.elim
def bAll : OpN := bFold fun bs => bs.all id
def bAny : OpN := bFold fun bs => bs.any id
theorem cb_all (hc : X.calm = true) : CallR X (.builtin "all") (rDN (gc X) bAll) := cb_fold (cr_all hc)
theorem cb_any (hc : X.calm = true) : CallR X (.builtin "any") (rDN (gc X) bAny) := cb_fold (cr_any hc)

/-! ### sorted -/
/-- data of one kind, with an order -/
def alikeB (ds : List PyData) : Bool := ds.all fun d => ds.all fun e => PySem.W.alike d e
def sortB (ds : List PyData) : Bool := (ds.all fun d => match d with | .tuple (_ :: _) => true | _ => false) || ds.all fun d => match d with | .none => false | .tuple _ => false | _ => true
theorem alikeB_ok {ds : List PyData} (h : alikeB ds = true) : PySem.W.AllAlike ds := fun d hd e he => List.all_eq_true.mp (List.all_eq_true.mp h d hd) e he
theorem sortB_ok {ds : List PyData} (h : sortB ds = true) : PySem.W.Sortable ds := by
  rcases Bool.or_eq_true_iff.mp h with h | h
  · refine .inl fun d hd => ?_
    have := List.all_eq_true.mp h d hd
    cases d with
    | tuple xs =>
      cases xs with
      | nil => cases this
      | cons x r => exact ⟨x, r, rfl⟩
    | _ => cases this
  · refine .inr fun d hd => ?_
    have := List.all_eq_true.mp h d hd
    cases d with
    | none => cases this
    | tuple xs => cases this
    | bool _ => exact ⟨(fun z => nomatch z), (fun _ z => nomatch z)⟩
    | int _ => exact ⟨(fun z => nomatch z), (fun _ z => nomatch z)⟩
    | str _ => exact ⟨(fun z => nomatch z), (fun _ z => nomatch z)⟩
    | list _ => exact ⟨(fun z => nomatch z), (fun _ z => nomatch z)⟩
    | dict _ => exact ⟨(fun z => nomatch z), (fun _ z => nomatch z)⟩
end
end SM
set_option Elab.async false
set_option linter.all false
set_option maxRecDepth 100000
set_option maxHeartbeats 4000000
/-! SMF: sorted by the mirror. -/
namespace SM
open PySem PySem.Spec PyProof.Rows L2

/-! ### data sorted -/
def sortV (kf : Va → Option PyData) (xs : List Va) : Option (List Va) :=
  (xs.mapM kf).bind fun ds => if alikeB ds && (sortB ds && ds.all fun d => decide (d.depth ≤ 64)) then some (xs.mergeSort (PySem.W.dataLe false fun x => (kf x).getD .none)) else none
theorem mapM_getD {kf : Va → Option PyData} : ∀ {xs : List Va} {ds : List PyData}, xs.mapM kf = some ds → xs.map (fun x => (kf x).getD .none) = ds ∧ ∀ x ∈ xs, ∃ d ∈ ds, kf x = some d
  | [], ds, e => by
    simp at e
    subst e
    exact ⟨rfl, fun x h => nomatch h⟩
  | x :: xs, ds, e => by
    rw [List.mapM_cons] at e
    cases e1 : kf x with
    | none => simp [e1] at e
    | some d =>
      cases e2 : xs.mapM kf with
      | none => simp [e1, e2] at e
      | some es =>
        simp [e1, e2] at e
        subst e
        obtain ⟨h1, h2⟩ := mapM_getD e2
        refine ⟨by rw [List.map_cons, h1, e1]; rfl, fun y hy => ?_⟩
        rcases List.mem_cons.mp hy with rfl | hy
        · exact ⟨d, List.mem_cons_self, e1⟩
        · obtain ⟨d', m, q⟩ := h2 y hy
          exact ⟨d', List.mem_cons_of_mem _ m, q⟩
theorem sortV_ok {kf : Va → Option PyData} {xs ys : List Va} (e : sortV kf xs = some ys) : ys = xs.mergeSort (PySem.W.dataLe false fun x => (kf x).getD .none) ∧ PySem.W.AllAlike (xs.map fun x => (kf x).getD .none) ∧ PySem.W.Sortable (xs.map fun x => (kf x).getD .none) ∧
    ∀ x ∈ xs, ∃ d, kf x = some d ∧ d.depth ≤ 64 := by
  unfold sortV at e
  cases e1 : xs.mapM kf with
  | none => simp [e1] at e
  | some ds =>
    rw [e1, Option.bind_some] at e
    obtain ⟨h1, h2⟩ := mapM_getD e1
    split at e
    · rename_i h
      rw [Bool.and_eq_true, Bool.and_eq_true] at h
      cases e
      refine ⟨rfl, by rw [h1]; exact alikeB_ok h.1, by rw [h1]; exact sortB_ok h.2.1, fun x hx => ?_⟩
      obtain ⟨d, m, q⟩ := h2 x hx
      exact ⟨d, q, of_decide_eq_true (List.all_eq_true.mp h.2.2 d m)⟩
    · cases e
/-- values by what they stand for -/
def ValV (G : Gc) (ρ : List Addr) (S : Addr → Prop) (H : Hp) (u : Value) (x : Va) : Prop := ∃ v, RelV v u ∧ Vr G ρ S H v x
theorem each_of {G : Gc} {ρ : List Addr} {S : Addr → Prop} {H : Hp} : ∀ {vs : List V} {us : List Value} {xs : List Va}, Vals vs us → Vrs G ρ S H vs xs → PySem.W.EachIs (ValV G ρ S H) us xs
  | [], _, xs, r, h => by
    cases r
    have : xs = [] := List.eq_nil_of_length_eq_zero h.1.symm
    subst this
    exact .nil
  | v :: vs, _, xs, r, h => by
    cases r with
    | cons r1 r2 =>
      cases xs with
      | nil => cases h.1
      | cons x ys =>
        obtain ⟨v', ws, e, h1, h2⟩ := Vrs.cons_r h
        cases e
        exact .cons ⟨v, r1, h1⟩ (each_of r2 h2)
theorem of_each {G : Gc} {ρ : List Addr} {S : Addr → Prop} {H : Hp} : ∀ {us : List Value} {xs : List Va}, PySem.W.EachIs (ValV G ρ S H) us xs → ∃ vs, Vals vs us ∧ Vrs G ρ S H vs xs
  | _, _, .nil => ⟨[], .nil, .nil⟩
  | _, _, .cons ⟨v, h1, h2⟩ t => by
    obtain ⟨vs, r1, r2⟩ := of_each t
    exact ⟨v :: vs, .cons h1 r1, .cons h2 r2⟩

section
variable {X : Cx}
theorem in_st {A : Around} {d : PyData} {k : Nat} (hr : Room k A) (h : d.depth ≤ 64) : A.units + 2 + d.depth < cLine := by
  have := hr.un
  omega
/-- the new list that a sort leaves -/
theorem sorted_end {pins : List (Addr × Obj)} {σ : L2.St} {H : Hp} {s : Shared} {ρ : List Addr} {S : Addr → Prop} {st : Sto} {c : Bool} {ys : List Va} {Q : VK} {out : List Value} {h' : Heap} {t e : Nat} {p : Addr} (I : Inv X pins σ H s) (R : Rep (gc X) ρ S st H)
    (h : EndO (gc X) ρ S H (some (mkL c ys st)) Q) (k : ∀ b o, s.heap.get? b = some o → h'.get? b = some o) (hp : s.heap.objs.size ≤ p) (hg : h'.get? p = some (seqObj "list" out.toArray e)) (hl : out.length ≤ sizeLine) (ho : PySem.W.EachIs (ValV (gc X) ρ S H) out ys) :
    EP X pins σ Q (.ref p) { s with heap := h', toks := t } := by
  obtain ⟨vs, r1, r2⟩ := of_each ho
  have hv : vs.length ≤ sizeLine := by rw [r1.length]; exact hl
  exact ⟨.ref p, upd H p (.lst vs), I.laid (t' := t) k hp ⟨hv, out, e, r1, hg⟩, rfl, h.mk R rfl r2 _ (I.hok.fresh hp)⟩
def bSortedL (c : Bool) : OpN := fun xs st => match xs with
  | [x] => match lookL st x with
    | some ys => (sortV (py st) ys).map fun zs => mkL c zs st
    | none => none
  | _ => none
theorem cb_sortedL {k : Nat} (c : Bool) (hr : Room k X.A) : CallR X (.builtin "sorted") (rDN (gc X) (bSortedL c)) := by
  intro pins s σ H vs us Q I r h
  obtain ⟨ρ, S, st, xs, R, rv, h⟩ := h
  unfold bSortedL at h
  split at h
  · obtain ⟨v, rfl, r1⟩ := vrs_one rv
    split at h
    · rename_i ys e
      obtain ⟨a, ws, rfl, h1, h2⟩ := lookL_ok R r1 e
      cases e2 : sortV (py st) ys with
      | none => rw [e2] at h; exact h.no.elim
      | some zs =>
        rw [e2, Option.map_some] at h
        obtain ⟨rfl, s1, s2, s3⟩ := sortV_ok e2
        obtain ⟨its, rv, pl, hz⟩ := I.list h1
        rw [Vals.ref1 r]
        have ev := each_of rv h2
        refine PySem.W.sorted_data (enc := fun x => (py st x).getD .none) pl.isList ev ?_ s1 s2 (by rw [← ev.length, ← rv.length]; exact hz) (fun b hb => ?_) fun out ho eo => ?_
        · refine (PySem.W.each_mem ev).mono fun u x ⟨⟨v, q1, q2⟩, hm⟩ => ?_
          obtain ⟨d, q3, _⟩ := s3 x hm
          rw [q3]
          exact Dp.reads I _ _ _ (toPy_ok R _ _ _ _ q2 q3) q1
        · obtain ⟨d, q3, q4⟩ := s3 b hb
          rw [q3]
          exact in_st hr q4
        · obtain ⟨ep, he'⟩ := PyProof.Rows.sortedAll_at s.heap its out.toArray
          exact sorted_end (t := s.toks) I R h (fun _ _ => PyProof.Rows.sortedAll_old) (Nat.le_succ _) he' (by rw [ho, ← ev.length, ← rv.length]; exact hz) eo
    · exact h.no.elim
  · exact h.no.elim

end
/-! ### sorted(set) -/
theorem perm_sort {β : Type} {le : β → β → Bool} (ht : ∀ a b c, le a b = true → le b c = true → le a c = true) (hl : ∀ a b, (le a b || le b a) = true) (ha : ∀ a b, le a b = true → le b a = true → a = b) {l l' : List β} (p : l.Perm l') : l.mergeSort le = l'.mergeSort le :=
  List.Perm.eq_of_pairwise (fun a b _ _ h1 h2 => ha a b h1 h2) (List.pairwise_mergeSort ht hl l) (List.pairwise_mergeSort ht hl l') (((List.mergeSort_perm l le).trans p).trans (List.mergeSort_perm l' le).symm)
def leI (a b : Int) : Bool := decide (a ≤ b)
def leS (a b : Str) : Bool := decide (a.cps.toList ≤ b.cps.toList)
theorem leI_data : PySem.W.dataLe false (fun b : Int => .int b) = leI := PySem.W.dataLe_int (fun b : Int => b)
theorem leS_data : PySem.W.dataLe false (fun b : Str => .str b) = leS := PySem.W.dataLe_str (fun b : Str => b)
theorem leI_perm {l l' : List Int} (p : l.Perm l') : l.mergeSort leI = l'.mergeSort leI :=
  perm_sort (fun a b c h1 h2 => by unfold leI at *; simp only [decide_eq_true_eq] at *; omega) (fun a b => by unfold leI; simp only [Bool.or_eq_true, decide_eq_true_eq]; omega) (fun a b h1 h2 => by unfold leI at *; simp only [decide_eq_true_eq] at *; omega) p
theorem leS_perm {l l' : List Str} (p : l.Perm l') : l.mergeSort leS = l'.mergeSort leS :=
  perm_sort (fun a b c h1 h2 => by unfold leS at *; simp only [decide_eq_true_eq] at *; exact List.le_trans h1 h2) (fun a b => by unfold leS; simp only [Bool.or_eq_true, decide_eq_true_eq]; exact List.le_total _ _)
    (fun a b h1 h2 => by
      unfold leS at *
      simp only [decide_eq_true_eq] at *
      have e := List.le_antisymm h1 h2
      obtain ⟨x⟩ := a
      obtain ⟨y⟩ := b
      have : x = y := by
        cases x; cases y
        simpa using e
      rw [this]) p
section
variable {P : Program} {w : World} {A : Around} {E : Value → Shared → Prop} {s : Shared} {a : Addr} {S : Key → Bool} {n : Nat} {β : Type}
theorem sorted_setM {mk : β → Key} {un : Key → β} {enc : β → PyData} {le : β → β → Bool} {bs0 : List β} {Q : Value → Shared → Prop} (hun : ∀ b, un (mk b) = b) (henc : ∀ (b : β) (u : Value) (h : Heap), RelV (kV (mk b)) u → Reads h u (enc b) [])
    (hal : ∀ bs : List β, PySem.W.AllAlike (bs.map enc)) (hso : ∀ bs : List β, PySem.W.Sortable (bs.map enc)) (hd : ∀ b, (enc b).depth = 0) (hle : PySem.W.dataLe false enc = le) (hp : ∀ {l l' : List β}, l.Perm l' → l.mergeSort le = l'.mergeSort le)
    (R : SetM P w s.heap a S n) (hh : A.handled = none) (hu : A.units + 4 < cLine) (hS : ∀ k, S k = true ↔ k ∈ bs0.map mk) (nd0 : (bs0.map mk).Nodup)
    (hQ : ∀ s' p (out : List Value) (c : Nat), (∀ b o, s.heap.get? b = some o → s'.heap.get? b = some o) → s'.gens = s.gens → s'.os = s.os → s.heap.objs.size ≤ p →
      s'.heap.get? p = some (seqObj "list" out.toArray c) → out.length ≤ sizeLine → PySem.W.EachIs (fun u b => RelV (kV (mk b)) u) out (bs0.mergeSort le) → Q (.ref p) s') :
    wpAny (model P w) A (call (.builtin "sorted") [.ref a]) Q E s := by
  obtain ⟨o, es, ep, t, ho, hex, hdt, g, nd, hm, hb, hf, hn, hr, hl⟩ := R
  refine Calls.call_function_entry kind_sorted plain_sorted entry_sorted (args_sorted1 _) ?_
  unfold Builtin.«sorted»
  refine wpAny_bind (m := checkCount "sorted" 1 1 _) (wpAny_pure ?_)
  refine wpAny_bind (collect_set (A := A.in1) hh ⟨o, ho, hex.1, hdt⟩ hf hb hr hl fun s1 vs k1 hz g1 o1 pm => ?_)
  have hvl : vs.length ≤ sizeLine := by rw [pm.length_eq, List.length_map, Array.length_toList]; exact fits_of_scanBound hb
  -- the members in the order of the walk
  have hv : ∀ v ∈ vs, ∃ k, k ∈ es.toList.map enK ∧ RelV (kV k) v := fun v hv => by
    obtain ⟨e, he, q⟩ := List.mem_map.mp (pm.mem_iff.mp hv)
    exact ⟨enK e, List.mem_map_of_mem he, by rw [← q]; exact (g e he).1⟩
  have pk : (vs.map fun v => enK (0, v)).Perm (es.toList.map enK) := by
    have q := pm.map fun v => enK (0, v)
    rw [List.map_map] at q
    exact q
  have pb : (vs.map fun v => enK (0, v)).Perm (bs0.map mk) := pk.trans ((List.perm_ext_iff_of_nodup nd nd0).mpr fun k => (hm k).symm.trans (hS k))
  have pu : (vs.map fun v => un (enK (0, v))).Perm bs0 := by
    have q := pb.map un
    rw [List.map_map, List.map_map] at q
    have e : bs0.map (un ∘ mk) = bs0 := by
      have : (un ∘ mk) = id := funext hun
      rw [this, List.map_id]
    rw [e] at q
    exact q
  have each : ∀ us : List Value, (∀ v ∈ us, v ∈ vs) → PySem.W.EachIs (fun u b => RelV (kV (mk b)) u) us (us.map fun v => un (enK (0, v))) := by
    intro us
    induction us with
    | nil => intro _; exact .nil
    | cons v us ih =>
      intro h
      refine .cons ?_ (ih fun u hu => h u (List.mem_cons_of_mem _ hu))
      have hv1 := h v List.mem_cons_self
      obtain ⟨k, hk, rk⟩ := hv v hv1
      have e1 : enK (0, v) = k := enK_of rk
      have hk2 : k ∈ bs0.map mk := (hS k).mp ((hm k).mpr hk)
      obtain ⟨b, _, rfl⟩ := List.mem_map.mp hk2
      show RelV (kV (mk (un (enK (0, v))))) v
      rw [e1, hun]
      exact rk
  have ev := each vs fun v h => h
  refine wpAny_bind (wpAny_newList ?_ hvl)
  have hoL : (s1.heap.push (seqObj "list" vs.toArray 0)).get? s1.heap.objs.size = some (seqObj "list" vs.toArray 0) := Heap.get?_push_size _ rfl
  refine wpAny_bind (wpAny_holding (PySem.W.list_sort_data (s := { s1 with heap := s1.heap.push (seqObj "list" vs.toArray 0) }) (enc := enc) hoL ev ?_ (hal _) (hso _) (by rw [← ev.length]; exact hvl) (fun b _ => ?_) fun out eo ho => ?_))
  · exact ev.mono fun u b q => ⟨[], henc b u _ q, by simp⟩
  · rw [hd b]
    show A.units + 1 + 1 + 0 < cLine
    omega
  · obtain ⟨c, hc⟩ := sortedHeap_at (vs := vs) (out := out.toArray) hoL
    refine wpAny_pure ⟨_, rfl, hQ _ s1.heap.objs.size out c (fun b u e => ?_) g1 o1 hz hc (by rw [eo, ← ev.length]; exact hvl) ?_⟩
    · have q := k1 b u e
      have hlt := Heap.lt_size q
      show (sortedHeap (s1.heap.push (seqObj "list" vs.toArray 0)) s1.heap.objs.size vs out.toArray).get? b = some u
      rw [sortedHeap_old (Nat.ne_of_lt hlt) (by rw [size_push']; exact Nat.lt_succ_of_lt hlt)]
      exact Heap.get?_push_of_some _ q
    · rw [hle, hp pu] at ho
      exact ho
end
def keyI : Key → Option Int
  | .inl i => some i
  | .inr _ => none
def keyS : Key → Option Str
  | .inr i => some i
  | .inl _ => none
/-- the sorted keys of a set: all whole numbers, or all texts -/
def sortK (ks : List Key) : Option (List Va) := match ks.mapM keyI with
  | some is => some ((is.mergeSort leI).map .int)
  | none => match ks.mapM keyS with
    | some ss => some ((ss.mergeSort leS).map .str)
    | none => none
theorem mapI : ∀ {ks : List Key} {is : List Int}, ks.mapM keyI = some is → ks = is.map .inl
  | [], is, e => by simp at e; subst e; rfl
  | k :: ks, is, e => by
    rw [List.mapM_cons] at e
    cases k with
    | inr x => simp [keyI] at e
    | inl i =>
      cases e2 : ks.mapM keyI with
      | none => simp [keyI, e2] at e
      | some js =>
        simp [keyI, e2] at e
        subst e
        rw [mapI e2]; rfl
theorem mapS : ∀ {ks : List Key} {is : List Str}, ks.mapM keyS = some is → ks = is.map .inr
  | [], is, e => by simp at e; subst e; rfl
  | k :: ks, is, e => by
    rw [List.mapM_cons] at e
    cases k with
    | inl x => simp [keyS] at e
    | inr i =>
      cases e2 : ks.mapM keyS with
      | none => simp [keyS, e2] at e
      | some js =>
        simp [keyS, e2] at e
        subst e
        rw [mapS e2]; rfl
theorem each_mapV {β γ : Type} {f : β → γ} {R : Value → γ → Prop} : ∀ {us : List Value} {bs : List β}, PySem.W.EachIs (fun u b => R u (f b)) us bs → PySem.W.EachIs R us (bs.map f)
  | _, _, .nil => .nil
  | _, _, .cons h t => .cons h (each_mapV t)
section
variable {X : Cx}
/-- behind a call that leaves a new list at p -/
theorem set_end {pins : List (Addr × Obj)} {σ : L2.St} {H : Hp} {s s' : Shared} {ρ : List Addr} {S : Addr → Prop} {st : Sto} {c : Bool} {ys : List Va} {Q : VK} {out : List Value} {e : Nat} {p : Addr} (I : Inv X pins σ H s) (R : Rep (gc X) ρ S st H)
    (h : EndO (gc X) ρ S H (some (mkL c ys st)) Q) (k : ∀ b o, s.heap.get? b = some o → s'.heap.get? b = some o) (g : s'.gens = s.gens) (o : s'.os = s.os) (hp : s.heap.objs.size ≤ p) (hg : s'.heap.get? p = some (seqObj "list" out.toArray e)) (hl : out.length ≤ sizeLine)
    (ho : PySem.W.EachIs (ValV (gc X) ρ S H) out ys) : EP X pins σ Q (.ref p) s' := by
  obtain ⟨vs, r1, r2⟩ := of_each ho
  have hv : vs.length ≤ sizeLine := by rw [r1.length]; exact hl
  have J : Inv X pins σ (upd H p (.lst vs)) { s with heap := s'.heap, gens := s'.gens, drawn := s'.drawn, toks := s'.toks } :=
    I.call (ch := []) (Un.laid k hp (I.hok.fresh hp)) (I.hok.laid k hp ⟨hv, out, e, r1, hg⟩) (by rw [g]; exact I.bare) (fun _ z => nomatch z)
  have es : s' = { s with heap := s'.heap, gens := s'.gens, drawn := s'.drawn, toks := s'.toks } := by
    cases s'
    cases s
    cases o
    rfl
  rw [es]
  exact ⟨.ref p, _, J, rfl, h.mk R rfl r2 _ (I.hok.fresh hp)⟩
def bSortedS (c : Bool) : OpN := fun xs st => match xs with
  | [.sts ks] => (sortK ks).map fun zs => mkL c zs st
  | _ => none
theorem cb_sortedS {k : Nat} (c : Bool) (hr : Room k X.A) (hc : X.calm = true) : CallR X (.builtin "sorted") (rDN (gc X) (bSortedS c)) := by
  intro pins s σ H vs us Q I r h
  obtain ⟨ρ, S, st, xs, R, rv, h⟩ := h
  have hu : X.A.units + 4 < cLine := by have := hr.un; omega
  unfold bSortedS at h
  split at h
  · rename_i ks
    obtain ⟨v, rfl, r1⟩ := vrs_one rv
    cases r1 with
    | sts hs e m d =>
    rename_i a M
    rw [Vals.ref1 r]
    have RM := setX_at I e
    unfold sortK at h
    cases e1 : ks.mapM keyI with
    | some is =>
      rw [e1, Option.map_some] at h
      have ek := mapI e1
      subst ek
      refine sorted_setM (mk := Sum.inl) (un := fun | .inl i => i | .inr _ => 0) (enc := .int) (fun _ => rfl) (fun b u hp q => by obtain ⟨t, rfl⟩ := q; exact .int _ _) (fun bs => .of fun _ _ => rfl) (fun bs => .others fun b => ⟨(fun z => nomatch z), (fun _ z => nomatch z)⟩) (fun _ => rfl) leI_data leI_perm RM (I.ok.hd hc) hu m d
        fun s' p out c' k g o hp hg hl ho => set_end I R h k g o hp hg hl (each_mapV (ho.mono fun u b q => ⟨_, q, .int b⟩))
    | none =>
      cases e2 : ks.mapM keyS with
      | none => rw [e1, e2] at h; exact h.no.elim
      | some ss =>
        rw [e1, e2, Option.map_some] at h
        have ek := mapS e2
        subst ek
        refine sorted_setM (mk := Sum.inr) (un := fun | .inr i => i | .inl _ => "") (enc := .str) (fun _ => rfl) (fun b u hp q => by obtain ⟨t, rfl⟩ := q; exact .str _ _) (fun bs => .of fun _ _ => rfl) (fun bs => .others fun b => ⟨(fun z => nomatch z), (fun _ z => nomatch z)⟩) (fun _ => rfl) leS_data leS_perm RM (I.ok.hd hc) hu m d
          fun s' p out c' k g o hp hg hl ho => set_end I R h k g o hp hg hl (each_mapV (ho.mono fun u b q => ⟨_, q, .str b⟩))
  · exact h.no.elim
end
end SM
set_option Elab.async false
set_option linter.all false
set_option maxRecDepth 100000
set_option maxHeartbeats 4000000
/-! SMG: sorted with key= by the mirror. -/
namespace SM
open PySem PySem.Spec PyProof.Rows L2
inductive SK where
  | len | str
  deriving DecidableEq
def SK.v : SK → Value
  | .len => .builtin "len"
  | .str => .type "str"
def skF (st : Sto) : SK → Va → Option PyData
  | .len, .str z => if z.length ≤ sizeLine then some (.int z.length) else none
  | .len, .tup xs => some (.int xs.length)
  | .len, x => (lookL st x).map fun ys => .int ys.length
  | .str, .str z => some (.str z)
  | .str, _ => none
def mSortK (k : SK) (c : Bool) (ma : ME) : ME := fun sl st => (ma sl st).bind fun x st1 => match lookL st1 x with
  | some ys => Rs.of ((sortV (skF st1 k) ys).map fun zs => mkL c zs st1)
  | none => .stuck
theorem sk_tree (k : SK) (a : Addr) : Builtin.«list.sort» ⟨[.ref a], [(Str.ofString "key", k.v)]⟩ = ksk_tree a k.v false := by
  cases k
  · exact ksk_t4 _ _
  · rfl
section
variable {X : Cx} {W : WX}
theorem sk_turn {pins : List (Addr × Obj)} {σ : L2.St} {H : Hp} {s : Shared} {ρ : List Addr} {S : Addr → Prop} {st : Sto} {k : SK} {u : Value} {x : Va} {d : PyData} (I : Inv X pins σ H s) (R : Rep (gc X) ρ S st H) (q : ValV (gc X) ρ S H u x) (e : skF st k x = some d)
    {h : Heap} {tk : Nat} {A : Around} (kp : ∀ b o, s.heap.get? b = some o → h.get? b = some o) : wpAny (model X.prog X.w) A (call k.v [u]) (PySem.W.KeyPure d { s with heap := h, toks := tk }) (fun _ _ => False) { s with heap := h, toks := tk } := by
  obtain ⟨v, r1, r2⟩ := q
  have hn := line63
  have lst : ∀ ys, lookL st x = some ys → wpAny (model X.prog X.w) A (call (.builtin "len") [u]) (PySem.W.KeyPure (.int ys.length) { s with heap := h, toks := tk }) (fun _ _ => False) { s with heap := h, toks := tk } := fun ys e => by
    obtain ⟨a, ws, rfl, h1, h2⟩ := lookL_ok R r2 e
    obtain ⟨its, rv, pl, hz⟩ := I.list h1
    cases r1
    have hlen := rv.length
    have hlen2 := h2.1
    obtain ⟨o, ho, hc, n, hd⟩ := pl.isList
    refine Calls.call_len_list (s := { s with heap := h, toks := tk }) (items := its.toArray) ⟨o, kp _ _ ho, hc, n, hd⟩ (by simp only [List.size_toArray] <;> omega) ⟨h, _, rfl, fun _ _ q => q, ?_⟩
    have e2 : (its.toArray.size : Int) = (ys.length : Int) := by simp only [List.size_toArray] <;> omega
    rw [e2]
    exact .int _ _
  cases k with
  | str =>
    cases x with
    | str z =>
      cases e
      cases r2
      obtain ⟨t, rfl⟩ := r1
      exact PySem.P.str_of_str ⟨h, tk, rfl, fun _ _ q => q, .str _ _⟩
    | _ => cases e
  | len =>
    cases x with
    | str z =>
      have e : (if z.length ≤ sizeLine then some (PyData.int z.length) else none) = some d := e
      split at e
      · rename_i hz
        cases e
        cases r2
        obtain ⟨t, rfl⟩ := r1
        exact len_str (by omega) ⟨h, _, rfl, fun _ _ q => q, .int _ _⟩
      · cases e
    | tup xs =>
      cases e
      obtain ⟨a, ws, rfl, h1, h2⟩ := lookT_ok r2 rfl
      obtain ⟨its, rv, pl, hz⟩ := I.tuple h1
      cases r1
      have hlen := rv.length
      have hlen2 := h2.1
      obtain ⟨o, ho, hc, n, hd⟩ := pl
      refine len_tuple (s := { s with heap := h, toks := tk }) (items := its.toArray) ⟨o, kp _ _ ho, hc, n, hd⟩ (by simp only [List.size_toArray] <;> omega) ⟨h, _, rfl, fun _ _ q => q, ?_⟩
      have e2 : (its.toArray.size : Int) = (xs.length : Int) := by simp only [List.size_toArray] <;> omega
      rw [e2]
      exact .int _ _
    | fl ys => cases e; exact lst ys rfl
    | fz ys => cases e; exact lst ys rfl
    | ref i =>
      have e : ((lookL st (.ref i)).map fun ys => PyData.int ys.length) = some d := e
      cases e2 : lookL st (.ref i) with
      | none => rw [e2] at e; cases e
      | some ys => rw [e2] at e; cases e; exact lst ys e2
    | _ => cases e
theorem ed_sortK {k : Nat} {x y : Str} {p q pos kp : Pos} {e : Expr} {ma : ME} (κ : SK) (c : Bool) (hr : Room k X.A) (hg : Gl X x) (hm : X.mg x = none) (hv : bootBuiltins x = some (.builtin "sorted")) (hg2 : Gl X y) (hm2 : X.mg y = none) (hv2 : bootBuiltins y = some κ.v)
    (ha : ED X W e ma) (hn : x ≠ "__name__" := by decide) (hdb : (x == ("__debug__" : Str)) = false := by decide) (hn2 : y ≠ "__name__" := by decide) (hdb2 : (y == ("__debug__" : Str)) = false := by decide)
    (hs : starEach [e] X.env = (false, eval e X.env) :: starEach [] X.env := by rfl)
    (he : backTo pos (starEach [e] X.env) = (false, eval e X.env) :: backTo pos (starEach [] X.env) := by rfl) (hpl : (backTo pos (starEach [e] X.env)).any (·.1) = false := by rfl) :
    ED X W (.Call (.Name x p) [e] [⟨some "key", .Name y q, kp⟩] pos) (mSortK κ c ma) := by
  refine ⟨fun pins s σ H Q I h => ?_⟩
  obtain ⟨ρ, S, sl, st, rp, h⟩ := h
  refine wpAny_Call_Name_kw (ld_blt I hg hm hv ?_ hn hdb)
  refine PyProof.Rows.callWith_kw (thn ((ea_cons ha (ea_nil (X := X) (W := W)) hs).run pos pins s σ H (fun vs H1 => ∃ ρ1 S1 st1 x v zs ys, vs = [v] ∧ Rep (gc X) ρ1 S1 st1 H1 ∧ Vr (gc X) ρ1 S1 H1 v x ∧ lookL st1 x = some ys ∧ sortV (skF st1 κ) ys = some zs ∧ EndO (gc X) ρ1 S1 H1 (some (mkL c zs st1)) Q) I ?_) fun us s1 ⟨vs, H1, I1, r1, q1⟩ => ?_) he hpl (by rfl) (by rfl)
  · refine ⟨ρ, S, sl, st, rp, ?_⟩
    have h' : PostR (gc X) W (relA (gc X)) ρ S H sl σ ((ma sl st).bind fun x st1 => (Rs.ok [] st1).bind fun xs st2 => Rs.ok (x :: xs) st2) (fun vs H1 => ∃ ρ1 S1 st1 x v zs ys, vs = [v] ∧ Rep (gc X) ρ1 S1 st1 H1 ∧ Vr (gc X) ρ1 S1 H1 v x ∧ lookL st1 x = some ys ∧ sortV (skF st1 κ) ys = some zs ∧ EndO (gc X) ρ1 S1 H1 (some (mkL c zs st1)) Q) := by
      unfold mSortK at h
      cases e1 : ma sl st with
      | stuck => rw [e1] at h; exact h
      | err x s' => rw [e1] at h; exact h
      | ok x st1 =>
        rw [e1] at h
        intro ρ' S' H' vs E rp' rv
        obtain ⟨v, rfl, r1⟩ := vrs_one rv
        have h := PostR.shift E h
        rw [Rs.bind_ok] at h
        cases e2 : lookL st1 x with
        | none => rw [e2] at h; exact h.elim
        | some ys =>
          rw [e2] at h
          cases e3 : sortV (skF st1 κ) ys with
          | none => simp only [e3] at h; exact h.elim
          | some zs =>
            simp only [e3] at h
            exact ⟨ρ', S', st1, x, v, zs, ys, rfl, rp'.rep, r1, e2, e3, EndO.of_post rp' h⟩
    exact h'
  · obtain ⟨ρ1, S1, st1, x, v, zs, ys, rfl, R, rv, e2, e3, h⟩ := q1
    obtain ⟨u, rfl, rx⟩ := vals1 r1
    show wpAny _ _ (evalAll [do let v ← eval (.Name y q) X.env; standAt pos; pure v]) _ _ s1
    refine wpAny_evalAll_cons (wpAny_bind (ld_blt I1 hg2 hm2 hv2 (wpAny_bind (wpAny_standAt (wpAny_pure (wpAny_evalAll_nil ?_)))) hn2 hdb2))
    show wpAny _ _ (call (.builtin "sorted") [u] [(Str.ofString "key", κ.v)]) _ _ s1
    obtain ⟨a, ws, rfl, h1, h2⟩ := lookL_ok R rv e2
    cases rx
    obtain ⟨rfl, k1, k2, k3⟩ := sortV_ok e3
    obtain ⟨its, rv, pl, hz⟩ := I1.list h1
    have ev := each_of rv h2
    have hzl : ys.length ≤ sizeLine := by rw [← ev.length, ← rv.length]; exact hz
    refine PySem.W.sorted_key_data (fun x => (skF st1 κ x).getD .none) pl.isList ev k1 k2 hzl (fun b hb => ?_) (ksk_s1 _ _) (fun _ => ksk_l1 _ _) (fun a => sk_tree κ a) (fun u x hR hx h tk kp => ?_) fun out c' h' tk kp hn hg ho eo => ?_
    · obtain ⟨d, q3, q4⟩ := k3 b hb
      rw [q3]
      exact in_st hr q4
    · obtain ⟨d, q3, q4⟩ := k3 x hx
      rw [q3]
      exact sk_turn I1 R hR q3 kp
    · exact sorted_end (t := tk) I1 R h kp (Nat.le_succ _) hg (by rw [ho]; exact hzl) eo
end
end SM
set_option Elab.async false
set_option linter.all false
set_option maxRecDepth 100000
set_option maxHeartbeats 4000000
/-! SMH: isinstance, walks over texts, by the mirror. -/
namespace SM
open PySem PySem.Spec PyProof.Rows L2

/-! ### over a text -/
def chrV (c : Nat) : Va := .str ⟨#[c]⟩
def getS (x : Str) : Gt := fun i _ => some (x.cps[i]?.map chrV)
def iSt (m : ME) : MI := fun sl st => (m sl st).bind fun x st1 => match x with
  | .str z => .ok (getS z) st1
  | _ => .stuck
section
variable {X : Cx} {W : WX} {tg : Expr}
theorem id_str {e : Expr} {m : ME} (h : ED X W e m) : ID X W tg e (iSt m) := by
  refine pi_weak (pi_str h) fun σ H R h => ?_
  obtain ⟨ρ, S, sl, st, rp, h⟩ := h
  refine ⟨ρ, S, sl, st, rp, PostR.bind h fun x st1 ρ1 S1 H1 v E1 rp1 r1 h1 => ?_⟩
  cases x with
  | str z =>
    cases r1
    refine ⟨z, rfl, PostR.ok h1 rp1 ?_⟩
    intro ρ' S' st' H' i E' R'
    constructor
    · intro q
      have q : z.cps[i]?.map chrV = none := Option.some.inj q
      show z.cps.size ≤ i
      have q2 : z.cps[i]? = none := by simpa using q
      simpa using q2
    · intro y q
      have q : z.cps[i]?.map chrV = some y := Option.some.inj q
      cases e2 : z.cps[i]? with
      | none => rw [e2] at q; cases q
      | some c =>
        rw [e2] at q
        cases q
        have hi : i < z.cps.size := by
          obtain ⟨h1, _⟩ := Array.getElem?_eq_some_iff.mp e2
          exact h1
        refine ⟨hi, fun x H'' hy => ?_⟩
        obtain ⟨rfl, c', e3, rfl⟩ := hy
        rw [e2] at e3
        cases e3
        exact ⟨S', .refl, R', .str _⟩
  | _ => exact h1.elim
end

/-! ### classes as values -/
section
variable {X : Cx} {W : WX} {pos : Pos}
theorem ed_gcls {x : Str} (c : Str) (hg : Gl X x) (hm : X.mg x = some (.ref (He.ga X.K c))) (hd : (x == ("__debug__" : Str)) = false := by decide) : ED X W (.Name x pos) (mC (.cls c)) :=
  ed_const (v := V.ref (He.ga X.K c)) (pe_glob hg hm rfl hd) fun _ _ _ => .cls c
theorem ed_bty {x : Str} (n : String) (hg : Gl X x) (hm : X.mg x = none) (hv : bootBuiltins x = some (.type n)) (hn : x ≠ "__name__" := by decide) (hd : (x == ("__debug__" : Str)) = false := by decide) : ED X W (.Name x pos) (mC (.ty n)) :=
  ed_const (v := V.ty n) (pe_bltn hg hm hv rfl hn hd) fun _ _ _ => .ty n
end

/-! ### isinstance -/
inductive Tg where
  | ty (n : String) | cl (c : Str)
  deriving DecidableEq
abbrev Tg.v (K : PySem.W.Frag) : Tg → Value
  | .ty n => .type n
  | .cl c => .ref (He.ga K c)
/-- the classes that isinstance is asked of, and the answers -/
structure Isi where
  exl : List Str
  inl : List Str
  tab : List (Tg × Tg × Bool)
def Isi.look (I : Isi) (t u : Tg) : Option Bool := (I.tab.find? fun p => decide (p.1 = t) && decide (p.2.1 = u)).map (·.2.2)
def tagOf (I : Isi) (st : Sto) : Va → Option Tg
  | .non => some (.ty "NoneType")
  | .bl _ => some (.ty "bool")
  | .int _ => some (.ty "int")
  | .str _ => some (.ty "str")
  | .tup _ => some (.ty "tuple")
  | .fl _ => some (.ty "list")
  | .fz _ => some (.ty "list")
  | .sts _ => some (.ty "set")
  | .exo c _ => if I.exl.contains c then some (.cl c) else none
  | .ref i => match st[i]? with
    | some (.lst _) => some (.ty "list")
    | some (.dct _ _) => some (.ty "dict")
    | some (.dtt _ _) => some (.ty "dict")
    | some (.set _) => some (.ty "set")
    | some (.ins c _) => if I.inl.contains c then some (.cl c) else none
    | none => none
  | _ => none
def tgC : Va → Option Tg
  | .ty n => some (.ty n)
  | .cls c => some (.cl c)
  | _ => none
def anyI (I : Isi) (t : Tg) : List Tg → Option Bool
  | [] => some false
  | u :: r => match I.look t u with
    | some true => some true
    | some false => anyI I t r
    | none => none
def bIsi (I : Isi) : OpN := fun xs st => match xs with
  | [x, .tup us] => (tagOf I st x).bind fun t => (us.mapM tgC).bind fun cs => (anyI I t cs).map fun b => (.bl b, st)
  | [x, y] => (tagOf I st x).bind fun t => (tgC y).bind fun c => (I.look t c).map fun b => (.bl b, st)
  | _ => none
/-- an own class whose instances have a dict -/
structure InsC (K : PySem.W.Frag) (C : Addr) : Prop where
  cl : Cls K C
  ha : PySem.W.findIn K (.ref C) "__class__" = some (some (.builtin "object.__class__"))
  hn : PySem.W.specialIn K (.builtin "object.__class__") "__get__" = some (some (.builtin "getset_descriptor.__get__"))
  ht : PySem.W.takesIn K (.builtin "object.__class__") = some true
  hm : PySem.W.mroIn K C (.type "object") = some true
structure Isi.Ok (I : Isi) (K : PySem.W.Frag) : Prop where
  ex : ∀ c ∈ I.exl, ExcC K (He.ga K c)
  ins : ∀ c ∈ I.inl, InsC K (He.ga K c)
  tab : ∀ p ∈ I.tab, PySem.W.kitOne K (p.1.v K) (p.2.1.v K) = some p.2.2
theorem Isi.Ok.look {I : Isi} {K : PySem.W.Frag} (h : I.Ok K) {t u : Tg} {b : Bool} (e : I.look t u = some b) : PySem.W.kitOne K (t.v K) (u.v K) = some b := by
  unfold Isi.look at e
  cases e2 : I.tab.find? fun p => decide (p.1 = t) && decide (p.2.1 = u) with
  | none => rw [e2] at e; cases e
  | some p =>
    rw [e2] at e
    cases e
    have hp := List.mem_of_find?_eq_some e2
    have hq := List.find?_some e2
    obtain ⟨h1, h2⟩ := Bool.and_eq_true_iff.mp hq
    have h3 : p.1 = t := of_decide_eq_true h1
    have h4 : p.2.1 = u := of_decide_eq_true h2
    rw [← h3, ← h4]
    exact h.tab p hp
theorem Isi.Ok.any {I : Isi} {K : PySem.W.Frag} (h : I.Ok K) {t : Tg} {b : Bool} : ∀ {cs : List Tg}, anyI I t cs = some b → PySem.W.kitAny K (t.v K) (cs.map (Tg.v K)) = some b
  | [], e => by cases e; rfl
  | c :: cs, e => by
    unfold anyI at e
    rw [List.map_cons]
    cases e2 : I.look t c with
    | none => rw [e2] at e; cases e
    | some r =>
      rw [e2] at e
      cases r with
      | true => cases e; exact kitAny_cons (h.look e2) (fun z => nomatch z) fun _ => rfl
      | false => exact kitAny_cons (h.look e2) (fun _ => h.any e) fun z => nomatch z
theorem tgC_ok {G : Gc} {ρ : List Addr} {S : Addr → Prop} {H : Hp} {v : V} {x : Va} {t : Tg} (r : Vr G ρ S H v x) (e : tgC x = some t) : ClsV v (t.v G.K) := by
  cases r <;> cases e
  · exact .ty _
  · exact .own _
theorem tgCs_ok {G : Gc} {ρ : List Addr} {S : Addr → Prop} {H : Hp} : ∀ {vs : List V} {xs : List Va} {ts : List Tg}, Vrs G ρ S H vs xs → xs.mapM tgC = some ts → Paired ClsV vs (ts.map (Tg.v G.K))
  | vs, [], ts, r, e => by
    obtain rfl := r.nil_r
    simp at e
    subst e
    exact .nil
  | vs, x :: xs, ts, r, e => by
    obtain ⟨v, ws, rfl, r1, r2⟩ := r.cons_r
    rw [List.mapM_cons] at e
    cases e1 : tgC x with
    | none => simp [e1] at e
    | some t =>
      cases e2 : xs.mapM tgC with
      | none => simp [e1, e2] at e
      | some us =>
        simp [e1, e2] at e
        subst e
        exact .cons (tgC_ok r1 e1) (tgCs_ok r2 e2)
section
variable {X : Cx}
theorem kitx_excV {K : PySem.W.Frag} {C : Addr} (T : ExcC K C) {x : Addr} {ox : Obj} {od : Option Obj} : PySem.W.KitX K (.ref x) (.ref C) (fun h => PySem.W.InstAt h x ox C od) :=
  PySem.W.kitx_exc (by obtain ⟨cd, hc, _⟩ := PySem.W.any_some T.hd; rw [hc]; rfl) T.hg T.hk T.hs T.ha T.hn T.ht T.hm
theorem kit_ofM {I : Isi} {pins : List (Addr × Obj)} {σ : L2.St} {H : Hp} {s : Shared} {ρ : List Addr} {S : Addr → Prop} {st : Sto} {v : V} {u : Value} {x : Va} {t : Tg} (hI : I.Ok X.K) (J : Inv X pins σ H s) (R : Rep (gc X) ρ S st H) (rx : RelV v u) (r : Vr (gc X) ρ S H v x) (e : tagOf I st x = some t) :
    ∃ P : Heap → Prop, PySem.W.KitX X.K u (t.v X.K) P ∧ P s.heap ∧ u ≠ .builtin "__main__.__loader__#opaque" := by
  have setX : ∀ {a : Addr} {M : Key → Bool} {n : Nat}, H a = some (SetX X.prog X.w a M n) → ∃ P : Heap → Prop, PySem.W.KitX X.K (.ref a) (.type "set") P ∧ P s.heap ∧ (Value.ref a) ≠ .builtin "__main__.__loader__#opaque" := fun {a M n} e => by
    obtain ⟨o, es, ep, tb, ho, hex, _⟩ := setX_at J e
    exact ⟨_, PySem.W.kitx_set, ⟨o, ho, hex.1⟩, fun z => nomatch z⟩
  cases x with
  | non => cases r; cases e; exact kit_of J rx (.base .non)
  | bl b => cases r; cases e; exact kit_of J rx (.base (.bl b))
  | int b => cases r; cases e; exact kit_of J rx (.base (.int b))
  | str b => cases r; cases e; exact kit_of J rx (.base (.str b))
  | tup xs =>
    cases e
    cases r with
    | tup s e1 l h => exact kit_of J rx (.base (.tup e1))
  | fl xs =>
    cases e
    cases r with
    | fl s e1 l h => exact kit_of J rx (.base (.lst e1))
  | fz xs =>
    cases e
    cases r with
    | fz e1 l h =>
      rcases e1 with ⟨_, e1 | ⟨o, e1⟩⟩ | ⟨o, its, n, e1, c, _⟩
      · exact kit_of J rx (.base (.lst e1))
      · exact kit_of J rx (.base (.frz e1))
      · exact kit_of J rx (.kList e1 c)
  | sts ks =>
    cases e
    cases r with
    | sts s e1 m d =>
      cases rx
      exact setX e1
  | exo c fs =>
    have e : (if I.exl.contains c then some (Tg.cl c) else none) = some t := e
    split at e
    · rename_i hc
      cases e
      have T := hI.ex c (by simpa using hc)
      cases r with
      | exo sa sd ea ed k h =>
        cases rx
        obtain ⟨t1, g1⟩ := exo_at J.hok ea
        obtain ⟨mA, hns, _⟩ := exd_at J.hok ed
        obtain ⟨od, _, _, g2, _⟩ := hns
        exact ⟨_, kitx_excV T (ox := _) (od := some od), ⟨g1, rfl, rfl, g2⟩, fun z => nomatch z⟩
      | exn sa ea =>
        cases rx
        obtain ⟨t1, g1⟩ := exo_at J.hok ea
        exact ⟨_, kitx_excV T (ox := _) (od := none), ⟨g1, rfl, rfl, trivial⟩, fun z => nomatch z⟩
    · cases e
  | ref i =>
    cases r with
    | @ref _ a e1 =>
      unfold tagOf at e
      dsimp only at e
      cases e2 : st[i]? with
      | none => rw [e2] at e; cases e
      | some o =>
        have q := R.obj i a o e1 e2
        rw [e2] at e
        cases o with
        | lst xs => cases e; obtain ⟨vs, h1, _⟩ := q; exact kit_of J rx (.base (.lst h1))
        | dct lk kvs =>
          cases e
          cases lk with
          | false => obtain ⟨ks, h1, _⟩ := q; exact kit_of J rx (.base (.dK h1))
          | true => obtain ⟨o, ks, h1, _⟩ := q; exact kit_of J rx (.fDict h1)
        | dtt lk kvs =>
          cases lk with
          | false => cases e; obtain ⟨ks, h1, _⟩ := q; exact kit_of J rx (.base (.dT h1))
          | true =>
            cases e
            obtain ⟨o, ks, h1, _⟩ := q
            cases rx
            obtain ⟨_, _, _, xs, _, ob, es, ep, g1, g2, _⟩ := (show ObjOk X.prog X.w H s.heap a (.frz o (.dT ks)) from J.hok a _ h1)
            exact ⟨_, PySem.W.kitx_dict, ⟨ob, g1, g2.1⟩, fun z => nomatch z⟩
        | set ks => cases e; obtain ⟨M, h1, _⟩ := q; cases rx; exact setX h1
        | ins c fs =>
          have e : (if I.inl.contains c then some (Tg.cl c) else none) = some t := e
          split at e
          · rename_i hc
            cases e
            have T := hI.ins c (by simpa using hc)
            obtain ⟨dx, fvs, h1, _⟩ := q
            exact kit_of J rx (.base (.ins h1 T.cl T.ha T.hn T.ht T.hm))
          · cases e
  | _ => cases e
theorem cb_isi {I : Isi} (hI : I.Ok X.K) : CallR X (.builtin "isinstance") (rDN (gc X) (bIsi I)) := by
  intro pins s σ H vs us Q J r h
  obtain ⟨ρ, S, st, xs, R, rv, h⟩ := h
  unfold bIsi at h
  split at h
  · rename_i x cs
    obtain ⟨v, w, rfl, r1, r2⟩ := vrs_two rv
    obtain ⟨u1, u2, rfl, q1, q2⟩ := vals2 r
    cases e1 : tagOf I st x with
    | none => rw [e1] at h; exact h.no.elim
    | some t =>
      cases e2 : cs.mapM tgC with
      | none => rw [e1, Option.bind_some, e2] at h; exact h.no.elim
      | some ts =>
        cases e3 : anyI I t ts with
        | none => rw [e1, Option.bind_some, e2, Option.bind_some, e3] at h; exact h.no.elim
        | some b =>
          rw [e1, Option.bind_some, e2, Option.bind_some, e3, Option.map_some] at h
          obtain ⟨P, Z, p, hx⟩ := kit_ofM hI J R q1 r1 e1
          cases r2 with
          | @tup tp ws _ s1 hT l hh =>
            cases (show u2 = Value.ref tp from q2)
            obtain ⟨_, its, rv', o, h1, h2, n, h3⟩ := (show ObjOk X.prog X.w H s.heap tp (.tup ws) from J.hok tp _ hT)
            have e4 := ClsV.all (tgCs_ok (⟨l, hh⟩ : Vrs (gc X) ρ S H ws cs) e2) rv'
            subst e4
            obtain ⟨oc, od, dt, sl⟩ := o
            simp only at h2 h3
            subst h2 h3
            exact PySem.W.kia_tup Z J.kIn p h1 (hI.any e3) hx fun tk => ⟨.bl b, H, J.tok tk, rfl, h.at R rfl _ (.bl _)⟩
  · rename_i x y hno
    obtain ⟨v, w, rfl, r1, r2⟩ := vrs_two rv
    obtain ⟨u1, u2, rfl, q1, q2⟩ := vals2 r
    cases e1 : tagOf I st x with
    | none => rw [e1] at h; exact h.no.elim
    | some t =>
      cases e2 : tgC y with
      | none => rw [e1, Option.bind_some, e2] at h; exact h.no.elim
      | some c =>
        cases e3 : I.look t c with
        | none => rw [e1, Option.bind_some, e2, Option.bind_some, e3] at h; exact h.no.elim
        | some b =>
          rw [e1, Option.bind_some, e2, Option.bind_some, e3, Option.map_some] at h
          obtain ⟨P, Z, p, hx⟩ := kit_ofM hI J R q1 r1 e1
          have e4 := (tgC_ok r2 e2).eq q2
          subst e4
          exact PySem.W.kia_one Z J.kIn p (hI.look e3) hx fun tk => ⟨.bl b, H, J.tok tk, rfl, h.at R rfl _ (.bl _)⟩
  · exact h.no.elim
end
end SM
set_option Elab.async false
set_option linter.all false
set_option maxRecDepth 100000
set_option maxHeartbeats 4000000
/-! SMI: exceptions made and raised, their fields, by the mirror. -/
namespace SM
open PySem PySem.Spec PyProof.Rows L2

/-- what the written part says of an own class of errors with an __init__ of ours -/
structure MkX (P : Program) (w : World) (K : PySem.W.Frag) (mg : Str → Option Value) (base : Heap) (c : Str) (flds : List Str) (k : Nat) (fI : Addr) (fd : FuncData) (ps : List Str) : Prop where
  T : OexC K (He.ga K c)
  iC : PySem.W.findIn K (.ref (He.ga K c)) "__init__" = some (some (.ref fI))
  tI : PySem.W.typeIn K (.ref fI) = some (.type "function")
  F : FnOk P w K mg base (L2.CX P w) k fI fd ps (spX (He.ga K c) flds)
  hb : Binds K fd ps []
/-- .. without an own __init__ -/
structure MkO (K : PySem.W.Frag) (c : Str) : Prop where
  q : PySem.W.excIn K (He.ga K c) He.veBase "ValueError.__new__" = true
  kC : PySem.W.keepIn K (.ref (He.ga K c)) = true
  e1 : PySem.W.subIn K (.ref (He.ga K c)) (.type "BaseException") = some true
  e2 : PySem.W.typeIn K (.ref (He.ga K c)) = some (.type "type")
def fitX (flds : List Str) (xs : List Va) : Bool := decide (xs.length = flds.length) && decide (xs.length ≤ 900)
def mExo (c : Str) (flds : List Str) (ma : MA) : ME := fun sl st => (ma sl st).bind fun xs st1 => if fitX flds xs then .ok (.exo c (flds.zip xs).reverse) st1 else .stuck
def sRaise (c : Str) (flds : List Str) (ma : MA) : MS := fun sl st => eS (ma sl st) sl fun xs st1 => if fitX flds xs then .err ⟨c, (flds.zip xs).reverse⟩ sl st1 else .stuck

theorem map_zip_fst {α β : Type} : ∀ {a : List α} {b : List β}, a.length = b.length → (a.zip b).map (·.1) = a
  | [], [], _ => rfl
  | x :: a, y :: b, h => by rw [List.zip_cons_cons, List.map_cons, map_zip_fst (by simpa using h)]
  | [], _ :: _, h => by cases h
  | _ :: _, [], h => by cases h
theorem map_zip_snd {α β : Type} : ∀ {a : List α} {b : List β}, a.length = b.length → (a.zip b).map (·.2) = b
  | [], [], _ => rfl
  | x :: a, y :: b, h => by rw [List.zip_cons_cons, List.map_cons, map_zip_snd (by simpa using h)]
  | [], _ :: _, h => by cases h
  | _ :: _, [], h => by cases h
section
variable {G : Gc} {ρ : List Addr} {S : Addr → Prop} {H : Hp} {st : Sto}
theorem kvr_zip {flds : List Str} {vs : List V} {xs : List Va} (r : Vrs G ρ S H vs xs) (l : xs.length = flds.length) : KVr G ρ S H (flds.zip vs).reverse (flds.zip xs).reverse := by
  have l2 : flds.length = vs.length := by rw [r.1, l]
  refine ⟨?_, ?_⟩
  · rw [List.map_reverse, List.map_reverse, map_zip_fst l2, map_zip_fst l.symm]
  · rw [List.map_reverse, List.map_reverse, map_zip_snd l2, map_zip_snd l.symm]
    exact r.reverse
/-- a new exception object with its fields -/
theorem new_exo (R : Rep G ρ S st H) {c : Str} {fvs : List (Str × V)} {fs : List (Str × Va)} (r : KVr G ρ S H fvs fs) {a dx : Addr} (ha : H a = none) (hd : H dx = none) (ne : dx ≠ a) :
    ∃ S', Ext ρ S H ρ S' (upd (upd H dx (exd dx fvs)) a (L2.exo a (He.ga G.K c) (some dx))) ∧ Rep G ρ S' st (upd (upd H dx (exd dx fvs)) a (L2.exo a (He.ga G.K c) (some dx))) ∧ Vr G ρ S' (upd (upd H dx (exd dx fvs)) a (L2.exo a (He.ga G.K c) (some dx))) (.ref a) (.exo c fs) := by
  obtain ⟨E1, R1⟩ := R.frozen hd (exd dx fvs)
  have ha1 : upd H dx (exd dx fvs) a = none := by rw [upd_ne (Ne.symm ne)]; exact ha
  obtain ⟨E2, R2⟩ := R1.frozen ha1 (L2.exo a (He.ga G.K c) (some dx))
  have r2 := (r.mono E1).mono E2
  refine ⟨_, E1.trans E2, R2, .exo (.inr rfl) (.inl (.inr rfl)) upd_same (by rw [upd_ne ne]; exact upd_same) r2.1 r2.2.2⟩
end
section
variable {X : Cx} {W : WX} {k : Nat} {c : Str} {flds ps : List Str} {fI : Addr} {fd : FuncData} {x : Str} {e : Expr} {es : List Expr} {ma : MA} {p pos : Pos}
theorem passes_false : Passes (L2.CX X.prog X.w) X (fun _ _ _ => False) := fun _ _ _ _ _ _ _ c => by
  obtain ⟨_, _, _, _, _, _, _, _, _, _, _, _, h⟩ := c
  exact h.elim
/-- C(e, ..), the object -/
theorem pe_oex {sp : Sp} (T : OexC X.K (He.ga X.K c)) (iC : PySem.W.findIn X.K (.ref (He.ga X.K c)) "__init__" = some (some (.ref fI))) (tI : PySem.W.typeIn X.K (.ref fI) = some (.type "function")) (F1 : FnOk X.prog X.w X.K X.mg X.base (L2.CX X.prog X.w) k fI fd ps sp)
    (hb : Binds X.K fd ps []) (hr : Room (k + 1) X.A) (hg : Gl X x) (hm : X.mg x = some (.ref (He.ga X.K c))) {ta : TA} (ha : PA X (e :: es) ta)
    (hdb : (x == ("__debug__" : Str)) = false := by decide) (he : starEach (e :: es) X.env = (false, eval e X.env) :: starEach es X.env := by rfl) (hpl : (backTo pos (starEach es X.env)).any (·.1) = false := by rfl) :
    PE X (.Call (.Name x p) (e :: es) [] pos) (fun σ H Q => ta σ H fun vs H1 => vs.length ≤ 1000 ∧ ∀ a, H1 a = none → sp (.ref a :: vs) (upd H1 a (L2.exo a (He.ga X.K c) none)) (fun v H2 => v = .non ∧ Q (.ref a) H2) (fun _ _ _ => False)) := by
  refine ⟨fun pins s σ H Q I h => ?_⟩
  obtain ⟨nm, q, N, bs, bm, sn, sub, ab, col, dd, k0, k1, k2, k3, k5, hC, hbm⟩ := T.cls
  refine wpAny_Call_Name_kw (ld_glob I hg hm ?_ hdb)
  refine PySem.W.callWith_K (h₀ := X.base) I.ok.mod.kin T.kC (thn (ha.run pos pins s σ H _ I h) fun us s1 ⟨vs, H1, I1, r1, hz, q1⟩ => ⟨I1.kIn, ?_⟩) he hpl
  show wpAny _ _ (call (.ref (He.ga X.K c)) us) _ _ _
  obtain ⟨hp, g, dr, tk, os⟩ := s1
  have hsz : hp.objs.size ≤ hp.objs.size + 1 := Nat.le_succ _
  have hn : H1 (hp.objs.size + 1) = none := I1.hok.fresh hsz
  have hq := q1 (hp.objs.size + 1) hn
  have kk : ∀ b o, hp.get? b = some o → ((hp.push (PySem.W.kdv_tup us)).push (PySem.HandSPX.excO (He.ga X.K c) hp.objs.size)).get? b = some o := fun b o e => Heap.get?_push_of_some _ (Heap.get?_push_of_some _ e)
  have hget : ((hp.push (PySem.W.kdv_tup us)).push (PySem.HandSPX.excO (He.ga X.K c) hp.objs.size)).get? (hp.objs.size + 1) = some (PySem.HandSPX.excO (He.ga X.K c) hp.objs.size) := by heap_get
  have I2 : Inv X pins σ (upd H1 (hp.objs.size + 1) (L2.exo (hp.objs.size + 1) (He.ga X.K c) none)) ⟨(hp.push (PySem.W.kdv_tup us)).push (PySem.HandSPX.excO (He.ga X.K c) hp.objs.size), g, dr, tk, os⟩ :=
    I1.laid (t' := tk) (a := hp.objs.size + 1) (o := L2.exo (hp.objs.size + 1) (He.ga X.K c) none) (h' := (hp.push (PySem.W.kdv_tup us)).push (PySem.HandSPX.excO (He.ga X.K c) hp.objs.size)) kk hsz (exo_ok hget)
  have r2 : Vals (V.ref (hp.objs.size + 1) :: vs) (Value.ref (hp.objs.size + 1) :: us) := .cons rfl r1
  have hl : (Value.ref (hp.objs.size + 1) :: us).length = ps.length := by
    have e := r2.length
    rw [F1.len _ _ _ _ hq] at e
    exact e.symm
  have hus : us.length ≤ sizeLine := by
    rw [← Paired.length r1, sizeLine_eq]
    omega
  have b0 := hb ⟨(hp.push (PySem.W.kdv_tup us)).push (PySem.HandSPX.excO (He.ga X.K c) hp.objs.size), g, dr, tk, os⟩ (Value.ref (hp.objs.size + 1) :: us) I2.kIn (by rw [List.append_nil]; exact hl)
  rw [List.append_nil] at b0
  refine wpAny_call (PySem.HandSPX.call_own PySem.F.excBase_ValueError (fun Y => PySem.HandSPX.refsVE_contains Y bm hbm) (I1.kIn _ _ hC) (PySem.W.looks_findIn I1.kIn iC) (fun self => PySem.W.bind_fn I1.kIn self tI) hus
    (codeAny_mono (F1.run _ X.stack _ _ ⟨Value.ref (hp.objs.size + 1) :: us, []⟩ (Value.ref (hp.objs.size + 1) :: us) _ _ (fun _ _ _ => False) (hr.make (He.ga X.K c) us []) (I2.env0.make (He.ga X.K c) us []) b0 r2 hq) fun r s' hq' => ?_))
  cases r with
  | error er => exact (passes_false (X := X)) pins σ _ _ er s' I2 hq'
  | ok fl =>
    cases fl with
    | ret u =>
      obtain ⟨v, H2, os2, bare2, un2, hok2, rv, ev, q2⟩ := hq'
      subst ev
      exact ⟨rv, .ref (hp.objs.size + 1), H2, I2.call' (ch := []) os2 un2 hok2 bare2 (fun b z => absurd z (by simp)), rfl, q2⟩
    | next => exact False.elim hq'
    | brk => exact False.elim hq'
    | cont => exact False.elim hq'
theorem upd_mid {H : Hp} {a dx : Addr} {o0 o1 o2 : HO} (ne : dx ≠ a) : upd (upd (upd H a o0) dx o1) a o2 = upd (upd H dx o1) a o2 := by
  rw [upd_comm (Ne.symm ne), upd_upd]
theorem ed_exo (M : MkX X.prog X.w X.K X.mg X.base c flds k fI fd ps) (hr : Room (k + 1) X.A) (hg : Gl X x) (hm : X.mg x = some (.ref (He.ga X.K c))) (ha : EA X W (e :: es) ma)
    (hdb : (x == ("__debug__" : Str)) = false := by decide) (he : starEach (e :: es) X.env = (false, eval e X.env) :: starEach es X.env := by rfl) (hpl : (backTo pos (starEach es X.env)).any (·.1) = false := by rfl) :
    ED X W (.Call (.Name x p) (e :: es) [] pos) (mExo c flds ma) := by
  refine pe_weak (pe_oex M.T M.iC M.tI M.F M.hb hr hg hm ha hdb he hpl) fun σ H Q h => ?_
  obtain ⟨ρ, S, sl, st, rp, h⟩ := h
  refine ⟨ρ, S, sl, st, rp, PostR.bind h fun xs st1 ρ1 S1 H1 vs E1 rp1 r1 h1 => ?_⟩
  by_cases hf : fitX flds xs = true
  · rw [if_pos hf] at h1
    unfold fitX at hf
    rw [Bool.and_eq_true, decide_eq_true_eq, decide_eq_true_eq] at hf
    refine ⟨by have := r1.1; omega, fun a hn => ⟨a, vs, rfl, by rw [r1.1]; exact hf.1, upd_same, fun dx hd ne => ⟨rfl, ?_⟩⟩⟩
    rw [upd_mid ne]
    rw [upd_ne ne] at hd
    obtain ⟨S', E', R', rv⟩ := new_exo rp1.rep (c := c) (kvr_zip r1 hf.1) hn hd ne
    exact h1 ρ1 S' _ _ E' (rp1.mono E' R') rv
  · rw [if_neg hf] at h1
    exact h1.elim
theorem del_mid {H : Hp} {a dx : Addr} {o1 o2 o3 : HO} (ha : H a = none) (ne : dx ≠ a) : upd (del (upd (upd H dx o1) a o2) a) dx o3 = upd H dx o3 := by
  funext b
  by_cases h1 : b = dx
  · rw [h1, upd_same, upd_same]
  · rw [upd_ne h1, upd_ne h1]
    by_cases h2 : b = a
    · rw [h2, del_same, ha]
    · rw [del_ne h2, upd_ne h2, upd_ne h1]
theorem sd_raise (M : MkX X.prog X.w X.K X.mg X.base c flds k fI fd ps) (hc : X.calm = true) (tk : Takes X W) (hr : Room (k + 1) X.A) (hg : Gl X x) (hm : X.mg x = some (.ref (He.ga X.K c))) (ha : EA X W (e :: es) ma) {pos' : Pos}
    (hdb : (x == ("__debug__" : Str)) = false := by decide) (he : starEach (e :: es) X.env = (false, eval e X.env) :: starEach es X.env := by rfl) (hpl : (backTo pos (starEach es X.env)).any (·.1) = false := by rfl) :
    SD X W (.Raise (some (.Call (.Name x p) (e :: es) [] pos)) none pos') (sRaise c flds ma) := by
  refine ps_weak (ps_raise hc tk (pmk_oex (dvs := []) (ds := []) M.T M.iC M.tI M.F hr M.hb .nil passes_false hg hm ha hdb he hpl)) fun D σ H h => ?_
  obtain ⟨ρ, S, sl, st, rp, h⟩ := h
  refine ⟨ρ, S, sl, st, rp, PostS.bindE h fun xs st1 ρ1 S1 H1 vs E1 rp1 r1 h1 => ?_⟩
  by_cases hf : fitX flds xs = true
  · rw [if_pos hf] at h1
    unfold fitX at hf
    rw [Bool.and_eq_true, decide_eq_true_eq, decide_eq_true_eq] at hf
    refine ⟨by have := r1.1; omega, fun a hn => ⟨a, vs, by rw [List.append_nil], by rw [r1.1]; exact hf.1, upd_same, fun dx hd ne => ⟨rfl, dx, (flds.zip vs).reverse, upd_same, ?_, ?_, ?_⟩⟩⟩
    · rw [upd_ne ne]; exact upd_same
    · rw [upd_ne ne] at hd; exact hd
    · rw [upd_ne ne] at hd
      rw [upd_mid ne, del_mid hn ne]
      obtain ⟨E', R'⟩ := rp1.rep.frozen hd (.xd (flds.zip vs).reverse)
      exact h1 ρ1 _ _ _ _ _ E' (rp1.mono E' R') ⟨rfl, .inr ⟨dx, _, rfl, .inr rfl, upd_same, (kvr_zip r1 hf.1).mono E'⟩⟩
  · rw [if_neg hf] at h1
    exact h1.elim
end
end SM
set_option Elab.async false
set_option linter.all false
set_option maxRecDepth 100000
set_option maxHeartbeats 4000000
/-! SMJ: errors without fields; fields of errors; except suites; try. -/
namespace SM
open PySem PySem.Spec PyProof.Rows L2

/-! ### C(), no own __init__ -/
section
variable {X : Cx} {W : WX} {c : Str} {x : Str} {p pos : Pos}
theorem run_exn {Q : Value → Shared → Prop} {E : Value → Shared → Prop} {pins : List (Addr × Obj)} {σ : L2.St} {H : Hp} {s : Shared} (M : MkO X.K c) (I : Inv X pins σ H s) (h : ∀ h' e, Heap.MadeExcOf s.heap h' e (.ref (He.ga X.K c)) [] → Q (.ref e) { s with heap := h' }) :
    wpAny (model X.prog X.w) X.A (call (.ref (He.ga X.K c)) []) Q E s := by
  obtain ⟨bm, N, nm, qn, bs, hdct, sn, sub, ab, col, dd, k0, k1, k2, k3, k5, mN, hC, hN, hni, T⟩ := exc_obj I.kIn M.q
  obtain ⟨hp, g, d, t, os⟩ := s
  exact wpAny_call_exc_subT PySem.F.excBase_ValueError T hC hN hni (fun h' e hm => h h' e hm) (by show 0 ≤ sizeLine; exact Nat.zero_le _)
def mExn (c : Str) : ME := fun _ st => .ok (.exo c []) st
def sRaise0 (c : Str) : MS := fun sl st => .err ⟨c, []⟩ sl st
theorem ed_exn (M : MkO X.K c) (hg : Gl X x) (hm : X.mg x = some (.ref (He.ga X.K c))) (hdb : (x == ("__debug__" : Str)) = false := by decide) : ED X W (.Call (.Name x p) [] [] pos) (mExn c) := by
  refine ⟨fun pins s σ H Q I h => ?_⟩
  obtain ⟨ρ, S, sl, st, rp, h⟩ := h
  refine wpAny_Call_Name_kw (ld_glob I hg hm ?_ hdb)
  refine PySem.W.callWith_K0 I.kIn M.kC ?_
  refine run_exn M I fun h' a hx => ?_
  obtain ⟨t, he, _, _⟩ := hx.there
  have hn : H a = none := I.hok.gone hx.new
  refine ⟨.ref a, upd H a (L2.exo a (He.ga X.K c) none), I.laidN (t' := s.toks) hx.keeps hx.new hn (exo_ok he), rfl, ?_⟩
  obtain ⟨E', R'⟩ := rp.rep.frozen hn (L2.exo a (He.ga X.K c) none)
  exact h ρ _ _ _ E' (rp.mono E' R') (.exn (.inr rfl) upd_same)
theorem sd_raise0 (M : MkO X.K c) (hc : X.calm = true) (tk : Takes X W) (hg : Gl X x) (hm : X.mg x = some (.ref (He.ga X.K c))) {pos' : Pos} (hdb : (x == ("__debug__" : Str)) = false := by decide) :
    SD X W (.Raise (some (.Call (.Name x p) [] [] pos)) none pos') (sRaise0 c) := by
  have mk : PMk X (.Call (.Name x p) [] [] pos) (fun _ H Q => Q (.ref (He.ga X.K c)) none H) := by
    intro pins s σ H Q I h
    refine wpAny_Call_Name_kw (ld_glob I hg hm ?_ hdb)
    refine PySem.W.callWith_K0 I.kIn M.kC ?_
    exact run_exn M I fun h' a hx => mk_of I hx (raises_own M.e1 M.e2) h (I.hok.gone hx.new)
  refine ps_weak (ps_raise hc tk mk) fun D σ H h => ?_
  obtain ⟨ρ, S, sl, st, rp, h⟩ := h
  exact h ρ S σ H _ _ .refl rp ⟨rfl, .inl ⟨rfl, rfl⟩⟩
end

/-! ### e.f, e an error -/
/-- which fields may be read -/
structure XfOk (K : PySem.W.Frag) (tab : List (Str × Str)) : Prop where
  ok : ∀ p ∈ tab, XfC K (He.ga K p.1) ∧ PySem.W.findIn K (.ref (He.ga K p.1)) p.2 = some none
def mXf (tab : List (Str × Str)) (f : Str) (m : ME) : ME := fun sl st => (m sl st).bind fun x st1 => match x with
  | .exo c fs => if tab.contains (c, f) then (match fs.lookup f with | some y => .ok y st1 | none => .stuck) else .stuck
  | _ => .stuck
theorem kvr_lookup {G : Gc} {ρ : List Addr} {S : Addr → Prop} {H : Hp} {f : Str} : ∀ {fvs : List (Str × V)} {fs : List (Str × Va)} {y : Va}, KVr G ρ S H fvs fs → fs.lookup f = some y → ∃ v, fvs.lookup f = some v ∧ Vr G ρ S H v y
  | fvs, [], y, r, e => by cases e
  | fvs, (g, z) :: fs, y, r, e => by
    obtain ⟨h1, h2⟩ := r
    cases fvs with
    | nil => simp at h1
    | cons p fvs =>
      obtain ⟨g', v⟩ := p
      simp only [List.map_cons, List.cons.injEq] at h1
      obtain ⟨rfl, h1⟩ := h1
      obtain ⟨v', ws, e', q1, q2⟩ := Vrs.cons_r h2
      simp only [List.map_cons, List.cons.injEq] at e'
      obtain ⟨rfl, rfl⟩ := e'
      rw [List.lookup_cons] at e ⊢
      split at e
      · cases e
        exact ⟨_, rfl, q1⟩
      · exact kvr_lookup ⟨h1, q2⟩ e
section
variable {X : Cx} {W : WX} {pos : Pos}
theorem ed_xf {tab : List (Str × Str)} (T : XfOk X.K tab) {e : Expr} {f : Str} {m : ME} (h : ED X W e m) (hb : attributeBase e f X.env (eval e X.env) = eval e X.env := by rfl) : ED X W (.Attribute e f pos) (mXf tab f m) := by
  refine ⟨fun pins s σ H Q I h0 => ?_⟩
  obtain ⟨ρ, S, sl, st, rp, h0⟩ := h0
  refine attr_of hb (thn (h.run pins s σ H (fun v H1 => ∃ ρ1 S1 st1 c fs y, Rep (gc X) ρ1 S1 st1 H1 ∧ Vr (gc X) ρ1 S1 H1 v (.exo c fs) ∧ tab.contains (c, f) = true ∧ fs.lookup f = some y ∧ ∀ v', Vr (gc X) ρ1 S1 H1 v' y → Q v' H1) I ⟨ρ, S, sl, st, rp, PostR.bind h0 fun x st1 ρ1 S1 H1 v E1 rp1 r1 h1 => ?_⟩) fun u s1 hh => ?_)
  · cases x with
    | exo c fs =>
      dsimp only at h1
      by_cases hc : tab.contains (c, f) = true
      · rw [if_pos hc] at h1
        cases e2 : fs.lookup f with
        | none => rw [e2] at h1; exact h1.elim
        | some y =>
          rw [e2] at h1
          exact ⟨ρ1, S1, st1, c, fs, y, rp1.rep, r1, hc, e2, fun v' r' => PostR.ok h1 rp1 r'⟩
      · rw [if_neg hc] at h1
        exact h1.elim
    | _ => exact h1.elim
  · obtain ⟨v, H1, I1, rx, ρ1, S1, st1, c, fs, y, R, rv, hc, hl, q⟩ := hh
    obtain ⟨T1, hno⟩ := T.ok (c, f) (by simpa using hc)
    cases rv with
    | @exo a dx _ fvs _ sa sd ea ed k hh =>
      obtain rfl : u = Value.ref a := rx
      obtain ⟨t1, g1⟩ := exo_at I1.hok ea
      obtain ⟨mA, hns, hrel⟩ := exd_at I1.hok ed
      obtain ⟨w, hw, rw'⟩ := kvr_lookup (G := gc X) (ρ := ρ1) (S := S1) (H := H1) (⟨k, by rw [List.length_map, List.length_map]; have := congrArg List.length k; simpa using this, hh⟩ : KVr (gc X) ρ1 S1 H1 fvs fs) hl
      obtain ⟨od, g2, hl2⟩ := lookIn_ns hns
      obtain ⟨u', hu, ru⟩ := RelO.some_of (v := w) (o := mA f) (by rw [← hw]; exact hrel f)
      have J : PySem.W.InstAt s1.heap a _ (He.ga X.K c) (some od) := ⟨g1, rfl, rfl, g2⟩
      exact HandSPX.exc_get I1.kIn J T1.ga T1.gg T1.exC (PySem.W.findObj_own T1.hdC hno rfl (by rw [hl2, hu])) (handed_of ru) ⟨w, H1, I1.tok _, ru, q w rw'⟩
    | exn sa ea => cases hl
end

/-! ### in an except suite: the error is at slot i, at a -/
abbrev MX := Exn → ME
abbrev MXA := Exn → MA
abbrev MXS := Exn → MS
def tX (G : Gc) (i : Nat) (a : Addr) (cls : Value) (d : Option Addr) (m : MX) : TE := fun σ H Q => ∃ ρ S sl st x, Rp G ρ S sl st σ H ∧ σ[i]? = some (some (.ref a)) ∧ ExR G ρ S H cls d x ∧ PostR G W0 (relV G) ρ S H sl σ (m x sl st) Q
def tXa (G : Gc) (i : Nat) (a : Addr) (cls : Value) (d : Option Addr) (m : MXA) : TA := fun σ H Q => ∃ ρ S sl st x, Rp G ρ S sl st σ H ∧ σ[i]? = some (some (.ref a)) ∧ ExR G ρ S H cls d x ∧ PostR G W0 (relA G) ρ S H sl σ (m x sl st) Q
def tXs (G : Gc) (i : Nat) (a : Addr) (cls : Value) (d : Option Addr) (m : MXS) : TS := fun D σ H => ∃ ρ S sl st x, Rp G ρ S sl st σ H ∧ σ[i]? = some (some (.ref a)) ∧ ExR G ρ S H cls d x ∧ PostS G W0 ρ S H (m x sl st) D
section
variable {X : Cx} {i : Nat} {a : Addr} {cls : Value} {d : Option Addr} {e : Expr} {es : List Expr} {m : MX} {ma : MXA} {ms : MXS} {pos : Pos} {rest : List Stmt} {s : Stmt}
/-- what the suite's rules ask of its context -/
structure SuX (X : Cx) (i : Nat) (n : Str) (a : Addr) (cls : Value) (d : Option Addr) : Prop where
  hN : X.N[i]? = some n
  hv : Vis X.env.scope n
  pin : ∃ oe pn, X.pn = (a, oe) :: pn ∧ Zc cls d oe ∧ ∃ vs, oe.data = .fields vs
theorem ex_lift {m : ME} (h : ED X W0 e m) : PE X e (tX (gc X) i a cls d fun _ => m) := pe_weak h fun σ H Q h => by
  obtain ⟨ρ, S, sl, st, x, rp, _, _, h⟩ := h
  exact ⟨ρ, S, sl, st, rp, h⟩
def xNil : MXA := fun _ => mNil
def xCons (m : MX) (r : MXA) : MXA := fun x => mCons (m x) (r x)
theorem exa_nil : PA X [] (tXa (gc X) i a cls d xNil) := pa_weak (ea_nil (X := X) (W := W0)) fun σ H Q h => by
  obtain ⟨ρ, S, sl, st, x, rp, _, _, h⟩ := h
  exact ⟨ρ, S, sl, st, rp, h⟩
theorem exa_cons (h1 : PE X e (tX (gc X) i a cls d m)) (h2 : PA X es (tXa (gc X) i a cls d ma)) (hs : starEach (e :: es) X.env = (false, eval e X.env) :: starEach es X.env := by rfl) : PA X (e :: es) (tXa (gc X) i a cls d (xCons m ma)) := by
  refine pa_weak (pa_cons h1 h2 hs) fun σ H Q h => ?_
  obtain ⟨ρ, S, sl, st, x, rp, hi, hx, h⟩ := h
  refine ⟨ρ, S, sl, st, x, rp, hi, hx, PostR.bind h fun y st1 ρ1 S1 H1 v E1 rp1 r1 h1 => ?_⟩
  refine ⟨ρ1, S1, sl, st1, x, rp1, hi, hx.mono E1, PostR.bind h1 fun xs st2 ρ2 S2 H2 vs E2 rp2 r2 h2 => ?_⟩
  exact PostR.ok (v := v :: vs) h2 rp2 (.cons (r1.mono E2) r2)
theorem ex_lst (c : Bool) (h : PA X es (tXa (gc X) i a cls d ma)) : PE X (.List es pos) (tX (gc X) i a cls d fun x => mLst c (ma x)) := by
  refine pe_weak (pe_lst h) fun σ H Q h => ?_
  obtain ⟨ρ, S, sl, st, x, rp, hi, hx, h⟩ := h
  refine ⟨ρ, S, sl, st, x, rp, hi, hx, PostR.bind h fun xs st1 ρ1 S1 H1 vs E1 rp1 r1 h1 => ?_⟩
  by_cases hl : xs.length ≤ sizeLine
  · simp only [hl, if_true] at h1
    refine ⟨by rw [r1.1]; exact hl, fun p hp => ?_⟩
    exact EndO.mk (st := st1) (c := c) (xs := xs) (EndO.of_post (r := some (mkL c xs st1)) rp1 h1) rp1.rep rfl r1 p hp
  · simp only [hl, if_false] at h1
    exact h1.elim
theorem ex_tup {x1} (h : PA X es (tXa (gc X) i a cls d ma)) : PE X (.Tuple es x1 pos) (tX (gc X) i a cls d fun x => mTup (ma x)) := by
  refine pe_weak (pe_tup h) fun σ H Q h => ?_
  obtain ⟨ρ, S, sl, st, x, rp, hi, hx, h⟩ := h
  refine ⟨ρ, S, sl, st, x, rp, hi, hx, PostR.bind h fun xs st1 ρ1 S1 H1 vs E1 rp1 r1 h1 => ?_⟩
  by_cases hl : xs.length ≤ sizeLine
  · simp only [hl, if_true] at h1
    refine ⟨by rw [r1.1]; exact hl, fun p hp => ?_⟩
    exact EndO.tup (st := st1) (xs := xs) (EndO.of_post (r := some (.tup xs, st1)) rp1 h1) rp1.rep rfl r1 p hp
  · simp only [hl, if_false] at h1
    exact h1.elim
/-- e.f -/
def xFld (tab : List (Str × Str)) (f : Str) : MX := fun x _ st => if tab.contains (x.cls, f) then (match x.fs.lookup f with | some y => .ok y st | none => .stuck) else .stuck
theorem ex_fld {n f : Str} {tab : List (Str × Str)} {p1 : Pos} (U : SuX X i n a cls d) (T : XfOk X.K tab) (hd : (n == ("__debug__" : Str)) = false := by decide) (hcd : (n == ("__classdict__" : Str)) = false := by decide)
    (hb : attributeBase (.Name n p1) f X.env (eval (.Name n p1) X.env) = eval (.Name n p1) X.env := by rfl) : PE X (.Attribute (.Name n p1) f pos) (tX (gc X) i a cls d (xFld tab f)) := by
  refine ⟨fun pins s σ H Q I h => ?_⟩
  obtain ⟨ρ, S, sl, st, x, rp, hi, hx, h⟩ := h
  obtain ⟨oe, pn, hpn, hz, vs, hf⟩ := U.pin
  refine attr_of hb (thn ((pe_var (pos := p1) U.hN U.hv hd hcd).run pins s σ H (fun v H1 => v = .ref a ∧ H1 = H) I ⟨.ref a, hi, rfl, rfl⟩) fun u s1 hh => ?_)
  obtain ⟨v, H1, I1, rx, rfl, rfl⟩ := hh
  obtain rfl : u = Value.ref a := rx
  unfold xFld at h
  by_cases hc : tab.contains (x.cls, f) = true
  · rw [if_pos hc] at h
    obtain ⟨T1, hno⟩ := T.ok (x.cls, f) (by simpa using hc)
    cases e2 : x.fs.lookup f with
    | none => rw [e2] at h; exact h.elim
    | some y =>
      rw [e2] at h
      obtain ⟨hcl, hxx | ⟨dd, fvs, rfl, sd, ea, kv⟩⟩ := hx
      · rw [hxx.1] at e2; cases e2
      · subst hcl
        obtain ⟨w, hw, rw'⟩ := kvr_lookup kv e2
        obtain ⟨ha, _⟩ := I1.pin (a, oe) (List.mem_append_left _ (by rw [hpn]; exact List.mem_cons_self))
        have hxo : ObjOk X.prog X.w H1 s1.heap dd (.xd fvs) := I1.hok dd _ ea
        obtain ⟨mA, hns, hr⟩ := hxo
        obtain ⟨od, ho, hl⟩ := lookIn_ns hns
        obtain ⟨u', hu, ru⟩ := RelO.some_of (v := w) (o := mA f) (by rw [← hw]; exact hr f)
        have J : PySem.W.InstAt s1.heap a oe (He.ga X.K x.cls) (some od) := ⟨ha, hz.1, by unfold PySem.W.notCls; rw [hf] <;> rfl, by rw [hz.2]; exact ho⟩
        exact HandSPX.exc_get I1.kIn J T1.ga T1.gg T1.exC (PySem.W.findObj_own T1.hdC hno rfl (by rw [hl, hu])) (handed_of ru) ⟨w, H1, I1.tok _, ru, PostR.ok h rp rw'⟩
  · rw [if_neg hc] at h
    exact h.elim
end
end SM
set_option Elab.async false
set_option linter.all false
set_option maxRecDepth 100000
set_option maxHeartbeats 4000000
/-! SMK: isinstance in except suites; assignments there; try. -/
namespace SM
open PySem PySem.Spec PyProof.Rows L2
section
variable {X : Cx} {i : Nat} {a : Addr} {cls : Value} {d : Option Addr} {e b : Expr} {es : List Expr} {m mb : MX} {pos : Pos} {s : Stmt}
theorem ex_one {op} (ha : PE X e (tX (gc X) i a cls d m)) : PE X (.BoolOp op [e] pos) (tX (gc X) i a cls d m) := pe_one ha
theorem ex_and {rest : List Expr} (ha : PE X e (tX (gc X) i a cls d m)) (hb : PE X (.BoolOp .And (b :: rest) pos) (tX (gc X) i a cls d mb)) : PE X (.BoolOp .And (e :: b :: rest) pos) (tX (gc X) i a cls d fun x => mAndV (m x) (mb x)) := by
  refine pe_weak (pe_and ha hb) fun σ H Q h => ?_
  obtain ⟨ρ, S, sl, st, y, rp, hi, hx, h⟩ := h
  refine ⟨ρ, S, sl, st, y, rp, hi, hx, PostR.bind h fun x st1 ρ1 S1 H1 v E1 rp1 r1 h1 => ?_⟩
  cases e : asBl x with
  | none => simp only [e] at h1; exact h1.elim
  | some k =>
    simp only [e] at h1
    refine ⟨k, asBl_ok r1 e, ?_⟩
    cases k with
    | true => exact ⟨ρ1, S1, sl, st1, y, rp1, hi, hx.mono E1, h1⟩
    | false => exact PostR.ok (v := V.bl false) h1 rp1 (.bl false)
theorem ex_not (ha : PE X e (tX (gc X) i a cls d m)) : PE X (.UnaryOp .Not e pos) (tX (gc X) i a cls d fun x => mNotV (m x)) := by
  refine pe_weak (pe_not ha) fun σ H Q h => ?_
  obtain ⟨ρ, S, sl, st, y, rp, hi, hx, h⟩ := h
  refine ⟨ρ, S, sl, st, y, rp, hi, hx, PostR.bind h fun x st1 ρ1 S1 H1 v E1 rp1 r1 h1 => ?_⟩
  cases e : asBl x with
  | none => simp only [e] at h1; exact h1.elim
  | some k =>
    simp only [e] at h1
    exact ⟨k, asBl_ok r1 e, PostR.ok (v := V.bl (!k)) h1 rp1 (.bl _)⟩
/-! ### isinstance(e, ..) -/
def isX (I : Isi) (c : Str) : Op1 := fun y st => if I.exl.contains c then (match y with
  | .tup us => (us.mapM tgC).bind fun cs => (anyI I (.cl c) cs).map fun b => (.bl b, st)
  | y => (tgC y).bind fun u => (I.look (.cl c) u).map fun b => (.bl b, st)) else none
def xIsi (I : Isi) (m2 : ME) : MX := fun x sl st => (m2 sl st).bind fun y st1 => Rs.of (isX I x.cls y st1)
theorem inst_of {n : Str} (U : SuX X i n a cls d) {pins : List (Addr × Obj)} {σ : L2.St} {H : Hp} {s : Shared} {ρ : List Addr} {S : Addr → Prop} {x : Exn} (J : Inv X pins σ H s) (hx : ExR (gc X) ρ S H cls d x) : ∃ oe od, PySem.W.InstAt s.heap a oe (He.ga X.K x.cls) od := by
  obtain ⟨oe, pn, hpn, hz, vs, hf⟩ := U.pin
  obtain ⟨ha, _⟩ := J.pin (a, oe) (List.mem_append_left _ (by rw [hpn]; exact List.mem_cons_self))
  obtain ⟨hcl, hxx | ⟨dd, fvs, hd, sd, ea, kv⟩⟩ := hx
  · refine ⟨oe, none, ha, by rw [hz.1, hcl], by unfold PySem.W.notCls; rw [hf] <;> rfl, ?_⟩
    rw [hz.2, hxx.2]
    trivial
  · have hxo : ObjOk X.prog X.w H s.heap dd (.xd fvs) := J.hok dd _ ea
    obtain ⟨mA, hns, hr⟩ := hxo
    obtain ⟨od, ho, hl⟩ := lookIn_ns hns
    exact ⟨oe, some od, ha, by rw [hz.1, hcl], by unfold PySem.W.notCls; rw [hf] <;> rfl, by rw [hz.2, hd]; exact ho⟩
theorem cb_isX {I : Isi} {n : Str} (hI : I.Ok X.K) (U : SuX X i n a cls d) : CallR X (.builtin "isinstance") (fun vs H Q => ∃ ρ S st x y w, ExR (gc X) ρ S H cls d x ∧ vs = [.ref a, w] ∧ Rep (gc X) ρ S st H ∧ Vr (gc X) ρ S H w y ∧ EndO (gc X) ρ S H (isX I x.cls y st) Q) := by
  intro pins s σ H vs us Q J r h
  obtain ⟨ρ, S, st, x, y, w, hx, rfl, R, r2, h⟩ := h
  obtain ⟨oe, od, hi⟩ := inst_of U J hx
  obtain ⟨u1, u2, rfl, q1, q2⟩ := vals2 r
  obtain rfl : u1 = Value.ref a := q1
  unfold isX at h
  by_cases hc : I.exl.contains x.cls = true
  · rw [if_pos hc] at h
    have T := hI.ex x.cls (by simpa using hc)
    have Z := kitx_excV T (x := a) (ox := oe) (od := od)
    split at h
    · rename_i cs
      cases e2 : cs.mapM tgC with
      | none => rw [e2] at h; exact h.no.elim
      | some ts =>
        cases e3 : anyI I (.cl x.cls) ts with
        | none => rw [e2, Option.bind_some, e3] at h; exact h.no.elim
        | some b =>
          rw [e2, Option.bind_some, e3, Option.map_some] at h
          cases r2 with
          | @tup tp ws _ s1 hT l hh =>
            cases (show u2 = Value.ref tp from q2)
            obtain ⟨_, its, rv', o, h1, h2, n, h3⟩ := (show ObjOk X.prog X.w H s.heap tp (.tup ws) from J.hok tp _ hT)
            have e4 := ClsV.all (tgCs_ok (⟨l, hh⟩ : Vrs (gc X) ρ S H ws cs) e2) rv'
            subst e4
            obtain ⟨oc, od, dt, sl⟩ := o
            simp only at h2 h3
            subst h2 h3
            exact PySem.W.kia_tup Z J.kIn hi h1 (hI.any e3) (fun z => nomatch z) fun tk => ⟨.bl b, H, J.tok tk, rfl, h.at R rfl _ (.bl _)⟩
    · cases e2 : tgC y with
      | none => rw [e2] at h; exact h.no.elim
      | some c =>
        cases e3 : I.look (.cl x.cls) c with
        | none => rw [e2, Option.bind_some, e3] at h; exact h.no.elim
        | some b =>
          rw [e2, Option.bind_some, e3, Option.map_some] at h
          have e4 := (tgC_ok r2 e2).eq q2
          subst e4
          exact PySem.W.kia_one Z J.kIn hi (hI.look e3) (fun z => nomatch z) fun tk => ⟨.bl b, H, J.tok tk, rfl, h.at R rfl _ (.bl _)⟩
  · rw [if_neg hc] at h
    exact h.no.elim
theorem ex_isi {I : Isi} {n x : Str} {e2 : Expr} {m2 : ME} {p p1 : Pos} (hI : I.Ok X.K) (U : SuX X i n a cls d) (h2 : ED X W0 e2 m2) (hg : Gl X x) (hm : X.mg x = none) (hv : bootBuiltins x = some (.builtin "isinstance")) (hd : (n == ("__debug__" : Str)) = false := by decide) (hcd : (n == ("__classdict__" : Str)) = false := by decide)
    (hn : x ≠ "__name__" := by decide) (hdb : (x == ("__debug__" : Str)) = false := by decide)
    (he : starEach [.Name n p1, e2] X.env = (false, eval (.Name n p1) X.env) :: starEach [e2] X.env := by rfl) (he2 : starEach [e2] X.env = (false, eval e2 X.env) :: starEach [] X.env := by rfl) (hpl : (backTo pos (starEach [e2] X.env)).any (·.1) = false := by rfl) :
    PE X (.Call (.Name x p) [.Name n p1, e2] [] pos) (tX (gc X) i a cls d (xIsi I m2)) := by
  refine pe_weak (pe_callB (cb_isX hI U) hg hm hv (pa_cons (pe_var (pos := p1) U.hN U.hv hd hcd) (pa_cons h2 pa_nil he2) he) hn hdb he hpl) fun σ H Q h => ?_
  obtain ⟨ρ, S, sl, st, y, rp, hi, hx, h⟩ := h
  refine ⟨.ref a, hi, ρ, S, sl, st, rp, PostR.bind h fun z st1 ρ1 S1 H1 v E1 rp1 r1 h1 => ?_⟩
  exact ⟨ρ1, S1, st1, y, z, v, hx.mono E1, rfl, rp1.rep, r1, EndO.of_post rp1 h1⟩
/-- y = e, the suite's one statement -/
def xSet (j : Nat) (m : MX) : MXS := fun x => sAsg j (m x)
theorem sx_set (j : Nat) {y : Str} {e : Expr} {m : MX} {pos' : Pos} (hN : X.N.Nodup) (he : PE X e (tX (gc X) i a cls d m)) (hi : X.N[j]? = some y := by rfl) (hx : Loc X.env.scope y := by first | exact Or.inl rfl | exact Or.inr rfl)
    (hs : swapsWith e (some (.Name y pos')) pos.line X.env = pure false := by rfl) (hf : X.fn y = true ∨ X.env.scope.names.lookup y = some .local := by first | exact .inl rfl | exact .inr rfl) :
    PSs X [.Assign [.Name y pos'] e pos] (tXs (gc X) i a cls d (xSet j m)) := by
  refine pss_one (ps_weak (ps_set hN hi hx he hs hf) fun D σ H h => ?_)
  obtain ⟨ρ, S, sl, st, x, rp, hi, hx, h⟩ := h
  refine ⟨ρ, S, sl, st, x, rp, hi, hx, h.bindE fun x st1 ρ1 S1 H1 v E1 rp1 r1 h1 => ?_⟩
  exact h1 ρ1 S1 _ H1 .refl (rp1.set _ r1)
/-- pass -/
theorem sx_lift {ss : List Stmt} {ms : MS} (h : SDs X W0 ss ms) : PSs X ss (tXs (gc X) i a cls d fun _ => ms) := pss_weak h fun D σ H h => by
  obtain ⟨ρ, S, sl, st, x, rp, _, _, h⟩ := h
  exact ⟨ρ, S, sl, st, rp, h⟩
end
end SM
set_option Elab.async false
set_option linter.all false
set_option maxRecDepth 100000
set_option maxHeartbeats 4000000
/-! SML: try with clauses, named or not. -/
namespace SM
open PySem PySem.Spec PyProof.Rows L2

abbrev TXs := Addr → Value → Option Addr → TS
inductive Hdl where
  | only (c : Value) (ts : TXs) | named (c : Value) (i : Nat) (ts : TXs)
def endI (D : Ends) (i : Nat) : Ends := { nx := fun σ' H' => D.nx (σ'.set i none) H', rt := D.rt, bk := fun σ' H' => D.bk (σ'.set i none) H', ct := fun σ' H' => D.ct (σ'.set i none) H' }
def wAll (K : PySem.W.Frag) (Wout : WX) (D : Ends) : List Hdl → WX
  | [] => Wout
  | .only c ts :: r => fun cls d σ H => ∃ b, PySem.W.exmOne K cls c = some b ∧ (b = true → ∀ a, H a = none → ts a cls d D σ H) ∧ (b = false → wAll K Wout D r cls d σ H)
  | .named c i ts :: r => fun cls d σ H => ∃ b, PySem.W.exmOne K cls c = some b ∧ (b = true → ∀ a, H a = none → ts a cls d (endI D i) (σ.set i (some (.ref a))) H) ∧ (b = false → wAll K Wout D r cls d σ H)
inductive HdA (X : Cx) : List ExceptHandler → List Hdl → Prop
  | nil : HdA X [] []
  | only {x : Str} {c : Value} {ts : TXs} {b₀ : Stmt} {suite : List Stmt} {np pos' : Pos} {hds : List ExceptHandler} {l : List Hdl} (hc : Names X x c)
      (hsu : ∀ (a : Addr) (oe : Obj) (cls : Value) (d : Option Addr) (pn : List (Addr × Obj)), Zc cls d oe → (∃ vs, oe.data = .fields vs) → PSs (X.suite a ((a, oe) :: pn)) (b₀ :: suite) (ts a cls d)) (r : HdA X hds l) :
      HdA X (.ExceptHandler (some (.Name x np)) none (b₀ :: suite) pos' :: hds) (.only c ts :: l)
  | named {x n : Str} {i : Nat} {c : Value} {ts : TXs} {b₀ : Stmt} {suite : List Stmt} {np pos' : Pos} {hds : List ExceptHandler} {l : List Hdl} (hc : Names X x c) (hi : X.N[i]? = some n) (hln : X.env.kindOf n = some .local)
      (hsu : ∀ (a : Addr) (oe : Obj) (cls : Value) (d : Option Addr) (pn : List (Addr × Obj)), Zc cls d oe → (∃ vs, oe.data = .fields vs) → PSs (X.suite a ((a, oe) :: pn)) (b₀ :: suite) (ts a cls d)) (r : HdA X hds l) :
      HdA X (.ExceptHandler (some (.Name x np)) (some n) (b₀ :: suite) pos' :: hds) (.named c i ts :: l)
section
variable {X : Cx} {body : List Stmt} {h₀ : ExceptHandler} {hds : List ExceptHandler} {l : List Hdl} {pos : Pos} {tb : WX → TS} {Wout : WX}
theorem ps_try_all (hs : X.stack = X.env :: X.outer) (hf : X.env.frame = some X.env.locals) (hN : X.N.Nodup) (tk : Takes X Wout)
    (hb : ∀ (W : WX) (pn : List (Addr × Obj)) (xe : Value → Shared → Prop), Takes (X.tr pn xe) W → PassesOwn (model X.prog X.w) X.A X.env xe → PSs (X.tr pn xe) body (tb W))
    (hh : HdA X (h₀ :: hds) l) : PS X (.Try body (h₀ :: hds) [] [] pos) (fun D σ H => tb (wAll X.K Wout D l) D σ H) := by
  refine ⟨fun pins s σ H D I h => ?_⟩
  have ok := I.ok
  have hfr : X.A.frames = some (X.env :: X.outer) := by rw [ok.frames, hs]
  refine wpAny_Try_except ?_
  refine wpAny_mono ((hb (wAll X.K Wout D l) (X.pn ++ pins) (fun e s₁ => wpAny (model X.prog X.w) X.A (noteFrame e X.env) (fun _ s₂ => wpAny (model X.prog X.w) X.A (setFlight e none) (fun _ s₃ =>
    wpAny (model X.prog X.w) X.A (handleBy e X.env (h₀ :: hds)) (SP X pins D) X.xe s₃) X.xe s₂) X.xe s₁) (fun u s' xx => ?_) PassesOwn.looking).run [] s σ H D (I.toTry _) h) (fun f s1 hsp => ?_) (fun e s1 he => he)
  · -- the catch
    obtain ⟨a, B, sI, pins', σ', H', cls, d, rfl, J', nb, up, sky, na, os, ag, w⟩ := xx
    have J : Inv X pins σ' H' sI := J'.ofTry ok
    have sky' : Sky B (X.env :: X.outer) a (Zc cls d) X.env.locals s'.heap := by rw [← hs]; exact sky
    show wpAny (model X.prog X.w) X.A (noteFrame (.ref a) X.env) _ _ _
    refine Sky.land Zc.steady hfr hf sky' fun h3 fl3 up3 => ?_
    have J3 : Inv X pins σ' H' { s' with heap := h3 } := J.landed nb fl3.1 (up.trans up3) os ag
    obtain ⟨oe3, vs3, he3, hz3, hd3⟩ := fl3.there
    have notFr : ∀ {h : Heap} {o : Obj} {vs : Array Value}, h.FunFrames B (X.env :: X.outer) → h.get? a = some o → o.data = .fields vs → a ∉ frs (X.env :: X.outer) := fun {h o vs} ff e dd hm => by
      obtain ⟨_, o', e', hnf⟩ := ff.mem hm
      rw [e] at e'; cases e'
      exact hnf _ dd
    have nfr := notFr fl3.2.2.1 he3 hd3
    have nL : a ≠ X.env.locals := fun z => nfr (List.mem_filterMap.mpr ⟨X.env, List.mem_cons_self, by rw [hf, z]⟩)
    have nF : a ∉ X.fs := fun hm => by
      obtain ⟨e, he, q⟩ := List.mem_filterMap.mp hm
      exact nfr (List.mem_filterMap.mpr ⟨e, List.mem_cons_of_mem _ he, q⟩)
    have S3 := J3.suite he3 hd3 na nL nF
    have LT : PySem.W.Looks (model X.prog X.w) h3 (typeOf (.ref a)) cls := fun A Q E s k q => wpAny_typeOf_ref (k _ _ he3) (by rw [hz3.1]; exact q)
    have test : ∀ {x : Str} {c : Value} {np : Pos} (hc : Names X x c) {Q : Value → Shared → Prop} {E : Value → Shared → Prop}, Q c { s' with heap := h3 } → wpAny (model X.prog X.w) (X.A.mark (some (.ref a))) (eval (.Name x np) X.env) Q E { s' with heap := h3 } := fun {x c np} hc {Q E} q => by
      obtain ⟨hg, hdbg, hm | ⟨hm, hv, hnn⟩⟩ := hc
      · exact ld_glob (X := X.suite a ((a, oe3) :: (X.pn ++ pins))) S3 hg hm q hdbg
      · exact ld_blt (X := X.suite a ((a, oe3) :: (X.pn ++ pins))) S3 hg hm hv q hnn hdbg
    have go : ∀ {hds' : List ExceptHandler} {l' : List Hdl}, HdA X hds' l' → wAll X.K Wout D l' cls d σ' H' →
        wpAny (model X.prog X.w) X.A (handleBy (.ref a) X.env hds') (SP X pins D) X.xe { s' with heap := h3 } := by
      intro hds' l' hk
      induction hk with
      | nil =>
        intro w
        refine wpAny_handleBy_nil ?_
        obtain ⟨k1, k2, k3, oe, vs, T, oT, ts', he, hz, hd, h1, hr⟩ := id fl3
        unfold PySem.passOn
        refine wpAny_bind (wpAny_field he hd h1 ?_)
        rw [if_neg (show ¬ ((Value.ref T == Value.none) = true) from by simp)]
        have fin : wpAny (model X.prog X.w) X.A (setFlight (.ref a) X.env.frame) (fun _ s4 => wpAny (model X.prog X.w) X.A (throw (.ref a) : Sem Flow) (SP X pins D) X.xe s4) X.xe { s' with heap := h3 } := by
          rw [hf]
          refine HandSPX.setFlight_upZ fl3 fun h4 hh4 up4 => wpAny_throw (tk _ _ ?_)
          exact ⟨a, B, sI, pins, σ', H', cls, d, rfl, J, nb, (up.trans up3).trans up4, .inr (.inr (by rw [hs]; exact hh4)), na, os, ag, w⟩
        first
          | exact wpAny_bind (wpAny_pure (wpAny_bind fin))
          | exact wpAny_bind fin
      | @only x c ts b₀ suite np pos' hds2 l2 hc hsu r ih =>
        intro w
        obtain ⟨b, hb1, hyes, hno⟩ := w
        refine wpAny_handleBy_cons (codeAny_handlers_test ?_) (by intro q; cases q)
        have LM := PySem.W.exm_one (M := model X.prog X.w) (J3.kIn) LT hb1
        refine test hc (LM.here ?_)
        cases b with
        | true =>
          refine codeAny_handlers_suite ?_
          refine HandSPX.lands_againZ fl3 fun h4 fl4 up4 => ?_
          have J4 : Inv X pins σ' H' { s' with heap := h4 } := J.landed nb fl4.1 ((up.trans up3).trans up4) os ag
          obtain ⟨oe4, vs4, he4, hz4, hd4⟩ := fl4.there
          have S4 := J4.suite he4 hd4 na nL nF
          refine wpAny_mono ((hsu a oe4 cls d (X.pn ++ pins) hz4 ⟨_, hd4⟩).run [] _ _ H' _ S4 (hyes rfl a na)) (fun f s6 hsp => ?_) (fun _ _ z => False.elim z)
          cases f with
          | next =>
            obtain ⟨σ6, H6, S6, q6⟩ := hsp
            exact ⟨_, _, S6.unsuite ok, q6⟩
          | brk =>
            obtain ⟨σ6, H6, S6, q6⟩ := hsp
            exact ⟨_, _, S6.unsuite ok, q6⟩
          | cont =>
            obtain ⟨σ6, H6, S6, q6⟩ := hsp
            exact ⟨_, _, S6.unsuite ok, q6⟩
          | ret u =>
            obtain ⟨v6, σ6, H6, S6, r6, q6⟩ := hsp
            exact ⟨_, _, _, S6.unsuite ok, r6, q6⟩
        | false =>
          show wpAny _ X.A (handleBy (.ref a) X.env hds2) _ _ _
          exact ih (hno rfl)
      | @named x n i c ts b₀ suite np pos' hds2 l2 hc hi hln hsu r ih =>
        intro w
        obtain ⟨b, hb1, hyes, hno⟩ := w
        have hloc : Loc X.env.scope n := .inl hln
        refine wpAny_handleBy_cons (codeAny_handlers_test ?_) (by intro q; cases q)
        have LM := PySem.W.exm_one (M := model X.prog X.w) (J3.kIn) LT hb1
        refine test hc (LM.here ?_)
        cases b with
        | true =>
          refine codeAny_handlers_suite_as ?_
          refine HandSPX.lands_againZ fl3 fun h4 fl4 up4 => ?_
          have J4 : Inv X pins σ' H' { s' with heap := h4 } := J.landed nb fl4.1 ((up.trans up3).trans up4) os ag
          obtain ⟨oe4, vs4, he4, hz4, hd4⟩ := fl4.there
          have S4 := J4.suite he4 hd4 na nL nF
          refine store_ok (X := X.suite a ((a, oe4) :: (X.pn ++ pins))) (v := .ref a) S4 hN hi hloc rfl (fun s5 S5 => ?_) (.inr hln)
          refine wpAny_mono ((hsu a oe4 cls d (X.pn ++ pins) hz4 ⟨_, hd4⟩).run [] s5 _ H' _ S5 (hyes rfl a na)) (fun f s6 hsp => ?_) (fun _ _ z => False.elim z)
          have end_ : ∀ {σ6 : L2.St} {H6 : Hp} {Q : Shared → Prop}, Inv (X.suite a ((a, oe4) :: (X.pn ++ pins))) [] σ6 H6 s6 → (∀ s7, Inv X pins (σ6.set i none) H6 s7 → Q s7) →
              wpAny (model X.prog X.w) X.A (do bindName X.env n .none; unbindBehindTheSuite X.env n pos') (fun _ s7 => Q s7) X.xe s6 := fun {σ6 H6 Q} S6 hq => gone_ok (S6.unsuite ok) hN hi hln hq
          cases f with
          | next =>
            obtain ⟨σ6, H6, S6, q6⟩ := hsp
            exact end_ S6 fun s7 J7 => ⟨_, _, J7, q6⟩
          | brk =>
            obtain ⟨σ6, H6, S6, q6⟩ := hsp
            exact end_ S6 fun s7 J7 => ⟨_, _, J7, q6⟩
          | cont =>
            obtain ⟨σ6, H6, S6, q6⟩ := hsp
            exact end_ S6 fun s7 J7 => ⟨_, _, J7, q6⟩
          | ret u =>
            obtain ⟨v6, σ6, H6, S6, r6, q6⟩ := hsp
            exact end_ S6 fun s7 J7 => ⟨_, _, _, J7, r6, q6⟩
        | false =>
          show wpAny _ X.A (handleBy (.ref a) X.env hds2) _ _ _
          exact ih (hno rfl)
    exact go hh w
  · cases f with
    | next =>
      obtain ⟨σ', H', J', q⟩ := hsp
      exact wpAny_execs_nil ⟨σ', H', J'.ofTry ok, q⟩
    | brk =>
      obtain ⟨σ', H', J', q⟩ := hsp
      exact ⟨σ', H', J'.ofTry ok, q⟩
    | cont =>
      obtain ⟨σ', H', J', q⟩ := hsp
      exact ⟨σ', H', J'.ofTry ok, q⟩
    | ret u =>
      obtain ⟨v, σ', H', J', r, q⟩ := hsp
      exact ⟨v, σ', H', J'.ofTry ok, r, q⟩
end

/-! ### the mirror's try -/
/-- which classes the clause catches -/
abbrev Hit := List (Str × Bool)
inductive MH where
  | only (hit : Hit) (m : MS) | named (hit : Hit) (i : Nat) (m : MXS)
def RsS.calm : RsS → RsS
  | .err _ _ _ => .stuck
  | r => r
def RsS.clr (i : Nat) : RsS → RsS
  | .ok fl sl st => .ok fl (sl.set i none) st
  | _ => .stuck
def handleM : List MH → Exn → Slo → Sto → RsS
  | [], x, sl, st => .err x sl st
  | .only hit m :: r, x, sl, st => match hit.lookup x.cls with
    | some true => (m sl st).calm
    | some false => handleM r x sl st
    | none => .stuck
  | .named hit i m :: r, x, sl, st => match hit.lookup x.cls with
    | some true => if i < sl.length then (m x (sl.set i none) st).clr i else .stuck
    | some false => handleM r x sl st
    | none => .stuck
def sTry (b : MS) (hs : List MH) : MS := fun sl st => match b sl st with
  | .err x sl' st' => handleM hs x sl' st'
  | r => r
/-- what a clause's table must say -/
def HitOk (K : PySem.W.Frag) (c : Value) (hit : Hit) : Prop := ∀ p ∈ hit, PySem.W.exmOne K (.ref (He.ga K p.1)) c = some p.2
theorem HitOk.at {K : PySem.W.Frag} {c : Value} {hit : Hit} (h : HitOk K c hit) {n : Str} {b : Bool} (e : hit.lookup n = some b) : PySem.W.exmOne K (.ref (He.ga K n)) c = some b := by
  induction hit with
  | nil => cases e
  | cons p r ih =>
    obtain ⟨m, k⟩ := p
    rw [List.lookup_cons] at e
    split at e
    · rename_i hq
      cases e
      have : n = m := by simpa using hq
      subst this
      exact h (n, b) List.mem_cons_self
    · exact ih (fun p hp => h p (List.mem_cons_of_mem _ hp)) e
inductive HdM (X : Cx) : List ExceptHandler → List MH → Prop
  | nil : HdM X [] []
  | only {x : Str} {c : Value} {b₀ : Stmt} {suite : List Stmt} {np pos' : Pos} {hds : List ExceptHandler} {l : List MH} {hit : Hit} {m : MS} (hc : Names X x c) (ht : HitOk X.K c hit)
      (hsu : ∀ (a : Addr) (oe : Obj) (cls : Value) (d : Option Addr) (pn : List (Addr × Obj)), Zc cls d oe → (∃ vs, oe.data = .fields vs) → SDs (X.suite a ((a, oe) :: pn)) W0 (b₀ :: suite) m) (r : HdM X hds l) :
      HdM X (.ExceptHandler (some (.Name x np)) none (b₀ :: suite) pos' :: hds) (.only hit m :: l)
  | named {x n : Str} {i : Nat} {c : Value} {b₀ : Stmt} {suite : List Stmt} {np pos' : Pos} {hds : List ExceptHandler} {l : List MH} {hit : Hit} {m : MXS} (hc : Names X x c) (ht : HitOk X.K c hit) (hi : X.N[i]? = some n) (hln : X.env.kindOf n = some .local)
      (hsu : ∀ (a : Addr) (oe : Obj) (cls : Value) (d : Option Addr) (pn : List (Addr × Obj)), SuX (X.suite a ((a, oe) :: pn)) i n a cls d → PSs (X.suite a ((a, oe) :: pn)) (b₀ :: suite) (tXs (gc X) i a cls d m)) (r : HdM X hds l) :
      HdM X (.ExceptHandler (some (.Name x np)) (some n) (b₀ :: suite) pos' :: hds) (.named hit i m :: l)
def hdlOf (G : Gc) : MH → Value → Hdl
  | .only _ m, c => .only c fun _ _ _ => tDs G W0 m
  | .named _ i m, c => .named c i fun a cls d => tXs G i a cls d m
section
variable {X : Cx} {W : WX} {body : List Stmt} {h₀ : ExceptHandler} {hds : List ExceptHandler} {l : List MH} {pos : Pos} {mb : MS}
theorem hdm_all : ∀ {hds : List ExceptHandler} {l : List MH}, HdM X hds l → ∃ l' : List Hdl, HdA X hds l' ∧ ∀ {ρ : List Addr} {S : Addr → Prop} {σ : L2.St} {H : Hp} {sl : Slo} {st : Sto} {D : Ends} {cls : Value} {d : Option Addr} {x : Exn},
    Rp (gc X) ρ S sl st σ H → ExR (gc X) ρ S H cls d x → PostS (gc X) W ρ S H (handleM l x sl st) D → wAll X.K W D l' cls d σ H := by
  intro hds l h
  induction h with
  | nil => exact ⟨[], .nil, fun rp hx h => h _ _ _ _ _ _ .refl rp hx⟩
  | @only x c b₀ suite np pos' hds l hit m hc ht hsu r ih =>
    obtain ⟨l', h1, h2⟩ := ih
    refine ⟨.only c (fun _ _ _ => tDs (gc X) W0 m) :: l', .only hc (fun a oe cls d pn hz hf => hsu a oe cls d pn hz hf) h1, fun {ρ S σ H sl st D cls d x} rp hx h => ?_⟩
    unfold handleM at h
    cases e : hit.lookup x.cls with
    | none => simp only [e] at h; exact h.elim
    | some b =>
      have hb := ht.at e
      refine ⟨b, by rw [hx.1]; exact hb, fun hb1 a na => ?_, fun hb0 => ?_⟩
      · subst hb1
        simp only [e] at h
        refine ⟨ρ, S, sl, st, rp, ?_⟩
        cases e2 : m sl st with
        | stuck => rw [e2] at h; exact h
        | err _ _ _ => rw [e2] at h; exact h.elim
        | ok fl sl2 st2 => rw [e2] at h; exact h
      · subst hb0
        simp only [e] at h
        exact h2 rp hx h
  | @named x n i c b₀ suite np pos' hds l hit m hc ht hi hln hsu r ih =>
    obtain ⟨l', h1, h2⟩ := ih
    refine ⟨.named c i (fun a cls d => tXs (gc X) i a cls d m) :: l', .named hc hi hln (fun a oe cls d pn hz hf => hsu a oe cls d pn ⟨hi, .inl hln, oe, pn, rfl, hz, hf⟩) h1, fun {ρ S σ H sl st D cls d x} rp hx h => ?_⟩
    unfold handleM at h
    cases e : hit.lookup x.cls with
    | none => simp only [e] at h; exact h.elim
    | some b =>
      have hb := ht.at e
      refine ⟨b, by rw [hx.1]; exact hb, fun hb1 a na => ?_, fun hb0 => ?_⟩
      · subst hb1
        simp only [e] at h
        have rp2 : Rp (gc X) ρ S (sl.set i none) st (σ.set i (some (.ref a))) H := by
          refine ⟨rp.rep, by simp [rp.len], fun j y hj => ?_⟩
          rw [List.getElem?_set] at hj
          split at hj
          · split at hj <;> simp at hj
          · rename_i hne
            obtain ⟨v, q1, q2⟩ := rp.slot j y hj
            exact ⟨v, by rw [List.getElem?_set_ne hne]; exact q1, q2⟩
        by_cases hlt : i < sl.length
        · rw [if_pos hlt] at h
          rw [rp.len] at hlt
          refine ⟨ρ, S, sl.set i none, st, x, rp2, by rw [List.getElem?_set_self hlt], hx, ?_⟩
          cases e2 : m x (sl.set i none) st with
          | stuck => rw [e2] at h; exact h
          | err _ _ _ => rw [e2] at h; exact h.elim
          | ok fl sl2 st2 =>
            rw [e2] at h
            intro ρ' S' σ' H' E' rp'
            have rp3 : Rp (gc X) ρ' S' (sl2.set i none) st2 (σ'.set i none) H' := by
              refine ⟨rp'.rep, by simp [rp'.len], fun j y hj => ?_⟩
              rw [List.getElem?_set] at hj
              split at hj
              · split at hj <;> simp at hj
              · rename_i hne
                obtain ⟨v, q1, q2⟩ := rp'.slot j y hj
                exact ⟨v, by rw [List.getElem?_set_ne hne]; exact q1, q2⟩
            have q := h ρ' S' (σ'.set i none) H' E' rp3
            cases fl with
            | nx => exact q
            | bk => exact q
            | ct => exact q
            | rt z => exact q
        · rw [if_neg hlt] at h
          exact h.elim
      · subst hb0
        simp only [e] at h
        exact h2 rp hx h
theorem sd_try (hs : X.stack = X.env :: X.outer) (hf : X.env.frame = some X.env.locals) (hN : X.N.Nodup) (tk : Takes X W)
    (hb : ∀ (W : WX) (pn : List (Addr × Obj)) (xe : Value → Shared → Prop), Takes (X.tr pn xe) W → PassesOwn (model X.prog X.w) X.A X.env xe → SDs (X.tr pn xe) W body mb)
    (hh : HdM X (h₀ :: hds) l) : SD X W (.Try body (h₀ :: hds) [] [] pos) (sTry mb l) := by
  obtain ⟨l', h1, h2⟩ := hdm_all (W := W) hh
  refine ps_weak (ps_try_all (tb := fun W => tDs (gc X) W mb) hs hf hN tk hb h1) fun D σ H h => ?_
  obtain ⟨ρ, S, sl, st, rp, h⟩ := h
  refine ⟨ρ, S, sl, st, rp, ?_⟩
  unfold sTry at h
  cases e : mb sl st with
  | stuck => rw [e] at h; exact h
  | ok fl sl2 st2 => rw [e] at h; exact h
  | err x sl2 st2 =>
    rw [e] at h
    intro ρ' S' σ' H' cls d E' rp' hx
    exact h2 rp' hx (PostS.shift E' h)
end
end SM
set_option Elab.async false
set_option linter.all false
set_option maxRecDepth 100000
set_option maxHeartbeats 4000000
/-! SMM: defs by names; a law's end; what the head's look must tell. -/
namespace SM
open PySem PySem.Spec PyProof.Rows L2

/-! ### defs by names -/
structure FOk (P : Program) (w : World) (K : PySem.W.Frag) (mg : Str → Option Value) (base : Heap) (k : Nat) (x : Str) (n : Nat) (dxs : List Va) (M : MF) : Prop where
  ex : ∃ fd ps ds dvs, FnOk P w K mg base (L2.CX P w) k (He.ga K x) fd ps (spD ⟨P, w, K⟩ n M) ∧ Binds K fd ps ds ∧ Vals dvs ds ∧ ∀ ρ S H, Vrs ⟨P, w, K⟩ ρ S H dvs dxs
  kp : PySem.W.keepIn K (.ref (He.ga K x)) = true
  g : mg x = some (.ref (He.ga K x))
def LenA (ma : MA) (j : Nat) : Prop := ∀ sl st xs st', ma sl st = .ok xs st' → xs.length = j
theorem len0 : LenA mNil 0 := fun _ _ _ _ h => mNil_len h
theorem lenS {m : ME} {r : MA} {j : Nat} (h : LenA r j) : LenA (mCons m r) (j + 1) := mCons_len h
def mCallF (M : MF) (dxs : List Va) (ma : MA) : ME := mCall (fun xs => M (xs ++ dxs)) ma
section
variable {X : Cx} {W : WX} {k k' n j : Nat} {M : MF} {dxs : List Va} {x : Str} {p pos : Pos} {e : Expr} {es : List Expr} {ma : MA}
theorem ed_callF (F : FOk X.prog X.w X.K X.mg X.base k x n dxs M) (hr : Room k' X.A) (hk : k ≤ k') (tk : Takes X W) (hg : Gl X x) (ha : EA X W (e :: es) ma) (hl : LenA ma j) (hn : j + dxs.length = n) (hdb : (x == ("__debug__" : Str)) = false := by decide)
    (he : starEach (e :: es) X.env = (false, eval e X.env) :: starEach es X.env := by rfl) (hpl : (backTo pos (starEach es X.env)).any (·.1) = false := by rfl) : ED X W (.Call (.Name x p) (e :: es) [] pos) (mCallF M dxs ma) := by
  obtain ⟨fd, ps, ds, dvs, F1, F2, F3, F4⟩ := F.ex
  exact ed_call dxs F1 (hr.mono hk) tk hg F.g F.kp F2 F3 F4 ha (fun sl st xs st' h => by rw [List.length_append, hl _ _ _ _ h, hn]) hdb he hpl
end
section
variable {P : Program} {w : World} {K : PySem.W.Frag} {mg : Str → Option Value} {base : Heap}
/-- a def without defaults -/
theorem fok {x qual : Str} {params : Arguments} {body : List Stmt} {scope : Scope} {N ps : List Str} {k : Nat} {s : MS} (F : ∃ fd, FunD K x qual params body scope [] [] (He.ga K x) fd) (g : mg x = some (.ref (He.ga K x))) (Sc : FnScope N ps scope)
    (hb : ∀ (dV kV doc pm : Value) (an : Option Addr) (cdv ct : Value) (us : List Value), us.length = ps.length → bindArgs (PySem.W.fnOf x qual params body scope .none kV doc pm an cdv ct) ⟨us, []⟩ = pure (ps.zip us))
    (hbody : ∀ (cdv : Value) (A : Around) (outer : List Env) (sh : Shared) (H : Hp) (E : XK),
      BodyOk (cxOf (L2.CX P w) P w K mg base N qual scope (He.ga K x) cdv A outer sh H E) (fun cls d _ H' => E cls d H') k → SDs (cxOf (L2.CX P w) P w K mg base N qual scope (He.ga K x) cdv A outer sh H E) (fun cls d _ H' => E cls d H') body s) :
    FOk P w K mg base (k + 1) x ps.length [] (mBody N.length s) := by
  obtain ⟨fd, F⟩ := F
  refine ⟨⟨fd, ps, [], [], fn_ok F Sc hbody, ?_, .nil, fun _ _ _ => .nil⟩, F.kp, g⟩
  obtain ⟨oc, od, dV, kV, doc, pm, an, cdv, ct, osl, rfl, lk, hcd, hd, hk⟩ := F.ex
  have ed : dV = .none := by
    rcases hd with ⟨_, h⟩ | ⟨h, _⟩
    · exact h
    · exact absurd rfl h
  subst ed
  exact Binds.all fun us hl => hb .none kV doc pm an cdv ct us hl
end

/-- the law's def, whatever the base -/
theorem fokL {P : Program} {w : World} {K : PySem.W.Frag} {mg : Str → Option Value} {x y qual : Str} {params : Arguments} {body : List Stmt} {scope : Scope} {N : List Str} {k : Nat} {s : MS} (F : ∃ fd, FunD K x qual params body scope [] [] (He.ga K x) fd) (Sc : FnScope N [y] scope)
    (hb : ∀ (dV kV doc pm : Value) (an : Option Addr) (cdv ct : Value) (us : List Value), us.length = ([y] : List Str).length → bindArgs (PySem.W.fnOf x qual params body scope .none kV doc pm an cdv ct) ⟨us, []⟩ = pure (([y] : List Str).zip us))
    (hbody : ∀ (base : Heap) (cdv : Value) (A : Around) (outer : List Env) (sh : Shared) (H : Hp) (E : XK),
      BodyOk (cxOf (L2.CX P w) P w K mg base N qual scope (He.ga K x) cdv A outer sh H E) (fun cls d _ H' => E cls d H') k → SDs (cxOf (L2.CX P w) P w K mg base N qual scope (He.ga K x) cdv A outer sh H E) (fun cls d _ H' => E cls d H') body s) :
    ∃ fd, (∀ (sh : Shared) (u : Value), BindsTo sh fd ⟨[u], []⟩ [(y, u)]) ∧ ∀ base : Heap, FnOk P w K mg base (L2.CX P w) (k + 1) (He.ga K x) fd [y] (spD ⟨P, w, K⟩ 1 (mBody N.length s)) := by
  obtain ⟨fd, F⟩ := F
  have b := FunD.bindsA (ps := [y]) F fun kV doc pm an cdv ct us hl => hb .none kV doc pm an cdv ct us hl
  exact ⟨fd, fun sh u => b sh [u] rfl, fun base => fn_ok F Sc (hbody base)⟩
/-! ### the law's end -/
theorem vr_script {G : Gc} {H : Hp} {a : Addr} {ns : List Int} (h : SqL G.K H a (ns.map V.int)) : ∃ S : Addr → Prop, Rep G [] S [] H ∧ Vr G [] S H (.ref a) (.fz (ns.map .int)) := by
  rcases h with h | h
  · have ex : ∃ o, H a = some o := by
      rcases h with h | ⟨o, h⟩
      · exact ⟨_, h⟩
      · exact ⟨_, h⟩
    refine ⟨fun b => b = a, ⟨rfl, fun i j b e => by simp at e, fun i b e => by simp at e, fun i b o e => by simp at e, fun b e => by rw [e]; exact ex⟩, .fz (.inl ⟨rfl, h⟩) (by simp) (vrs_ints).2⟩
  · exact ⟨fun _ => False, ⟨rfl, fun i j b e => by simp at e, fun i b e => by simp at e, fun i b o e => by simp at e, fun b e => e.elim⟩, .fz (.inr h) (by simp) (vrs_ints).2⟩
theorem law_end {l : PySem.W.OpenLaw} {n k : Nat} {q : Program} {loose : List Str} {XP : (Str → Option Value) → Heap → Prop} {YP : World → Heap → Prop} {d : DefRec} {x : Str} {M : Gc → MF}
    (hn : l.most = some n) (hn2 : n ≤ sizeLine) (hdf : d.params.defaults = []) (hr : Room k callerA)
    (F : ∀ (w : World) (mg : Str → Option Value) (fa : Addr) (h : Heap), YP w h → h.Ns mainGlobals mg → mg d.name = some (.ref fa) →
      ∃ (K : PySem.W.Frag) (fd : FuncData), K.In h ∧ (∀ (s : Shared) (u : Value), BindsTo s fd ⟨[u], []⟩ [(x, u)]) ∧
        ∀ base : Heap, K.In base → base.Ns mainGlobals mg → FnOk l.prog w K mg base (L2.CX l.prog w) k fa fd [x] (spD ⟨l.prog, w, K⟩ 1 (M ⟨l.prog, w, K⟩)))
    (hM : ∀ (G : Gc) (ns : List Int), ns.length ≤ n → ∃ st, M G [.fz (ns.map .int)] [] = .ok (.bl true) st) :
    PySem.W.WalkO q loose XP YP l.row.toRowW d [] (fun f vs => PySem.call f vs) := by
  refine Att.attach_call hn hdf fun w s₀ s₁ mg mb fa o pm cd doc a vs ns G Y ho hd hcd hmg hobj hints hlen hg => ?_
  obtain ⟨K, fd, KX, hb, hF⟩ := F w mg fa _ Y G.T.g hmg
  refine law_call KX G.T.g G.T.b G.T.builtins G.T.nolimit hg hobj hints (Nat.le_trans hlen hn2) hr hF hb (fun H hO hS => ?_) fun H e s' c => ?_
  · obtain ⟨S, R, rv⟩ := vr_script (G := ⟨l.prog, w, K⟩) hS
    obtain ⟨st, e⟩ := hM ⟨l.prog, w, K⟩ ns hlen
    refine ⟨[], S, [], [.fz (ns.map .int)], rfl, R, .cons rv .nil, ?_⟩
    rw [e]
    intro ρ' S' H' v E' R' r'
    cases r'
    rfl
  · obtain ⟨_, _, _, _, _, _, _, _, _, _, _, _, h⟩ := c
    exact h.elim
/-- the def of the law, by its name -/
theorem law_def {P : Program} {w : World} {K : PySem.W.Frag} {mg : Str → Option Value} {k : Nat} {x y : Str} {fa : Addr} {M : MF} (F : ∃ fd, (∀ (s : Shared) (u : Value), BindsTo s fd ⟨[u], []⟩ [(y, u)]) ∧ ∀ base : Heap, K.In base → base.Ns mainGlobals mg → FnOk P w K mg base (L2.CX P w) k (He.ga K x) fd [y] (spD ⟨P, w, K⟩ 1 M))
    (g : mg x = some (.ref (He.ga K x))) (h : mg x = some (.ref fa)) : ∃ fd, (∀ (s : Shared) (u : Value), BindsTo s fd ⟨[u], []⟩ [(y, u)]) ∧ ∀ base : Heap, K.In base → base.Ns mainGlobals mg → FnOk P w K mg base (L2.CX P w) k fa fd [y] (spD ⟨P, w, K⟩ 1 M) := by
  have e := g.symm.trans h
  cases e
  exact F
end SM
set_option Elab.async false
set_option linter.all false
set_option maxRecDepth 100000
set_option maxHeartbeats 4000000
/-! SMN: what the head's look tells, as Bools. -/
namespace SM
open PySem PySem.Spec PyProof.Rows L2 NdefX

/-! ### classes of errors -/
structure InD where
  cls : Str
  params : Arguments
  body : List Stmt
  scope : Scope
  qual : Str
abbrev FnI : Type := Option (Str × Str × Arguments × FuncBody × Scope × Addr × List Str × Addr)
def iAd (K : PySem.W.Frag) (c : Str) : Addr := He.ma K (He.ga K c) "__init__"
def fnI (K : PySem.W.Frag) (c : Str) : FnI := match K.lookup (iAd K c) with
  | some ⟨_, _, .func fd, _⟩ => some (fd.name, fd.qualname, fd.params, fd.body, fd.scope, fd.globals, fd.closure.map (·.1), fd.builtins)
  | _ => none
def InD.val (d : InD) : FnI := some ("__init__", d.qual, d.params, .stmts d.body, d.scope, mainGlobals, [("__class__" : Str)], builtinsNs)
def slB : List (Option Value) → Bool
  | [_, _, _, _, some (.builtin n), _] => decide (n = "ValueError.__new__")
  | _ => false
theorem slB_ok {l : List (Option Value)} (h : slB l = true) : ∃ k0 k1 k2 k3 k5, l = [k0, k1, k2, k3, some (.builtin "ValueError.__new__"), k5] := by
  unfold slB at h
  split at h
  · rename_i k0 k1 k2 k3 n k5
    have e : n = "ValueError.__new__" := of_decide_eq_true h
    rw [e]
    exact ⟨k0, k1, k2, k3, k5, rfl⟩
  · cases h
def clsB (K : PySem.W.Frag) (C : Addr) : Bool := match K.lookup C with
  | some ⟨.type t, _, .cls cd, sl⟩ => decide (t = "type") && (cd.hasDict && (!cd.hasDel && ((match cd.mro with
      | .ref C' :: bm => decide (C' = C) && PySem.HandSPX.refsVE bm
      | _ => false) && slB sl.toList)))
  | _ => false
def oexB (K : PySem.W.Frag) (C : Addr) : Bool := clsB K C && (He.eqO (PySem.W.findIn K (.ref C) "__setattr__") (some (some (.builtin "object.__setattr__"))) && (decide (PySem.W.subIn K (.ref C) (.type "BaseException") = some true) &&
  (decide (PySem.W.typeIn K (.ref C) = some (.type "type")) && PySem.W.keepIn K (.ref C))))
theorem oexB_ok {K : PySem.W.Frag} {C : Addr} (h : oexB K C = true) : OexC K C := by
  obtain ⟨h1, h⟩ := He.ba h
  obtain ⟨h2, h⟩ := He.ba h
  obtain ⟨h3, h⟩ := He.ba h
  obtain ⟨h4, h5⟩ := He.ba h
  refine ⟨?_, He.eqO_ok h2, of_decide_eq_true h3, of_decide_eq_true h4, h5⟩
  unfold clsB at h1
  cases q : K.lookup C with
  | none => rw [q] at h1; cases h1
  | some o =>
    obtain ⟨oc, od, dt, sl⟩ := o
    rw [q] at h1
    cases oc with
    | type t =>
      cases dt with
      | cls cd =>
        obtain ⟨nm, bs, mro, ns, qn, hd, sn, sub, ab, col, del⟩ := cd
        dsimp only at h1
        obtain ⟨g1, h1⟩ := He.ba h1
        obtain ⟨g2, h1⟩ := He.ba h1
        obtain ⟨g3, h1⟩ := He.ba h1
        obtain ⟨g4, g5⟩ := He.ba h1
        have e1 : t = "type" := of_decide_eq_true g1
        subst e1
        have e2 : hd = true := g2
        subst e2
        have e3 : del = false := by simpa using g3
        subst e3
        cases mro with
        | nil => cases g4
        | cons v bm =>
          cases v with
          | ref C' =>
            obtain ⟨g6, g7⟩ := He.ba (show (decide (C' = C) && PySem.HandSPX.refsVE bm) = true from g4)
            have e4 : C' = C := of_decide_eq_true g6
            subst e4
            obtain ⟨l⟩ := sl
            obtain ⟨k0, k1, k2, k3, k5, hl⟩ := slB_ok g5
            have hl : l = [k0, k1, k2, k3, some (.builtin "ValueError.__new__"), k5] := hl
            subst hl
            exact ⟨nm, qn, ns, bs, bm, sn, sub, ab, col, od, k0, k1, k2, k3, k5, rfl, g7⟩
          | _ => cases g4
      | _ => cases h1
    | _ => cases dt <;> cases h1
def noneB : Value → Bool
  | .none => true
  | _ => false
theorem noneB_ok {v : Value} (h : noneB v = true) : v = .none := by cases v <;> first | rfl | cases h
/-- the def's code object knows the file -/
def fldB (vs : Array Value) (file : Str) : Bool := match (vs[2]? : Option Value) with
  | some (.str fl _) => decide (file = fl)
  | _ => false
def fileB (K : PySem.W.Frag) (c : Addr) (file : Str) : Bool := match K.lookup c with
  | some ⟨_, _, .fields vs, _⟩ => fldB vs file
  | _ => false
def cellB (K : PySem.W.Frag) (cc C : Addr) : Bool := match K.lookup cc with
  | some ⟨_, _, .cell (some (.ref C')), _⟩ => decide (C' = C)
  | _ => false
def alongB (K : PySem.W.Frag) (C : Addr) : Bool := match PySem.W.clsIn K C with
  | some cd => He.eqO (PySem.W.alongIn K "__init__" ((cd.mro.dropWhile (· != .ref C)).drop 1)) (some (some (.builtin "ValueError.__init__")))
  | none => false
def inB (K : PySem.W.Frag) (file : Str) (d : InD) : Bool := oexB K (He.ga K d.cls) && (alongB K (He.ga K d.cls) && (decide (PySem.W.subIn K (.ref (He.ga K d.cls)) (.type "ValueError") = some true) && (decide (PySem.W.mroIn K (He.ga K d.cls) (.ref (He.ga K d.cls)) = some true) &&
  (He.eqO (PySem.W.nsIn K cStatics "thirdparty.any") (some none) && (He.eqO (PySem.W.findIn K (.ref (He.ga K d.cls)) "__init__") (some (some (.ref (iAd K d.cls)))) && (decide (PySem.W.typeIn K (.ref (iAd K d.cls)) = some (.type "function")) &&
  (match K.lookup (iAd K d.cls) with
    | some ⟨_, _, .func fd, _⟩ => noneB fd.defaults && (noneB fd.kwdefaults && ((match fd.code with
        | .ref c => PySem.W.codeIn K (.ref c) d.qual && fileB K c file
        | _ => false) && (match fd.closure with
        | [(_, cc)] => cellB K cc (He.ga K d.cls)
        | _ => false)))
    | _ => false)))))))
/-- what exi_ok asks of such a class -/
structure InC (P : Program) (K : PySem.W.Frag) (d : InD) (c cc : Addr) (doc pm : Value) (an : Option Addr) (ctv : Value) : Prop where
  sup : SupC P K (He.ga K d.cls) (iAd K d.cls) c cc d.qual
  lk : ∃ oc od osl, K.lookup (iAd K d.cls) = some ⟨oc, od, .func (PySem.W.fnX "__init__" d.qual d.params d.body d.scope [(("__class__" : Str), cc)] .none .none doc pm an (.ref c) ctv), osl⟩
  iC : PySem.W.findIn K (.ref (He.ga K d.cls)) "__init__" = some (some (.ref (iAd K d.cls)))
  tI : PySem.W.typeIn K (.ref (iAd K d.cls)) = some (.type "function")
theorem in_ok {P : Program} {K : PySem.W.Frag} {d : InD} (e : fnI K d.cls = d.val) (h : inB K P.main.file d = true) (ht : (P.main.scope.names.lookup ("super" : Str)).isSome = false) : ∃ c cc doc pm an ctv, InC P K d c cc doc pm an ctv := by
  unfold inB at h
  obtain ⟨h1, h⟩ := He.ba h
  obtain ⟨h2, h⟩ := He.ba h
  obtain ⟨h3, h⟩ := He.ba h
  obtain ⟨h4, h⟩ := He.ba h
  obtain ⟨h5, h⟩ := He.ba h
  obtain ⟨h6, h⟩ := He.ba h
  obtain ⟨h7, h⟩ := He.ba h
  unfold fnI at e
  cases q : K.lookup (iAd K d.cls) with
  | none => rw [q] at h; cases h
  | some o =>
    obtain ⟨oc, od, dt, osl⟩ := o
    rw [q] at h e
    cases dt with
    | func fd =>
      obtain ⟨n1, n2, n3, n4, n5, n6, n7, n8, n9, n10, n11, n12, n13, n14, n15⟩ := fd
      have e2 : (some (n1, n2, n3, n4, n5, n6, n7.map (·.1), n15) : FnI) = some (("__init__" : Str), d.qual, d.params, FuncBody.stmts d.body, d.scope, mainGlobals, [("__class__" : Str)], builtinsNs) := e
      simp only [Option.some.injEq, Prod.mk.injEq] at e2
      obtain ⟨rfl, rfl, rfl, rfl, rfl, rfl, ecl, rfl⟩ := e2
      dsimp only at h
      obtain ⟨g1, h⟩ := He.ba h
      obtain ⟨g2, h⟩ := He.ba h
      obtain ⟨g3, g4⟩ := He.ba h
      obtain rfl := noneB_ok g1
      obtain rfl := noneB_ok g2
      cases n13 with
      | ref c =>
        dsimp only at g3
        obtain ⟨g5, g6⟩ := He.ba g3
        match n7, ecl, g4 with
        | [(nm, cc)], ecl, g4 =>
          have en : nm = ("__class__" : Str) := by simpa using ecl
          subst en
          refine ⟨c, cc, n10, n11, n12, n14, ⟨?_, ⟨oc, od, osl, q⟩, He.eqO_ok h6, of_decide_eq_true h7⟩⟩
          refine ⟨oexB_ok h1, ?_, of_decide_eq_true h3, of_decide_eq_true h4, He.eqO_ok h5, g5, ?_, ?_, ht⟩
          · unfold alongB at h2
            cases q2 : PySem.W.clsIn K (He.ga K d.cls) with
            | none => rw [q2] at h2; cases h2
            | some cd => rw [q2] at h2; exact ⟨cd, rfl, He.eqO_ok h2⟩
          · unfold fileB at g6
            cases q2 : K.lookup c with
            | none => rw [q2] at g6; cases g6
            | some o2 =>
              obtain ⟨ccl, cdd, dt2, ccs⟩ := o2
              rw [q2] at g6
              cases dt2 with
              | fields vs =>
                have g6 : fldB vs P.main.file = true := g6
                unfold fldB at g6
                cases q3 : vs[2]? with
                | none => rw [q3] at g6; cases g6
                | some v =>
                  rw [q3] at g6
                  cases v with
                  | str fl tf =>
                    have ef : P.main.file = fl := of_decide_eq_true g6
                    refine ⟨ccl, cdd, vs, ccs, fl, tf, rfl, q3, ?_⟩
                    rw [ef]
                    exact beq_self_eq_true _
                  | _ => cases g6
              | _ => cases g6
          · have g4 : cellB K cc (He.ga K d.cls) = true := g4
            unfold cellB at g4
            cases q2 : K.lookup cc with
            | none => rw [q2] at g4; cases g4
            | some o2 =>
              obtain ⟨ccl, cdd, dt2, ccs⟩ := o2
              rw [q2] at g4
              cases dt2 with
              | cell v =>
                cases v with
                | none => cases g4
                | some v =>
                  cases v with
                  | ref C' =>
                    have eC : C' = He.ga K d.cls := of_decide_eq_true g4
                    subst eC
                    exact ⟨ccl, cdd, ccs, rfl⟩
                  | _ => cases g4
              | _ => cases g4
      | _ => cases g3
    | _ => cases h

/-! ### the tables -/
def excCB (K : PySem.W.Frag) (D : Addr) : Bool := He.eqO (PySem.W.findIn K (.ref D) "__getattribute__") (some (some (.builtin "BaseException.__getattribute__"))) && (He.eqO (PySem.W.findIn K (.ref D) "__getattr__") (some none) && (decide (PySem.W.subIn K (.ref D) (.type "BaseException") = some true) &&
  (PySem.W.hasDictIn K D && (He.eqO (PySem.W.findIn K (.ref D) "__class__") (some (some (.builtin "object.__class__"))) && (He.eqO (PySem.W.specialIn K (.builtin "object.__class__") "__get__") (some (some (.builtin "getset_descriptor.__get__"))) &&
  (decide (PySem.W.takesIn K (.builtin "object.__class__") = some true) && decide (PySem.W.mroIn K D (.type "object") = some true)))))))
theorem excCB_ok {K : PySem.W.Frag} {D : Addr} (h : excCB K D = true) : ExcC K D := by
  obtain ⟨h1, h⟩ := He.ba h
  obtain ⟨h2, h⟩ := He.ba h
  obtain ⟨h3, h⟩ := He.ba h
  obtain ⟨h4, h⟩ := He.ba h
  obtain ⟨h5, h⟩ := He.ba h
  obtain ⟨h6, h⟩ := He.ba h
  obtain ⟨h7, h8⟩ := He.ba h
  exact ⟨He.eqO_ok h1, He.eqO_ok h2, of_decide_eq_true h3, h4, He.eqO_ok h5, He.eqO_ok h6, of_decide_eq_true h7, of_decide_eq_true h8⟩
def insCB (K : PySem.W.Frag) (D : Addr) : Bool := PySem.W.plainGet K D Str.empty && (PySem.W.hasDictIn K D && (PySem.W.plainOver K D && (He.eqO (PySem.W.findIn K (.ref D) "__setattr__") (some (some (.builtin "object.__setattr__"))) &&
  (He.eqO (PySem.W.findIn K (.ref D) "__class__") (some (some (.builtin "object.__class__"))) && (He.eqO (PySem.W.specialIn K (.builtin "object.__class__") "__get__") (some (some (.builtin "getset_descriptor.__get__"))) &&
  (decide (PySem.W.takesIn K (.builtin "object.__class__") = some true) && decide (PySem.W.mroIn K D (.type "object") = some true)))))))
theorem insCB_ok {K : PySem.W.Frag} {D : Addr} (h : insCB K D = true) : InsC K D := by
  obtain ⟨h1, h⟩ := He.ba h
  obtain ⟨h2, h⟩ := He.ba h
  obtain ⟨h3, h⟩ := He.ba h
  obtain ⟨h4, h⟩ := He.ba h
  obtain ⟨h5, h⟩ := He.ba h
  obtain ⟨h6, h⟩ := He.ba h
  obtain ⟨h7, h8⟩ := He.ba h
  exact ⟨⟨h1, h2, h3, He.eqO_ok h4⟩, He.eqO_ok h5, He.eqO_ok h6, of_decide_eq_true h7, of_decide_eq_true h8⟩
def isiB (K : PySem.W.Frag) (I : Isi) : Bool := (I.exl.all fun c => excCB K (He.ga K c)) && ((I.inl.all fun c => insCB K (He.ga K c)) && I.tab.all fun p => decide (PySem.W.kitOne K (p.1.v K) (p.2.1.v K) = some p.2.2))
theorem isiB_ok {K : PySem.W.Frag} {I : Isi} (h : isiB K I = true) : I.Ok K := by
  obtain ⟨h1, h⟩ := He.ba h
  obtain ⟨h2, h3⟩ := He.ba h
  exact ⟨fun c hc => excCB_ok (List.all_eq_true.mp h1 c hc), fun c hc => insCB_ok (List.all_eq_true.mp h2 c hc), fun p hp => of_decide_eq_true (List.all_eq_true.mp h3 p hp)⟩
def xfTB (K : PySem.W.Frag) (tab : List (Str × Str)) : Bool := tab.all fun p => xfB K (He.ga K p.1) && He.eqO (PySem.W.findIn K (.ref (He.ga K p.1)) p.2) (some none)
theorem xfTB_ok {K : PySem.W.Frag} {tab : List (Str × Str)} (h : xfTB K tab = true) : XfOk K tab := ⟨fun p hp => by
  obtain ⟨h1, h2⟩ := He.ba (List.all_eq_true.mp h p hp)
  exact ⟨xfB_ok h1, He.eqO_ok h2⟩⟩
def hitB (K : PySem.W.Frag) (C : Str) (hit : Hit) : Bool := hit.all fun p => decide (PySem.W.exmOne K (.ref (He.ga K p.1)) (.ref (He.ga K C)) = some p.2)
theorem hitB_ok {K : PySem.W.Frag} {C : Str} {hit : Hit} (h : hitB K C hit = true) : HitOk K (.ref (He.ga K C)) hit := fun p hp => of_decide_eq_true (List.all_eq_true.mp h p hp)
def hitTB (K : PySem.W.Frag) (C : String) (hit : Hit) : Bool := hit.all fun p => decide (PySem.W.exmOne K (.ref (He.ga K p.1)) (.type C) = some p.2)
theorem hitTB_ok {K : PySem.W.Frag} {C : String} {hit : Hit} (h : hitTB K C hit = true) : HitOk K (.type C) hit := fun p hp => of_decide_eq_true (List.all_eq_true.mp h p hp)
theorem mkO_of {K : PySem.W.Frag} {x : Str} (h : (He.Fa.exc x).ok K = true) : MkO K x := by
  obtain ⟨h1, h2, h3, h4⟩ := He.exc_ok h
  exact ⟨h1, h2, h3, h4⟩
def noatB (K : PySem.W.Frag) (l : List (Str × Str)) : Bool := l.all fun p => He.eqO (PySem.W.findIn K (.ref (He.ga K p.1)) p.2) (some none)
theorem noatB_ok {K : PySem.W.Frag} {l : List (Str × Str)} (h : noatB K l = true) {p : Str × Str} (hp : p ∈ l) : PySem.W.findIn K (.ref (He.ga K p.1)) p.2 = some none := He.eqO_ok (List.all_eq_true.mp h p hp)

/-! ### the Hook -/
/-- what a law's look goes through: the module's names, the classes' dicts, the functions' code and cells -/
def dictR (o : Obj) : List Addr := match o.data with
  | .dict es _ => es.toList.flatMap fun e => He.refV e.val
  | _ => []
def partR (o : Obj) : List Addr := match o.data with
  | .func fd => He.refV fd.code ++ fd.closure.map (·.2)
  | .cls cd => [cd.ns]
  | _ => []
def viaG (g : Addr → Option Obj) (f : Obj → List Addr) (as : List Addr) : List Addr := as.flatMap fun a => match g a with
  | some o => f o
  | none => []
def asM (g : Addr → Option Obj) : List Addr :=
  let l1 := viaG g dictR [mainGlobals]
  let l2 := viaG g partR l1
  let l3 := viaG g dictR l2
  cStatics :: mainGlobals :: (l1 ++ (l2 ++ (l3 ++ viaG g partR l3)))
abbrev AlM : Type := He.AlD × List FnI × Bool
def obsM (fa : List He.Fa) (fn : List He.DefD) (ins : List InD) (ex : PySem.W.Frag → Bool) (K : PySem.W.Frag) : AlM := (He.obsD fa fn K, ins.map fun d => fnI K d.cls, ex K)
def valM (fn : List He.DefD) (ins : List InD) : AlM := (He.valD fn, ins.map InD.val, true)
def SaysM (fa : List He.Fa) (fn : List He.DefD) (ins : List InD) (ex : PySem.W.Frag → Bool) (K : PySem.W.Frag) : Prop := obsM fa fn ins ex K = valM fn ins
def obsMG (fa : List He.Fa) (fn : List He.DefD) (ins : List InD) (ex : PySem.W.Frag → Bool) (g : Addr → Option Obj) : AlM := obsM fa fn ins ex (He.frG g (asM g))
def hookM (fa : List He.Fa) (fn : List He.DefD) (ins : List InD) (ex : PySem.W.Frag → Bool) : PySem.W.Hook where
  α := AlM
  obs := fun s => obsMG fa fn ins ex s.heap.get?
  val := fun _ => valM fn ins
  says := fun _ h => ∃ K : PySem.W.Frag, K.In h ∧ SaysM fa fn ins ex K
  of := fun _ _ e => ⟨_, He.frG_in, e⟩
  keeps := fun _ _ _ ⟨K, hK, c⟩ k => ⟨K, PySem.W.Frag.In.keeps hK k, c⟩
theorem obsMG_eq {fa : List He.Fa} {fn : List He.DefD} {ins : List InD} {ex : PySem.W.Frag → Bool} {g : Addr → Option Obj} {s : Shared} (h : ∀ a, g a = s.heap.get? a) : obsMG fa fn ins ex g = (hookM fa fn ins ex).obs s := by
  have e : g = s.heap.get? := funext h
  rw [e] <;> rfl
section
variable {fa : List He.Fa} {fn : List He.DefD} {ins : List InD} {ex : PySem.W.Frag → Bool} {K : PySem.W.Frag}
theorem SaysM.d (c : SaysM fa fn ins ex K) : He.SaysD fa fn K := congrArg (fun z : AlM => z.1) c
theorem SaysM.more (c : SaysM fa fn ins ex K) : ex K = true := congrArg (fun z : AlM => z.2.2) c
theorem SaysM.ini (c : SaysM fa fn ins ex K) {d : InD} (h : d ∈ ins) : fnI K d.cls = d.val := by
  have e : ins.map (fun d => fnI K d.cls) = ins.map InD.val := congrArg (fun z : AlM => z.2.1) c
  exact List.map_inj_left.mp e d h
end
/-- what a law's walk may use: the written part, told of by a heap behind the top -/
structure Told (fa : List He.Fa) (fn : List He.DefD) (ins : List InD) (ex : PySem.W.Frag → Bool) (K : PySem.W.Frag) (mg : Str → Option Value) : Prop where
  at_ : ∃ h : Heap, K.In h ∧ h.Ns mainGlobals mg
  says : SaysM fa fn ins ex K
section
variable {fa : List He.Fa} {fn : List He.DefD} {ins : List InD} {ex : PySem.W.Frag → Bool} {K : PySem.W.Frag} {mg : Str → Option Value}
theorem Told.glo (c : Told fa fn ins ex K mg) (i : Nat) {x : Str} (h : fa[i]? = some (.glo x) := by rfl) : mg x = some (.ref (He.ga K x)) := by
  obtain ⟨_, h1, h2⟩ := c.at_
  exact He.glo_ok h1 h2 (c.says.d.fact i h)
theorem Told.free (c : Told fa fn ins ex K mg) (i : Nat) {x : Str} (h : fa[i]? = some (.free x) := by rfl) : mg x = none := by
  obtain ⟨_, h1, h2⟩ := c.at_
  exact He.free_ok h1 h2 (c.says.d.fact i h)
theorem Told.gstr (c : Told fa fn ins ex K mg) (i : Nat) {x z : Str} (h : fa[i]? = some (.str x z) := by rfl) : ∃ t, mg x = some (.str z t) := by
  obtain ⟨_, h1, h2⟩ := c.at_
  exact He.str_ok h1 h2 (c.says.d.fact i h)
theorem Told.gint (c : Told fa fn ins ex K mg) (i : Nat) {x : Str} {z : Int} (h : fa[i]? = some (.int x z) := by rfl) : ∃ t, mg x = some (.int z t) := by
  obtain ⟨_, h1, h2⟩ := c.at_
  exact He.int_ok h1 h2 (c.says.d.fact i h)
theorem Told.exc (c : Told fa fn ins ex K mg) (i : Nat) {x : Str} (h : fa[i]? = some (.exc x) := by rfl) : MkO K x := mkO_of (c.says.d.fact i h)
theorem Told.def_ (c : Told fa fn ins ex K mg) (i : Nat) {d : He.DefD} (h : fn[i]? = some d := by rfl) : ∃ fd, FunD K d.name d.qual d.params d.body d.scope (d.dvs K) (d.kws K) (He.fAd K d.at_) fd := c.says.d.def_ i h
theorem Told.init (c : Told fa fn ins ex K mg) {P : Program} (i : Nat) (hb : ins.all (inB K P.main.file) = true) (ht : (P.main.scope.names.lookup ("super" : Str)).isSome = false) {d : InD} (h : ins[i]? = some d := by rfl) : ∃ cd cc doc pm an ctv, InC P K d cd cc doc pm an ctv :=
  have hm : d ∈ ins := List.mem_of_getElem? h
  in_ok (c.says.ini hm) (List.all_eq_true.mp hb d hm) ht
end
/-- C's maker, whatever its address -/
def MkE (P : Program) (w : World) (K : PySem.W.Frag) (mg : Str → Option Value) (base : Heap) (c : Str) (flds : List Str) (k : Nat) : Prop := ∃ fI fd ps, MkX P w K mg base c flds k fI fd ps
section
variable {X : Cx} {W : WX} {k k' : Nat} {c x : Str} {flds : List Str} {e : Expr} {es : List Expr} {ma : MA} {p pos : Pos}
theorem ed_exoE (M : MkE X.prog X.w X.K X.mg X.base c flds k) (hr : Room k' X.A) (hk : k + 1 ≤ k') (hg : Gl X x) (hm : X.mg x = some (.ref (He.ga X.K c))) (ha : EA X W (e :: es) ma)
    (hdb : (x == ("__debug__" : Str)) = false := by decide) (he : starEach (e :: es) X.env = (false, eval e X.env) :: starEach es X.env := by rfl) (hpl : (backTo pos (starEach es X.env)).any (·.1) = false := by rfl) :
    ED X W (.Call (.Name x p) (e :: es) [] pos) (mExo c flds ma) := by
  obtain ⟨fI, fd, ps, M⟩ := M
  exact ed_exo M (hr.mono hk) hg hm ha hdb he hpl
theorem sd_raiseE (M : MkE X.prog X.w X.K X.mg X.base c flds k) (hc : X.calm = true) (tk : Takes X W) (hr : Room k' X.A) (hk : k + 1 ≤ k') (hg : Gl X x) (hm : X.mg x = some (.ref (He.ga X.K c))) (ha : EA X W (e :: es) ma) {pos' : Pos}
    (hdb : (x == ("__debug__" : Str)) = false := by decide) (he : starEach (e :: es) X.env = (false, eval e X.env) :: starEach es X.env := by rfl) (hpl : (backTo pos (starEach es X.env)).any (·.1) = false := by rfl) :
    SD X W (.Raise (some (.Call (.Name x p) (e :: es) [] pos)) none pos') (sRaise c flds ma) := by
  obtain ⟨fI, fd, ps, M⟩ := M
  exact sd_raise M hc tk (hr.mono hk) hg hm ha hdb he hpl
end
def clsBody (s : Stmt) : List Stmt := match s with
  | .ClassDef _ _ _ b _ _ _ _ _ _ _ => b
  | _ => []
end SM
set_option Elab.async false
set_option linter.all false
set_option maxRecDepth 100000
set_option maxHeartbeats 4000000
/-! SMP: walks over a list, a tuple or a text; sorted of both; methods by name. -/
namespace SM
open PySem PySem.Spec PyProof.Rows L2

def tSeq3 (K : PySem.W.Frag) (te : TE) : TI := fun σ H R => te σ H fun v H1 => (∃ x, v = .str x ∧ R (Its x) H1) ∨ (∃ a, v = .ref a ∧ (∃ xs, SqL K H1 a xs) ∧ R (Itl K a) H1) ∨ ∃ a, v = .ref a ∧ (∃ xs, SqT K H1 a xs) ∧ R (Itt K a) H1
theorem pi_seq {X : Cx} {tg e : Expr} {te : TE} (he : PE X e te) : PI X tg e (tSeq3 X.K te) := by
  refine ⟨fun pins s σ H R I h => ?_⟩
  refine thn (he.run pins s σ H _ I h) fun v s1 ⟨y, H1, I1, r1, q⟩ => ?_
  rcases q with ⟨x, rfl, q⟩ | ⟨a, rfl, ⟨xs, hq⟩, q⟩ | ⟨a, rfl, ⟨xs, hq⟩, q⟩
  · obtain ⟨t, rfl⟩ := r1
    cases ha : x.cps.all (· < 128)
    · exact wpAny_pyIter_wide ha (pi_one (tk := s1.toks) I1 _ (turn_str _ x t "str_iterator" (.inr rfl)) ⟨_, Heap.get?_push_size _ rfl, rfl, rfl⟩ q)
    · exact wpAny_pyIter_ascii ha (pi_one (tk := s1.toks) I1 _ (turn_str _ x t "str_ascii_iterator" (.inl rfl)) ⟨_, Heap.get?_push_size _ rfl, rfl, rfl⟩ q)
  · cases r1
    obtain ⟨its, rv, p, hz⟩ := I1.list hq
    exact wpAny_pyIter_list p.isList (pi_one (tk := s1.toks) I1 _ (turn_list a _) ⟨_, Heap.get?_push_size _ rfl, rfl, rfl⟩ q)
  · cases r1
    obtain ⟨its, rv, p, hz⟩ := I1.tuple hq
    exact wpAny_pyIter_tuple (show s1.heap.IsTuple a its.toArray from p) (pi_one (tk := s1.toks) I1 _ (turn_tuple a _) ⟨_, Heap.get?_push_size _ rfl, rfl, rfl⟩ q)
/-- over what is there: a text, a tuple, a list -/
def iAny (m : ME) : MI := fun sl st => (m sl st).bind fun x st1 => match x with
  | .str z => .ok (getS z) st1
  | .tup xs => .ok (getT xs) st1
  | x => match lookL st1 x with
    | some _ => .ok (getL x) st1
    | none => .stuck
section
variable {X : Cx} {W : WX} {tg : Expr}
theorem relI_str {ρ : List Addr} {S : Addr → Prop} {H : Hp} {z : Str} : relI (gc X) ρ S H (Its z) (getS z) := by
  intro ρ' S' st' H' i E' R'
  constructor
  · intro q
    have q : z.cps[i]?.map chrV = none := Option.some.inj q
    show z.cps.size ≤ i
    have q2 : z.cps[i]? = none := by simpa using q
    simpa using q2
  · intro y q
    have q : z.cps[i]?.map chrV = some y := Option.some.inj q
    cases e2 : z.cps[i]? with
    | none => rw [e2] at q; cases q
    | some c =>
      rw [e2] at q
      cases q
      have hi : i < z.cps.size := by
        obtain ⟨h1, _⟩ := Array.getElem?_eq_some_iff.mp e2
        exact h1
      refine ⟨hi, fun x H'' hy => ?_⟩
      obtain ⟨rfl, c', e3, rfl⟩ := hy
      rw [e2] at e3
      cases e3
      exact ⟨S', .refl, R', .str _⟩
theorem relI_tup {ρ : List Addr} {S : Addr → Prop} {H : Hp} {a : Addr} {xs : List Va} (r1 : Vr (gc X) ρ S H (.ref a) (.tup xs)) : relI (gc X) ρ S H (Itt X.K a) (getT xs) := by
  intro ρ' S' st' H' i E' R'
  obtain ⟨b, ws, hb, q1, q2⟩ := lookT_ok (r1.mono0 E') rfl
  cases hb
  constructor
  · intro q
    have hn : xs[i]? = none := Option.some.inj q
    exact ⟨ws, q1, by rw [q2.1]; exact List.getElem?_eq_none_iff.mp hn⟩
  · intro y q
    have hn : xs[i]? = some y := Option.some.inj q
    obtain ⟨w, hw, rw'⟩ := q2.get hn
    refine ⟨⟨ws, w, q1, hw⟩, fun x' H'' hy => ?_⟩
    obtain ⟨rfl, hy⟩ := hy
    have := hy ws q1
    rw [hw] at this
    cases this
    exact ⟨S', .refl, R', rw'⟩
theorem relI_list {ρ : List Addr} {S : Addr → Prop} {H : Hp} {a : Addr} {x : Va} (r1 : Vr (gc X) ρ S H (.ref a) x) : relI (gc X) ρ S H (Itl X.K a) (getL x) := by
  intro ρ' S' st' H' i E' R'
  constructor
  · intro q
    unfold getL at q
    cases e2 : lookL st' x with
    | none => rw [e2] at q; cases q
    | some ys =>
      rw [e2] at q
      obtain ⟨b, ws, hb, q1, q2⟩ := lookL_ok R' (r1.mono0 E') e2
      cases hb
      have hn : ys[i]? = none := Option.some.inj q
      exact ⟨ws, q1, by rw [q2.1]; exact List.getElem?_eq_none_iff.mp hn⟩
  · intro y q
    unfold getL at q
    cases e2 : lookL st' x with
    | none => rw [e2] at q; cases q
    | some ys =>
      rw [e2] at q
      obtain ⟨b, ws, hb, q1, q2⟩ := lookL_ok R' (r1.mono0 E') e2
      cases hb
      have hn : ys[i]? = some y := Option.some.inj q
      obtain ⟨w, hw, rw'⟩ := q2.get hn
      refine ⟨⟨ws, w, q1, hw⟩, fun x' H'' hy => ?_⟩
      obtain ⟨rfl, hy⟩ := hy
      have := hy ws q1
      rw [hw] at this
      cases this
      exact ⟨S', .refl, R', rw'⟩
theorem id_any {e : Expr} {m : ME} (h : ED X W e m) : ID X W tg e (iAny m) := by
  refine pi_weak (pi_seq h) fun σ H R h => ?_
  obtain ⟨ρ, S, sl, st, rp, h⟩ := h
  refine ⟨ρ, S, sl, st, rp, PostR.bind h fun x st1 ρ1 S1 H1 v E1 rp1 r1 h1 => ?_⟩
  have lst : ∀ ys, lookL st1 x = some ys → PostR (gc X) W (relI (gc X)) ρ1 S1 H1 sl σ (.ok (getL x) st1) R → (∃ x, v = .str x ∧ R (Its x) H1) ∨ (∃ a, v = .ref a ∧ (∃ xs, SqL X.K H1 a xs) ∧ R (Itl X.K a) H1) ∨ ∃ a, v = .ref a ∧ (∃ xs, SqT X.K H1 a xs) ∧ R (Itt X.K a) H1 := fun ys e h1 => by
    obtain ⟨a, vs, rfl, h2, h3⟩ := lookL_ok rp1.rep r1 e
    exact .inr (.inl ⟨a, rfl, ⟨vs, h2⟩, PostR.ok h1 rp1 (relI_list r1)⟩)
  have gen : ∀ h1 : PostR (gc X) W (relI (gc X)) ρ1 S1 H1 sl σ (match lookL st1 x with | some _ => .ok (getL x) st1 | none => .stuck) R, (∃ x, v = .str x ∧ R (Its x) H1) ∨ (∃ a, v = .ref a ∧ (∃ xs, SqL X.K H1 a xs) ∧ R (Itl X.K a) H1) ∨ ∃ a, v = .ref a ∧ (∃ xs, SqT X.K H1 a xs) ∧ R (Itt X.K a) H1 := fun h1 => by
    cases e1 : lookL st1 x with
    | none => rw [e1] at h1; exact h1.elim
    | some xs => rw [e1] at h1; exact lst xs e1 h1
  cases x with
  | str z =>
    cases r1
    exact .inl ⟨z, rfl, PostR.ok h1 rp1 relI_str⟩
  | tup xs =>
    obtain ⟨a, vs, rfl, h2, h3⟩ := lookT_ok r1 rfl
    exact .inr (.inr ⟨a, rfl, ⟨vs, h2⟩, PostR.ok h1 rp1 (relI_tup r1)⟩)
  | _ => exact gen h1
end

/-! ### sorted -/
def bSorted (c : Bool) : OpN := fun xs st => match bSortedS c xs st with
  | some r => some r
  | none => bSortedL c xs st
section
variable {X : Cx}
theorem cb_sorted {k : Nat} (c : Bool) (hr : Room k X.A) (hc : X.calm = true) : CallR X (.builtin "sorted") (rDN (gc X) (bSorted c)) := by
  intro pins s σ H vs us Q I r h
  obtain ⟨ρ, S, st, xs, R, rv, h⟩ := h
  unfold bSorted at h
  cases e : bSortedS c xs st with
  | some q =>
    rw [e] at h
    exact cb_sortedS c hr hc pins s σ H vs us Q I r ⟨ρ, S, st, xs, R, rv, by rw [e]; exact h⟩
  | none =>
    rw [e] at h
    exact cb_sortedL c hr pins s σ H vs us Q I r ⟨ρ, S, st, xs, R, rv, h⟩
end

/-! ### built-in names -/
theorem bt_len : bootBuiltins "len" = some (.builtin "len") := by decide +kernel
theorem bt_abs : bootBuiltins "abs" = some (.builtin "abs") := by decide +kernel
theorem bt_max : bootBuiltins "max" = some (.builtin "max") := by decide +kernel
theorem bt_min : bootBuiltins "min" = some (.builtin "min") := by decide +kernel
theorem bt_all : bootBuiltins "all" = some (.builtin "all") := by decide +kernel
theorem bt_any : bootBuiltins "any" = some (.builtin "any") := by decide +kernel
theorem bt_isinstance : bootBuiltins "isinstance" = some (.builtin "isinstance") := by decide +kernel
theorem bt_sorted : bootBuiltins "sorted" = some (.builtin "sorted") := by decide +kernel
theorem bt_sum : bootBuiltins "sum" = some (.builtin "sum") := by decide +kernel
theorem bt_iter : bootBuiltins "iter" = some (.builtin "iter") := by decide +kernel
theorem bt_next : bootBuiltins "next" = some (.builtin "next") := by decide +kernel
theorem bt_getattr : bootBuiltins "getattr" = some (.builtin "getattr") := by decide +kernel
theorem bt_ord : bootBuiltins "ord" = some (.builtin "ord") := by decide +kernel
theorem bt_chr : bootBuiltins "chr" = some (.builtin "chr") := by decide +kernel
theorem bt_repr : bootBuiltins "repr" = some (.builtin "repr") := by decide +kernel
theorem bt_int : bootBuiltins "int" = some (.type "int") := by decide +kernel
theorem bt_str : bootBuiltins "str" = some (.type "str") := by decide +kernel
theorem bt_list : bootBuiltins "list" = some (.type "list") := by decide +kernel
theorem bt_tuple : bootBuiltins "tuple" = some (.type "tuple") := by decide +kernel
theorem bt_bool : bootBuiltins "bool" = some (.type "bool") := by decide +kernel
theorem bt_dict : bootBuiltins "dict" = some (.type "dict") := by decide +kernel
theorem bt_set : bootBuiltins "set" = some (.type "set") := by decide +kernel
theorem bt_frozenset : bootBuiltins "frozenset" = some (.type "frozenset") := by decide +kernel
theorem bt_range : bootBuiltins "range" = some (.type "range") := by decide +kernel
theorem bt_ValueError : bootBuiltins "ValueError" = some (.type "ValueError") := by decide +kernel
theorem bt_TypeError : bootBuiltins "TypeError" = some (.type "TypeError") := by decide +kernel
theorem bt_KeyError : bootBuiltins "KeyError" = some (.type "KeyError") := by decide +kernel
theorem bt_IndexError : bootBuiltins "IndexError" = some (.type "IndexError") := by decide +kernel
theorem bt_enumerate : bootBuiltins "enumerate" = some (.type "enumerate") := by decide +kernel
theorem bt_zip : bootBuiltins "zip" = some (.type "zip") := by decide +kernel
theorem bt_reversed : bootBuiltins "reversed" = some (.type "reversed") := by decide +kernel
theorem bt_object : bootBuiltins "object" = some (.type "object") := by decide +kernel
theorem bt_super : bootBuiltins "super" = some (.type "super") := by decide +kernel
end SM
set_option Elab.async false
set_option linter.all false
set_option maxRecDepth 100000
set_option maxHeartbeats 4000000
/-! PL0: running a mirror: weakest conditions with named continuations. -/
namespace SM
open PySem PySem.Spec PyProof.Rows L2

abbrev QE := Exn → Sto → Prop
def wp {α : Type} (r : Rs α) (Q : α → Sto → Prop) (E : QE) : Prop := match r with
  | .ok x st => Q x st
  | .err e st => E e st
  | .stuck => False
abbrev QS := Fl → Slo → Sto → Prop
abbrev QES := Exn → Slo → Sto → Prop
def wpS (r : RsS) (Q : QS) (E : QES) : Prop := match r with
  | .ok fl sl st => Q fl sl st
  | .err e sl st => E e sl st
  | .stuck => False
def atE (E : QES) (sl : Slo) : QE := fun e st => E e sl st
def dropE (E : QE) : QES := fun e _ st => E e st
@[simp] theorem atE_at {E : QES} {sl : Slo} {e : Exn} {st : Sto} : atE E sl e st = E e sl st := (rfl)
@[simp] theorem dropE_at {E : QE} {sl : Slo} {e : Exn} {st : Sto} : dropE E e sl st = E e st := (rfl)
@[simp] theorem atE_drop {E : QE} {sl : Slo} : atE (dropE E) sl = E := (rfl)
def wpO (o : Option (Va × Sto)) (Q : Va → Sto → Prop) : Prop := match o with
  | some p => Q p.1 p.2
  | none => False
abbrev NoE : QE := fun _ _ => False
theorem wp_imp {α : Type} {r : Rs α} {Q Q' : α → Sto → Prop} {E E' : QE} (h : wp r Q E) (q : ∀ x st, Q x st → Q' x st) (e : ∀ x st, E x st → E' x st) : wp r Q' E' := by
  cases r with
  | ok x st => exact q _ _ h
  | err x st => exact e _ _ h
  | stuck => exact h
theorem wp_ok {α : Type} {r : Rs α} {Q : α → Sto → Prop} (h : wp r Q NoE) : ∃ x st, r = .ok x st ∧ Q x st := by
  cases r with
  | ok x st => exact ⟨x, st, rfl, h⟩
  | err x st => exact h.elim
  | stuck => exact h.elim
theorem wp_bind {α β : Type} {r : Rs α} {k : α → Sto → Rs β} {Q : β → Sto → Prop} {E : QE} : wp (r.bind k) Q E = wp r (fun x st => wp (k x st) Q E) E := by cases r <;> rfl
theorem wp_of {o : Option (Va × Sto)} {Q : Va → Sto → Prop} {E : QE} : wp (Rs.of o) Q E = wpO o Q := by cases o <;> rfl
@[simp] theorem wp_okE {α : Type} {x : α} {st : Sto} {Q : α → Sto → Prop} {E : QE} : wp (.ok x st) Q E = Q x st := (rfl)
@[simp] theorem wp_errE {α : Type} {x : Exn} {st : Sto} {Q : α → Sto → Prop} {E : QE} : wp (.err x st : Rs α) Q E = E x st := (rfl)
@[simp] theorem wp_stuckE {α : Type} {Q : α → Sto → Prop} {E : QE} : wp (.stuck : Rs α) Q E = False := (rfl)
@[simp] theorem wpS_okE {fl : Fl} {sl : Slo} {st : Sto} {Q : QS} {E : QES} : wpS (.ok fl sl st) Q E = Q fl sl st := (rfl)
@[simp] theorem wpO_some {x : Va} {st : Sto} {Q : Va → Sto → Prop} : wpO (some (x, st)) Q = Q x st := (rfl)
@[simp] theorem wpO_none {Q : Va → Sto → Prop} : wpO none Q = False := (rfl)

/-! ### continuations -/
abbrev KV := Va → Sto → Prop
def kBin2 (f : Op2) (x : Va) (Q : KV) : KV := fun y st => wpO (f x y st) Q
def kBin1 (f : Op2) (b : ME) (sl : Slo) (Q : KV) (E : QE) : KV := fun x st => wp (b sl st) (kBin2 f x Q) E
def kUn (f : Op1) (Q : KV) : KV := fun x st => wpO (f x st) Q
def kTru (Q : Bool → Sto → Prop) : KV := fun x st => match truOf st x with
  | some k => Q k st
  | none => False
def kAnd (b : MB) (sl : Slo) (Q : Bool → Sto → Prop) (E : QE) : Bool → Sto → Prop := fun k st => if k then wp (b sl st) Q E else Q false st
def kOr (b : MB) (sl : Slo) (Q : Bool → Sto → Prop) (E : QE) : Bool → Sto → Prop := fun k st => if k then Q true st else wp (b sl st) Q E
def kNot (Q : Bool → Sto → Prop) : Bool → Sto → Prop := fun k st => Q (!k) st
def kIfE (a b : ME) (sl : Slo) (Q : KV) (E : QE) : Bool → Sto → Prop := fun k st => if k then wp (a sl st) Q E else wp (b sl st) Q E
def kAndV (b : ME) (sl : Slo) (Q : KV) (E : QE) : KV := fun x st => match asBl x with
  | some true => wp (b sl st) Q E
  | some false => Q (.bl false) st
  | none => False
def kOrV (b : ME) (sl : Slo) (Q : KV) (E : QE) : KV := fun x st => match asBl x with
  | some true => Q (.bl true) st
  | some false => wp (b sl st) Q E
  | none => False
def kNotV (Q : KV) : KV := fun x st => match asBl x with
  | some k => Q (.bl (!k)) st
  | none => False
abbrev KA := List Va → Sto → Prop
def kCons2 (x : Va) (Q : KA) : KA := fun xs st => Q (x :: xs) st
def kCons1 (r : MA) (sl : Slo) (Q : KA) (E : QE) : KV := fun x st => wp (r sl st) (kCons2 x Q) E
def kLst (c : Bool) (Q : KV) : KA := fun xs st => xs.length ≤ sizeLine ∧ Q (mkL c xs st).1 (mkL c xs st).2
def kTup (Q : KV) : KA := fun xs st => xs.length ≤ sizeLine ∧ Q (.tup xs) st
def kCallN (f : OpN) (Q : KV) : KA := fun xs st => wpO (f xs st) Q
def kMeth2 (f : Va → OpN) (x : Va) (Q : KV) : KA := fun xs st => wpO (f x xs st) Q
def kMt (τ : Sto → Va → Bool) (f : Va → OpN) (ma : MA) (sl : Slo) (Q : KV) (E : QE) : KV := fun x st => τ st x = true ∧ wp (ma sl st) (kMeth2 f x Q) E
def kCallF (M : MF) (dxs : List Va) (Q : KV) (E : QE) : KA := fun xs st => wp (M (xs ++ dxs) st) Q E
def kPart (Q : Option Int → Sto → Prop) : KV := fun x st => match asInt x with
  | some i => Q (some i) st
  | none => False
def kSl3 (c : Bool) (x : Va) (lo : Option Int) (Q : KV) : Option Int → Sto → Prop := fun hi st => wpO (opSl c x lo hi st) Q
def kSl2 (c : Bool) (x : Va) (h : MO) (sl : Slo) (Q : KV) (E : QE) : Option Int → Sto → Prop := fun lo st => wp (h sl st) (kSl3 c x lo Q) E
def kSl1 (c : Bool) (l h : MO) (sl : Slo) (Q : KV) (E : QE) : KV := fun x st => wp (l sl st) (kSl2 c x h sl Q E) E
def kSortK (k : SK) (c : Bool) (Q : KV) : KV := fun x st => match lookL st x with
  | some ys => match sortV (skF st k) ys with
    | some zs => Q (mkL c zs st).1 (mkL c zs st).2
    | none => False
  | none => False
def kXf (tab : List (Str × Str)) (f : Str) (Q : KV) : KV := fun x st => match x with
  | .exo c fs => tab.contains (c, f) = true ∧ ∃ y, fs.lookup f = some y ∧ Q y st
  | _ => False
def kExo (c : Str) (flds : List Str) (Q : KV) : KA := fun xs st => fitX flds xs = true ∧ Q (.exo c (flds.zip xs).reverse) st
def kXi (I : Isi) (c : Str) (Q : KV) : KV := fun y st => wpO (isX I c y st) Q
/-! statements -/
def kSeq (b : MS) (Q : QS) (E : QES) : QS := fun fl sl st => match fl with
  | .nx => wpS (b sl st) Q E
  | fl => Q fl sl st
def kExp (sl : Slo) (Q : QS) : KV := fun _ st => Q .nx sl st
def kRet (sl : Slo) (Q : QS) : KV := fun x st => Q (.rt x) sl st
def kIf (a b : MS) (sl : Slo) (Q : QS) (E : QES) : Bool → Sto → Prop := fun k st => if k then wpS (a sl st) Q E else wpS (b sl st) Q E
def kAsg (i : Nat) (sl : Slo) (Q : QS) : KV := fun x st => Q .nx (sl.set i (some x)) st
def kAsgG (g : MG) (sl : Slo) (Q : QS) : KV := fun x st => match g x sl st with
  | some p => Q .nx p.1 p.2
  | none => False
def kBody (Q : KV) : QS := fun fl _ st => match fl with
  | .nx => Q .non st
  | .rt x => Q x st
  | _ => False
def kRaise (c : Str) (flds : List Str) (E : QE) : KA := fun xs st => fitX flds xs = true ∧ E ⟨c, (flds.zip xs).reverse⟩ st
def kFor (g : MG) (b : MS) (sl : Slo) (Q : QS) (E : QES) : Gt → Sto → Prop := fun get st => wpS (forL get g b fuel 0 sl st) Q E
def kR1 (Q : Gt → Sto → Prop) : KA := fun xs st => match xs with
  | [.int j] => lim62 j = true ∧ Q (SM.getR 0 j.toNat) st
  | _ => False
def kR2 (Q : Gt → Sto → Prop) : KA := fun xs st => match xs with
  | [.int i, .int j] => lim62 i = true ∧ lim62 j = true ∧ Q (SM.getR i (j - i).toNat) st
  | _ => False
def kIt (Q : Gt → Sto → Prop) : KV := fun x st => match x with
  | .str z => Q (getS z) st
  | .tup xs => Q (getT xs) st
  | x => match lookL st x with
    | some _ => Q (getL x) st
    | none => False
def wpC {α : Type} (r : Rs α) (Q : α → Sto → Prop) : Prop := match r with
  | .ok a st => Q a st
  | _ => False
def kC1 {α : Type} {G : Gc} (A : Acc α G) (g : MG) (t : MB) (vs : List Nat) (step : Slo → α → Sto → Rs α) (sl : Slo) (Q : KV) : Gt → Sto → Prop := fun get st =>
  wpC (cL get g t step vs fuel 0 sl A.nil st) fun a st2 => Q (A.fin a st2).1 (A.fin a st2).2

section
variable {Q : KV} {E : QE} {sl : Slo} {st : Sto} {QB : Bool → Sto → Prop} {QL : KA} {QX : QS}
@[simp] theorem wp_var {i : Nat} : wp (mVar i sl st) Q E = match sl[i]? with | some (some x) => Q x st | _ => False := by
  unfold mVar
  cases sl[i]? with
  | none => rfl
  | some o => cases o <;> rfl
@[simp] theorem wp_c {x : Va} : wp (mC x sl st) Q E = Q x st := (rfl)
@[simp] theorem wp_bin {f : Op2} {a b : ME} : wp (mBin f a b sl st) Q E = wp (a sl st) (kBin1 f b sl Q E) E := by
  simp only [mBin, wp_bind, wp_of]; rfl
@[simp] theorem k_bin1 {f : Op2} {b : ME} {x : Va} : kBin1 f b sl Q E x st = wp (b sl st) (kBin2 f x Q) E := (rfl)
@[simp] theorem k_bin2 {f : Op2} {x y : Va} : kBin2 f x Q y st = wpO (f x y st) Q := (rfl)
@[simp] theorem wp_un {f : Op1} {a : ME} : wp (mUn f a sl st) Q E = wp (a sl st) (kUn f Q) E := by simp only [mUn, wp_bind, wp_of]; rfl
@[simp] theorem k_un {f : Op1} {x : Va} : kUn f Q x st = wpO (f x st) Q := (rfl)
@[simp] theorem wp_tru {a : ME} : wp (mTru a sl st) QB E = wp (a sl st) (kTru QB) E := by
  simp only [mTru, wp_bind]
  congr 1
  funext x st1
  unfold kTru
  cases truOf st1 x <;> rfl
@[simp] theorem k_tru {x : Va} : kTru QB x st = match truOf st x with | some k => QB k st | none => False := (rfl)
@[simp] theorem wp_and {a b : MB} : wp (mAnd a b sl st) QB E = wp (a sl st) (kAnd b sl QB E) E := by
  simp only [mAnd, wp_bind]; congr 1; funext k st1; cases k <;> rfl
@[simp] theorem k_and {b : MB} {k : Bool} : kAnd b sl QB E k st = if k = true then wp (b sl st) QB E else QB false st := (rfl)
@[simp] theorem wp_or {a b : MB} : wp (mOr a b sl st) QB E = wp (a sl st) (kOr b sl QB E) E := by
  simp only [mOr, wp_bind]; congr 1; funext k st1; cases k <;> rfl
@[simp] theorem k_or {b : MB} {k : Bool} : kOr b sl QB E k st = if k = true then QB true st else wp (b sl st) QB E := (rfl)
@[simp] theorem wp_not {a : MB} : wp (mNot a sl st) QB E = wp (a sl st) (kNot QB) E := by simp only [mNot, wp_bind]; rfl
@[simp] theorem k_not {k : Bool} : kNot QB k st = QB (!k) st := (rfl)
@[simp] theorem wp_ifE {c : MB} {a b : ME} : wp (mIfE c a b sl st) Q E = wp (c sl st) (kIfE a b sl Q E) E := by
  simp only [mIfE, wp_bind]; congr 1; funext k st1; cases k <;> rfl
@[simp] theorem k_ifE {a b : ME} {k : Bool} : kIfE a b sl Q E k st = if k = true then wp (a sl st) Q E else wp (b sl st) Q E := (rfl)
@[simp] theorem wp_andV {a b : ME} : wp (mAndV a b sl st) Q E = wp (a sl st) (kAndV b sl Q E) E := by
  simp only [mAndV, wp_bind]; congr 1; funext x st1; unfold kAndV; cases asBl x with
  | none => rfl
  | some k => cases k <;> rfl
@[simp] theorem k_andV {b : ME} {k : Bool} : kAndV b sl Q E (.bl k) st = if k = true then wp (b sl st) Q E else Q (.bl false) st := by cases k <;> rfl
@[simp] theorem wp_orV {a b : ME} : wp (mOrV a b sl st) Q E = wp (a sl st) (kOrV b sl Q E) E := by
  simp only [mOrV, wp_bind]; congr 1; funext x st1; unfold kOrV; cases asBl x with
  | none => rfl
  | some k => cases k <;> rfl
@[simp] theorem k_orV {b : ME} {k : Bool} : kOrV b sl Q E (.bl k) st = if k = true then Q (.bl true) st else wp (b sl st) Q E := by cases k <;> rfl
@[simp] theorem wp_notV {a : ME} : wp (mNotV a sl st) Q E = wp (a sl st) (kNotV Q) E := by
  simp only [mNotV, wp_bind]; congr 1; funext x st1; unfold kNotV; cases asBl x <;> rfl
@[simp] theorem k_notV {k : Bool} : kNotV Q (.bl k) st = Q (.bl (!k)) st := (rfl)
@[simp] theorem wp_nil : wp (mNil sl st) QL E = QL [] st := (rfl)
@[simp] theorem wp_cons {m : ME} {r : MA} : wp (mCons m r sl st) QL E = wp (m sl st) (kCons1 r sl QL E) E := by
  simp only [mCons, wp_bind]; rfl
@[simp] theorem k_cons1 {r : MA} {x : Va} : kCons1 r sl QL E x st = wp (r sl st) (kCons2 x QL) E := (rfl)
@[simp] theorem k_cons2 {x : Va} {xs : List Va} : kCons2 x QL xs st = QL (x :: xs) st := (rfl)
@[simp] theorem wp_lst {c : Bool} {ma : MA} : wp (mLst c ma sl st) Q E = wp (ma sl st) (kLst c Q) E := by
  simp only [mLst, wp_bind]; congr 1; funext xs st1; unfold kLst
  by_cases h : xs.length ≤ sizeLine
  · simp only [h, if_true, true_and]; rfl
  · simp only [h, if_false, false_and]; rfl
@[simp] theorem k_lst {c : Bool} {xs : List Va} : kLst c Q xs st = (xs.length ≤ sizeLine ∧ Q (mkL c xs st).1 (mkL c xs st).2) := (rfl)
@[simp] theorem wp_tup {ma : MA} : wp (mTup ma sl st) Q E = wp (ma sl st) (kTup Q) E := by
  simp only [mTup, wp_bind]; congr 1; funext xs st1; unfold kTup
  by_cases h : xs.length ≤ sizeLine
  · simp only [h, if_true, true_and]; rfl
  · simp only [h, if_false, false_and]; rfl
@[simp] theorem k_tup {xs : List Va} : kTup Q xs st = (xs.length ≤ sizeLine ∧ Q (.tup xs) st) := (rfl)
@[simp] theorem mkL_t {xs : List Va} : mkL true xs st = (.ref st.length, st ++ [.lst xs]) := (rfl)
@[simp] theorem mkL_f {xs : List Va} : mkL false xs st = (.fl xs, st) := (rfl)
@[simp] theorem wp_callN {f : OpN} {ma : MA} : wp (mCallN f ma sl st) Q E = wp (ma sl st) (kCallN f Q) E := by simp only [mCallN, wp_bind, wp_of]; rfl
@[simp] theorem k_callN {f : OpN} {xs : List Va} : kCallN f Q xs st = wpO (f xs st) Q := (rfl)
@[simp] theorem wp_mt {τ : Sto → Va → Bool} {f : Va → OpN} {mo : ME} {ma : MA} : wp (mMt τ f mo ma sl st) Q E = wp (mo sl st) (kMt τ f ma sl Q E) E := by
  simp only [mMt, wp_bind]; congr 1; funext x st1; unfold kMt
  split
  · rename_i h; simp only [h, true_and, wp_bind, wp_of]; rfl
  · rename_i h; simp [h]
@[simp] theorem k_mt {τ : Sto → Va → Bool} {f : Va → OpN} {ma : MA} {x : Va} : kMt τ f ma sl Q E x st = (τ st x = true ∧ wp (ma sl st) (kMeth2 f x Q) E) := (rfl)
@[simp] theorem k_meth2 {f : Va → OpN} {x : Va} {xs : List Va} : kMeth2 f x Q xs st = wpO (f x xs st) Q := (rfl)
@[simp] theorem wp_callF {M : MF} {dxs : List Va} {ma : MA} : wp (mCallF M dxs ma sl st) Q E = wp (ma sl st) (kCallF M dxs Q E) E := by simp only [mCallF, mCall, wp_bind]; rfl
@[simp] theorem k_callF {M : MF} {dxs xs : List Va} : kCallF M dxs Q E xs st = wp (M (xs ++ dxs) st) Q E := (rfl)
variable {QO : Option Int → Sto → Prop}
@[simp] theorem wp_noPart : wp (mNoPart sl st) QO E = QO none st := (rfl)
@[simp] theorem wp_part {m : ME} : wp (mPart m sl st) QO E = wp (m sl st) (kPart QO) E := by
  simp only [mPart, wp_bind]; congr 1; funext x st1; unfold kPart; cases asInt x <;> rfl
@[simp] theorem k_part {i : Int} : kPart QO (.int i) st = QO (some i) st := (rfl)
@[simp] theorem wp_sl {c : Bool} {m : ME} {l h : MO} : wp (mSl c m l h sl st) Q E = wp (m sl st) (kSl1 c l h sl Q E) E := by simp only [mSl, wp_bind, wp_of]; rfl
@[simp] theorem k_sl1 {c : Bool} {l h : MO} {x : Va} : kSl1 c l h sl Q E x st = wp (l sl st) (kSl2 c x h sl Q E) E := (rfl)
@[simp] theorem k_sl2 {c : Bool} {h : MO} {x : Va} {lo : Option Int} : kSl2 c x h sl Q E lo st = wp (h sl st) (kSl3 c x lo Q) E := (rfl)
@[simp] theorem k_sl3 {c : Bool} {x : Va} {lo hi : Option Int} : kSl3 c x lo Q hi st = wpO (opSl c x lo hi st) Q := (rfl)
@[simp] theorem wp_sortK {k : SK} {c : Bool} {ma : ME} : wp (mSortK k c ma sl st) Q E = wp (ma sl st) (kSortK k c Q) E := by
  simp only [mSortK, wp_bind]; congr 1; funext x st1; unfold kSortK
  cases lookL st1 x with
  | none => rfl
  | some ys => simp only [wp_of]; cases sortV (skF st1 k) ys <;> rfl
@[simp] theorem wp_xf {tab : List (Str × Str)} {f : Str} {m : ME} : wp (mXf tab f m sl st) Q E = wp (m sl st) (kXf tab f Q) E := by
  simp only [mXf, wp_bind]; congr 1; funext x st1; unfold kXf
  cases x <;> try rfl
  rename_i c fs
  by_cases h : tab.contains (c, f) = true
  · simp only [h, if_true, true_and]
    cases fs.lookup f <;> simp
  · dsimp only; rw [if_neg h]; exact propext ⟨False.elim, fun q => h q.1⟩
@[simp] theorem k_xf {tab : List (Str × Str)} {f c : Str} {fs : List (Str × Va)} : kXf tab f Q (.exo c fs) st = (tab.contains (c, f) = true ∧ ∃ y, fs.lookup f = some y ∧ Q y st) := (rfl)
@[simp] theorem wp_exo {c : Str} {flds : List Str} {ma : MA} : wp (mExo c flds ma sl st) Q E = wp (ma sl st) (kExo c flds Q) E := by
  simp only [mExo, wp_bind]; congr 1; funext xs st1; unfold kExo
  split <;> simp_all
@[simp] theorem k_exo {c : Str} {flds : List Str} {xs : List Va} : kExo c flds Q xs st = (fitX flds xs = true ∧ Q (.exo c (flds.zip xs).reverse) st) := (rfl)
@[simp] theorem wp_exn {c : Str} : wp (mExn c sl st) Q E = Q (.exo c []) st := (rfl)
@[simp] theorem wp_xFld {tab : List (Str × Str)} {f : Str} {x : Exn} : wp (xFld tab f x sl st) Q E = (tab.contains (x.cls, f) = true ∧ ∃ y, x.fs.lookup f = some y ∧ Q y st) := by
  unfold xFld
  by_cases h : tab.contains (x.cls, f) = true
  · simp only [h, if_true, true_and]
    cases x.fs.lookup f <;> simp
  · rw [if_neg h]; exact propext ⟨False.elim, fun q => h q.1⟩
@[simp] theorem wp_xIsi {I : Isi} {m2 : ME} {x : Exn} : wp (xIsi I m2 x sl st) Q E = wp (m2 sl st) (kXi I x.cls Q) E := by simp only [xIsi, wp_bind, wp_of]; rfl
@[simp] theorem k_xi {I : Isi} {c : Str} {y : Va} : kXi I c Q y st = wpO (isX I c y st) Q := (rfl)
@[simp] theorem wp_xNil {x : Exn} : wp (xNil x sl st) QL E = QL [] st := (rfl)
@[simp] theorem wp_xCons {m : MX} {r : MXA} {x : Exn} : wp (xCons m r x sl st) QL E = wp (m x sl st) (kCons1 (r x) sl QL E) E := by unfold xCons; rw [wp_cons]
/-! statements -/
variable {X : QES}
theorem wpS_eS {α : Type} {r : Rs α} {k : α → Sto → RsS} : wpS (eS r sl k) QX X = wp r (fun x st => wpS (k x st) QX X) (atE X sl) := by cases r <;> rfl
@[simp] theorem wpS_seq {a b : MS} : wpS (sSeq a b sl st) QX X = wpS (a sl st) (kSeq b QX X) X := by
  unfold sSeq RsS.seq
  cases a sl st with
  | ok fl sl st => cases fl <;> rfl
  | err x sl st => rfl
  | stuck => rfl
@[simp] theorem k_seq_nx {b : MS} : kSeq b QX X .nx sl st = wpS (b sl st) QX X := (rfl)
@[simp] theorem k_seq_rt {b : MS} {x : Va} : kSeq b QX X (.rt x) sl st = QX (.rt x) sl st := (rfl)
@[simp] theorem k_seq_bk {b : MS} : kSeq b QX X .bk sl st = QX .bk sl st := (rfl)
@[simp] theorem k_seq_ct {b : MS} : kSeq b QX X .ct sl st = QX .ct sl st := (rfl)
@[simp] theorem wpS_nop : wpS (sNop sl st) QX X = QX .nx sl st := (rfl)
@[simp] theorem wpS_brk : wpS (sBrk sl st) QX X = QX .bk sl st := (rfl)
@[simp] theorem wpS_cnt : wpS (sCnt sl st) QX X = QX .ct sl st := (rfl)
@[simp] theorem wpS_exp {m : ME} : wpS (sExp m sl st) QX X = wp (m sl st) (kExp sl QX) (atE X sl) := by unfold sExp; rw [wpS_eS]; rfl
@[simp] theorem k_exp {x : Va} : kExp sl QX x st = QX .nx sl st := (rfl)
@[simp] theorem wpS_ret {m : ME} : wpS (sRet m sl st) QX X = wp (m sl st) (kRet sl QX) (atE X sl) := by unfold sRet; rw [wpS_eS]; rfl
@[simp] theorem k_ret {x : Va} : kRet sl QX x st = QX (.rt x) sl st := (rfl)
@[simp] theorem wpS_if {c : MB} {a b : MS} : wpS (sIf c a b sl st) QX X = wp (c sl st) (kIf a b sl QX X) (atE X sl) := by
  unfold sIf; rw [wpS_eS]; congr 1; funext k st1; cases k <;> rfl
@[simp] theorem k_if {a b : MS} {k : Bool} : kIf a b sl QX X k st = if k = true then wpS (a sl st) QX X else wpS (b sl st) QX X := (rfl)
@[simp] theorem wpS_asg {i : Nat} {m : ME} : wpS (sAsg i m sl st) QX X = wp (m sl st) (kAsg i sl QX) (atE X sl) := by unfold sAsg; rw [wpS_eS]; rfl
@[simp] theorem k_asg {i : Nat} {x : Va} : kAsg i sl QX x st = QX .nx (sl.set i (some x)) st := (rfl)
@[simp] theorem wpS_asgG {g : MG} {m : ME} : wpS (sAsgG g m sl st) QX X = wp (m sl st) (kAsgG g sl QX) (atE X sl) := by
  unfold sAsgG; rw [wpS_eS]; congr 1; funext x st1; unfold kAsgG; cases g x sl st1 <;> rfl
@[simp] theorem k_asgG {g : MG} {x : Va} : kAsgG g sl QX x st = match g x sl st with | some p => QX .nx p.1 p.2 | none => False := (rfl)
@[simp] theorem wpS_raise {c : Str} {flds : List Str} {ma : MA} : wpS (sRaise c flds ma sl st) QX X = wp (ma sl st) (kRaise c flds (atE X sl)) (atE X sl) := by
  unfold sRaise; rw [wpS_eS]; congr 1; funext xs st1; unfold kRaise
  split <;> simp_all [wpS]
@[simp] theorem k_raise {c : Str} {flds : List Str} {xs : List Va} : kRaise c flds E xs st = (fitX flds xs = true ∧ E ⟨c, (flds.zip xs).reverse⟩ st) := (rfl)
@[simp] theorem wpS_raise0 {c : Str} : wpS (sRaise0 c sl st) QX X = X ⟨c, []⟩ sl st := (rfl)
@[simp] theorem wpS_xSet {j : Nat} {m : MX} {x : Exn} : wpS (xSet j m x sl st) QX X = wp (m x sl st) (kAsg j sl QX) (atE X sl) := by unfold xSet; rw [wpS_asg]
theorem wp_body {n : Nat} {s : MS} {xs : List Va} : wp (mBody n s xs st) Q E = wpS (s (xs.map some ++ List.replicate (n - xs.length) none) st) (kBody Q) (dropE E) := by
  unfold mBody
  cases s (xs.map some ++ List.replicate (n - xs.length) none) st with
  | ok fl sl st => cases fl <;> rfl
  | err x sl st => rfl
  | stuck => rfl
@[simp] theorem k_body_nx : kBody Q .nx sl st = Q .non st := (rfl)
@[simp] theorem k_body_rt {x : Va} : kBody Q (.rt x) sl st = Q x st := (rfl)
/-! iterables -/
variable {QG : Gt → Sto → Prop}
@[simp] theorem wp_iR1 {ma : MA} : wp (iR1 ma sl st) QG E = wp (ma sl st) (kR1 QG) E := by
  unfold iR1; rw [wp_bind]; congr 1; funext xs st1
  unfold kR1
  cases xs with
  | nil => rfl
  | cons a t =>
    cases t with
    | cons b t => cases a <;> rfl
    | nil =>
      cases a with
      | int j => by_cases h : lim62 j = true <;> simp [h]
      | _ => rfl
@[simp] theorem k_r1 {j : Int} : kR1 QG [.int j] st = (lim62 j = true ∧ QG (SM.getR 0 j.toNat) st) := (rfl)
@[simp] theorem wp_iR2 {ma : MA} : wp (iR2 ma sl st) QG E = wp (ma sl st) (kR2 QG) E := by
  unfold iR2; rw [wp_bind]; congr 1; funext xs st1
  unfold kR2
  cases xs with
  | nil => rfl
  | cons a t =>
    cases t with
    | nil => cases a <;> rfl
    | cons b t =>
      cases t with
      | cons c t => cases a <;> cases b <;> rfl
      | nil =>
        cases a with
        | int i =>
          cases b with
          | int j => by_cases h : lim62 i = true <;> by_cases h2 : lim62 j = true <;> simp [h, h2]
          | _ => rfl
        | _ => cases b <;> rfl
@[simp] theorem k_r2 {i j : Int} : kR2 QG [.int i, .int j] st = (lim62 i = true ∧ lim62 j = true ∧ QG (SM.getR i (j - i).toNat) st) := (rfl)
@[simp] theorem wp_iAny {m : ME} : wp (iAny m sl st) QG E = wp (m sl st) (kIt QG) E := by
  unfold iAny; rw [wp_bind]; congr 1; funext x st1
  unfold kIt
  cases x <;> try rfl
  all_goals (simp only; split <;> simp_all)
@[simp] theorem k_it_str {z : Str} : kIt QG (.str z) st = QG (getS z) st := (rfl)
@[simp] theorem k_it_tup {xs : List Va} : kIt QG (.tup xs) st = QG (getT xs) st := (rfl)
@[simp] theorem k_it_fl {xs : List Va} : kIt QG (.fl xs) st = QG (getL (.fl xs)) st := (rfl)
@[simp] theorem k_it_fz {xs : List Va} : kIt QG (.fz xs) st = QG (getL (.fz xs)) st := (rfl)
theorem k_it_ref {i : Nat} {xs : List Va} (h : st[i]? = some (.lst xs)) : kIt QG (.ref i) st = QG (getL (.ref i)) st := by
  simp [kIt, lookL, h]
@[simp] theorem wpS_for {mi : MI} {g : MG} {b : MS} : wpS (sFor mi g b sl st) QX X = wp (mi sl st) (kFor g b sl QX X) (atE X sl) := by unfold sFor; rw [wpS_eS]; rfl
/-! try -/
def kTry (hs : List MH) (QX : QS) (X : QES) : QES := fun e sl st => wpS (handleM hs e sl st) QX X
@[simp] theorem wpS_try {b : MS} {hs : List MH} : wpS (sTry b hs sl st) QX X = wpS (b sl st) QX (kTry hs QX X) := by
  unfold sTry
  cases b sl st with
  | ok fl sl st => rfl
  | err x sl st => rfl
  | stuck => rfl
@[simp] theorem k_try {hs : List MH} {e : Exn} : kTry hs QX X e sl st = wpS (handleM hs e sl st) QX X := (rfl)
def kClr (i : Nat) (QX : QS) : QS := fun fl sl st => QX fl (sl.set i none) st
@[simp] theorem k_clr {i : Nat} {fl : Fl} : kClr i QX fl sl st = QX fl (sl.set i none) st := (rfl)
abbrev NoX : QES := fun _ _ _ => False
theorem wpS_named {hit : Hit} {i : Nat} {m : MXS} {r : List MH} {e : Exn} (hh : hit.lookup e.cls = some true) (hi : i < sl.length) : wpS (handleM (.named hit i m :: r) e sl st) QX X = wpS (m e (sl.set i none) st) (kClr i QX) NoX := by
  unfold handleM
  simp only [hh, hi, if_true]
  cases m e (sl.set i none) st <;> rfl
theorem wpS_only {hit : Hit} {m : MS} {r : List MH} {e : Exn} (hh : hit.lookup e.cls = some true) : wpS (handleM (.only hit m :: r) e sl st) QX X = wpS (m sl st) QX NoX := by
  unfold handleM
  simp only [hh]
  cases m sl st <;> rfl
theorem wpS_pass {hit : Hit} {i : Nat} {m : MXS} {r : List MH} {e : Exn} (hh : hit.lookup e.cls = some false) : wpS (handleM (.named hit i m :: r) e sl st) QX X = wpS (handleM r e sl st) QX X := by
  conv => lhs; unfold handleM
  simp only [hh]
theorem wpS_passO {hit : Hit} {m : MS} {r : List MH} {e : Exn} (hh : hit.lookup e.cls = some false) : wpS (handleM (.only hit m :: r) e sl st) QX X = wpS (handleM r e sl st) QX X := by
  conv => lhs; unfold handleM
  simp only [hh]
@[simp] theorem wp_c1 {α : Type} {G : Gc} {A : Acc α G} {mi : MI} {g : MG} {t : MB} {vs : List Nat} {step : Slo → α → Sto → Rs α} : wp (mC1 A mi g t vs step sl st) Q E = wp (mi sl st) (kC1 A g t vs step sl Q) E := by
  unfold mC1; rw [wp_bind]; congr 1; funext get st1
  unfold kC1 wpC
  cases cL get g t step vs fuel 0 sl A.nil st1 <;> rfl
end
end SM
set_option Elab.async false
set_option linter.all false
set_option maxRecDepth 100000
set_option maxHeartbeats 4000000
/-! PL1: texts as lists of signs; operations; loops; how stores grow. -/
namespace SM
open PySem PySem.Spec PyProof.Rows L2

/-! ### stores -/
/-- what stands stays -/
def Gr (st st' : Sto) : Prop := ∀ (i : Nat) (o : Ob), st[i]? = some o → st'[i]? = some o
/-- but at k -/
def GrX (k : Nat) (st st' : Sto) : Prop := ∀ (i : Nat) (o : Ob), i ≠ k → st[i]? = some o → st'[i]? = some o
theorem Gr.rf {st : Sto} : Gr st st := fun _ _ h => h
theorem Gr.tr {a b c : Sto} (x : Gr a b) (y : Gr b c) : Gr a c := fun i o h => y i o (x i o h)
theorem Gr.app {st l : Sto} : Gr st (st ++ l) := fun i o h => by
  rw [List.getElem?_append_left (List.getElem?_eq_some_iff.mp h).1]; exact h
theorem Gr.x {k : Nat} {a b : Sto} (g : Gr a b) : GrX k a b := fun i o _ h => g i o h
theorem GrX.tr {k : Nat} {a b c : Sto} (x : GrX k a b) (y : GrX k b c) : GrX k a c := fun i o n h => y i o n (x i o n h)
theorem GrX.rf {k : Nat} {a : Sto} : GrX k a a := Gr.rf.x
theorem grX_set {k : Nat} {st : Sto} {o : Ob} : GrX k st (st.set k o) := fun i u n h => by
  rw [List.getElem?_set_ne (fun e => n e.symm)]; exact h
theorem set_at {k : Nat} {st : Sto} {o u : Ob} (h : st[k]? = some u) : (st.set k o)[k]? = some o := by
  rw [List.getElem?_set_self (List.getElem?_eq_some_iff.mp h).1]
theorem lt_of_at {k : Nat} {st : Sto} {u : Ob} (h : st[k]? = some u) : k < st.length := (List.getElem?_eq_some_iff.mp h).1
theorem at_new {st : Sto} {o : Ob} : (st ++ [o])[st.length]? = some o := by simp
theorem ne_new {k : Nat} {st : Sto} {u : Ob} (h : st[k]? = some u) : st.length ≠ k := fun e => by
  have := lt_of_at h; omega
theorem len_of_gr {a b : Sto} (g : Gr a b) : a.length ≤ b.length := by
  by_cases h : a.length = 0
  · omega
  · have h1 : a.length - 1 < a.length := by omega
    have := g (a.length - 1) a[a.length - 1] (by simp [h1])
    have := lt_of_at this
    omega
theorem len_of_grX {k : Nat} {a b : Sto} {o : Ob} (g : GrX k a b) (h : b[k]? = some o) : a.length ≤ b.length := by
  by_cases h0 : a.length = 0
  · omega
  · have h1 : a.length - 1 < a.length := by omega
    by_cases hk : a.length - 1 = k
    · have := lt_of_at h; omega
    · have := lt_of_at (g (a.length - 1) a[a.length - 1] hk (by simp [h1]))
      omega
theorem Gr.setNew {st : Sto} {l : Sto} {k : Nat} {o : Ob} (g : Gr st l) (h : st.length ≤ k) : Gr st (l.set k o) := fun i u e => by
  have := lt_of_at e
  rw [List.getElem?_set_ne (by omega)]
  exact g i u e
/-- a change at a place that is new since st -/
theorem Gr.thenX {st a b : Sto} {k : Nat} (g : Gr st a) (h : st.length ≤ k) (x : GrX k a b) : Gr st b := fun i u e => by
  have := lt_of_at e
  exact x i u (by omega) (g i u e)

/-! ### texts -/
abbrev Sg := List Nat
/-- a text by its signs -/
def T (l : Sg) : Str := ⟨l.toArray⟩
abbrev tv (l : Sg) : Va := .str (T l)
theorem T_inj {a b : Sg} : T a = T b ↔ a = b := by
  refine ⟨fun h => ?_, fun h => by rw [h]⟩
  have h : (T a).cps.toList = (T b).cps.toList := by rw [h]
  simpa [T] using h
@[simp] theorem T_cps {l : Sg} : (T l).cps.toList = l := by simp [T]
@[simp] theorem T_len {l : Sg} : (T l).length = l.length := by simp [T, Str.length]
@[simp] theorem T_app {a b : Sg} : T a ++ T b = T (a ++ b) := by
  show Str.mk (a.toArray ++ b.toArray) = _
  simp [T]
theorem T_one {c : Nat} : (⟨#[c]⟩ : Str) = T [c] := rfl
theorem T_of (x : Str) : x = T x.cps.toList := by cases x; simp [T]
/-- all signs are signs of Unicode -/
def SOk (l : Sg) : Prop := ∀ c ∈ l, c < 0x110000
theorem strOk_T {l : Sg} (h : SOk l) : PyData.strOk (T l) = true := by
  unfold PyData.strOk
  rw [Array.all_eq_true']
  intro x hx
  have : x ∈ l := by simpa [T] using hx
  simpa using h x this
theorem shaped_str {l : Sg} (h : SOk l) : SeqAt.shaped (.str (T l)) = true := by
  have : (PyData.str (T l)).canLay0 = true := by simp only [PyData.canLay0]; exact strOk_T h
  simp [SeqAt.shaped, this, PyData.depth]
@[simp] theorem py_int {st : Sto} {i : Int} : py st (.int i) = some (.int i) := (rfl)
@[simp] theorem py_bl {st : Sto} {i : Bool} : py st (.bl i) = some (.bool i) := (rfl)
@[simp] theorem py_non {st : Sto} : py st .non = some .none := (rfl)
@[simp] theorem py_str {st : Sto} {x : Str} : py st (.str x) = some (.str x) := (rfl)
variable {Q : KV} {st : Sto}
theorem eq_py {neg : Bool} {x y : Va} {d e : PyData} (hx : py st x = some d) (hy : py st y = some e) (sd : SeqAt.shaped d = true) (se : SeqAt.shaped e = true) : wpO (opEq neg x y st) Q = Q (.bl (neg != PyData.eqv d e)) st := by
  unfold opEq
  simp [hx, hy, sd, se]
@[simp] theorem eq_int {neg : Bool} {i j : Int} : wpO (opEq neg (.int i) (.int j) st) Q = Q (.bl (neg != decide (i = j))) st := by
  rw [eq_py rfl rfl rfl rfl]; rfl
@[simp] theorem eq_bl {neg : Bool} {i j : Bool} : wpO (opEq neg (.bl i) (.bl j) st) Q = Q (.bl (neg != decide (i = j))) st := by
  rw [eq_py rfl rfl rfl rfl]; cases i <;> cases j <;> rfl
theorem eqv_T {a b : Sg} : PyData.eqv (.str (T a)) (.str (T b)) = decide (a = b) := by
  simp only [PyData.eqv]
  rw [Bool.eq_iff_iff]
  simp [T_inj]
theorem eq_tt {neg : Bool} {a b : Sg} (ha : SOk a) (hb : SOk b) : wpO (opEq neg (tv a) (tv b) st) Q = Q (.bl (neg != decide (a = b))) st := by
  rw [eq_py py_str py_str (shaped_str ha) (shaped_str hb), eqv_T]
@[simp] theorem eq_nn {neg : Bool} : wpO (opEq neg .non .non st) Q = Q (.bl (!neg)) st := by
  rw [eq_py rfl rfl rfl rfl]; cases neg <;> rfl
@[simp] theorem is_nn {neg : Bool} : wpO (opIs neg .non .non st) Q = Q (.bl (!neg)) st := (rfl)
@[simp] theorem is_str {neg : Bool} {x : Str} : wpO (opIs neg (.str x) .non st) Q = Q (.bl neg) st := (rfl)
@[simp] theorem is_fl {neg : Bool} {x : List Va} : wpO (opIs neg (.fl x) .non st) Q = Q (.bl neg) st := (rfl)
@[simp] theorem is_ref {neg : Bool} {x : Nat} : wpO (opIs neg (.ref x) .non st) Q = Q (.bl neg) st := (rfl)
@[simp] theorem is_int {neg : Bool} {x : Int} : wpO (opIs neg (.int x) .non st) Q = Q (.bl neg) st := (rfl)
@[simp] theorem add_int {c : Bool} {i j : Int} : wpO (opAdd c (.int i) (.int j) st) Q = Q (.int (i + j)) st := (rfl)
@[simp] theorem add_str {c : Bool} {a b : Sg} : wpO (opAdd c (tv a) (tv b) st) Q = (a.length + b.length ≤ sizeLine ∧ Q (tv (a ++ b)) st) := by
  simp only [opAdd, T_len, T_app]
  by_cases h : a.length + b.length ≤ sizeLine
  · simp [h]
  · simp [h]
@[simp] theorem add_tup {c : Bool} {a b : List Va} : wpO (opAdd c (.tup a) (.tup b) st) Q = (a.length + b.length ≤ sizeLine ∧ Q (.tup (a ++ b)) st) := by
  simp only [opAdd]
  by_cases h : a.length + b.length ≤ sizeLine
  · simp [h]
  · simp [h]
theorem add_l {c : Bool} {x y : Va} {a b : List Va} (hx : lookM st x = some a) (hy : lookM st y = some b) : wpO (opAdd c x y st) Q = (a.length + b.length ≤ sizeLine ∧ Q (mkL c (a ++ b) st).1 (mkL c (a ++ b) st).2) := by
  have : opAdd c x y st = if a.length + b.length ≤ sizeLine then some (mkL c (a ++ b) st) else none := by
    cases x <;> first | (cases hx; done) | skip
    all_goals (cases y <;> first | (cases hy; done) | skip)
    all_goals simp only [opAdd, hx, hy]
  rw [this]
  by_cases h : a.length + b.length ≤ sizeLine
  · simp only [h, if_true, true_and]; rfl
  · simp [h]
@[simp] theorem sub_int {i j : Int} : wpO (opSub (.int i) (.int j) st) Q = Q (.int (i - j)) st := (rfl)
theorem mod_int {i j : Int} (h : 0 < j) : wpO (opMod (.int i) (.int j) st) Q = Q (.int (i % j)) st := by simp [opMod, opI, h]
theorem div_int {i j : Int} (h : 0 < j) (h2 : j < 1073741824) : wpO (opDiv (.int i) (.int j) st) Q = Q (.int (i / j)) st := by simp [opDiv, opI, h, h2]
theorem mul_intR {c : Bool} {i j : Int} (h : in64 j = true) : wpO (opMul c (.int i) (.int j) st) Q = Q (.int (i * j)) st := by simp [opMul, h]
theorem mul_intL {c : Bool} {i j : Int} (h : in64 i = true) : wpO (opMul c (.int i) (.int j) st) Q = Q (.int (i * j)) st := by simp [opMul, h]
@[simp] theorem neg_int {i : Int} : wpO (opNeg (.int i) st) Q = Q (.int (-i)) st := (rfl)
@[simp] theorem lt_int {i j : Int} : wpO (opLt (.int i) (.int j) st) Q = Q (.bl (decide (i < j))) st := (rfl)
@[simp] theorem le_int {i j : Int} : wpO (opLe (.int i) (.int j) st) Q = Q (.bl (decide (i ≤ j))) st := (rfl)
@[simp] theorem gt_int {i j : Int} : wpO (opGt (.int i) (.int j) st) Q = Q (.bl (decide (j < i))) st := (rfl)
@[simp] theorem ge_int {i j : Int} : wpO (opGe (.int i) (.int j) st) Q = Q (.bl (decide (j ≤ i))) st := (rfl)
@[simp] theorem in_str {neg : Bool} {c : Nat} {b : Sg} : wpO (opIn neg (tv [c]) (tv b) st) Q = Q (.bl (neg != decide (c ∈ b))) st := by
  simp [opIn]
@[simp] theorem ix_str {l : Sg} {i : Int} : wpO (opIx (tv l) (.int i) st) Q = (l.length ≤ sizeLine ∧ ∃ c, L2.atI l i = some c ∧ Q (tv [c]) st) := by
  simp only [opIx, T_len, T_cps]
  by_cases h : l.length ≤ sizeLine
  · simp only [h, if_true, true_and]
    cases L2.atI l i with
    | none => simp
    | some c => simp [T_one]
  · simp [h]
@[simp] theorem ix_tup {l : List Va} {i : Int} : wpO (opIx (.tup l) (.int i) st) Q = ∃ c, L2.atI l i = some c ∧ Q c st := by
  simp only [opIx]
  cases L2.atI l i <;> simp
theorem ix_l {x : Va} {l : List Va} {i : Int} (hx : lookL st x = some l) : wpO (opIx x (.int i) st) Q = ∃ c, L2.atI l i = some c ∧ Q c st := by
  have : opIx x (.int i) st = (L2.atI l i).map fun v => (v, st) := by
    cases x <;> first | (cases hx; done) | skip
    all_goals simp only [opIx, hx]
  rw [this]
  cases L2.atI l i <;> simp
theorem atI_nat {α : Type} {l : List α} {k : Nat} : L2.atI l (k : Int) = l[k]? := by
  unfold L2.atI L2.ixN
  rw [if_pos (by omega)]
  by_cases h : k < l.length
  · rw [if_pos (by omega)]
    simp
  · rw [if_neg (by omega)]
    simp [List.getElem?_eq_none_iff.mpr (Nat.le_of_not_lt h)]
theorem atI_of {α : Type} {l : List α} {i : Int} (h : 0 ≤ i) : L2.atI l i = l[i.toNat]? := by
  obtain ⟨k, rfl⟩ := Int.eq_ofNat_of_zero_le h
  exact atI_nat
theorem atI_last {α : Type} {l : List α} : L2.atI l (-1) = l.getLast? := by
  unfold L2.atI L2.ixN
  rw [if_neg (by omega)]
  cases l with
  | nil => rfl
  | cons a l =>
    rw [if_pos (by simp only [List.length_cons]; omega)]
    rw [List.getLast?_eq_getElem?]
    show (a :: l)[(-1 + ((a :: l).length : Int)).toNat]? = _
    congr 1
    simp only [List.length_cons]; omega
@[simp] theorem len_str {l : Sg} : wpO (bLen [tv l] st) Q = (l.length ≤ sizeLine ∧ Q (.int l.length) st) := by
  simp only [bLen, T_len]
  by_cases h : l.length ≤ sizeLine
  · simp [h]
  · simp [h]
@[simp] theorem len_tup {l : List Va} : wpO (bLen [.tup l] st) Q = Q (.int l.length) st := (rfl)
theorem len_l {x : Va} {l : List Va} (hx : lookL st x = some l) : wpO (bLen [x] st) Q = Q (.int l.length) st := by
  have : bLen [x] st = some (.int l.length, st) := by
    cases x <;> first | (cases hx; done) | skip
    all_goals simp only [bLen, hx]
  rw [this]; rfl
@[simp] theorem abs_int {i : Int} : wpO (bAbs [.int i] st) Q = Q (.int (i.natAbs : Int)) st := by
  have : (if i < 0 then -i else i) = (i.natAbs : Int) := by split <;> omega
  simp only [bAbs, this]; rfl
@[simp] theorem int_int {i : Int} : wpO (bInt [.int i] st) Q = Q (.int i) st := (rfl)
@[simp] theorem int_bl {k : Bool} : wpO (bInt [.bl k] st) Q = Q (.int (if k then 1 else 0)) st := (rfl)
/-- a piece of a list -/
def cut {α : Type} (l : List α) (lo hi : Option Int) : List α := (l.drop (HT.sIx l.length 0 lo)).take (HT.sIx l.length l.length hi - HT.sIx l.length 0 lo)
@[simp] theorem sl_str {c : Bool} {l : Sg} {lo hi : Option Int} : wpO (opSl c (tv l) lo hi st) Q = (l.length ≤ sizeLine ∧ Q (tv (cut l lo hi)) st) := by
  have e : cutS (T l) lo hi = T (cut l lo hi) := by
    show Str.mk (((T l).cps.toList.drop (HT.sIx (T l).length 0 lo)).take (HT.sIx (T l).length (T l).length hi - HT.sIx (T l).length 0 lo)).toArray = _
    rw [T_cps, T_len]; rfl
  simp only [opSl, T_len, e]
  by_cases h : l.length ≤ sizeLine
  · simp [h]
  · simp [h]
theorem sl_l {c : Bool} {x : Va} {l : List Va} {lo hi : Option Int} (hx : lookL st x = some l) : wpO (opSl c x lo hi st) Q = Q (mkL c (cut l lo hi) st).1 (mkL c (cut l lo hi) st).2 := by
  have : opSl c x lo hi st = some (mkL c (cut l lo hi) st) := by
    cases x <;> first | (cases hx; done) | skip
    all_goals (simp only [opSl, hx]; rfl)
  rw [this]; rfl
theorem cut_from {α : Type} {l : List α} {k : Nat} : cut l (some (k : Int)) none = l.drop k := by
  unfold cut
  rw [HT.sIx_nat, HT.sIx_none]
  by_cases h : k ≤ l.length
  · rw [Nat.min_eq_left h]
    rw [List.take_of_length_le (by simp)]
  · rw [Nat.min_eq_right (by omega)]
    rw [List.drop_eq_nil_of_le (Nat.le_refl _), List.drop_eq_nil_of_le (by omega)]
    simp
theorem cut_to {α : Type} {l : List α} {k : Nat} : cut l none (some (k : Int)) = l.take k := by
  unfold cut
  rw [HT.sIx_nat, HT.sIx_none]
  simp only [List.drop_zero, Nat.sub_zero]
  by_cases h : k ≤ l.length
  · rw [Nat.min_eq_left h]
  · rw [Nat.min_eq_right (by omega), List.take_of_length_le (by omega), List.take_of_length_le (by omega)]
theorem cut_last {α : Type} {l : List α} : cut l none (some (-1)) = l.dropLast := by
  unfold cut
  rw [HT.sIx_none]
  show (l.drop 0).take ((if (-1 : Int) < 0 then (-1 + (l.length : Int)).toNat else min (-1 : Int).toNat l.length) - 0) = _
  rw [if_pos (by omega), List.dropLast_eq_take]
  simp only [List.drop_zero, Nat.sub_zero]
  congr 1; omega
theorem cut_one {α : Type} {l : List α} : cut l (some 1) none = l.drop 1 := cut_from (k := 1)
@[simp] theorem lookL_fl {xs : List Va} : lookL st (.fl xs) = some xs := (rfl)
@[simp] theorem lookL_fz {xs : List Va} : lookL st (.fz xs) = some xs := (rfl)
@[simp] theorem lookM_fl {xs : List Va} : lookM st (.fl xs) = some xs := (rfl)
theorem lookL_ref {i : Nat} {xs : List Va} (h : st[i]? = some (.lst xs)) : lookL st (.ref i) = some xs := by simp [lookL, h]
theorem lookM_ref {i : Nat} {xs : List Va} (h : st[i]? = some (.lst xs)) : lookM st (.ref i) = some xs := by simp [lookM, h]
@[simp] theorem truOf_bl {k : Bool} : truOf st (.bl k) = some k := (rfl)
@[simp] theorem truOf_int {k : Int} : truOf st (.int k) = some (k != 0) := (rfl)
theorem isL_ref {i : Nat} {xs : List Va} (h : st[i]? = some (.lst xs)) : isL st (.ref i) = true := by simp [isL, lookM, h]
@[simp] theorem isS_str {x : Str} : isS st (.str x) = true := (rfl)
theorem app_ref {i : Nat} {xs : List Va} {y : Va} (h : st[i]? = some (.lst xs)) : wpO (onL gAppend (.ref i) [y] st) Q = (xs.length < sizeLine ∧ Q .non (st.set i (.lst (xs ++ [y])))) := by
  simp only [onL, h, gAppend]
  by_cases hl : xs.length < sizeLine
  · simp [hl]
  · simp [hl]
theorem ins_ref {i : Nat} {xs : List Va} {y : Va} {k : Nat} (h : st[i]? = some (.lst xs)) (hk : (k : Int) < 2 ^ 62) : wpO (onL gInsert (.ref i) [.int k, y] st) Q = (xs.length < sizeLine ∧ Q .non (st.set i (.lst (xs.take k ++ [y] ++ xs.drop k)))) := by
  have h62 : lim62 (k : Int) = true := by
    unfold lim62; simp only [Bool.and_eq_true, decide_eq_true_eq]; exact ⟨by omega, hk⟩
  simp only [onL, h, gInsert]
  by_cases hl : xs.length < sizeLine
  · simp [hl, h62]
  · simp [hl]
theorem lim62_nat {k : Nat} (h : k < 2 ^ 62) : lim62 (k : Int) = true := by
  unfold lim62; simp only [Bool.and_eq_true, decide_eq_true_eq]; omega
theorem asg_ref {i : Nat} {xs : List Va} {v : Va} {k : Nat} {sl : Slo} {mo mi : ME} (h : st[i]? = some (.lst xs)) (ho : mo sl st = .ok (.ref i) st) (hi : mi sl st = .ok (.int k) st) (hk : k < xs.length) : gSubD mo mi v sl st = some (sl, st.set i (.lst (xs.set k v))) := by
  simp only [gSubD, ho, hi, stIx, h]
  simp [L2.ixN, hk]

/-! ### loops -/
def kTurn (I : Nat → Slo → Sto → Prop) (i : Nat) (Q : QS) : QS := fun fl sl st => match fl with
  | .nx => I (i + 1) sl st
  | .ct => I (i + 1) sl st
  | .bk => Q .nx sl st
  | .rt x => Q (.rt x) sl st
variable {QX : QS} {E : QES} {sl : Slo}
@[simp] theorem k_turn_nx {I : Nat → Slo → Sto → Prop} {i : Nat} : kTurn I i QX .nx sl st = I (i + 1) sl st := (rfl)
@[simp] theorem k_turn_ct {I : Nat → Slo → Sto → Prop} {i : Nat} : kTurn I i QX .ct sl st = I (i + 1) sl st := (rfl)
@[simp] theorem k_turn_bk {I : Nat → Slo → Sto → Prop} {i : Nat} : kTurn I i QX .bk sl st = QX .nx sl st := (rfl)
@[simp] theorem k_turn_rt {I : Nat → Slo → Sto → Prop} {i : Nat} {x : Va} : kTurn I i QX (.rt x) sl st = QX (.rt x) sl st := (rfl)
/-- n turns, each by the invariant -/
theorem forL_inv {get : Gt} {g : MG} {b : MS} (n : Nat) (I : Nat → Slo → Sto → Prop) (hstep : ∀ i sl st, i < n → I i sl st → ∃ y, get i st = some (some y) ∧ ∃ p, g y sl st = some p ∧ wpS (b p.1 p.2) (kTurn I i QX) E)
    (hend : ∀ sl st, I n sl st → get n st = some none ∧ QX .nx sl st) : ∀ (m i : Nat) (sl : Slo) (st : Sto), i ≤ n → n - i < m → I i sl st → wpS (forL get g b m i sl st) QX E
  | 0, i, sl, st, hi, hm, h => by omega
  | m + 1, i, sl, st, hi, hm, h => by
    unfold forL
    by_cases e : i = n
    · subst e
      obtain ⟨h1, h2⟩ := hend sl st h
      rw [h1]
      exact h2
    · obtain ⟨y, h1, p, h2, h3⟩ := hstep i sl st (by omega) h
      rw [h1]
      simp only [h2]
      cases e3 : b p.1 p.2 with
      | stuck => rw [e3] at h3; exact h3
      | err x sl2 st2 => rw [e3] at h3; exact h3
      | ok fl sl2 st2 =>
        rw [e3] at h3
        cases fl with
        | nx => exact forL_inv n I hstep hend m (i + 1) sl2 st2 (by omega) (by omega) h3
        | ct => exact forL_inv n I hstep hend m (i + 1) sl2 st2 (by omega) (by omega) h3
        | bk => exact h3
        | rt x => exact h3
theorem for_inv {get : Gt} {g : MG} {b : MS} (n : Nat) (I : Nat → Slo → Sto → Prop) (hn : n < 1000000) (h0 : I 0 sl st) (hstep : ∀ i sl st, i < n → I i sl st → ∃ y, get i st = some (some y) ∧ ∃ p, g y sl st = some p ∧ wpS (b p.1 p.2) (kTurn I i QX) E)
    (hend : ∀ sl st, I n sl st → get n st = some none ∧ QX .nx sl st) : kFor g b sl QX E get st :=
  forL_inv n I hstep hend fuel 0 sl st (Nat.zero_le _) (by show n - 0 < 1000000; omega) h0
theorem getR_in {lo : Int} {n i : Nat} (h : i < n) : SM.getR lo n i st = some (some (.int (lo + i))) := by simp [SM.getR, h]
theorem getR_out {lo : Int} {n : Nat} : SM.getR lo n n st = some none := by simp [SM.getR]
theorem getS_T {l : Sg} {i : Nat} : getS (T l) i st = some ((l[i]?).map fun c => tv [c]) := by
  simp only [getS]
  congr 1
  show Option.map chrV (l.toArray[i]?) = _
  rw [List.getElem?_toArray]
  rfl
theorem getT_at {xs : List Va} {i : Nat} : getT xs i st = some xs[i]? := rfl
theorem getL_fl {xs : List Va} {i : Nat} : getL (.fl xs) i st = some xs[i]? := rfl
theorem getL_at {x : Va} {xs : List Va} {i : Nat} (h : lookL st x = some xs) : getL x i st = some xs[i]? := by simp [getL, h]

/-! ### comprehensions: elements that leave the store alone -/
def yields (get : Gt) (ys : List Va) (st : Sto) : Prop := ∀ i, get i st = some ys[i]?
theorem cL_pure {α : Type} {get : Gt} {g : MG} {t : MB} {step : Slo → α → Sto → Rs α} {vs : List Nat} {ys : List Va} {st : Sto} {sl : Slo} (hy : yields get ys st) (f : α → Va → Option α)
    (hs : ∀ a y, y ∈ ys → ∃ p k, g y (wipeA sl vs) st = some p ∧ t p.1 p.2 = .ok k st ∧ (k = true → ∀ a', f a y = some a' → step p.1 a st = .ok a' st) ∧ (k = false → f a y = some a)) :
    ∀ (m i : Nat) (a b : α), ys.length - i < m → (ys.drop i).foldlM f a = some b → cL get g t step vs m i sl a st = .ok b st
  | 0, i, a, b, hm, _ => by omega
  | m + 1, i, a, b, hm, hf => by
    unfold cL
    rw [hy i]
    cases e : ys[i]? with
    | none =>
      have : ys.length ≤ i := List.getElem?_eq_none_iff.mp e
      rw [List.drop_eq_nil_of_le this] at hf
      cases hf
      rfl
    | some y =>
      have hi : i < ys.length := (List.getElem?_eq_some_iff.mp e).1
      have hy2 : ys[i] = y := (List.getElem?_eq_some_iff.mp e).2
      obtain ⟨p, k, h1, h2, h3, h4⟩ := hs a y (by rw [← hy2]; exact List.getElem_mem hi)
      rw [List.drop_eq_getElem_cons hi, hy2, List.foldlM_cons] at hf
      simp only [h1, h2]
      cases hfa : f a y with
      | none => rw [hfa] at hf; cases hf
      | some a' =>
        rw [hfa] at hf
        cases k with
        | true =>
          simp only [h3 rfl a' hfa]
          exact cL_pure hy f hs m (i + 1) a' b (by omega) hf
        | false =>
          have := h4 rfl
          rw [this] at hfa
          cases hfa
          exact cL_pure hy f hs m (i + 1) a b (by omega) hf
end SM
set_option Elab.async false
set_option linter.all false
set_option maxRecDepth 100000
set_option maxHeartbeats 4000000
/-! PL2: comprehensions, sets, sorting, in plain lists. -/
namespace SM
open PySem PySem.Spec PyProof.Rows L2
variable {Q : KV} {st : Sto} {E : QE} {sl : Slo}

theorem wp_eq {α : Type} {r : Rs α} {a : α} {st : Sto} (h : wp r (fun x s => x = a ∧ s = st) NoE) : r = .ok a st := by
  cases r with
  | ok x s => obtain ⟨rfl, rfl⟩ := h; rfl
  | err x s => exact h.elim
  | stuck => exact h.elim
theorem wp_eq' {α : Type} {r : Rs α} {P : α → Prop} {st : Sto} (h : wp r (fun x s => P x ∧ s = st) NoE) : ∃ a, r = .ok a st ∧ P a := by
  cases r with
  | ok x s => obtain ⟨h, rfl⟩ := h; exact ⟨x, rfl, h⟩
  | err x s => exact h.elim
  | stuck => exact h.elim

/-! ### what is walked -/
theorem yR {lo : Int} {n : Nat} : yields (SM.getR lo n) ((List.range n).map fun (i : Nat) => Va.int (lo + (i : Int))) st := fun i => by
  simp only [SM.getR]
  by_cases h : i < n
  · simp [h]
  · simp [h]
theorem yR0 {n : Nat} : yields (SM.getR 0 n) ((List.range n).map fun (i : Nat) => Va.int (i : Int)) st := by
  have := @yR st 0 n
  simpa using this
theorem yS {l : Sg} : yields (getS (T l)) (l.map fun c => tv [c]) st := fun i => by
  rw [getS_T, List.getElem?_map]
theorem yT {xs : List Va} : yields (getT xs) xs st := fun i => rfl
theorem yL {x : Va} {xs : List Va} (h : lookL st x = some xs) : yields (getL x) xs st := fun i => by simp [getL, h]

/-! ### list comprehensions -/
theorem fold_app {f : Va → Va} {tf : Va → Bool} : ∀ (ys a : List Va), a.length + ys.length ≤ sizeLine → ys.foldlM (m := Option) (fun a y => if tf y then (if a.length < sizeLine then some (a ++ [f y]) else none) else some a) a = some (a ++ (ys.filter tf).map f)
  | [], a, h => by simp
  | y :: ys, a, h => by
    rw [List.length_cons] at h
    rw [List.foldlM_cons]
    by_cases k : tf y = true
    · rw [if_pos k, if_pos (by omega)]
      show ys.foldlM (m := Option) _ (a ++ [f y]) = _
      rw [fold_app ys (a ++ [f y]) (by simp; omega)]
      simp [k]
    · rw [if_neg k]
      show ys.foldlM (m := Option) _ a = _
      rw [fold_app ys a (by omega)]
      simp [k]
theorem l1_core {G : Gc} {c : Bool} {get : Gt} {i : Nat} {t : MB} {e : ME} {vs : List Nat} {ys : List Va} {a : List Va} (hy : yields get ys st) (hl : a.length + ys.length ≤ sizeLine) (hn : ys.length < 1000000) (tf : Va → Bool) (f : Va → Va)
    (ht : ∀ y ∈ ys, wp (t ((wipeA sl vs).set i (some y)) st) (fun k s => k = tf y ∧ s = st) NoE)
    (he : ∀ y ∈ ys, tf y = true → wp (e ((wipeA sl vs).set i (some y)) st) (fun z s => z = f y ∧ s = st) NoE) :
    cL get (gN i) t (stE (accL G c) e) vs fuel 0 sl a st = .ok (a ++ (ys.filter tf).map f) st := by
  refine cL_pure hy _ (fun a y hm => ⟨_, tf y, rfl, wp_eq (ht y hm), fun k a' ha => ?_, fun k => ?_⟩) fuel 0 a _ (by show ys.length - 0 < 1000000; omega) (by rw [List.drop_zero]; exact fold_app (f := f) (tf := tf) ys a hl)
  · simp only [k, if_true] at ha
    have : e ((wipeA sl vs).set i (some y)) st = .ok (f y) st := wp_eq (he y hm k)
    unfold stE
    simp only [this]
    have e : (accL G c).add a (f y) = some a' := ha
    rw [e]
  · simp [k]
theorem l1_w {G : Gc} {c : Bool} {get : Gt} {i : Nat} {t : MB} {e : ME} {vs : List Nat} {ys : List Va} (hy : yields get ys st) (hl : ys.length < 1000000) (tf : Va → Bool) (f : Va → Va)
    (ht : ∀ y ∈ ys, wp (t ((wipeA sl vs).set i (some y)) st) (fun k s => k = tf y ∧ s = st) NoE)
    (he : ∀ y ∈ ys, tf y = true → wp (e ((wipeA sl vs).set i (some y)) st) (fun z s => z = f y ∧ s = st) NoE)
    (h : Q (mkL c ((ys.filter tf).map f) st).1 (mkL c ((ys.filter tf).map f) st).2) : kC1 (accL G c) (gN i) t vs (stE (accL G c) e) sl Q get st := by
  unfold kC1
  have := l1_core (G := G) (c := c) (sl := sl) (a := []) (vs := vs) (e := e) (t := t) (i := i) hy (by show 0 + ys.length ≤ 2 ^ 24; omega) hl tf f ht he
  rw [show (accL G c).nil = ([] : List Va) from rfl, this]
  exact h
@[simp] theorem wp_yes : wp (mYes sl st) QB E = QB true st := (rfl)
theorem l1_all {G : Gc} {c : Bool} {get : Gt} {i : Nat} {e : ME} {vs : List Nat} {ys : List Va} (hy : yields get ys st) (hl : ys.length < 1000000) (f : Va → Va)
    (he : ∀ y ∈ ys, wp (e ((wipeA sl vs).set i (some y)) st) (fun z s => z = f y ∧ s = st) NoE)
    (h : Q (mkL c (ys.map f) st).1 (mkL c (ys.map f) st).2) : kC1 (accL G c) (gN i) mYes vs (stE (accL G c) e) sl Q get st :=
  l1_w hy hl (fun _ => true) f (fun y _ => ⟨rfl, rfl⟩) (fun y hm _ => he y hm) (by rw [show ys.filter (fun _ => true) = ys from List.filter_eq_self.mpr fun _ _ => rfl]; exact h)

/-! ### two clauses -/
theorem fold_two {α : Type} {add : α → Va → Option α} : ∀ (ys : List Va) (g : Va → List Va) (a : α), (ys.foldlM (m := Option) (fun a y => (g y).foldlM add a) a) = (ys.flatMap g).foldlM add a
  | [], g, a => rfl
  | y :: ys, g, a => by
    rw [List.foldlM_cons, List.flatMap_cons, List.foldlM_append]
    congr 1
    funext b
    exact fold_two ys g b
theorem fold_map {α : Type} {add : α → Va → Option α} {f : Va → Va} : ∀ (ys : List Va) (a : α), ys.foldlM (m := Option) (fun a y => add a (f y)) a = (ys.map f).foldlM add a
  | [], a => rfl
  | y :: ys, a => by
    rw [List.foldlM_cons, List.map_cons, List.foldlM_cons]
    congr 1
    funext b
    exact fold_map ys b
theorem add_accL {G : Gc} {c : Bool} : ∀ (ys a : List Va), a.length + ys.length ≤ sizeLine → ys.foldlM (accL G c).add a = some (a ++ ys)
  | [], a, h => by simp
  | y :: ys, a, h => by
    rw [List.length_cons] at h
    rw [List.foldlM_cons]
    show ((if a.length < sizeLine then some (a ++ [y]) else none : Option (List Va)).bind fun a => ys.foldlM (accL G c).add a) = _
    rw [if_pos (by omega)]
    show ys.foldlM (accL G c).add (a ++ [y]) = _
    rw [add_accL ys (a ++ [y]) (by simp; omega)]
    simp
/-- one clause, any way of adding -/
theorem s1_core {α : Type} {G : Gc} {A : Acc α G} {get : Gt} {i : Nat} {e : ME} {vs : List Nat} {ys : List Va} {a b : α} (hy : yields get ys st) (hn : ys.length < 1000000) (f : Va → Va)
    (he : ∀ y ∈ ys, wp (e ((wipeA sl vs).set i (some y)) st) (fun z s => z = f y ∧ s = st) NoE) (hf : (ys.map f).foldlM A.add a = some b) :
    cL get (gN i) mYes (stE A e) vs fuel 0 sl a st = .ok b st := by
  refine cL_pure hy (fun a y => A.add a (f y)) (fun a y hm => ⟨_, true, rfl, rfl, fun _ a' ha => ?_, fun k => (by cases k)⟩) fuel 0 a _ (by show ys.length - 0 < 1000000; omega) (by rw [List.drop_zero, fold_map]; exact hf)
  have : e ((wipeA sl vs).set i (some y)) st = .ok (f y) st := wp_eq (he y hm)
  unfold stE
  simp only [this, ha]
/-- two clauses: what the second walks is told of each item of the first -/
theorem s2_core {α : Type} {G : Gc} {A : Acc α G} {get : Gt} {i j : Nat} {e : ME} {mi : MI} {vs vs1 : List Nat} {ys : List Va} {a b : α} (hy : yields get ys st) (hn : ys.length < 1000000) (g : Va → List Va) (f : Va → Va → Va)
    (hi : ∀ y ∈ ys, wp (mi ((wipeA sl vs).set i (some y)) st) (fun get2 s => (yields get2 (g y) st ∧ (g y).length < 1000000) ∧ s = st) NoE)
    (he : ∀ y ∈ ys, ∀ z ∈ g y, wp (e ((wipeA ((wipeA sl vs).set i (some y)) vs1).set j (some z)) st) (fun u s => u = f y z ∧ s = st) NoE)
    (hf : (ys.flatMap fun y => (g y).map (f y)).foldlM A.add a = some b) :
    cL get (gN i) mYes (st2 mi (gN j) mYes vs1 (stE A e)) vs fuel 0 sl a st = .ok b st := by
  refine cL_pure hy (fun a y => ((g y).map (f y)).foldlM A.add a) (fun a y hm => ⟨_, true, rfl, rfl, fun _ a' ha => ?_, fun k => (by cases k)⟩) fuel 0 a _ (by show ys.length - 0 < 1000000; omega) (by rw [List.drop_zero, fold_two]; exact hf)
  obtain ⟨get2, h1, h2, h3⟩ := wp_eq' (hi y hm)
  unfold st2
  simp only [h1]
  exact s1_core h2 h3 (f y) (fun z hz => he y hm z hz) ha
theorem l2_all {G : Gc} {c : Bool} {get : Gt} {i j : Nat} {e : ME} {mi : MI} {vs vs1 : List Nat} {ys : List Va} (hy : yields get ys st) (hn : ys.length < 1000000) (g : Va → List Va) (f : Va → Va → Va)
    (hi : ∀ y ∈ ys, wp (mi ((wipeA sl vs).set i (some y)) st) (fun get2 s => (yields get2 (g y) st ∧ (g y).length < 1000000) ∧ s = st) NoE)
    (he : ∀ y ∈ ys, ∀ z ∈ g y, wp (e ((wipeA ((wipeA sl vs).set i (some y)) vs1).set j (some z)) st) (fun u s => u = f y z ∧ s = st) NoE)
    (hl : (ys.flatMap fun y => (g y).map (f y)).length ≤ sizeLine)
    (h : Q (mkL c (ys.flatMap fun y => (g y).map (f y)) st).1 (mkL c (ys.flatMap fun y => (g y).map (f y)) st).2) : kC1 (accL G c) (gN i) mYes vs (st2 mi (gN j) mYes vs1 (stE (accL G c) e)) sl Q get st := by
  unfold kC1
  rw [s2_core (a := (accL G c).nil) (b := ys.flatMap fun y => (g y).map (f y)) hy hn g f hi he (by rw [show (accL G c).nil = ([] : List Va) from rfl, add_accL _ _ (by simpa using hl)]; rfl)]
  exact h

/-! ### sets of texts -/
abbrev kt (l : Sg) : Key := .inr (T l)
theorem kt_inj {a b : Sg} : kt a = kt b ↔ a = b := by simp [kt, T_inj]
/-- members in the order of their first coming -/
def dd : List Sg → List Sg → List Sg
  | a, [] => a
  | a, x :: xs => dd (if x ∈ a then a else a ++ [x]) xs
theorem dd_mem : ∀ (xs a : List Sg) (x : Sg), x ∈ dd a xs ↔ x ∈ a ∨ x ∈ xs
  | [], a, x => by simp [dd]
  | y :: ys, a, x => by
    unfold dd
    rw [dd_mem ys]
    by_cases h : y ∈ a
    · rw [if_pos h, List.mem_cons]
      constructor
      · rintro (h | h)
        · exact .inl h
        · exact .inr (.inr h)
      · rintro (h1 | h1 | h1)
        · exact .inl h1
        · subst h1; exact .inl h
        · exact .inr h1
    · rw [if_neg h, List.mem_append, List.mem_singleton, List.mem_cons]
      constructor
      · rintro ((h | h) | h)
        · exact .inl h
        · exact .inr (.inl h)
        · exact .inr (.inr h)
      · rintro (h | h | h)
        · exact .inl (.inl h)
        · exact .inl (.inr h)
        · exact .inr h
theorem dd_nodup : ∀ (xs a : List Sg), a.Nodup → (dd a xs).Nodup
  | [], a, h => h
  | y :: ys, a, h => by
    unfold dd
    refine dd_nodup ys _ ?_
    by_cases hm : y ∈ a
    · rw [if_pos hm]; exact h
    · rw [if_neg hm]
      refine List.nodup_append.mpr ⟨h, by simp, fun x hx z hz => ?_⟩
      rw [List.mem_singleton.mp hz]
      intro e
      exact hm (e ▸ hx)
theorem dd_len : ∀ (xs a : List Sg), (dd a xs).length ≤ a.length + xs.length
  | [], a => by simp [dd]
  | y :: ys, a => by
    unfold dd
    have := dd_len ys (if y ∈ a then a else a ++ [y])
    split at this <;> simp_all <;> omega
theorem addS_kt {a : List Sg} {x : Sg} : addS (a.map kt) (kt x) = (if x ∈ a then a else a ++ [x]).map kt := by
  unfold addS
  have : ((a.map kt).any fun j => decide (j = kt x)) = decide (x ∈ a) := by
    rw [Bool.eq_iff_iff]
    simp [T_inj]
  rw [this]
  by_cases h : x ∈ a
  · simp [h]
  · simp [h]
theorem add_accS {G : Gc} : ∀ (ls a : List Sg), a.length + ls.length + 1 < scanBound → (ls.map tv).foldlM (accS G).add (a.map kt) = some ((dd a ls).map kt)
  | [], a, h => rfl
  | x :: xs, a, h => by
    rw [List.length_cons] at h
    rw [List.map_cons, List.foldlM_cons]
    have : (accS G).add (a.map kt) (tv x) = some ((if x ∈ a then a else a ++ [x]).map kt) := by
      show ((keyA (tv x)).bind fun k => if (a.map kt).length + 1 < scanBound then some (addS (a.map kt) k) else none) = _
      show (if (a.map kt).length + 1 < scanBound then some (addS (a.map kt) (kt x)) else none) = _
      rw [if_pos (by rw [List.length_map]; omega), addS_kt]
    rw [this]
    show (xs.map tv).foldlM (accS G).add ((if x ∈ a then a else a ++ [x]).map kt) = _
    rw [add_accS xs (if x ∈ a then a else a ++ [x]) (by split <;> (try rw [List.length_append, List.length_singleton]) <;> omega)]
    rfl
theorem s1_w {G : Gc} {get : Gt} {i : Nat} {e : ME} {vs : List Nat} {ys : List Va} (hy : yields get ys st) (f : Va → Va) (ls : List Sg)
    (he : ∀ y ∈ ys, wp (e ((wipeA sl vs).set i (some y)) st) (fun z s => z = f y ∧ s = st) NoE) (hf : ys.map f = ls.map tv) (hl : ls.length < 4000)
    (h : Q (.sts ((dd [] ls).map kt)) st) : kC1 (accS G) (gN i) mYes vs (stE (accS G) e) sl Q get st := by
  unfold kC1
  have hn : ys.length = ls.length := by simpa using congrArg List.length hf
  rw [s1_core (a := (accS G).nil) (b := (dd [] ls).map kt) hy (by omega) f he (by rw [hf]; exact add_accS ls [] (by show 0 + ls.length + 1 < 4096; omega))]
  exact h
theorem s2_w {G : Gc} {get : Gt} {i j : Nat} {e : ME} {mi : MI} {vs vs1 : List Nat} {ys : List Va} (hy : yields get ys st) (hn : ys.length < 1000000) (g : Va → List Va) (f : Va → Va → Va) (ls : List Sg)
    (hi : ∀ y ∈ ys, wp (mi ((wipeA sl vs).set i (some y)) st) (fun get2 s => (yields get2 (g y) st ∧ (g y).length < 1000000) ∧ s = st) NoE)
    (he : ∀ y ∈ ys, ∀ z ∈ g y, wp (e ((wipeA ((wipeA sl vs).set i (some y)) vs1).set j (some z)) st) (fun u s => u = f y z ∧ s = st) NoE)
    (hf : (ys.flatMap fun y => (g y).map (f y)) = ls.map tv) (hl : ls.length < 4000)
    (h : Q (.sts ((dd [] ls).map kt)) st) : kC1 (accS G) (gN i) mYes vs (st2 mi (gN j) mYes vs1 (stE (accS G) e)) sl Q get st := by
  unfold kC1
  rw [s2_core (a := (accS G).nil) (b := (dd [] ls).map kt) hy hn g f hi he (by rw [hf]; exact add_accS ls [] (by show 0 + ls.length + 1 < 4096; omega))]
  exact h

/-! ### sorting texts -/
def leG (a b : Sg) : Bool := decide (a ≤ b)
def leN (a b : Sg) : Bool := decide (a.length ≤ b.length)
/-- in order of signs; in word order -/
def srt (ls : List Sg) : List Sg := ls.mergeSort leG
def srtN (ls : List Sg) : List Sg := ls.mergeSort leN
theorem srt_perm {l l' : List Sg} (p : l.Perm l') : srt l = srt l' :=
  perm_sort (fun a b c h1 h2 => by unfold leG at *; simp only [decide_eq_true_eq] at *; exact List.le_trans h1 h2) (fun a b => by unfold leG; simp only [Bool.or_eq_true, decide_eq_true_eq]; exact List.le_total _ _)
    (fun a b h1 h2 => by unfold leG at *; simp only [decide_eq_true_eq] at *; exact List.le_antisymm h1 h2) p
theorem srt_mem {l : List Sg} {x : Sg} : x ∈ srt l ↔ x ∈ l := (List.mergeSort_perm l leG).mem_iff
theorem srtN_mem {l : List Sg} {x : Sg} : x ∈ srtN l ↔ x ∈ l := (List.mergeSort_perm l leN).mem_iff
theorem srt_len {l : List Sg} : (srt l).length = l.length := (List.mergeSort_perm l leG).length_eq
theorem srtN_len {l : List Sg} : (srtN l).length = l.length := (List.mergeSort_perm l leN).length_eq
theorem mapKS {ls : List Sg} : (ls.map kt).mapM keyS = some (ls.map T) := by
  induction ls with
  | nil => rfl
  | cons x xs ih => rw [List.map_cons, List.mapM_cons, ih]; rfl
theorem sortK_T {ls : List Sg} : sortK (ls.map kt) = some ((srt ls).map tv) := by
  cases ls with
  | nil => simp [sortK, srt]
  | cons x xs =>
    have h1 : ((x :: xs).map kt).mapM keyI = none := by rw [List.map_cons, List.mapM_cons]; rfl
    unfold sortK
    rw [h1]
    rw [mapKS]
    unfold srt
    rw [show tv = Va.str ∘ T from rfl, ← List.map_map, List.map_mergeSort (f := T) (r := leG) (s := leS) (l := x :: xs) (fun a _ b _ => by unfold leG leS; rw [T_cps, T_cps])]
theorem sortedS {c : Bool} {ls : List Sg} : wpO (bSorted c [.sts (ls.map kt)] st) Q = Q (mkL c ((srt ls).map tv) st).1 (mkL c ((srt ls).map tv) st).2 := by
  unfold bSorted bSortedS
  simp only [sortK_T, Option.map_some]
  rfl
theorem mapM_tot {kf : Va → Option PyData} {f : Sg → PyData} : ∀ {ls : List Sg}, (∀ l ∈ ls, kf (tv l) = some (f l)) → (ls.map tv).mapM kf = some (ls.map f)
  | [], _ => rfl
  | l :: ls, h => by
    rw [List.map_cons, List.mapM_cons, h l List.mem_cons_self, mapM_tot fun x hx => h x (List.mem_cons_of_mem _ hx)]
    rfl
theorem sortV_of {kf : Va → Option PyData} {f : Sg → PyData} {le : Sg → Sg → Bool} {ls : List Sg} (h : ∀ l ∈ ls, kf (tv l) = some (f l)) (ha : ∀ a b, PySem.W.alike (f a) (f b) = true) (hs : ∀ a, (match f a with | .none => false | .tuple _ => false | _ => true) = true)
    (hd : ∀ a, (f a).depth ≤ 64) (hle : ∀ a b, le a b = PySem.W.dataLe false f a b) : sortV kf (ls.map tv) = some ((ls.mergeSort le).map tv) := by
  unfold sortV
  rw [mapM_tot h]
  have h1 : alikeB (ls.map f) = true := by
    unfold alikeB
    rw [List.all_eq_true]
    intro d hd
    obtain ⟨a, _, rfl⟩ := List.mem_map.mp hd
    rw [List.all_eq_true]
    intro e he
    obtain ⟨b, _, rfl⟩ := List.mem_map.mp he
    exact ha a b
  have h2 : sortB (ls.map f) = true := by
    unfold sortB
    rw [Bool.or_eq_true]
    right
    rw [List.all_eq_true]
    intro d hd
    obtain ⟨a, _, rfl⟩ := List.mem_map.mp hd
    exact hs a
  have h3 : ((ls.map f).all fun d => decide (d.depth ≤ 64)) = true := by
    rw [List.all_eq_true]
    intro d hd'
    obtain ⟨a, _, rfl⟩ := List.mem_map.mp hd'
    exact decide_eq_true (hd a)
  show (if alikeB (ls.map f) && (sortB (ls.map f) && (ls.map f).all fun d => decide (d.depth ≤ 64)) then _ else _) = _
  rw [h1, h2, h3]
  show some _ = some _
  congr 1
  rw [List.map_mergeSort]
  intro a hA b hB
  rw [hle]
  rw [PySem.W.dataLe_eq, PySem.W.dataLe_eq]
  simp only [h a hA, h b hB, Option.getD_some]
theorem sortV_str {ls : List Sg} : sortV (skF st .str) (ls.map tv) = some ((srt ls).map tv) :=
  sortV_of (f := fun l => .str (T l)) (fun _ _ => rfl) (fun _ _ => rfl) (fun _ => rfl) (fun _ => by simp [PyData.depth]) fun a b => by
    rw [PySem.W.dataLe_str (fun l : Sg => T l)]
    unfold leG
    simp only [T_cps]
theorem sortV_len {ls : List Sg} (h : ∀ l ∈ ls, l.length ≤ sizeLine) : sortV (skF st .len) (ls.map tv) = some ((srtN ls).map tv) :=
  sortV_of (f := fun l => .int l.length) (fun l hl => by simp [skF, h l hl]) (fun _ _ => rfl) (fun _ => rfl) (fun _ => by simp [PyData.depth]) fun a b => by
    rw [PySem.W.dataLe_int (fun l : Sg => (l.length : Int))]
    unfold leN
    simp
theorem k_sortStr {c : Bool} {x : Va} {ls : List Sg} (h : lookL st x = some (ls.map tv)) : kSortK .str c Q x st = Q (mkL c ((srt ls).map tv) st).1 (mkL c ((srt ls).map tv) st).2 := by
  unfold kSortK
  simp only [h, sortV_str]
theorem k_sortLen {c : Bool} {x : Va} {ls : List Sg} (h : lookL st x = some (ls.map tv)) (hl : ∀ l ∈ ls, l.length ≤ sizeLine) : kSortK .len c Q x st = Q (mkL c ((srtN ls).map tv) st).1 (mkL c ((srtN ls).map tv) st).2 := by
  unfold kSortK
  simp only [h, sortV_len hl]
/-- the texts in word order, each once -/
def wordOrd (ls : List Sg) : List Sg := srtN (srt (dd [] ls))
theorem wordOrd_mem {ls : List Sg} {x : Sg} : x ∈ wordOrd ls ↔ x ∈ ls := by
  unfold wordOrd
  rw [srtN_mem, srt_mem, dd_mem]
  simp
theorem perm_of_nodup {a b : List Sg} (ha : a.Nodup) (hb : b.Nodup) (h : ∀ x, x ∈ a ↔ x ∈ b) : a.Perm b := (List.perm_ext_iff_of_nodup ha hb).mpr h
theorem wordOrd_congr {a b : List Sg} (h : ∀ x, x ∈ a ↔ x ∈ b) : wordOrd a = wordOrd b := by
  unfold wordOrd
  rw [srt_perm (perm_of_nodup (dd_nodup a [] .nil) (dd_nodup b [] .nil) fun x => by rw [dd_mem, dd_mem, h x])]
end SM
set_option Elab.async false
set_option linter.all false
set_option maxRecDepth 100000
set_option maxHeartbeats 4000000
/-! PL3: comprehensions over typed lists; loops over lists. -/
namespace SM
open PySem PySem.Spec PyProof.Rows L2
variable {Q : KV} {st : Sto} {E : QE} {sl : Slo} {QX : QS}
open Classical in
noncomputable def lft {α β : Type} (v : β → Va) (f : β → α) (d : α) : Va → α := fun y => if h : ∃ b, v b = y then f h.choose else d
abbrev Inj {β : Type} (v : β → Va) : Prop := ∀ a b, v a = v b → a = b
theorem lft_at {α β : Type} {v : β → Va} {f : β → α} {d : α} (hv : Inj v) (b : β) : lft v f d (v b) = f b := by
  have h : ∃ c, v c = v b := ⟨b, rfl⟩
  unfold lft
  rw [dif_pos h, hv _ _ h.choose_spec]
theorem inj_tv : Inj tv := fun a b h => by cases h' : h; exact T_inj.mp (Va.str.inj h)
theorem inj_ch : Inj fun c : Nat => tv [c] := fun a b h => by
  have := T_inj.mp (Va.str.inj h)
  simpa using this
theorem inj_nat : Inj fun i : Nat => Va.int (i : Int) := fun a b h => by
  have := Va.int.inj h
  omega
theorem map_lft {α β : Type} {v : β → Va} {f : β → α} {d : α} (hv : Inj v) (xs : List β) : (xs.map v).map (lft v f d) = xs.map f := by
  rw [List.map_map]
  exact List.map_congr_left fun b _ => lft_at hv b
theorem filter_lft {β : Type} {v : β → Va} {p : β → Bool} (hv : Inj v) (xs : List β) : (xs.map v).filter (lft v p false) = (xs.filter p).map v := by
  rw [List.filter_map]
  congr 1
  exact List.filter_congr fun b _ => lft_at hv b
theorem l1_if {β : Type} {G : Gc} {c : Bool} {get : Gt} {i : Nat} {t : MB} {e : ME} {vs : List Nat} (xs : List β) (v : β → Va) (p : β → Bool) (f : β → Va) (hv : Inj v) (hy : yields get (xs.map v) st) (hl : xs.length < 1000000)
    (ht : ∀ b ∈ xs, wp (t ((wipeA sl vs).set i (some (v b))) st) (fun k s => k = p b ∧ s = st) NoE)
    (he : ∀ b ∈ xs, p b = true → wp (e ((wipeA sl vs).set i (some (v b))) st) (fun z s => z = f b ∧ s = st) NoE)
    (h : Q (mkL c ((xs.filter p).map f) st).1 (mkL c ((xs.filter p).map f) st).2) : kC1 (accL G c) (gN i) t vs (stE (accL G c) e) sl Q get st := by
  refine l1_w hy (by simpa using hl) (lft v p false) (lft v f .non) (fun y hm => ?_) (fun y hm hp => ?_) (by rw [filter_lft hv, map_lft hv]; exact h)
  · obtain ⟨b, hb, rfl⟩ := List.mem_map.mp hm
    rw [lft_at hv]
    exact ht b hb
  · obtain ⟨b, hb, rfl⟩ := List.mem_map.mp hm
    rw [lft_at hv] at hp ⊢
    exact he b hb hp
theorem l1_of {β : Type} {G : Gc} {c : Bool} {get : Gt} {i : Nat} {e : ME} {vs : List Nat} (xs : List β) (v : β → Va) (f : β → Va) (hv : Inj v) (hy : yields get (xs.map v) st) (hl : xs.length < 1000000)
    (he : ∀ b ∈ xs, wp (e ((wipeA sl vs).set i (some (v b))) st) (fun z s => z = f b ∧ s = st) NoE)
    (h : Q (mkL c (xs.map f) st).1 (mkL c (xs.map f) st).2) : kC1 (accL G c) (gN i) mYes vs (stE (accL G c) e) sl Q get st := by
  refine l1_all hy (by simpa using hl) (lft v f .non) (fun y hm => ?_) (by rw [map_lft hv]; exact h)
  obtain ⟨b, hb, rfl⟩ := List.mem_map.mp hm
  rw [lft_at hv]
  exact he b hb
theorem flat_lft {β γ : Type} {v : β → Va} {u : γ → Va} {g : β → List γ} {f : β → γ → Va} (hv : Inj v) (hu : Inj u) (xs : List β) :
    ((xs.map v).flatMap fun y => (lft v (fun b => (g b).map u) [] y).map (lft v (fun b => lft u (f b) .non) (fun _ => .non) y)) = xs.flatMap fun b => (g b).map (f b) := by
  induction xs with
  | nil => rfl
  | cons x xs ih =>
    rw [List.map_cons, List.flatMap_cons, List.flatMap_cons, ih, lft_at hv, lft_at hv, map_lft hu]
theorem l2_of {β γ : Type} {G : Gc} {c : Bool} {get : Gt} {i j : Nat} {e : ME} {mi : MI} {vs vs1 : List Nat} (xs : List β) (v : β → Va) (g : β → List γ) (u : γ → Va) (f : β → γ → Va) (hv : Inj v) (hu : Inj u) (hy : yields get (xs.map v) st) (hn : xs.length < 1000000)
    (hi : ∀ b ∈ xs, wp (mi ((wipeA sl vs).set i (some (v b))) st) (fun get2 s => (yields get2 ((g b).map u) st ∧ (g b).length < 1000000) ∧ s = st) NoE)
    (he : ∀ b ∈ xs, ∀ z ∈ g b, wp (e ((wipeA ((wipeA sl vs).set i (some (v b))) vs1).set j (some (u z))) st) (fun w s => w = f b z ∧ s = st) NoE)
    (hl : (xs.flatMap fun b => (g b).map (f b)).length ≤ sizeLine)
    (h : Q (mkL c (xs.flatMap fun b => (g b).map (f b)) st).1 (mkL c (xs.flatMap fun b => (g b).map (f b)) st).2) : kC1 (accL G c) (gN i) mYes vs (st2 mi (gN j) mYes vs1 (stE (accL G c) e)) sl Q get st := by
  refine l2_all hy (by simpa using hn) (lft v (fun b => (g b).map u) []) (lft v (fun b => lft u (f b) .non) (fun _ => .non)) (fun y hm => ?_) (fun y hm z hz => ?_) (by rw [flat_lft hv hu]; exact hl) (by rw [flat_lft hv hu]; exact h)
  · obtain ⟨b, hb, rfl⟩ := List.mem_map.mp hm
    rw [lft_at hv, List.length_map]
    exact hi b hb
  · obtain ⟨b, hb, rfl⟩ := List.mem_map.mp hm
    rw [lft_at hv] at hz ⊢
    obtain ⟨z', hz', rfl⟩ := List.mem_map.mp hz
    rw [lft_at hu]
    exact he b hb z' hz'
theorem s1_of {β : Type} {G : Gc} {get : Gt} {i : Nat} {e : ME} {vs : List Nat} (xs : List β) (v : β → Va) (f : β → Sg) (hv : Inj v) (hy : yields get (xs.map v) st) (hl : xs.length < 4000)
    (he : ∀ b ∈ xs, wp (e ((wipeA sl vs).set i (some (v b))) st) (fun z s => z = tv (f b) ∧ s = st) NoE)
    (h : Q (.sts ((dd [] (xs.map f)).map kt)) st) : kC1 (accS G) (gN i) mYes vs (stE (accS G) e) sl Q get st := by
  refine s1_w hy (lft v (fun b => tv (f b)) .non) (xs.map f) (fun y hm => ?_) (by rw [map_lft hv, List.map_map]; rfl) (by simpa using hl) h
  obtain ⟨b, hb, rfl⟩ := List.mem_map.mp hm
  rw [lft_at hv]
  exact he b hb
theorem s2_of {β γ : Type} {G : Gc} {get : Gt} {i j : Nat} {e : ME} {mi : MI} {vs vs1 : List Nat} (xs : List β) (v : β → Va) (g : β → List γ) (u : γ → Va) (f : β → γ → Sg) (hv : Inj v) (hu : Inj u) (hy : yields get (xs.map v) st) (hn : xs.length < 1000000)
    (hi : ∀ b ∈ xs, wp (mi ((wipeA sl vs).set i (some (v b))) st) (fun get2 s => (yields get2 ((g b).map u) st ∧ (g b).length < 1000000) ∧ s = st) NoE)
    (he : ∀ b ∈ xs, ∀ z ∈ g b, wp (e ((wipeA ((wipeA sl vs).set i (some (v b))) vs1).set j (some (u z))) st) (fun w s => w = tv (f b z) ∧ s = st) NoE)
    (hl : (xs.flatMap fun b => (g b).map (f b)).length < 4000)
    (h : Q (.sts ((dd [] (xs.flatMap fun b => (g b).map (f b))).map kt)) st) : kC1 (accS G) (gN i) mYes vs (st2 mi (gN j) mYes vs1 (stE (accS G) e)) sl Q get st := by
  refine s2_w hy (by simpa using hn) (lft v (fun b => (g b).map u) []) (lft v (fun b => lft u (fun z => tv (f b z)) .non) (fun _ => .non)) (xs.flatMap fun b => (g b).map (f b)) (fun y hm => ?_) (fun y hm z hz => ?_) (by rw [flat_lft (f := fun b z => tv (f b z)) hv hu, List.map_flatMap]; simp only [List.map_map]; rfl) hl h
  · obtain ⟨b, hb, rfl⟩ := List.mem_map.mp hm
    rw [lft_at hv, List.length_map]
    exact hi b hb
  · obtain ⟨b, hb, rfl⟩ := List.mem_map.mp hm
    rw [lft_at hv] at hz ⊢
    obtain ⟨z', hz', rfl⟩ := List.mem_map.mp hz
    rw [lft_at hu]
    exact he b hb z' hz'
section
variable {G : Gc} {c : Bool} {mi mi1 : MI} {g g1 : MG} {t t1 : MB} {e : ME} {vs vs1 : List Nat}
@[simp] theorem wp_mL1 : wp (mL1 G c mi g t e vs sl st) Q E = wp (mi sl st) (kC1 (accL G c) g t vs (stE (accL G c) e) sl Q) E := by unfold mL1; rw [wp_c1]
@[simp] theorem wp_mL2 : wp (mL2 G c mi g t mi1 g1 t1 e vs vs1 sl st) Q E = wp (mi sl st) (kC1 (accL G c) g t vs (st2 mi1 g1 t1 vs1 (stE (accL G c) e)) sl Q) E := by unfold mL2; rw [wp_c1]
@[simp] theorem wp_mS1 : wp (mS1 G mi g t e vs sl st) Q E = wp (mi sl st) (kC1 (accS G) g t vs (stE (accS G) e) sl Q) E := by unfold mS1; rw [wp_c1]
@[simp] theorem wp_mS2 : wp (mS2 G mi g t mi1 g1 t1 e vs vs1 sl st) Q E = wp (mi sl st) (kC1 (accS G) g t vs (st2 mi1 g1 t1 vs1 (stE (accS G) e)) sl Q) E := by unfold mS2; rw [wp_c1]
end
@[simp] theorem wipe_nil : wipeA sl [] = sl := (rfl)
@[simp] theorem wipe_cons {v : Nat} {vs : List Nat} : wipeA sl (v :: vs) = (wipeA sl vs).set v none := (rfl)
/-- a loop over a list whose items are v b; the loop's variable is i. I k is told at turn k -/
theorem for_of {E : QES} {β : Type} {get : Gt} {i : Nat} {b : MS} (xs : List β) (v : β → Va) (I : Nat → Slo → Sto → Prop) (hn : xs.length < 1000000) (hy : ∀ k sl st, I k sl st → yields get (xs.map v) st) (h0 : I 0 sl st)
    (hstep : ∀ k x sl st, xs[k]? = some x → I k sl st → wpS (b (sl.set i (some (v x))) st) (kTurn I k QX) E)
    (hend : ∀ sl st, I xs.length sl st → QX .nx sl st) : kFor (gN i) b sl QX E get st := by
  refine for_inv xs.length I hn h0 (fun k sl st hk h => ?_) fun sl st h => ⟨?_, hend sl st h⟩
  · have hx : xs[k]? = some xs[k] := by simp [hk]
    refine ⟨v xs[k], ?_, _, rfl, hstep k _ sl st hx h⟩
    rw [hy k sl st h k, List.getElem?_map, hx]
    rfl
  · rw [hy _ sl st h, List.getElem?_map, List.getElem?_eq_none_iff.mpr (Nat.le_refl _)]
    rfl
theorem all_map {β : Type} {f : β → Bool} {xs : List β} : wpO (bAll [.fl (xs.map fun b => .bl (f b))] st) Q = Q (.bl (xs.all f)) st := by
  have : (xs.map fun b => Va.bl (f b)).mapM asBl = some (xs.map f) := by
    induction xs with
    | nil => rfl
    | cons x xs ih => rw [List.map_cons, List.mapM_cons, ih]; rfl
  unfold bAll bFold
  simp [this]
theorem any_map {β : Type} {f : β → Bool} {xs : List β} : wpO (bAny [.fl (xs.map fun b => .bl (f b))] st) Q = Q (.bl (xs.any f)) st := by
  have : (xs.map fun b => Va.bl (f b)).mapM asBl = some (xs.map f) := by
    induction xs with
    | nil => rfl
    | cons x xs ih => rw [List.map_cons, List.mapM_cons, ih]; rfl
  unfold bAny bFold
  simp [this]
end SM
set_option Elab.async false
set_option linter.all false
set_option maxRecDepth 100000
set_option maxHeartbeats 4000000
/-! PL4: == of lists of texts, isinstance, texts repeated. -/
namespace SM
open PySem PySem.Spec PyProof.Rows L2
variable {Q : KV} {st : Sto} {E : QE} {sl : Slo} {QX : QS}
theorem toPy_strs {n : Nat} {ls : List Sg} : (ls.map tv).mapM (toPy st (n + 1)) = some (ls.map fun l => PyData.str (T l)) := by
  induction ls with
  | nil => rfl
  | cons x xs ih => rw [List.map_cons, List.mapM_cons, ih]; rfl
theorem py_l {x : Va} {ls : List Sg} (h : lookL st x = some (ls.map tv)) : py st x = some (.list (ls.map fun l => .str (T l))) := by
  cases x with
  | fl xs => cases h; show ((ls.map tv).mapM (toPy st 11)).map PyData.list = _; rw [toPy_strs]; rfl
  | fz xs => cases h; show ((ls.map tv).mapM (toPy st 11)).map PyData.list = _; rw [toPy_strs]; rfl
  | ref i =>
    have e : st[i]? = some (.lst (ls.map tv)) := by
      unfold lookL at h
      cases e : st[i]? with
      | none => simp [e] at h
      | some o =>
        cases o <;> simp [e] at h
        rw [h]
    show (match st[i]? with | some (.lst xs) => (xs.mapM (toPy st 11)).map PyData.list | _ => none) = _
    rw [e]
    simp only [toPy_strs]
    rfl
  | _ => cases h
theorem canAll {ls : List Sg} (h : ∀ l ∈ ls, SOk l) : PyData.canLayAll0 (ls.map fun l => .str (T l)) = true := by
  induction ls with
  | nil => rfl
  | cons x xs ih =>
    rw [List.map_cons, PyData.canLayAll0, PyData.canLay0, strOk_T (h x List.mem_cons_self), ih fun l hl => h l (List.mem_cons_of_mem _ hl)]
    rfl
theorem depthAll {ls : List Sg} : PyData.depthAll (ls.map fun l => .str (T l)) = 0 := by
  induction ls with
  | nil => rfl
  | cons x xs ih =>
    rw [List.map_cons, PyData.depthAll, ih]
    rfl
theorem shaped_l {ls : List Sg} (h : ∀ l ∈ ls, SOk l) : SeqAt.shaped (.list (ls.map fun l => .str (T l))) = true := by
  unfold SeqAt.shaped
  rw [PyData.canLay0, canAll h, PyData.depth, depthAll]
  rfl
theorem eqvAll_T : ∀ {a b : List Sg}, PyData.eqvAll (a.map fun l => .str (T l)) (b.map fun l => .str (T l)) = decide (a = b)
  | [], [] => by simp [PyData.eqvAll]
  | [], _ :: _ => by simp [PyData.eqvAll]
  | _ :: _, [] => by simp [PyData.eqvAll]
  | x :: xs, y :: ys => by
    rw [List.map_cons, List.map_cons, PyData.eqvAll, eqv_T, eqvAll_T]
    rw [Bool.eq_iff_iff]
    simp
theorem eq_ll {neg : Bool} {x y : Va} {a b : List Sg} (hx : lookL st x = some (a.map tv)) (hy : lookL st y = some (b.map tv)) (ha : ∀ l ∈ a, SOk l) (hb : ∀ l ∈ b, SOk l) : wpO (opEq neg x y st) Q = Q (.bl (neg != decide (a = b))) st := by
  rw [eq_py (py_l hx) (py_l hy) (shaped_l ha) (shaped_l hb), PyData.eqv, eqvAll_T]
theorem eq_self {neg : Bool} {x y : Va} {d : PyData} (hx : py st x = some d) (hy : py st y = some d) (sd : SeqAt.shaped d = true) (ha : PySem.W.alike d d = true) : wpO (opEq neg x y st) Q = Q (.bl (neg != true)) st := by
  rw [eq_py hx hy sd sd, PySem.W.eqv_refl_alike d ha]
@[simp] theorem eq_nl {neg : Bool} {xs : List Va} {ds : List PyData} (h : xs.mapM (toPy st 11) = some ds) : wpO (opEq neg .non (.fl xs) st) Q = if SeqAt.shaped (.list ds) then Q (.bl neg) st else False := by
  have : py st (.fl xs) = some (.list ds) := by show (xs.mapM (toPy st 11)).map PyData.list = _; rw [h]; rfl
  unfold opEq
  simp only [this]
  show wpO (if SeqAt.shaped .none && SeqAt.shaped (.list ds) then some (.bl (neg != PyData.eqv .none (.list ds)), st) else none) Q = _
  rw [show SeqAt.shaped .none = true from rfl, PyData.eqv]
  cases SeqAt.shaped (.list ds) <;> cases neg <;> rfl
theorem isi_of {I : Isi} {x : Va} {u : Va} {t c : Tg} {b : Bool} (hx : tagOf I st x = some t) (hu : tgC u = some c) (h : I.look t c = some b) : wpO (bIsi I [x, u] st) Q = Q (.bl b) st := by
  have : bIsi I [x, u] st = some (.bl b, st) := by
    cases u with
    | tup us => cases hu
    | _ => simp only [bIsi, hx, hu, Option.bind_some, h, Option.map_some]
  rw [this]; rfl
theorem isi_tup {I : Isi} {x : Va} {us : List Va} {t : Tg} {cs : List Tg} {b : Bool} (hx : tagOf I st x = some t) (hu : us.mapM tgC = some cs) (h : anyI I t cs = some b) : wpO (bIsi I [x, .tup us] st) Q = Q (.bl b) st := by
  have : bIsi I [x, .tup us] st = some (.bl b, st) := by
    simp only [bIsi, hx, hu, Option.bind_some, h, Option.map_some]
  rw [this]; rfl
theorem foldl_arr (c : Nat) : ∀ (n : Nat) (z : Array Nat), ((List.replicate n (#[c] : Array Nat)).foldl (· ++ ·) z) = z ++ (List.replicate n c).toArray
  | 0, z => by simp
  | n + 1, z => by
    rw [List.replicate_succ, List.foldl_cons, foldl_arr c n, List.replicate_succ]
    apply Array.toList_inj.mp
    simp
theorem repS_one {c n : Nat} : repS (T [c]) n = T (List.replicate n c) := by
  unfold repS T
  rw [foldl_arr]
  simp
theorem mul_str {cc : Bool} {c : Nat} {k : Nat} (hk : k < 1000000) : wpO (opMul cc (tv [c]) (.int (k : Int)) st) Q = Q (tv (List.replicate k c)) st := by
  have hz : k ≤ sizeLine := by show k ≤ 2 ^ 24; omega
  simp only [opMul, T_len]
  simp [hz, repS_one]
  rw [if_pos (by omega)]
  rfl
theorem lookL_at {i : Nat} {xs : List Va} (h : lookL st (.ref i) = some xs) : st[i]? = some (.lst xs) := by
  unfold lookL at h
  cases e : st[i]? with
  | none => simp [e] at h
  | some o => cases o <;> simp [e] at h; rw [h]
theorem lookL_gr {st' : Sto} {x : Va} {xs : List Va} (g : Gr st st') (h : lookL st x = some xs) : lookL st' x = some xs := by
  cases x with
  | ref i => exact lookL_ref (g _ _ (lookL_at h))
  | _ => exact h
theorem lookL_grX {st' : Sto} {i k : Nat} {xs : List Va} (g : GrX k st st') (n : i ≠ k) (h : lookL st (.ref i) = some xs) : lookL st' (.ref i) = some xs := lookL_ref (g _ _ n (lookL_at h))
end SM
set_option Elab.async false
set_option linter.all false
set_option maxRecDepth 100000
set_option maxHeartbeats 0
/-! printed by wip/gen.py -/
namespace Gk00
open PySem PySem.Spec PyProof.Rows L2 SM NdefX
abbrev PR : Program := PySem.Challenge.pw_unseendials_k00_heads_and_tails
def top (i : Nat) : Stmt := PR.main.body.getD i (.Pass ⟨0, 0, 0, 0⟩)
def ini (i : Nat) : Stmt := (clsBody (top i)).getD 0 (.Pass ⟨0, 0, 0, 0⟩)
def d_is_dial : He.DefD := ⟨("is_dial", none), "is_dial", "is_dial", defArgs (top 37), defBody (top 37), defScope (top 37), [], []⟩
def d_is_back : He.DefD := ⟨("is_back", none), "is_back", "is_back", defArgs (top 38), defBody (top 38), defScope (top 38), [], []⟩
def d_is_head : He.DefD := ⟨("is_head", none), "is_head", "is_head", defArgs (top 39), defBody (top 39), defScope (top 39), [], []⟩
def d_is_word : He.DefD := ⟨("is_word", none), "is_word", "is_word", defArgs (top 40), defBody (top 40), defScope (top 40), [], []⟩
def d_require_word : He.DefD := ⟨("require_word", none), "require_word", "require_word", defArgs (top 41), defBody (top 41), defScope (top 41), [], []⟩
def d_heads : He.DefD := ⟨("heads", none), "heads", "heads", defArgs (top 42), defBody (top 42), defScope (top 42), [], []⟩
def d_tails : He.DefD := ⟨("tails", none), "tails", "tails", defArgs (top 43), defBody (top 43), defScope (top 43), [], []⟩
def d_first_letter : He.DefD := ⟨("first_letter", none), "first_letter", "first_letter", defArgs (top 44), defBody (top 44), defScope (top 44), [], []⟩
def d_rest_of : He.DefD := ⟨("rest_of", none), "rest_of", "rest_of", defArgs (top 45), defBody (top 45), defScope (top 45), [], []⟩
def d_point_of : He.DefD := ⟨("point_of", none), "point_of", "point_of", defArgs (top 46), defBody (top 46), defScope (top 46), [], []⟩
def d_ordered : He.DefD := ⟨("ordered", none), "ordered", "ordered", defArgs (top 47), defBody (top 47), defScope (top 47), [], []⟩
def d_in_order : He.DefD := ⟨("in_order", none), "in_order", "in_order", defArgs (top 48), defBody (top 48), defScope (top 48), [], []⟩
def d_tail_set : He.DefD := ⟨("tail_set", none), "tail_set", "tail_set", defArgs (top 49), defBody (top 49), defScope (top 49), [], []⟩
def d_dials_of : He.DefD := ⟨("dials_of", none), "dials_of", "dials_of", defArgs (top 50), defBody (top 50), defScope (top 50), [], []⟩
def d_points_of : He.DefD := ⟨("points_of", none), "points_of", "points_of", defArgs (top 51), defBody (top 51), defScope (top 51), [], []⟩
def d_partner : He.DefD := ⟨("partner", none), "partner", "partner", defArgs (top 52), defBody (top 52), defScope (top 52), [], []⟩
def d__law_read : He.DefD := ⟨("_law_read", none), "_law_read", "_law_read", defArgs (top 54), defBody (top 54), defScope (top 54), [], []⟩
def d__law_source : He.DefD := ⟨("_law_source", none), "_law_source", "_law_source", defArgs (top 55), defBody (top 55), defScope (top 55), [], []⟩
def d__law_draw : He.DefD := ⟨("_law_draw", none), "_law_draw", "_law_draw", defArgs (top 56), defBody (top 56), defScope (top 56), [], []⟩
def d__law_size : He.DefD := ⟨("_law_size", none), "_law_size", "_law_size", defArgs (top 57), defBody (top 57), defScope (top 57), [], []⟩
def d__law_ordered : He.DefD := ⟨("_law_ordered", none), "_law_ordered", "_law_ordered", defArgs (top 58), defBody (top 58), defScope (top 58), [], []⟩
def d__law_tail_set : He.DefD := ⟨("_law_tail_set", none), "_law_tail_set", "_law_tail_set", defArgs (top 59), defBody (top 59), defScope (top 59), [], []⟩
def d__law_same_words : He.DefD := ⟨("_law_same_words", none), "_law_same_words", "_law_same_words", defArgs (top 60), defBody (top 60), defScope (top 60), [], []⟩
def d__law_any_word : He.DefD := ⟨("_law_any_word", none), "_law_any_word", "_law_any_word", defArgs (top 61), defBody (top 61), defScope (top 61), [], []⟩
def d__law_spoilt : He.DefD := ⟨("_law_spoilt", none), "_law_spoilt", "_law_spoilt", defArgs (top 62), defBody (top 62), defScope (top 62), [], []⟩
def d__law_right : He.DefD := ⟨("_law_right", none), "_law_right", "_law_right", defArgs (top 63), defBody (top 63), defScope (top 63), [], []⟩
def d__law_list : He.DefD := ⟨("_law_list", none), "_law_list", "_law_list", defArgs (top 64), defBody (top 64), defScope (top 64), [], []⟩
def d__law_refusal : He.DefD := ⟨("_law_refusal", none), "_law_refusal", "_law_refusal", defArgs (top 65), defBody (top 65), defScope (top 65), [], []⟩
def d__law_list_refusal : He.DefD := ⟨("_law_list_refusal", none), "_law_list_refusal", "_law_list_refusal", defArgs (top 66), defBody (top 66), defScope (top 66), [], []⟩
def d__law_word_holds : He.DefD := ⟨("_law_word_holds", none), "_law_word_holds", "_law_word_holds", defArgs (top 67), defBody (top 67), defScope (top 67), [], []⟩
def d__law_text_holds : He.DefD := ⟨("_law_text_holds", none), "_law_text_holds", "_law_text_holds", defArgs (top 68), defBody (top 68), defScope (top 68), [], []⟩
def d__law_list_holds : He.DefD := ⟨("_law_list_holds", none), "_law_list_holds", "_law_list_holds", defArgs (top 69), defBody (top 69), defScope (top 69), [], []⟩
def d__law_partner_holds : He.DefD := ⟨("_law_partner_holds", none), "_law_partner_holds", "_law_partner_holds", defArgs (top 70), defBody (top 70), defScope (top 70), [], []⟩
def d__law_kinds : He.DefD := ⟨("_law_kinds", none), "_law_kinds", "_law_kinds", defArgs (top 71), defBody (top 71), defScope (top 71), [], []⟩
def d__law_errors_hold : He.DefD := ⟨("_law_errors_hold", none), "_law_errors_hold", "_law_errors_hold", defArgs (top 72), defBody (top 72), defScope (top 72), [], []⟩
def d_law : He.DefD := ⟨("law", none), "law", "law", defArgs (top 73), defBody (top 73), defScope (top 73), [], []⟩
def i_BadWord : InD := ⟨"BadWord", defArgs (ini 2), defBody (ini 2), defScope (ini 2), "BadWord.__init__"⟩
def i_BadLetter : InD := ⟨"BadLetter", defArgs (ini 3), defBody (ini 3), defScope (ini 3), "BadLetter.__init__"⟩
def i_BadFact : InD := ⟨"BadFact", defArgs (ini 4), defBody (ini 4), defScope (ini 4), "BadFact.__init__"⟩
def i_MixedFact : InD := ⟨"MixedFact", defArgs (ini 5), defBody (ini 5), defScope (ini 5), "MixedFact.__init__"⟩
def i_BadSteps : InD := ⟨"BadSteps", defArgs (ini 6), defBody (ini 6), defScope (ini 6), "BadSteps.__init__"⟩
def i_BadPlace : InD := ⟨"BadPlace", defArgs (ini 7), defBody (ini 7), defScope (ini 7), "BadPlace.__init__"⟩
def i_BadTable : InD := ⟨"BadTable", defArgs (ini 8), defBody (ini 8), defScope (ini 8), "BadTable.__init__"⟩
def i_BrokenFact : InD := ⟨"BrokenFact", defArgs (ini 9), defBody (ini 9), defScope (ini 9), "BrokenFact.__init__"⟩
def i_NotGrounded : InD := ⟨"NotGrounded", defArgs (ini 10), defBody (ini 10), defScope (ini 10), "NotGrounded.__init__"⟩
def i_NoPlace : InD := ⟨"NoPlace", defArgs (ini 11), defBody (ini 11), defScope (ini 11), "NoPlace.__init__"⟩
def i_NoTable : InD := ⟨"NoTable", defArgs (ini 12), defBody (ini 12), defScope (ini 12), "NoTable.__init__"⟩
def i_NotPaired : InD := ⟨"NotPaired", defArgs (ini 13), defBody (ini 13), defScope (ini 13), "NotPaired.__init__"⟩
def i_NoPairs : InD := ⟨"NoPairs", defArgs (ini 14), defBody (ini 14), defScope (ini 14), "NoPairs.__init__"⟩
def i_NotMade : InD := ⟨"NotMade", defArgs (ini 16), defBody (ini 16), defScope (ini 16), "NotMade.__init__"⟩
def i_BadEntry : InD := ⟨"BadEntry", defArgs (ini 17), defBody (ini 17), defScope (ini 17), "BadEntry.__init__"⟩
def i_Clash : InD := ⟨"Clash", defArgs (ini 18), defBody (ini 18), defScope (ini 18), "Clash.__init__"⟩
def i_BadGroups : InD := ⟨"BadGroups", defArgs (ini 19), defBody (ini 19), defScope (ini 19), "BadGroups.__init__"⟩
def i_NotRanked : InD := ⟨"NotRanked", defArgs (ini 20), defBody (ini 20), defScope (ini 20), "NotRanked.__init__"⟩
def i_NotKept : InD := ⟨"NotKept", defArgs (ini 21), defBody (ini 21), defScope (ini 21), "NotKept.__init__"⟩
def i_BadStand : InD := ⟨"BadStand", defArgs (ini 22), defBody (ini 22), defScope (ini 22), "BadStand.__init__"⟩
def i_BadSign : InD := ⟨"BadSign", defArgs (ini 23), defBody (ini 23), defScope (ini 23), "BadSign.__init__"⟩
def i_BadSaying : InD := ⟨"BadSaying", defArgs (ini 24), defBody (ini 24), defScope (ini 24), "BadSaying.__init__"⟩
def i_NotPlain : InD := ⟨"NotPlain", defArgs (ini 25), defBody (ini 25), defScope (ini 25), "NotPlain.__init__"⟩
def i_NotOpen : InD := ⟨"NotOpen", defArgs (ini 26), defBody (ini 26), defScope (ini 26), "NotOpen.__init__"⟩
def i_Refused : InD := ⟨"Refused", defArgs (ini 27), defBody (ini 27), defScope (ini 27), "Refused.__init__"⟩
def i_OverRoom : InD := ⟨"OverRoom", defArgs (ini 29), defBody (ini 29), defScope (ini 29), "OverRoom.__init__"⟩
def i_BadLine : InD := ⟨"BadLine", defArgs (ini 30), defBody (ini 30), defScope (ini 30), "BadLine.__init__"⟩
def i_TooLarge : InD := ⟨"TooLarge", defArgs (ini 31), defBody (ini 31), defScope (ini 31), "TooLarge.__init__"⟩
def fa_0 : List (He.Fa) := [.glo "DialError", .glo "BadWord", .glo "BadLetter", .glo "BadFact", .glo "MixedFact", .glo "BadSteps", .glo "BadPlace", .glo "BadTable", .glo "BrokenFact", .glo "NotGrounded", .glo "NoPlace", .glo "NoTable", .glo "NotPaired", .glo "NoPairs", .glo "Unlike"]
def fa_1 : List (He.Fa) := [.glo "NotMade", .glo "BadEntry", .glo "Clash", .glo "BadGroups", .glo "NotRanked", .glo "NotKept", .glo "BadStand", .glo "BadSign", .glo "BadSaying", .glo "NotPlain", .glo "NotOpen", .glo "Refused", .glo "NothingTold", .glo "OverRoom", .glo "BadLine"]
def fa_2 : List (He.Fa) := [.glo "TooLarge", .glo "is_dial", .glo "is_back", .glo "is_head", .glo "is_word", .glo "require_word", .glo "heads", .glo "tails", .glo "first_letter", .glo "rest_of", .glo "point_of", .glo "ordered", .glo "in_order", .glo "tail_set", .glo "dials_of"]
def fa_3 : List (He.Fa) := [.glo "points_of", .glo "partner", .glo "_law_read", .glo "_law_source", .glo "_law_draw", .glo "_law_size", .glo "_law_ordered", .glo "_law_tail_set", .glo "_law_same_words", .glo "_law_any_word", .glo "_law_spoilt", .glo "_law_right", .glo "_law_list", .glo "_law_refusal", .glo "_law_list_refusal"]
def fa_4 : List (He.Fa) := [.glo "_law_word_holds", .glo "_law_text_holds", .glo "_law_list_holds", .glo "_law_partner_holds", .glo "_law_kinds", .glo "_law_errors_hold", .glo "law", .free "ValueError", .free "abs", .free "all", .free "bool", .free "int", .free "isinstance", .free "len", .free "list"]
def fa_5 : List (He.Fa) := [.free "range", .free "sorted", .free "str", .free "super", .free "tuple", .str "DIALS" "abcdefghijklmnopqrst", .str "BACKS" "ABCDEFGHIJKLMNOPQRST", .str "POINTS" "uvwxyz", .int "LONGEST" 40, .exc "Unlike", .exc "NothingTold"]
def fa : List (He.Fa) := fa_0 ++ (fa_1 ++ (fa_2 ++ (fa_3 ++ (fa_4 ++ (fa_5)))))
def fn_0 : List (He.DefD) := [d_is_dial, d_is_back, d_is_head, d_is_word, d_require_word, d_heads, d_tails, d_first_letter, d_rest_of, d_point_of, d_ordered, d_in_order, d_tail_set, d_dials_of, d_points_of]
def fn_1 : List (He.DefD) := [d_partner, d__law_read, d__law_source, d__law_draw, d__law_size, d__law_ordered, d__law_tail_set, d__law_same_words, d__law_any_word, d__law_spoilt, d__law_right, d__law_list, d__law_refusal, d__law_list_refusal, d__law_word_holds]
def fn_2 : List (He.DefD) := [d__law_text_holds, d__law_list_holds, d__law_partner_holds, d__law_kinds, d__law_errors_hold, d_law]
def fn : List (He.DefD) := fn_0 ++ (fn_1 ++ (fn_2))
def ins_0 : List (InD) := [i_BadWord, i_BadLetter, i_BadFact, i_MixedFact, i_BadSteps, i_BadPlace, i_BadTable, i_BrokenFact, i_NotGrounded, i_NoPlace, i_NoTable, i_NotPaired, i_NoPairs, i_NotMade, i_BadEntry]
def ins_1 : List (InD) := [i_Clash, i_BadGroups, i_NotRanked, i_NotKept, i_BadStand, i_BadSign, i_BadSaying, i_NotPlain, i_NotOpen, i_Refused, i_OverRoom, i_BadLine, i_TooLarge]
def ins : List (InD) := ins_0 ++ (ins_1)
def isi_0 : List (Tg × Tg × Bool) := [(.ty "NoneType", .ty "bool", false), (.ty "bool", .ty "bool", true), (.ty "int", .ty "bool", false), (.ty "str", .ty "bool", false), (.ty "tuple", .ty "bool", false), (.ty "list", .ty "bool", false), (.ty "dict", .ty "bool", false), (.ty "set", .ty "bool", false), (.ty "NoneType", .ty "list", false), (.ty "bool", .ty "list", false), (.ty "int", .ty "list", false), (.ty "str", .ty "list", false), (.ty "tuple", .ty "list", false), (.ty "list", .ty "list", true), (.ty "dict", .ty "list", false)]
def isi_1 : List (Tg × Tg × Bool) := [(.ty "set", .ty "list", false), (.ty "NoneType", .ty "str", false), (.ty "bool", .ty "str", false), (.ty "int", .ty "str", false), (.ty "str", .ty "str", true), (.ty "tuple", .ty "str", false), (.ty "list", .ty "str", false), (.ty "dict", .ty "str", false), (.ty "set", .ty "str", false), (.cl "DialError", .ty "ValueError", true), (.cl "BadWord", .ty "ValueError", true), (.cl "BadLetter", .ty "ValueError", true), (.cl "BadFact", .ty "ValueError", true), (.cl "MixedFact", .ty "ValueError", true), (.cl "BadSteps", .ty "ValueError", true)]
def isi_2 : List (Tg × Tg × Bool) := [(.cl "BadPlace", .ty "ValueError", true), (.cl "BadTable", .ty "ValueError", true), (.cl "BrokenFact", .ty "ValueError", true), (.cl "NotGrounded", .ty "ValueError", true), (.cl "NoPlace", .ty "ValueError", true), (.cl "NoTable", .ty "ValueError", true), (.cl "NotPaired", .ty "ValueError", true), (.cl "NoPairs", .ty "ValueError", true), (.cl "Unlike", .ty "ValueError", true), (.cl "NotMade", .ty "ValueError", true), (.cl "BadEntry", .ty "ValueError", true), (.cl "Clash", .ty "ValueError", true), (.cl "BadGroups", .ty "ValueError", true), (.cl "NotRanked", .ty "ValueError", true), (.cl "NotKept", .ty "ValueError", true)]
def isi_3 : List (Tg × Tg × Bool) := [(.cl "BadStand", .ty "ValueError", true), (.cl "BadSign", .ty "ValueError", true), (.cl "BadSaying", .ty "ValueError", true), (.cl "NotPlain", .ty "ValueError", true), (.cl "NotOpen", .ty "ValueError", true), (.cl "Refused", .ty "ValueError", true), (.cl "NothingTold", .ty "ValueError", true), (.cl "OverRoom", .ty "ValueError", true), (.cl "BadLine", .ty "ValueError", true), (.cl "TooLarge", .ty "ValueError", true), (.cl "DialError", .cl "DialError", true), (.cl "BadWord", .cl "DialError", true), (.cl "BadLetter", .cl "DialError", true), (.cl "BadFact", .cl "DialError", true), (.cl "MixedFact", .cl "DialError", true)]
def isi_4 : List (Tg × Tg × Bool) := [(.cl "BadSteps", .cl "DialError", true), (.cl "BadPlace", .cl "DialError", true), (.cl "BadTable", .cl "DialError", true), (.cl "BrokenFact", .cl "DialError", true), (.cl "NotGrounded", .cl "DialError", true), (.cl "NoPlace", .cl "DialError", true), (.cl "NoTable", .cl "DialError", true), (.cl "NotPaired", .cl "DialError", true), (.cl "NoPairs", .cl "DialError", true), (.cl "Unlike", .cl "DialError", true), (.cl "NotMade", .cl "DialError", true), (.cl "BadEntry", .cl "DialError", true), (.cl "Clash", .cl "DialError", true), (.cl "BadGroups", .cl "DialError", true), (.cl "NotRanked", .cl "DialError", true)]
def isi_5 : List (Tg × Tg × Bool) := [(.cl "NotKept", .cl "DialError", true), (.cl "BadStand", .cl "DialError", true), (.cl "BadSign", .cl "DialError", true), (.cl "BadSaying", .cl "DialError", true), (.cl "NotPlain", .cl "DialError", true), (.cl "NotOpen", .cl "DialError", true), (.cl "Refused", .cl "DialError", true), (.cl "NothingTold", .cl "DialError", true), (.cl "OverRoom", .cl "DialError", true), (.cl "BadLine", .cl "DialError", true), (.cl "TooLarge", .cl "DialError", true), (.cl "DialError", .cl "BadWord", false), (.cl "BadWord", .cl "BadWord", true), (.cl "BadLetter", .cl "BadWord", false), (.cl "BadFact", .cl "BadWord", false)]
def isi_6 : List (Tg × Tg × Bool) := [(.cl "MixedFact", .cl "BadWord", false), (.cl "BadSteps", .cl "BadWord", false), (.cl "BadPlace", .cl "BadWord", false), (.cl "BadTable", .cl "BadWord", false), (.cl "BrokenFact", .cl "BadWord", false), (.cl "NotGrounded", .cl "BadWord", false), (.cl "NoPlace", .cl "BadWord", false), (.cl "NoTable", .cl "BadWord", false), (.cl "NotPaired", .cl "BadWord", false), (.cl "NoPairs", .cl "BadWord", false), (.cl "Unlike", .cl "BadWord", false), (.cl "NotMade", .cl "BadWord", false), (.cl "BadEntry", .cl "BadWord", false), (.cl "Clash", .cl "BadWord", false), (.cl "BadGroups", .cl "BadWord", false)]
def isi_7 : List (Tg × Tg × Bool) := [(.cl "NotRanked", .cl "BadWord", false), (.cl "NotKept", .cl "BadWord", false), (.cl "BadStand", .cl "BadWord", false), (.cl "BadSign", .cl "BadWord", false), (.cl "BadSaying", .cl "BadWord", false), (.cl "NotPlain", .cl "BadWord", false), (.cl "NotOpen", .cl "BadWord", false), (.cl "Refused", .cl "BadWord", false), (.cl "NothingTold", .cl "BadWord", false), (.cl "OverRoom", .cl "BadWord", false), (.cl "BadLine", .cl "BadWord", false), (.cl "TooLarge", .cl "BadWord", false), (.cl "DialError", .cl "BadLetter", false), (.cl "BadWord", .cl "BadLetter", false), (.cl "BadLetter", .cl "BadLetter", true)]
def isi_8 : List (Tg × Tg × Bool) := [(.cl "BadFact", .cl "BadLetter", false), (.cl "MixedFact", .cl "BadLetter", false), (.cl "BadSteps", .cl "BadLetter", false), (.cl "BadPlace", .cl "BadLetter", false), (.cl "BadTable", .cl "BadLetter", false), (.cl "BrokenFact", .cl "BadLetter", false), (.cl "NotGrounded", .cl "BadLetter", false), (.cl "NoPlace", .cl "BadLetter", false), (.cl "NoTable", .cl "BadLetter", false), (.cl "NotPaired", .cl "BadLetter", false), (.cl "NoPairs", .cl "BadLetter", false), (.cl "Unlike", .cl "BadLetter", false), (.cl "NotMade", .cl "BadLetter", false), (.cl "BadEntry", .cl "BadLetter", false), (.cl "Clash", .cl "BadLetter", false)]
def isi_9 : List (Tg × Tg × Bool) := [(.cl "BadGroups", .cl "BadLetter", false), (.cl "NotRanked", .cl "BadLetter", false), (.cl "NotKept", .cl "BadLetter", false), (.cl "BadStand", .cl "BadLetter", false), (.cl "BadSign", .cl "BadLetter", false), (.cl "BadSaying", .cl "BadLetter", false), (.cl "NotPlain", .cl "BadLetter", false), (.cl "NotOpen", .cl "BadLetter", false), (.cl "Refused", .cl "BadLetter", false), (.cl "NothingTold", .cl "BadLetter", false), (.cl "OverRoom", .cl "BadLetter", false), (.cl "BadLine", .cl "BadLetter", false), (.cl "TooLarge", .cl "BadLetter", false), (.cl "DialError", .cl "BadFact", false), (.cl "BadWord", .cl "BadFact", false)]
def isi_10 : List (Tg × Tg × Bool) := [(.cl "BadLetter", .cl "BadFact", false), (.cl "BadFact", .cl "BadFact", true), (.cl "MixedFact", .cl "BadFact", false), (.cl "BadSteps", .cl "BadFact", false), (.cl "BadPlace", .cl "BadFact", false), (.cl "BadTable", .cl "BadFact", false), (.cl "BrokenFact", .cl "BadFact", false), (.cl "NotGrounded", .cl "BadFact", false), (.cl "NoPlace", .cl "BadFact", false), (.cl "NoTable", .cl "BadFact", false), (.cl "NotPaired", .cl "BadFact", false), (.cl "NoPairs", .cl "BadFact", false), (.cl "Unlike", .cl "BadFact", false), (.cl "NotMade", .cl "BadFact", false), (.cl "BadEntry", .cl "BadFact", false)]
def isi_11 : List (Tg × Tg × Bool) := [(.cl "Clash", .cl "BadFact", false), (.cl "BadGroups", .cl "BadFact", false), (.cl "NotRanked", .cl "BadFact", false), (.cl "NotKept", .cl "BadFact", false), (.cl "BadStand", .cl "BadFact", false), (.cl "BadSign", .cl "BadFact", false), (.cl "BadSaying", .cl "BadFact", false), (.cl "NotPlain", .cl "BadFact", false), (.cl "NotOpen", .cl "BadFact", false), (.cl "Refused", .cl "BadFact", false), (.cl "NothingTold", .cl "BadFact", false), (.cl "OverRoom", .cl "BadFact", false), (.cl "BadLine", .cl "BadFact", false), (.cl "TooLarge", .cl "BadFact", false), (.cl "DialError", .cl "MixedFact", false)]
def isi_12 : List (Tg × Tg × Bool) := [(.cl "BadWord", .cl "MixedFact", false), (.cl "BadLetter", .cl "MixedFact", false), (.cl "BadFact", .cl "MixedFact", false), (.cl "MixedFact", .cl "MixedFact", true), (.cl "BadSteps", .cl "MixedFact", false), (.cl "BadPlace", .cl "MixedFact", false), (.cl "BadTable", .cl "MixedFact", false), (.cl "BrokenFact", .cl "MixedFact", false), (.cl "NotGrounded", .cl "MixedFact", false), (.cl "NoPlace", .cl "MixedFact", false), (.cl "NoTable", .cl "MixedFact", false), (.cl "NotPaired", .cl "MixedFact", false), (.cl "NoPairs", .cl "MixedFact", false), (.cl "Unlike", .cl "MixedFact", false), (.cl "NotMade", .cl "MixedFact", false)]
def isi_13 : List (Tg × Tg × Bool) := [(.cl "BadEntry", .cl "MixedFact", false), (.cl "Clash", .cl "MixedFact", false), (.cl "BadGroups", .cl "MixedFact", false), (.cl "NotRanked", .cl "MixedFact", false), (.cl "NotKept", .cl "MixedFact", false), (.cl "BadStand", .cl "MixedFact", false), (.cl "BadSign", .cl "MixedFact", false), (.cl "BadSaying", .cl "MixedFact", false), (.cl "NotPlain", .cl "MixedFact", false), (.cl "NotOpen", .cl "MixedFact", false), (.cl "Refused", .cl "MixedFact", false), (.cl "NothingTold", .cl "MixedFact", false), (.cl "OverRoom", .cl "MixedFact", false), (.cl "BadLine", .cl "MixedFact", false), (.cl "TooLarge", .cl "MixedFact", false)]
def isi_14 : List (Tg × Tg × Bool) := [(.cl "DialError", .cl "BadSteps", false), (.cl "BadWord", .cl "BadSteps", false), (.cl "BadLetter", .cl "BadSteps", false), (.cl "BadFact", .cl "BadSteps", false), (.cl "MixedFact", .cl "BadSteps", false), (.cl "BadSteps", .cl "BadSteps", true), (.cl "BadPlace", .cl "BadSteps", false), (.cl "BadTable", .cl "BadSteps", false), (.cl "BrokenFact", .cl "BadSteps", false), (.cl "NotGrounded", .cl "BadSteps", false), (.cl "NoPlace", .cl "BadSteps", false), (.cl "NoTable", .cl "BadSteps", false), (.cl "NotPaired", .cl "BadSteps", false), (.cl "NoPairs", .cl "BadSteps", false), (.cl "Unlike", .cl "BadSteps", false)]
def isi_15 : List (Tg × Tg × Bool) := [(.cl "NotMade", .cl "BadSteps", false), (.cl "BadEntry", .cl "BadSteps", false), (.cl "Clash", .cl "BadSteps", false), (.cl "BadGroups", .cl "BadSteps", false), (.cl "NotRanked", .cl "BadSteps", false), (.cl "NotKept", .cl "BadSteps", false), (.cl "BadStand", .cl "BadSteps", false), (.cl "BadSign", .cl "BadSteps", false), (.cl "BadSaying", .cl "BadSteps", false), (.cl "NotPlain", .cl "BadSteps", false), (.cl "NotOpen", .cl "BadSteps", false), (.cl "Refused", .cl "BadSteps", false), (.cl "NothingTold", .cl "BadSteps", false), (.cl "OverRoom", .cl "BadSteps", false), (.cl "BadLine", .cl "BadSteps", false)]
def isi_16 : List (Tg × Tg × Bool) := [(.cl "TooLarge", .cl "BadSteps", false), (.cl "DialError", .cl "BadPlace", false), (.cl "BadWord", .cl "BadPlace", false), (.cl "BadLetter", .cl "BadPlace", false), (.cl "BadFact", .cl "BadPlace", false), (.cl "MixedFact", .cl "BadPlace", false), (.cl "BadSteps", .cl "BadPlace", false), (.cl "BadPlace", .cl "BadPlace", true), (.cl "BadTable", .cl "BadPlace", false), (.cl "BrokenFact", .cl "BadPlace", false), (.cl "NotGrounded", .cl "BadPlace", false), (.cl "NoPlace", .cl "BadPlace", false), (.cl "NoTable", .cl "BadPlace", false), (.cl "NotPaired", .cl "BadPlace", false), (.cl "NoPairs", .cl "BadPlace", false)]
def isi_17 : List (Tg × Tg × Bool) := [(.cl "Unlike", .cl "BadPlace", false), (.cl "NotMade", .cl "BadPlace", false), (.cl "BadEntry", .cl "BadPlace", false), (.cl "Clash", .cl "BadPlace", false), (.cl "BadGroups", .cl "BadPlace", false), (.cl "NotRanked", .cl "BadPlace", false), (.cl "NotKept", .cl "BadPlace", false), (.cl "BadStand", .cl "BadPlace", false), (.cl "BadSign", .cl "BadPlace", false), (.cl "BadSaying", .cl "BadPlace", false), (.cl "NotPlain", .cl "BadPlace", false), (.cl "NotOpen", .cl "BadPlace", false), (.cl "Refused", .cl "BadPlace", false), (.cl "NothingTold", .cl "BadPlace", false), (.cl "OverRoom", .cl "BadPlace", false)]
def isi_18 : List (Tg × Tg × Bool) := [(.cl "BadLine", .cl "BadPlace", false), (.cl "TooLarge", .cl "BadPlace", false), (.cl "DialError", .cl "BadTable", false), (.cl "BadWord", .cl "BadTable", false), (.cl "BadLetter", .cl "BadTable", false), (.cl "BadFact", .cl "BadTable", false), (.cl "MixedFact", .cl "BadTable", false), (.cl "BadSteps", .cl "BadTable", false), (.cl "BadPlace", .cl "BadTable", false), (.cl "BadTable", .cl "BadTable", true), (.cl "BrokenFact", .cl "BadTable", false), (.cl "NotGrounded", .cl "BadTable", false), (.cl "NoPlace", .cl "BadTable", false), (.cl "NoTable", .cl "BadTable", false), (.cl "NotPaired", .cl "BadTable", false)]
def isi_19 : List (Tg × Tg × Bool) := [(.cl "NoPairs", .cl "BadTable", false), (.cl "Unlike", .cl "BadTable", false), (.cl "NotMade", .cl "BadTable", false), (.cl "BadEntry", .cl "BadTable", false), (.cl "Clash", .cl "BadTable", false), (.cl "BadGroups", .cl "BadTable", false), (.cl "NotRanked", .cl "BadTable", false), (.cl "NotKept", .cl "BadTable", false), (.cl "BadStand", .cl "BadTable", false), (.cl "BadSign", .cl "BadTable", false), (.cl "BadSaying", .cl "BadTable", false), (.cl "NotPlain", .cl "BadTable", false), (.cl "NotOpen", .cl "BadTable", false), (.cl "Refused", .cl "BadTable", false), (.cl "NothingTold", .cl "BadTable", false)]
def isi_20 : List (Tg × Tg × Bool) := [(.cl "OverRoom", .cl "BadTable", false), (.cl "BadLine", .cl "BadTable", false), (.cl "TooLarge", .cl "BadTable", false), (.cl "DialError", .cl "BrokenFact", false), (.cl "BadWord", .cl "BrokenFact", false), (.cl "BadLetter", .cl "BrokenFact", false), (.cl "BadFact", .cl "BrokenFact", false), (.cl "MixedFact", .cl "BrokenFact", false), (.cl "BadSteps", .cl "BrokenFact", false), (.cl "BadPlace", .cl "BrokenFact", false), (.cl "BadTable", .cl "BrokenFact", false), (.cl "BrokenFact", .cl "BrokenFact", true), (.cl "NotGrounded", .cl "BrokenFact", false), (.cl "NoPlace", .cl "BrokenFact", false), (.cl "NoTable", .cl "BrokenFact", false)]
def isi_21 : List (Tg × Tg × Bool) := [(.cl "NotPaired", .cl "BrokenFact", false), (.cl "NoPairs", .cl "BrokenFact", false), (.cl "Unlike", .cl "BrokenFact", false), (.cl "NotMade", .cl "BrokenFact", false), (.cl "BadEntry", .cl "BrokenFact", false), (.cl "Clash", .cl "BrokenFact", false), (.cl "BadGroups", .cl "BrokenFact", false), (.cl "NotRanked", .cl "BrokenFact", false), (.cl "NotKept", .cl "BrokenFact", false), (.cl "BadStand", .cl "BrokenFact", false), (.cl "BadSign", .cl "BrokenFact", false), (.cl "BadSaying", .cl "BrokenFact", false), (.cl "NotPlain", .cl "BrokenFact", false), (.cl "NotOpen", .cl "BrokenFact", false), (.cl "Refused", .cl "BrokenFact", false)]
def isi_22 : List (Tg × Tg × Bool) := [(.cl "NothingTold", .cl "BrokenFact", false), (.cl "OverRoom", .cl "BrokenFact", false), (.cl "BadLine", .cl "BrokenFact", false), (.cl "TooLarge", .cl "BrokenFact", false), (.cl "DialError", .cl "NotGrounded", false), (.cl "BadWord", .cl "NotGrounded", false), (.cl "BadLetter", .cl "NotGrounded", false), (.cl "BadFact", .cl "NotGrounded", false), (.cl "MixedFact", .cl "NotGrounded", false), (.cl "BadSteps", .cl "NotGrounded", false), (.cl "BadPlace", .cl "NotGrounded", false), (.cl "BadTable", .cl "NotGrounded", false), (.cl "BrokenFact", .cl "NotGrounded", false), (.cl "NotGrounded", .cl "NotGrounded", true), (.cl "NoPlace", .cl "NotGrounded", false)]
def isi_23 : List (Tg × Tg × Bool) := [(.cl "NoTable", .cl "NotGrounded", false), (.cl "NotPaired", .cl "NotGrounded", false), (.cl "NoPairs", .cl "NotGrounded", false), (.cl "Unlike", .cl "NotGrounded", false), (.cl "NotMade", .cl "NotGrounded", false), (.cl "BadEntry", .cl "NotGrounded", false), (.cl "Clash", .cl "NotGrounded", false), (.cl "BadGroups", .cl "NotGrounded", false), (.cl "NotRanked", .cl "NotGrounded", false), (.cl "NotKept", .cl "NotGrounded", false), (.cl "BadStand", .cl "NotGrounded", false), (.cl "BadSign", .cl "NotGrounded", false), (.cl "BadSaying", .cl "NotGrounded", false), (.cl "NotPlain", .cl "NotGrounded", false), (.cl "NotOpen", .cl "NotGrounded", false)]
def isi_24 : List (Tg × Tg × Bool) := [(.cl "Refused", .cl "NotGrounded", false), (.cl "NothingTold", .cl "NotGrounded", false), (.cl "OverRoom", .cl "NotGrounded", false), (.cl "BadLine", .cl "NotGrounded", false), (.cl "TooLarge", .cl "NotGrounded", false), (.cl "DialError", .cl "NoPlace", false), (.cl "BadWord", .cl "NoPlace", false), (.cl "BadLetter", .cl "NoPlace", false), (.cl "BadFact", .cl "NoPlace", false), (.cl "MixedFact", .cl "NoPlace", false), (.cl "BadSteps", .cl "NoPlace", false), (.cl "BadPlace", .cl "NoPlace", false), (.cl "BadTable", .cl "NoPlace", false), (.cl "BrokenFact", .cl "NoPlace", false), (.cl "NotGrounded", .cl "NoPlace", false)]
def isi_25 : List (Tg × Tg × Bool) := [(.cl "NoPlace", .cl "NoPlace", true), (.cl "NoTable", .cl "NoPlace", false), (.cl "NotPaired", .cl "NoPlace", false), (.cl "NoPairs", .cl "NoPlace", false), (.cl "Unlike", .cl "NoPlace", false), (.cl "NotMade", .cl "NoPlace", false), (.cl "BadEntry", .cl "NoPlace", false), (.cl "Clash", .cl "NoPlace", false), (.cl "BadGroups", .cl "NoPlace", false), (.cl "NotRanked", .cl "NoPlace", false), (.cl "NotKept", .cl "NoPlace", false), (.cl "BadStand", .cl "NoPlace", false), (.cl "BadSign", .cl "NoPlace", false), (.cl "BadSaying", .cl "NoPlace", false), (.cl "NotPlain", .cl "NoPlace", false)]
def isi_26 : List (Tg × Tg × Bool) := [(.cl "NotOpen", .cl "NoPlace", false), (.cl "Refused", .cl "NoPlace", false), (.cl "NothingTold", .cl "NoPlace", false), (.cl "OverRoom", .cl "NoPlace", false), (.cl "BadLine", .cl "NoPlace", false), (.cl "TooLarge", .cl "NoPlace", false), (.cl "DialError", .cl "NoTable", false), (.cl "BadWord", .cl "NoTable", false), (.cl "BadLetter", .cl "NoTable", false), (.cl "BadFact", .cl "NoTable", false), (.cl "MixedFact", .cl "NoTable", false), (.cl "BadSteps", .cl "NoTable", false), (.cl "BadPlace", .cl "NoTable", false), (.cl "BadTable", .cl "NoTable", false), (.cl "BrokenFact", .cl "NoTable", false)]
def isi_27 : List (Tg × Tg × Bool) := [(.cl "NotGrounded", .cl "NoTable", false), (.cl "NoPlace", .cl "NoTable", false), (.cl "NoTable", .cl "NoTable", true), (.cl "NotPaired", .cl "NoTable", false), (.cl "NoPairs", .cl "NoTable", false), (.cl "Unlike", .cl "NoTable", false), (.cl "NotMade", .cl "NoTable", false), (.cl "BadEntry", .cl "NoTable", false), (.cl "Clash", .cl "NoTable", false), (.cl "BadGroups", .cl "NoTable", false), (.cl "NotRanked", .cl "NoTable", false), (.cl "NotKept", .cl "NoTable", false), (.cl "BadStand", .cl "NoTable", false), (.cl "BadSign", .cl "NoTable", false), (.cl "BadSaying", .cl "NoTable", false)]
def isi_28 : List (Tg × Tg × Bool) := [(.cl "NotPlain", .cl "NoTable", false), (.cl "NotOpen", .cl "NoTable", false), (.cl "Refused", .cl "NoTable", false), (.cl "NothingTold", .cl "NoTable", false), (.cl "OverRoom", .cl "NoTable", false), (.cl "BadLine", .cl "NoTable", false), (.cl "TooLarge", .cl "NoTable", false), (.cl "DialError", .cl "NotPaired", false), (.cl "BadWord", .cl "NotPaired", false), (.cl "BadLetter", .cl "NotPaired", false), (.cl "BadFact", .cl "NotPaired", false), (.cl "MixedFact", .cl "NotPaired", false), (.cl "BadSteps", .cl "NotPaired", false), (.cl "BadPlace", .cl "NotPaired", false), (.cl "BadTable", .cl "NotPaired", false)]
def isi_29 : List (Tg × Tg × Bool) := [(.cl "BrokenFact", .cl "NotPaired", false), (.cl "NotGrounded", .cl "NotPaired", false), (.cl "NoPlace", .cl "NotPaired", false), (.cl "NoTable", .cl "NotPaired", false), (.cl "NotPaired", .cl "NotPaired", true), (.cl "NoPairs", .cl "NotPaired", false), (.cl "Unlike", .cl "NotPaired", false), (.cl "NotMade", .cl "NotPaired", false), (.cl "BadEntry", .cl "NotPaired", false), (.cl "Clash", .cl "NotPaired", false), (.cl "BadGroups", .cl "NotPaired", false), (.cl "NotRanked", .cl "NotPaired", false), (.cl "NotKept", .cl "NotPaired", false), (.cl "BadStand", .cl "NotPaired", false), (.cl "BadSign", .cl "NotPaired", false)]
def isi_30 : List (Tg × Tg × Bool) := [(.cl "BadSaying", .cl "NotPaired", false), (.cl "NotPlain", .cl "NotPaired", false), (.cl "NotOpen", .cl "NotPaired", false), (.cl "Refused", .cl "NotPaired", false), (.cl "NothingTold", .cl "NotPaired", false), (.cl "OverRoom", .cl "NotPaired", false), (.cl "BadLine", .cl "NotPaired", false), (.cl "TooLarge", .cl "NotPaired", false), (.cl "DialError", .cl "NoPairs", false), (.cl "BadWord", .cl "NoPairs", false), (.cl "BadLetter", .cl "NoPairs", false), (.cl "BadFact", .cl "NoPairs", false), (.cl "MixedFact", .cl "NoPairs", false), (.cl "BadSteps", .cl "NoPairs", false), (.cl "BadPlace", .cl "NoPairs", false)]
def isi_31 : List (Tg × Tg × Bool) := [(.cl "BadTable", .cl "NoPairs", false), (.cl "BrokenFact", .cl "NoPairs", false), (.cl "NotGrounded", .cl "NoPairs", false), (.cl "NoPlace", .cl "NoPairs", false), (.cl "NoTable", .cl "NoPairs", false), (.cl "NotPaired", .cl "NoPairs", false), (.cl "NoPairs", .cl "NoPairs", true), (.cl "Unlike", .cl "NoPairs", false), (.cl "NotMade", .cl "NoPairs", false), (.cl "BadEntry", .cl "NoPairs", false), (.cl "Clash", .cl "NoPairs", false), (.cl "BadGroups", .cl "NoPairs", false), (.cl "NotRanked", .cl "NoPairs", false), (.cl "NotKept", .cl "NoPairs", false), (.cl "BadStand", .cl "NoPairs", false)]
def isi_32 : List (Tg × Tg × Bool) := [(.cl "BadSign", .cl "NoPairs", false), (.cl "BadSaying", .cl "NoPairs", false), (.cl "NotPlain", .cl "NoPairs", false), (.cl "NotOpen", .cl "NoPairs", false), (.cl "Refused", .cl "NoPairs", false), (.cl "NothingTold", .cl "NoPairs", false), (.cl "OverRoom", .cl "NoPairs", false), (.cl "BadLine", .cl "NoPairs", false), (.cl "TooLarge", .cl "NoPairs", false), (.cl "DialError", .cl "Unlike", false), (.cl "BadWord", .cl "Unlike", false), (.cl "BadLetter", .cl "Unlike", false), (.cl "BadFact", .cl "Unlike", false), (.cl "MixedFact", .cl "Unlike", false), (.cl "BadSteps", .cl "Unlike", false)]
def isi_33 : List (Tg × Tg × Bool) := [(.cl "BadPlace", .cl "Unlike", false), (.cl "BadTable", .cl "Unlike", false), (.cl "BrokenFact", .cl "Unlike", false), (.cl "NotGrounded", .cl "Unlike", false), (.cl "NoPlace", .cl "Unlike", false), (.cl "NoTable", .cl "Unlike", false), (.cl "NotPaired", .cl "Unlike", false), (.cl "NoPairs", .cl "Unlike", false), (.cl "Unlike", .cl "Unlike", true), (.cl "NotMade", .cl "Unlike", false), (.cl "BadEntry", .cl "Unlike", false), (.cl "Clash", .cl "Unlike", false), (.cl "BadGroups", .cl "Unlike", false), (.cl "NotRanked", .cl "Unlike", false), (.cl "NotKept", .cl "Unlike", false)]
def isi_34 : List (Tg × Tg × Bool) := [(.cl "BadStand", .cl "Unlike", false), (.cl "BadSign", .cl "Unlike", false), (.cl "BadSaying", .cl "Unlike", false), (.cl "NotPlain", .cl "Unlike", false), (.cl "NotOpen", .cl "Unlike", false), (.cl "Refused", .cl "Unlike", false), (.cl "NothingTold", .cl "Unlike", false), (.cl "OverRoom", .cl "Unlike", false), (.cl "BadLine", .cl "Unlike", false), (.cl "TooLarge", .cl "Unlike", false), (.cl "DialError", .cl "NotMade", false), (.cl "BadWord", .cl "NotMade", false), (.cl "BadLetter", .cl "NotMade", false), (.cl "BadFact", .cl "NotMade", false), (.cl "MixedFact", .cl "NotMade", false)]
def isi_35 : List (Tg × Tg × Bool) := [(.cl "BadSteps", .cl "NotMade", false), (.cl "BadPlace", .cl "NotMade", false), (.cl "BadTable", .cl "NotMade", false), (.cl "BrokenFact", .cl "NotMade", false), (.cl "NotGrounded", .cl "NotMade", false), (.cl "NoPlace", .cl "NotMade", false), (.cl "NoTable", .cl "NotMade", false), (.cl "NotPaired", .cl "NotMade", false), (.cl "NoPairs", .cl "NotMade", false), (.cl "Unlike", .cl "NotMade", false), (.cl "NotMade", .cl "NotMade", true), (.cl "BadEntry", .cl "NotMade", false), (.cl "Clash", .cl "NotMade", false), (.cl "BadGroups", .cl "NotMade", false), (.cl "NotRanked", .cl "NotMade", false)]
def isi_36 : List (Tg × Tg × Bool) := [(.cl "NotKept", .cl "NotMade", false), (.cl "BadStand", .cl "NotMade", false), (.cl "BadSign", .cl "NotMade", false), (.cl "BadSaying", .cl "NotMade", false), (.cl "NotPlain", .cl "NotMade", false), (.cl "NotOpen", .cl "NotMade", false), (.cl "Refused", .cl "NotMade", false), (.cl "NothingTold", .cl "NotMade", false), (.cl "OverRoom", .cl "NotMade", false), (.cl "BadLine", .cl "NotMade", false), (.cl "TooLarge", .cl "NotMade", false), (.cl "DialError", .cl "BadEntry", false), (.cl "BadWord", .cl "BadEntry", false), (.cl "BadLetter", .cl "BadEntry", false), (.cl "BadFact", .cl "BadEntry", false)]
def isi_37 : List (Tg × Tg × Bool) := [(.cl "MixedFact", .cl "BadEntry", false), (.cl "BadSteps", .cl "BadEntry", false), (.cl "BadPlace", .cl "BadEntry", false), (.cl "BadTable", .cl "BadEntry", false), (.cl "BrokenFact", .cl "BadEntry", false), (.cl "NotGrounded", .cl "BadEntry", false), (.cl "NoPlace", .cl "BadEntry", false), (.cl "NoTable", .cl "BadEntry", false), (.cl "NotPaired", .cl "BadEntry", false), (.cl "NoPairs", .cl "BadEntry", false), (.cl "Unlike", .cl "BadEntry", false), (.cl "NotMade", .cl "BadEntry", false), (.cl "BadEntry", .cl "BadEntry", true), (.cl "Clash", .cl "BadEntry", false), (.cl "BadGroups", .cl "BadEntry", false)]
def isi_38 : List (Tg × Tg × Bool) := [(.cl "NotRanked", .cl "BadEntry", false), (.cl "NotKept", .cl "BadEntry", false), (.cl "BadStand", .cl "BadEntry", false), (.cl "BadSign", .cl "BadEntry", false), (.cl "BadSaying", .cl "BadEntry", false), (.cl "NotPlain", .cl "BadEntry", false), (.cl "NotOpen", .cl "BadEntry", false), (.cl "Refused", .cl "BadEntry", false), (.cl "NothingTold", .cl "BadEntry", false), (.cl "OverRoom", .cl "BadEntry", false), (.cl "BadLine", .cl "BadEntry", false), (.cl "TooLarge", .cl "BadEntry", false), (.cl "DialError", .cl "Clash", false), (.cl "BadWord", .cl "Clash", false), (.cl "BadLetter", .cl "Clash", false)]
def isi_39 : List (Tg × Tg × Bool) := [(.cl "BadFact", .cl "Clash", false), (.cl "MixedFact", .cl "Clash", false), (.cl "BadSteps", .cl "Clash", false), (.cl "BadPlace", .cl "Clash", false), (.cl "BadTable", .cl "Clash", false), (.cl "BrokenFact", .cl "Clash", false), (.cl "NotGrounded", .cl "Clash", false), (.cl "NoPlace", .cl "Clash", false), (.cl "NoTable", .cl "Clash", false), (.cl "NotPaired", .cl "Clash", false), (.cl "NoPairs", .cl "Clash", false), (.cl "Unlike", .cl "Clash", false), (.cl "NotMade", .cl "Clash", false), (.cl "BadEntry", .cl "Clash", false), (.cl "Clash", .cl "Clash", true)]
def isi_40 : List (Tg × Tg × Bool) := [(.cl "BadGroups", .cl "Clash", false), (.cl "NotRanked", .cl "Clash", false), (.cl "NotKept", .cl "Clash", false), (.cl "BadStand", .cl "Clash", false), (.cl "BadSign", .cl "Clash", false), (.cl "BadSaying", .cl "Clash", false), (.cl "NotPlain", .cl "Clash", false), (.cl "NotOpen", .cl "Clash", false), (.cl "Refused", .cl "Clash", false), (.cl "NothingTold", .cl "Clash", false), (.cl "OverRoom", .cl "Clash", false), (.cl "BadLine", .cl "Clash", false), (.cl "TooLarge", .cl "Clash", false), (.cl "DialError", .cl "BadGroups", false), (.cl "BadWord", .cl "BadGroups", false)]
def isi_41 : List (Tg × Tg × Bool) := [(.cl "BadLetter", .cl "BadGroups", false), (.cl "BadFact", .cl "BadGroups", false), (.cl "MixedFact", .cl "BadGroups", false), (.cl "BadSteps", .cl "BadGroups", false), (.cl "BadPlace", .cl "BadGroups", false), (.cl "BadTable", .cl "BadGroups", false), (.cl "BrokenFact", .cl "BadGroups", false), (.cl "NotGrounded", .cl "BadGroups", false), (.cl "NoPlace", .cl "BadGroups", false), (.cl "NoTable", .cl "BadGroups", false), (.cl "NotPaired", .cl "BadGroups", false), (.cl "NoPairs", .cl "BadGroups", false), (.cl "Unlike", .cl "BadGroups", false), (.cl "NotMade", .cl "BadGroups", false), (.cl "BadEntry", .cl "BadGroups", false)]
def isi_42 : List (Tg × Tg × Bool) := [(.cl "Clash", .cl "BadGroups", false), (.cl "BadGroups", .cl "BadGroups", true), (.cl "NotRanked", .cl "BadGroups", false), (.cl "NotKept", .cl "BadGroups", false), (.cl "BadStand", .cl "BadGroups", false), (.cl "BadSign", .cl "BadGroups", false), (.cl "BadSaying", .cl "BadGroups", false), (.cl "NotPlain", .cl "BadGroups", false), (.cl "NotOpen", .cl "BadGroups", false), (.cl "Refused", .cl "BadGroups", false), (.cl "NothingTold", .cl "BadGroups", false), (.cl "OverRoom", .cl "BadGroups", false), (.cl "BadLine", .cl "BadGroups", false), (.cl "TooLarge", .cl "BadGroups", false), (.cl "DialError", .cl "NotRanked", false)]
def isi_43 : List (Tg × Tg × Bool) := [(.cl "BadWord", .cl "NotRanked", false), (.cl "BadLetter", .cl "NotRanked", false), (.cl "BadFact", .cl "NotRanked", false), (.cl "MixedFact", .cl "NotRanked", false), (.cl "BadSteps", .cl "NotRanked", false), (.cl "BadPlace", .cl "NotRanked", false), (.cl "BadTable", .cl "NotRanked", false), (.cl "BrokenFact", .cl "NotRanked", false), (.cl "NotGrounded", .cl "NotRanked", false), (.cl "NoPlace", .cl "NotRanked", false), (.cl "NoTable", .cl "NotRanked", false), (.cl "NotPaired", .cl "NotRanked", false), (.cl "NoPairs", .cl "NotRanked", false), (.cl "Unlike", .cl "NotRanked", false), (.cl "NotMade", .cl "NotRanked", false)]
def isi_44 : List (Tg × Tg × Bool) := [(.cl "BadEntry", .cl "NotRanked", false), (.cl "Clash", .cl "NotRanked", false), (.cl "BadGroups", .cl "NotRanked", false), (.cl "NotRanked", .cl "NotRanked", true), (.cl "NotKept", .cl "NotRanked", false), (.cl "BadStand", .cl "NotRanked", false), (.cl "BadSign", .cl "NotRanked", false), (.cl "BadSaying", .cl "NotRanked", false), (.cl "NotPlain", .cl "NotRanked", false), (.cl "NotOpen", .cl "NotRanked", false), (.cl "Refused", .cl "NotRanked", false), (.cl "NothingTold", .cl "NotRanked", false), (.cl "OverRoom", .cl "NotRanked", false), (.cl "BadLine", .cl "NotRanked", false), (.cl "TooLarge", .cl "NotRanked", false)]
def isi_45 : List (Tg × Tg × Bool) := [(.cl "DialError", .cl "NotKept", false), (.cl "BadWord", .cl "NotKept", false), (.cl "BadLetter", .cl "NotKept", false), (.cl "BadFact", .cl "NotKept", false), (.cl "MixedFact", .cl "NotKept", false), (.cl "BadSteps", .cl "NotKept", false), (.cl "BadPlace", .cl "NotKept", false), (.cl "BadTable", .cl "NotKept", false), (.cl "BrokenFact", .cl "NotKept", false), (.cl "NotGrounded", .cl "NotKept", false), (.cl "NoPlace", .cl "NotKept", false), (.cl "NoTable", .cl "NotKept", false), (.cl "NotPaired", .cl "NotKept", false), (.cl "NoPairs", .cl "NotKept", false), (.cl "Unlike", .cl "NotKept", false)]
def isi_46 : List (Tg × Tg × Bool) := [(.cl "NotMade", .cl "NotKept", false), (.cl "BadEntry", .cl "NotKept", false), (.cl "Clash", .cl "NotKept", false), (.cl "BadGroups", .cl "NotKept", false), (.cl "NotRanked", .cl "NotKept", false), (.cl "NotKept", .cl "NotKept", true), (.cl "BadStand", .cl "NotKept", false), (.cl "BadSign", .cl "NotKept", false), (.cl "BadSaying", .cl "NotKept", false), (.cl "NotPlain", .cl "NotKept", false), (.cl "NotOpen", .cl "NotKept", false), (.cl "Refused", .cl "NotKept", false), (.cl "NothingTold", .cl "NotKept", false), (.cl "OverRoom", .cl "NotKept", false), (.cl "BadLine", .cl "NotKept", false)]
def isi_47 : List (Tg × Tg × Bool) := [(.cl "TooLarge", .cl "NotKept", false), (.cl "DialError", .cl "BadStand", false), (.cl "BadWord", .cl "BadStand", false), (.cl "BadLetter", .cl "BadStand", false), (.cl "BadFact", .cl "BadStand", false), (.cl "MixedFact", .cl "BadStand", false), (.cl "BadSteps", .cl "BadStand", false), (.cl "BadPlace", .cl "BadStand", false), (.cl "BadTable", .cl "BadStand", false), (.cl "BrokenFact", .cl "BadStand", false), (.cl "NotGrounded", .cl "BadStand", false), (.cl "NoPlace", .cl "BadStand", false), (.cl "NoTable", .cl "BadStand", false), (.cl "NotPaired", .cl "BadStand", false), (.cl "NoPairs", .cl "BadStand", false)]
def isi_48 : List (Tg × Tg × Bool) := [(.cl "Unlike", .cl "BadStand", false), (.cl "NotMade", .cl "BadStand", false), (.cl "BadEntry", .cl "BadStand", false), (.cl "Clash", .cl "BadStand", false), (.cl "BadGroups", .cl "BadStand", false), (.cl "NotRanked", .cl "BadStand", false), (.cl "NotKept", .cl "BadStand", false), (.cl "BadStand", .cl "BadStand", true), (.cl "BadSign", .cl "BadStand", false), (.cl "BadSaying", .cl "BadStand", false), (.cl "NotPlain", .cl "BadStand", false), (.cl "NotOpen", .cl "BadStand", false), (.cl "Refused", .cl "BadStand", false), (.cl "NothingTold", .cl "BadStand", false), (.cl "OverRoom", .cl "BadStand", false)]
def isi_49 : List (Tg × Tg × Bool) := [(.cl "BadLine", .cl "BadStand", false), (.cl "TooLarge", .cl "BadStand", false), (.cl "DialError", .cl "BadSign", false), (.cl "BadWord", .cl "BadSign", false), (.cl "BadLetter", .cl "BadSign", false), (.cl "BadFact", .cl "BadSign", false), (.cl "MixedFact", .cl "BadSign", false), (.cl "BadSteps", .cl "BadSign", false), (.cl "BadPlace", .cl "BadSign", false), (.cl "BadTable", .cl "BadSign", false), (.cl "BrokenFact", .cl "BadSign", false), (.cl "NotGrounded", .cl "BadSign", false), (.cl "NoPlace", .cl "BadSign", false), (.cl "NoTable", .cl "BadSign", false), (.cl "NotPaired", .cl "BadSign", false)]
def isi_50 : List (Tg × Tg × Bool) := [(.cl "NoPairs", .cl "BadSign", false), (.cl "Unlike", .cl "BadSign", false), (.cl "NotMade", .cl "BadSign", false), (.cl "BadEntry", .cl "BadSign", false), (.cl "Clash", .cl "BadSign", false), (.cl "BadGroups", .cl "BadSign", false), (.cl "NotRanked", .cl "BadSign", false), (.cl "NotKept", .cl "BadSign", false), (.cl "BadStand", .cl "BadSign", false), (.cl "BadSign", .cl "BadSign", true), (.cl "BadSaying", .cl "BadSign", false), (.cl "NotPlain", .cl "BadSign", false), (.cl "NotOpen", .cl "BadSign", false), (.cl "Refused", .cl "BadSign", false), (.cl "NothingTold", .cl "BadSign", false)]
def isi_51 : List (Tg × Tg × Bool) := [(.cl "OverRoom", .cl "BadSign", false), (.cl "BadLine", .cl "BadSign", false), (.cl "TooLarge", .cl "BadSign", false), (.cl "DialError", .cl "BadSaying", false), (.cl "BadWord", .cl "BadSaying", false), (.cl "BadLetter", .cl "BadSaying", false), (.cl "BadFact", .cl "BadSaying", false), (.cl "MixedFact", .cl "BadSaying", false), (.cl "BadSteps", .cl "BadSaying", false), (.cl "BadPlace", .cl "BadSaying", false), (.cl "BadTable", .cl "BadSaying", false), (.cl "BrokenFact", .cl "BadSaying", false), (.cl "NotGrounded", .cl "BadSaying", false), (.cl "NoPlace", .cl "BadSaying", false), (.cl "NoTable", .cl "BadSaying", false)]
def isi_52 : List (Tg × Tg × Bool) := [(.cl "NotPaired", .cl "BadSaying", false), (.cl "NoPairs", .cl "BadSaying", false), (.cl "Unlike", .cl "BadSaying", false), (.cl "NotMade", .cl "BadSaying", false), (.cl "BadEntry", .cl "BadSaying", false), (.cl "Clash", .cl "BadSaying", false), (.cl "BadGroups", .cl "BadSaying", false), (.cl "NotRanked", .cl "BadSaying", false), (.cl "NotKept", .cl "BadSaying", false), (.cl "BadStand", .cl "BadSaying", false), (.cl "BadSign", .cl "BadSaying", false), (.cl "BadSaying", .cl "BadSaying", true), (.cl "NotPlain", .cl "BadSaying", false), (.cl "NotOpen", .cl "BadSaying", false), (.cl "Refused", .cl "BadSaying", false)]
def isi_53 : List (Tg × Tg × Bool) := [(.cl "NothingTold", .cl "BadSaying", false), (.cl "OverRoom", .cl "BadSaying", false), (.cl "BadLine", .cl "BadSaying", false), (.cl "TooLarge", .cl "BadSaying", false), (.cl "DialError", .cl "NotPlain", false), (.cl "BadWord", .cl "NotPlain", false), (.cl "BadLetter", .cl "NotPlain", false), (.cl "BadFact", .cl "NotPlain", false), (.cl "MixedFact", .cl "NotPlain", false), (.cl "BadSteps", .cl "NotPlain", false), (.cl "BadPlace", .cl "NotPlain", false), (.cl "BadTable", .cl "NotPlain", false), (.cl "BrokenFact", .cl "NotPlain", false), (.cl "NotGrounded", .cl "NotPlain", false), (.cl "NoPlace", .cl "NotPlain", false)]
def isi_54 : List (Tg × Tg × Bool) := [(.cl "NoTable", .cl "NotPlain", false), (.cl "NotPaired", .cl "NotPlain", false), (.cl "NoPairs", .cl "NotPlain", false), (.cl "Unlike", .cl "NotPlain", false), (.cl "NotMade", .cl "NotPlain", false), (.cl "BadEntry", .cl "NotPlain", false), (.cl "Clash", .cl "NotPlain", false), (.cl "BadGroups", .cl "NotPlain", false), (.cl "NotRanked", .cl "NotPlain", false), (.cl "NotKept", .cl "NotPlain", false), (.cl "BadStand", .cl "NotPlain", false), (.cl "BadSign", .cl "NotPlain", false), (.cl "BadSaying", .cl "NotPlain", false), (.cl "NotPlain", .cl "NotPlain", true), (.cl "NotOpen", .cl "NotPlain", false)]
def isi_55 : List (Tg × Tg × Bool) := [(.cl "Refused", .cl "NotPlain", false), (.cl "NothingTold", .cl "NotPlain", false), (.cl "OverRoom", .cl "NotPlain", false), (.cl "BadLine", .cl "NotPlain", false), (.cl "TooLarge", .cl "NotPlain", false), (.cl "DialError", .cl "NotOpen", false), (.cl "BadWord", .cl "NotOpen", false), (.cl "BadLetter", .cl "NotOpen", false), (.cl "BadFact", .cl "NotOpen", false), (.cl "MixedFact", .cl "NotOpen", false), (.cl "BadSteps", .cl "NotOpen", false), (.cl "BadPlace", .cl "NotOpen", false), (.cl "BadTable", .cl "NotOpen", false), (.cl "BrokenFact", .cl "NotOpen", false), (.cl "NotGrounded", .cl "NotOpen", false)]
def isi_56 : List (Tg × Tg × Bool) := [(.cl "NoPlace", .cl "NotOpen", false), (.cl "NoTable", .cl "NotOpen", false), (.cl "NotPaired", .cl "NotOpen", false), (.cl "NoPairs", .cl "NotOpen", false), (.cl "Unlike", .cl "NotOpen", false), (.cl "NotMade", .cl "NotOpen", false), (.cl "BadEntry", .cl "NotOpen", false), (.cl "Clash", .cl "NotOpen", false), (.cl "BadGroups", .cl "NotOpen", false), (.cl "NotRanked", .cl "NotOpen", false), (.cl "NotKept", .cl "NotOpen", false), (.cl "BadStand", .cl "NotOpen", false), (.cl "BadSign", .cl "NotOpen", false), (.cl "BadSaying", .cl "NotOpen", false), (.cl "NotPlain", .cl "NotOpen", false)]
def isi_57 : List (Tg × Tg × Bool) := [(.cl "NotOpen", .cl "NotOpen", true), (.cl "Refused", .cl "NotOpen", false), (.cl "NothingTold", .cl "NotOpen", false), (.cl "OverRoom", .cl "NotOpen", false), (.cl "BadLine", .cl "NotOpen", false), (.cl "TooLarge", .cl "NotOpen", false), (.cl "DialError", .cl "Refused", false), (.cl "BadWord", .cl "Refused", false), (.cl "BadLetter", .cl "Refused", false), (.cl "BadFact", .cl "Refused", false), (.cl "MixedFact", .cl "Refused", false), (.cl "BadSteps", .cl "Refused", false), (.cl "BadPlace", .cl "Refused", false), (.cl "BadTable", .cl "Refused", false), (.cl "BrokenFact", .cl "Refused", false)]
def isi_58 : List (Tg × Tg × Bool) := [(.cl "NotGrounded", .cl "Refused", false), (.cl "NoPlace", .cl "Refused", false), (.cl "NoTable", .cl "Refused", false), (.cl "NotPaired", .cl "Refused", false), (.cl "NoPairs", .cl "Refused", false), (.cl "Unlike", .cl "Refused", false), (.cl "NotMade", .cl "Refused", false), (.cl "BadEntry", .cl "Refused", false), (.cl "Clash", .cl "Refused", false), (.cl "BadGroups", .cl "Refused", false), (.cl "NotRanked", .cl "Refused", false), (.cl "NotKept", .cl "Refused", false), (.cl "BadStand", .cl "Refused", false), (.cl "BadSign", .cl "Refused", false), (.cl "BadSaying", .cl "Refused", false)]
def isi_59 : List (Tg × Tg × Bool) := [(.cl "NotPlain", .cl "Refused", false), (.cl "NotOpen", .cl "Refused", false), (.cl "Refused", .cl "Refused", true), (.cl "NothingTold", .cl "Refused", false), (.cl "OverRoom", .cl "Refused", false), (.cl "BadLine", .cl "Refused", false), (.cl "TooLarge", .cl "Refused", false), (.cl "DialError", .cl "NothingTold", false), (.cl "BadWord", .cl "NothingTold", false), (.cl "BadLetter", .cl "NothingTold", false), (.cl "BadFact", .cl "NothingTold", false), (.cl "MixedFact", .cl "NothingTold", false), (.cl "BadSteps", .cl "NothingTold", false), (.cl "BadPlace", .cl "NothingTold", false), (.cl "BadTable", .cl "NothingTold", false)]
def isi_60 : List (Tg × Tg × Bool) := [(.cl "BrokenFact", .cl "NothingTold", false), (.cl "NotGrounded", .cl "NothingTold", false), (.cl "NoPlace", .cl "NothingTold", false), (.cl "NoTable", .cl "NothingTold", false), (.cl "NotPaired", .cl "NothingTold", false), (.cl "NoPairs", .cl "NothingTold", false), (.cl "Unlike", .cl "NothingTold", false), (.cl "NotMade", .cl "NothingTold", false), (.cl "BadEntry", .cl "NothingTold", false), (.cl "Clash", .cl "NothingTold", false), (.cl "BadGroups", .cl "NothingTold", false), (.cl "NotRanked", .cl "NothingTold", false), (.cl "NotKept", .cl "NothingTold", false), (.cl "BadStand", .cl "NothingTold", false), (.cl "BadSign", .cl "NothingTold", false)]
def isi_61 : List (Tg × Tg × Bool) := [(.cl "BadSaying", .cl "NothingTold", false), (.cl "NotPlain", .cl "NothingTold", false), (.cl "NotOpen", .cl "NothingTold", false), (.cl "Refused", .cl "NothingTold", false), (.cl "NothingTold", .cl "NothingTold", true), (.cl "OverRoom", .cl "NothingTold", false), (.cl "BadLine", .cl "NothingTold", false), (.cl "TooLarge", .cl "NothingTold", false), (.cl "DialError", .cl "OverRoom", false), (.cl "BadWord", .cl "OverRoom", false), (.cl "BadLetter", .cl "OverRoom", false), (.cl "BadFact", .cl "OverRoom", false), (.cl "MixedFact", .cl "OverRoom", false), (.cl "BadSteps", .cl "OverRoom", false), (.cl "BadPlace", .cl "OverRoom", false)]
def isi_62 : List (Tg × Tg × Bool) := [(.cl "BadTable", .cl "OverRoom", false), (.cl "BrokenFact", .cl "OverRoom", false), (.cl "NotGrounded", .cl "OverRoom", false), (.cl "NoPlace", .cl "OverRoom", false), (.cl "NoTable", .cl "OverRoom", false), (.cl "NotPaired", .cl "OverRoom", false), (.cl "NoPairs", .cl "OverRoom", false), (.cl "Unlike", .cl "OverRoom", false), (.cl "NotMade", .cl "OverRoom", false), (.cl "BadEntry", .cl "OverRoom", false), (.cl "Clash", .cl "OverRoom", false), (.cl "BadGroups", .cl "OverRoom", false), (.cl "NotRanked", .cl "OverRoom", false), (.cl "NotKept", .cl "OverRoom", false), (.cl "BadStand", .cl "OverRoom", false)]
def isi_63 : List (Tg × Tg × Bool) := [(.cl "BadSign", .cl "OverRoom", false), (.cl "BadSaying", .cl "OverRoom", false), (.cl "NotPlain", .cl "OverRoom", false), (.cl "NotOpen", .cl "OverRoom", false), (.cl "Refused", .cl "OverRoom", false), (.cl "NothingTold", .cl "OverRoom", false), (.cl "OverRoom", .cl "OverRoom", true), (.cl "BadLine", .cl "OverRoom", false), (.cl "TooLarge", .cl "OverRoom", false), (.cl "DialError", .cl "BadLine", false), (.cl "BadWord", .cl "BadLine", false), (.cl "BadLetter", .cl "BadLine", false), (.cl "BadFact", .cl "BadLine", false), (.cl "MixedFact", .cl "BadLine", false), (.cl "BadSteps", .cl "BadLine", false)]
def isi_64 : List (Tg × Tg × Bool) := [(.cl "BadPlace", .cl "BadLine", false), (.cl "BadTable", .cl "BadLine", false), (.cl "BrokenFact", .cl "BadLine", false), (.cl "NotGrounded", .cl "BadLine", false), (.cl "NoPlace", .cl "BadLine", false), (.cl "NoTable", .cl "BadLine", false), (.cl "NotPaired", .cl "BadLine", false), (.cl "NoPairs", .cl "BadLine", false), (.cl "Unlike", .cl "BadLine", false), (.cl "NotMade", .cl "BadLine", false), (.cl "BadEntry", .cl "BadLine", false), (.cl "Clash", .cl "BadLine", false), (.cl "BadGroups", .cl "BadLine", false), (.cl "NotRanked", .cl "BadLine", false), (.cl "NotKept", .cl "BadLine", false)]
def isi_65 : List (Tg × Tg × Bool) := [(.cl "BadStand", .cl "BadLine", false), (.cl "BadSign", .cl "BadLine", false), (.cl "BadSaying", .cl "BadLine", false), (.cl "NotPlain", .cl "BadLine", false), (.cl "NotOpen", .cl "BadLine", false), (.cl "Refused", .cl "BadLine", false), (.cl "NothingTold", .cl "BadLine", false), (.cl "OverRoom", .cl "BadLine", false), (.cl "BadLine", .cl "BadLine", true), (.cl "TooLarge", .cl "BadLine", false), (.cl "DialError", .cl "TooLarge", false), (.cl "BadWord", .cl "TooLarge", false), (.cl "BadLetter", .cl "TooLarge", false), (.cl "BadFact", .cl "TooLarge", false), (.cl "MixedFact", .cl "TooLarge", false)]
def isi_66 : List (Tg × Tg × Bool) := [(.cl "BadSteps", .cl "TooLarge", false), (.cl "BadPlace", .cl "TooLarge", false), (.cl "BadTable", .cl "TooLarge", false), (.cl "BrokenFact", .cl "TooLarge", false), (.cl "NotGrounded", .cl "TooLarge", false), (.cl "NoPlace", .cl "TooLarge", false), (.cl "NoTable", .cl "TooLarge", false), (.cl "NotPaired", .cl "TooLarge", false), (.cl "NoPairs", .cl "TooLarge", false), (.cl "Unlike", .cl "TooLarge", false), (.cl "NotMade", .cl "TooLarge", false), (.cl "BadEntry", .cl "TooLarge", false), (.cl "Clash", .cl "TooLarge", false), (.cl "BadGroups", .cl "TooLarge", false), (.cl "NotRanked", .cl "TooLarge", false)]
def isi_67 : List (Tg × Tg × Bool) := [(.cl "NotKept", .cl "TooLarge", false), (.cl "BadStand", .cl "TooLarge", false), (.cl "BadSign", .cl "TooLarge", false), (.cl "BadSaying", .cl "TooLarge", false), (.cl "NotPlain", .cl "TooLarge", false), (.cl "NotOpen", .cl "TooLarge", false), (.cl "Refused", .cl "TooLarge", false), (.cl "NothingTold", .cl "TooLarge", false), (.cl "OverRoom", .cl "TooLarge", false), (.cl "BadLine", .cl "TooLarge", false), (.cl "TooLarge", .cl "TooLarge", true)]
def isi : List (Tg × Tg × Bool) := isi_0 ++ (isi_1 ++ (isi_2 ++ (isi_3 ++ (isi_4 ++ (isi_5 ++ (isi_6 ++ (isi_7 ++ (isi_8 ++ (isi_9 ++ (isi_10 ++ (isi_11 ++ (isi_12 ++ (isi_13 ++ (isi_14 ++ (isi_15 ++ (isi_16 ++ (isi_17 ++ (isi_18 ++ (isi_19 ++ (isi_20 ++ (isi_21 ++ (isi_22 ++ (isi_23 ++ (isi_24 ++ (isi_25 ++ (isi_26 ++ (isi_27 ++ (isi_28 ++ (isi_29 ++ (isi_30 ++ (isi_31 ++ (isi_32 ++ (isi_33 ++ (isi_34 ++ (isi_35 ++ (isi_36 ++ (isi_37 ++ (isi_38 ++ (isi_39 ++ (isi_40 ++ (isi_41 ++ (isi_42 ++ (isi_43 ++ (isi_44 ++ (isi_45 ++ (isi_46 ++ (isi_47 ++ (isi_48 ++ (isi_49 ++ (isi_50 ++ (isi_51 ++ (isi_52 ++ (isi_53 ++ (isi_54 ++ (isi_55 ++ (isi_56 ++ (isi_57 ++ (isi_58 ++ (isi_59 ++ (isi_60 ++ (isi_61 ++ (isi_62 ++ (isi_63 ++ (isi_64 ++ (isi_65 ++ (isi_66 ++ (isi_67)))))))))))))))))))))))))))))))))))))))))))))))))))))))))))))))))))
def isiT : Isi := ⟨["DialError", "BadWord", "BadLetter", "BadFact", "MixedFact", "BadSteps", "BadPlace", "BadTable", "BrokenFact", "NotGrounded", "NoPlace", "NoTable", "NotPaired", "NoPairs", "Unlike", "NotMade", "BadEntry", "Clash", "BadGroups", "NotRanked", "NotKept", "BadStand", "BadSign", "BadSaying", "NotPlain", "NotOpen", "Refused", "NothingTold", "OverRoom", "BadLine", "TooLarge"], [], isi⟩
def xfT_0 : List (Str × Str) := [("BadWord", "word"), ("BadLetter", "letter"), ("BadFact", "low"), ("BadFact", "high"), ("MixedFact", "low"), ("MixedFact", "high"), ("BadSteps", "many"), ("BadPlace", "point"), ("BadPlace", "stand"), ("BadTable", "dial"), ("BrokenFact", "low"), ("BrokenFact", "high"), ("BrokenFact", "at"), ("NotGrounded", "dial"), ("NoPlace", "point")]
def xfT_1 : List (Str × Str) := [("NoTable", "letter"), ("NotPaired", "letter"), ("NoPairs", "letter"), ("NotMade", "points"), ("BadEntry", "letter"), ("BadEntry", "at"), ("BadEntry", "shown"), ("Clash", "rule"), ("Clash", "one"), ("Clash", "other"), ("BadGroups", "word"), ("NotRanked", "word"), ("NotKept", "rule"), ("BadStand", "at"), ("BadSign", "sign")]
def xfT_2 : List (Str × Str) := [("BadSaying", "label"), ("NotPlain", "word"), ("NotOpen", "verdict"), ("Refused", "blame"), ("OverRoom", "most"), ("BadLine", "line"), ("TooLarge", "what")]
def xfT : List (Str × Str) := xfT_0 ++ (xfT_1 ++ (xfT_2))
def hit_BadWord : Hit := [("BadWord", true), ("BadLetter", false)]
def hit_BadLetter : Hit := [("BadWord", false), ("BadLetter", true)]
def ex (K : PySem.W.Frag) : Bool := (ins.all (inB K PR.main.file) && isiB K isiT && xfTB K xfT) && (true && hitB K "BadWord" hit_BadWord && hitB K "BadLetter" hit_BadLetter)
end Gk00
set_option Elab.async false
set_option linter.all false
set_option maxRecDepth 100000
set_option maxHeartbeats 0
/-! printed by wip/gen.py -/
namespace Gk00
open PySem PySem.Spec PyProof.Rows L2 SM NdefX
abbrev Cc (K : PySem.W.Frag) (mg : Str → Option Value) : Prop := Told fa fn ins ex K mg
section
variable {K : PySem.W.Frag} {mg : Str → Option Value}
theorem ex_in (C : Cc K mg) : ins.all (inB K PR.main.file) = true := by
  have h := C.says.more
  unfold ex at h
  simp only [Bool.and_eq_true] at h
  exact h.1.1.1
theorem _root_.SM.Told.isi (C : Cc K mg) : isiT.Ok K := by
  have h := C.says.more
  unfold ex at h
  simp only [Bool.and_eq_true] at h
  exact isiB_ok h.1.1.2
theorem _root_.SM.Told.xf (C : Cc K mg) : XfOk K xfT := by
  have h := C.says.more
  unfold ex at h
  simp only [Bool.and_eq_true] at h
  exact xfTB_ok h.1.2
theorem _root_.SM.Told.hit_BadWord (C : Cc K mg) : HitOk K (.ref (He.ga K "BadWord")) hit_BadWord := by
  have h := C.says.more
  unfold ex at h
  simp only [Bool.and_eq_true] at h
  exact hitB_ok h.2.1.2
theorem _root_.SM.Told.hit_BadLetter (C : Cc K mg) : HitOk K (.ref (He.ga K "BadLetter")) hit_BadLetter := by
  have h := C.says.more
  unfold ex at h
  simp only [Bool.and_eq_true] at h
  exact hitB_ok h.2.2
end
section
variable {w : World} {K : PySem.W.Frag} {mg : Str → Option Value} {base : Heap}
theorem mk_BadWord (C : Cc K mg) : MkE PR w K mg base "BadWord" ["word"] 1 := by
  obtain ⟨cd, cc, doc, pm, an, ctv, I⟩ := C.init (P := PR) 0 (ex_in C) (by decide +kernel) (d := i_BadWord)
  obtain ⟨oc, od, osl, lk⟩ := I.lk
  refine ⟨_, _, ["self", "word"], I.sup.oex, I.iC, I.tI, exi_ok (F := ⟨"__init__", i_BadWord.qual, i_BadWord.params, i_BadWord.body, i_BadWord.scope, [("__class__", cc)], cd⟩) (N := ["self", "word", "__class__"]) (ps := ["self", "word"]) ⟨"word", "word", _, _, _, _⟩ [] I.sup lk rfl rfl (nscope_by (sc := defScope (ini 2)) (by decide +kernel)) rfl rfl rfl rfl (C.free 78) ?_ rfl (by decide), Binds.all fun us hl => match us, hl with | [_, _], _ => rfl⟩
  intro j r hr
  match j, hr with
  | 0, rfl => exact ⟨rfl, by decide, by decide, (C.xf.ok ("BadWord", "word") (by decide)).2⟩
  | j + 1, hr => simp at hr
theorem mk_BadLetter (C : Cc K mg) : MkE PR w K mg base "BadLetter" ["letter"] 1 := by
  obtain ⟨cd, cc, doc, pm, an, ctv, I⟩ := C.init (P := PR) 1 (ex_in C) (by decide +kernel) (d := i_BadLetter)
  obtain ⟨oc, od, osl, lk⟩ := I.lk
  refine ⟨_, _, ["self", "letter"], I.sup.oex, I.iC, I.tI, exi_ok (F := ⟨"__init__", i_BadLetter.qual, i_BadLetter.params, i_BadLetter.body, i_BadLetter.scope, [("__class__", cc)], cd⟩) (N := ["self", "letter", "__class__"]) (ps := ["self", "letter"]) ⟨"letter", "letter", _, _, _, _⟩ [] I.sup lk rfl rfl (nscope_by (sc := defScope (ini 3)) (by decide +kernel)) rfl rfl rfl rfl (C.free 78) ?_ rfl (by decide), Binds.all fun us hl => match us, hl with | [_, _], _ => rfl⟩
  intro j r hr
  match j, hr with
  | 0, rfl => exact ⟨rfl, by decide, by decide, (C.xf.ok ("BadLetter", "letter") (by decide)).2⟩
  | j + 1, hr => simp at hr
theorem mk_BadFact (C : Cc K mg) : MkE PR w K mg base "BadFact" ["low", "high"] 1 := by
  obtain ⟨cd, cc, doc, pm, an, ctv, I⟩ := C.init (P := PR) 2 (ex_in C) (by decide +kernel) (d := i_BadFact)
  obtain ⟨oc, od, osl, lk⟩ := I.lk
  refine ⟨_, _, ["self", "low", "high"], I.sup.oex, I.iC, I.tI, exi_ok (F := ⟨"__init__", i_BadFact.qual, i_BadFact.params, i_BadFact.body, i_BadFact.scope, [("__class__", cc)], cd⟩) (N := ["self", "low", "high", "__class__"]) (ps := ["self", "low", "high"]) ⟨"low", "low", _, _, _, _⟩ [⟨"high", "high", _, _, _, _⟩] I.sup lk rfl rfl (nscope_by (sc := defScope (ini 4)) (by decide +kernel)) rfl rfl rfl rfl (C.free 78) ?_ rfl (by decide), Binds.all fun us hl => match us, hl with | [_, _, _], _ => rfl⟩
  intro j r hr
  match j, hr with
  | 0, rfl => exact ⟨rfl, by decide, by decide, (C.xf.ok ("BadFact", "low") (by decide)).2⟩
  | 1, rfl => exact ⟨rfl, by decide, by decide, (C.xf.ok ("BadFact", "high") (by decide)).2⟩
  | j + 2, hr => simp at hr
theorem mk_MixedFact (C : Cc K mg) : MkE PR w K mg base "MixedFact" ["low", "high"] 1 := by
  obtain ⟨cd, cc, doc, pm, an, ctv, I⟩ := C.init (P := PR) 3 (ex_in C) (by decide +kernel) (d := i_MixedFact)
  obtain ⟨oc, od, osl, lk⟩ := I.lk
  refine ⟨_, _, ["self", "low", "high"], I.sup.oex, I.iC, I.tI, exi_ok (F := ⟨"__init__", i_MixedFact.qual, i_MixedFact.params, i_MixedFact.body, i_MixedFact.scope, [("__class__", cc)], cd⟩) (N := ["self", "low", "high", "__class__"]) (ps := ["self", "low", "high"]) ⟨"low", "low", _, _, _, _⟩ [⟨"high", "high", _, _, _, _⟩] I.sup lk rfl rfl (nscope_by (sc := defScope (ini 5)) (by decide +kernel)) rfl rfl rfl rfl (C.free 78) ?_ rfl (by decide), Binds.all fun us hl => match us, hl with | [_, _, _], _ => rfl⟩
  intro j r hr
  match j, hr with
  | 0, rfl => exact ⟨rfl, by decide, by decide, (C.xf.ok ("MixedFact", "low") (by decide)).2⟩
  | 1, rfl => exact ⟨rfl, by decide, by decide, (C.xf.ok ("MixedFact", "high") (by decide)).2⟩
  | j + 2, hr => simp at hr
theorem mk_BadSteps (C : Cc K mg) : MkE PR w K mg base "BadSteps" ["many"] 1 := by
  obtain ⟨cd, cc, doc, pm, an, ctv, I⟩ := C.init (P := PR) 4 (ex_in C) (by decide +kernel) (d := i_BadSteps)
  obtain ⟨oc, od, osl, lk⟩ := I.lk
  refine ⟨_, _, ["self", "many"], I.sup.oex, I.iC, I.tI, exi_ok (F := ⟨"__init__", i_BadSteps.qual, i_BadSteps.params, i_BadSteps.body, i_BadSteps.scope, [("__class__", cc)], cd⟩) (N := ["self", "many", "__class__"]) (ps := ["self", "many"]) ⟨"many", "many", _, _, _, _⟩ [] I.sup lk rfl rfl (nscope_by (sc := defScope (ini 6)) (by decide +kernel)) rfl rfl rfl rfl (C.free 78) ?_ rfl (by decide), Binds.all fun us hl => match us, hl with | [_, _], _ => rfl⟩
  intro j r hr
  match j, hr with
  | 0, rfl => exact ⟨rfl, by decide, by decide, (C.xf.ok ("BadSteps", "many") (by decide)).2⟩
  | j + 1, hr => simp at hr
theorem mk_BadPlace (C : Cc K mg) : MkE PR w K mg base "BadPlace" ["point", "stand"] 1 := by
  obtain ⟨cd, cc, doc, pm, an, ctv, I⟩ := C.init (P := PR) 5 (ex_in C) (by decide +kernel) (d := i_BadPlace)
  obtain ⟨oc, od, osl, lk⟩ := I.lk
  refine ⟨_, _, ["self", "point", "stand"], I.sup.oex, I.iC, I.tI, exi_ok (F := ⟨"__init__", i_BadPlace.qual, i_BadPlace.params, i_BadPlace.body, i_BadPlace.scope, [("__class__", cc)], cd⟩) (N := ["self", "point", "stand", "__class__"]) (ps := ["self", "point", "stand"]) ⟨"point", "point", _, _, _, _⟩ [⟨"stand", "stand", _, _, _, _⟩] I.sup lk rfl rfl (nscope_by (sc := defScope (ini 7)) (by decide +kernel)) rfl rfl rfl rfl (C.free 78) ?_ rfl (by decide), Binds.all fun us hl => match us, hl with | [_, _, _], _ => rfl⟩
  intro j r hr
  match j, hr with
  | 0, rfl => exact ⟨rfl, by decide, by decide, (C.xf.ok ("BadPlace", "point") (by decide)).2⟩
  | 1, rfl => exact ⟨rfl, by decide, by decide, (C.xf.ok ("BadPlace", "stand") (by decide)).2⟩
  | j + 2, hr => simp at hr
theorem mk_BadTable (C : Cc K mg) : MkE PR w K mg base "BadTable" ["dial"] 1 := by
  obtain ⟨cd, cc, doc, pm, an, ctv, I⟩ := C.init (P := PR) 6 (ex_in C) (by decide +kernel) (d := i_BadTable)
  obtain ⟨oc, od, osl, lk⟩ := I.lk
  refine ⟨_, _, ["self", "dial"], I.sup.oex, I.iC, I.tI, exi_ok (F := ⟨"__init__", i_BadTable.qual, i_BadTable.params, i_BadTable.body, i_BadTable.scope, [("__class__", cc)], cd⟩) (N := ["self", "dial", "__class__"]) (ps := ["self", "dial"]) ⟨"dial", "dial", _, _, _, _⟩ [] I.sup lk rfl rfl (nscope_by (sc := defScope (ini 8)) (by decide +kernel)) rfl rfl rfl rfl (C.free 78) ?_ rfl (by decide), Binds.all fun us hl => match us, hl with | [_, _], _ => rfl⟩
  intro j r hr
  match j, hr with
  | 0, rfl => exact ⟨rfl, by decide, by decide, (C.xf.ok ("BadTable", "dial") (by decide)).2⟩
  | j + 1, hr => simp at hr
theorem mk_BrokenFact (C : Cc K mg) : MkE PR w K mg base "BrokenFact" ["low", "high", "at"] 1 := by
  obtain ⟨cd, cc, doc, pm, an, ctv, I⟩ := C.init (P := PR) 7 (ex_in C) (by decide +kernel) (d := i_BrokenFact)
  obtain ⟨oc, od, osl, lk⟩ := I.lk
  refine ⟨_, _, ["self", "low", "high", "at"], I.sup.oex, I.iC, I.tI, exi_ok (F := ⟨"__init__", i_BrokenFact.qual, i_BrokenFact.params, i_BrokenFact.body, i_BrokenFact.scope, [("__class__", cc)], cd⟩) (N := ["self", "low", "high", "at", "__class__"]) (ps := ["self", "low", "high", "at"]) ⟨"low", "low", _, _, _, _⟩ [⟨"high", "high", _, _, _, _⟩, ⟨"at", "at", _, _, _, _⟩] I.sup lk rfl rfl (nscope_by (sc := defScope (ini 9)) (by decide +kernel)) rfl rfl rfl rfl (C.free 78) ?_ rfl (by decide), Binds.all fun us hl => match us, hl with | [_, _, _, _], _ => rfl⟩
  intro j r hr
  match j, hr with
  | 0, rfl => exact ⟨rfl, by decide, by decide, (C.xf.ok ("BrokenFact", "low") (by decide)).2⟩
  | 1, rfl => exact ⟨rfl, by decide, by decide, (C.xf.ok ("BrokenFact", "high") (by decide)).2⟩
  | 2, rfl => exact ⟨rfl, by decide, by decide, (C.xf.ok ("BrokenFact", "at") (by decide)).2⟩
  | j + 3, hr => simp at hr
theorem mk_NotGrounded (C : Cc K mg) : MkE PR w K mg base "NotGrounded" ["dial"] 1 := by
  obtain ⟨cd, cc, doc, pm, an, ctv, I⟩ := C.init (P := PR) 8 (ex_in C) (by decide +kernel) (d := i_NotGrounded)
  obtain ⟨oc, od, osl, lk⟩ := I.lk
  refine ⟨_, _, ["self", "dial"], I.sup.oex, I.iC, I.tI, exi_ok (F := ⟨"__init__", i_NotGrounded.qual, i_NotGrounded.params, i_NotGrounded.body, i_NotGrounded.scope, [("__class__", cc)], cd⟩) (N := ["self", "dial", "__class__"]) (ps := ["self", "dial"]) ⟨"dial", "dial", _, _, _, _⟩ [] I.sup lk rfl rfl (nscope_by (sc := defScope (ini 10)) (by decide +kernel)) rfl rfl rfl rfl (C.free 78) ?_ rfl (by decide), Binds.all fun us hl => match us, hl with | [_, _], _ => rfl⟩
  intro j r hr
  match j, hr with
  | 0, rfl => exact ⟨rfl, by decide, by decide, (C.xf.ok ("NotGrounded", "dial") (by decide)).2⟩
  | j + 1, hr => simp at hr
theorem mk_NoPlace (C : Cc K mg) : MkE PR w K mg base "NoPlace" ["point"] 1 := by
  obtain ⟨cd, cc, doc, pm, an, ctv, I⟩ := C.init (P := PR) 9 (ex_in C) (by decide +kernel) (d := i_NoPlace)
  obtain ⟨oc, od, osl, lk⟩ := I.lk
  refine ⟨_, _, ["self", "point"], I.sup.oex, I.iC, I.tI, exi_ok (F := ⟨"__init__", i_NoPlace.qual, i_NoPlace.params, i_NoPlace.body, i_NoPlace.scope, [("__class__", cc)], cd⟩) (N := ["self", "point", "__class__"]) (ps := ["self", "point"]) ⟨"point", "point", _, _, _, _⟩ [] I.sup lk rfl rfl (nscope_by (sc := defScope (ini 11)) (by decide +kernel)) rfl rfl rfl rfl (C.free 78) ?_ rfl (by decide), Binds.all fun us hl => match us, hl with | [_, _], _ => rfl⟩
  intro j r hr
  match j, hr with
  | 0, rfl => exact ⟨rfl, by decide, by decide, (C.xf.ok ("NoPlace", "point") (by decide)).2⟩
  | j + 1, hr => simp at hr
theorem mk_NoTable (C : Cc K mg) : MkE PR w K mg base "NoTable" ["letter"] 1 := by
  obtain ⟨cd, cc, doc, pm, an, ctv, I⟩ := C.init (P := PR) 10 (ex_in C) (by decide +kernel) (d := i_NoTable)
  obtain ⟨oc, od, osl, lk⟩ := I.lk
  refine ⟨_, _, ["self", "letter"], I.sup.oex, I.iC, I.tI, exi_ok (F := ⟨"__init__", i_NoTable.qual, i_NoTable.params, i_NoTable.body, i_NoTable.scope, [("__class__", cc)], cd⟩) (N := ["self", "letter", "__class__"]) (ps := ["self", "letter"]) ⟨"letter", "letter", _, _, _, _⟩ [] I.sup lk rfl rfl (nscope_by (sc := defScope (ini 12)) (by decide +kernel)) rfl rfl rfl rfl (C.free 78) ?_ rfl (by decide), Binds.all fun us hl => match us, hl with | [_, _], _ => rfl⟩
  intro j r hr
  match j, hr with
  | 0, rfl => exact ⟨rfl, by decide, by decide, (C.xf.ok ("NoTable", "letter") (by decide)).2⟩
  | j + 1, hr => simp at hr
theorem mk_NotPaired (C : Cc K mg) : MkE PR w K mg base "NotPaired" ["letter"] 1 := by
  obtain ⟨cd, cc, doc, pm, an, ctv, I⟩ := C.init (P := PR) 11 (ex_in C) (by decide +kernel) (d := i_NotPaired)
  obtain ⟨oc, od, osl, lk⟩ := I.lk
  refine ⟨_, _, ["self", "letter"], I.sup.oex, I.iC, I.tI, exi_ok (F := ⟨"__init__", i_NotPaired.qual, i_NotPaired.params, i_NotPaired.body, i_NotPaired.scope, [("__class__", cc)], cd⟩) (N := ["self", "letter", "__class__"]) (ps := ["self", "letter"]) ⟨"letter", "letter", _, _, _, _⟩ [] I.sup lk rfl rfl (nscope_by (sc := defScope (ini 13)) (by decide +kernel)) rfl rfl rfl rfl (C.free 78) ?_ rfl (by decide), Binds.all fun us hl => match us, hl with | [_, _], _ => rfl⟩
  intro j r hr
  match j, hr with
  | 0, rfl => exact ⟨rfl, by decide, by decide, (C.xf.ok ("NotPaired", "letter") (by decide)).2⟩
  | j + 1, hr => simp at hr
theorem mk_NoPairs (C : Cc K mg) : MkE PR w K mg base "NoPairs" ["letter"] 1 := by
  obtain ⟨cd, cc, doc, pm, an, ctv, I⟩ := C.init (P := PR) 12 (ex_in C) (by decide +kernel) (d := i_NoPairs)
  obtain ⟨oc, od, osl, lk⟩ := I.lk
  refine ⟨_, _, ["self", "letter"], I.sup.oex, I.iC, I.tI, exi_ok (F := ⟨"__init__", i_NoPairs.qual, i_NoPairs.params, i_NoPairs.body, i_NoPairs.scope, [("__class__", cc)], cd⟩) (N := ["self", "letter", "__class__"]) (ps := ["self", "letter"]) ⟨"letter", "letter", _, _, _, _⟩ [] I.sup lk rfl rfl (nscope_by (sc := defScope (ini 14)) (by decide +kernel)) rfl rfl rfl rfl (C.free 78) ?_ rfl (by decide), Binds.all fun us hl => match us, hl with | [_, _], _ => rfl⟩
  intro j r hr
  match j, hr with
  | 0, rfl => exact ⟨rfl, by decide, by decide, (C.xf.ok ("NoPairs", "letter") (by decide)).2⟩
  | j + 1, hr => simp at hr
theorem mk_NotMade (C : Cc K mg) : MkE PR w K mg base "NotMade" ["points"] 1 := by
  obtain ⟨cd, cc, doc, pm, an, ctv, I⟩ := C.init (P := PR) 13 (ex_in C) (by decide +kernel) (d := i_NotMade)
  obtain ⟨oc, od, osl, lk⟩ := I.lk
  refine ⟨_, _, ["self", "points"], I.sup.oex, I.iC, I.tI, exi_ok (F := ⟨"__init__", i_NotMade.qual, i_NotMade.params, i_NotMade.body, i_NotMade.scope, [("__class__", cc)], cd⟩) (N := ["self", "points", "__class__"]) (ps := ["self", "points"]) ⟨"points", "points", _, _, _, _⟩ [] I.sup lk rfl rfl (nscope_by (sc := defScope (ini 16)) (by decide +kernel)) rfl rfl rfl rfl (C.free 78) ?_ rfl (by decide), Binds.all fun us hl => match us, hl with | [_, _], _ => rfl⟩
  intro j r hr
  match j, hr with
  | 0, rfl => exact ⟨rfl, by decide, by decide, (C.xf.ok ("NotMade", "points") (by decide)).2⟩
  | j + 1, hr => simp at hr
theorem mk_BadEntry (C : Cc K mg) : MkE PR w K mg base "BadEntry" ["letter", "at", "shown"] 1 := by
  obtain ⟨cd, cc, doc, pm, an, ctv, I⟩ := C.init (P := PR) 14 (ex_in C) (by decide +kernel) (d := i_BadEntry)
  obtain ⟨oc, od, osl, lk⟩ := I.lk
  refine ⟨_, _, ["self", "letter", "at", "shown"], I.sup.oex, I.iC, I.tI, exi_ok (F := ⟨"__init__", i_BadEntry.qual, i_BadEntry.params, i_BadEntry.body, i_BadEntry.scope, [("__class__", cc)], cd⟩) (N := ["self", "letter", "at", "shown", "__class__"]) (ps := ["self", "letter", "at", "shown"]) ⟨"letter", "letter", _, _, _, _⟩ [⟨"at", "at", _, _, _, _⟩, ⟨"shown", "shown", _, _, _, _⟩] I.sup lk rfl rfl (nscope_by (sc := defScope (ini 17)) (by decide +kernel)) rfl rfl rfl rfl (C.free 78) ?_ rfl (by decide), Binds.all fun us hl => match us, hl with | [_, _, _, _], _ => rfl⟩
  intro j r hr
  match j, hr with
  | 0, rfl => exact ⟨rfl, by decide, by decide, (C.xf.ok ("BadEntry", "letter") (by decide)).2⟩
  | 1, rfl => exact ⟨rfl, by decide, by decide, (C.xf.ok ("BadEntry", "at") (by decide)).2⟩
  | 2, rfl => exact ⟨rfl, by decide, by decide, (C.xf.ok ("BadEntry", "shown") (by decide)).2⟩
  | j + 3, hr => simp at hr
theorem mk_Clash (C : Cc K mg) : MkE PR w K mg base "Clash" ["rule", "one", "other"] 1 := by
  obtain ⟨cd, cc, doc, pm, an, ctv, I⟩ := C.init (P := PR) 15 (ex_in C) (by decide +kernel) (d := i_Clash)
  obtain ⟨oc, od, osl, lk⟩ := I.lk
  refine ⟨_, _, ["self", "rule", "one", "other"], I.sup.oex, I.iC, I.tI, exi_ok (F := ⟨"__init__", i_Clash.qual, i_Clash.params, i_Clash.body, i_Clash.scope, [("__class__", cc)], cd⟩) (N := ["self", "rule", "one", "other", "__class__"]) (ps := ["self", "rule", "one", "other"]) ⟨"rule", "rule", _, _, _, _⟩ [⟨"one", "one", _, _, _, _⟩, ⟨"other", "other", _, _, _, _⟩] I.sup lk rfl rfl (nscope_by (sc := defScope (ini 18)) (by decide +kernel)) rfl rfl rfl rfl (C.free 78) ?_ rfl (by decide), Binds.all fun us hl => match us, hl with | [_, _, _, _], _ => rfl⟩
  intro j r hr
  match j, hr with
  | 0, rfl => exact ⟨rfl, by decide, by decide, (C.xf.ok ("Clash", "rule") (by decide)).2⟩
  | 1, rfl => exact ⟨rfl, by decide, by decide, (C.xf.ok ("Clash", "one") (by decide)).2⟩
  | 2, rfl => exact ⟨rfl, by decide, by decide, (C.xf.ok ("Clash", "other") (by decide)).2⟩
  | j + 3, hr => simp at hr
theorem mk_BadGroups (C : Cc K mg) : MkE PR w K mg base "BadGroups" ["word"] 1 := by
  obtain ⟨cd, cc, doc, pm, an, ctv, I⟩ := C.init (P := PR) 16 (ex_in C) (by decide +kernel) (d := i_BadGroups)
  obtain ⟨oc, od, osl, lk⟩ := I.lk
  refine ⟨_, _, ["self", "word"], I.sup.oex, I.iC, I.tI, exi_ok (F := ⟨"__init__", i_BadGroups.qual, i_BadGroups.params, i_BadGroups.body, i_BadGroups.scope, [("__class__", cc)], cd⟩) (N := ["self", "word", "__class__"]) (ps := ["self", "word"]) ⟨"word", "word", _, _, _, _⟩ [] I.sup lk rfl rfl (nscope_by (sc := defScope (ini 19)) (by decide +kernel)) rfl rfl rfl rfl (C.free 78) ?_ rfl (by decide), Binds.all fun us hl => match us, hl with | [_, _], _ => rfl⟩
  intro j r hr
  match j, hr with
  | 0, rfl => exact ⟨rfl, by decide, by decide, (C.xf.ok ("BadGroups", "word") (by decide)).2⟩
  | j + 1, hr => simp at hr
theorem mk_NotRanked (C : Cc K mg) : MkE PR w K mg base "NotRanked" ["word"] 1 := by
  obtain ⟨cd, cc, doc, pm, an, ctv, I⟩ := C.init (P := PR) 17 (ex_in C) (by decide +kernel) (d := i_NotRanked)
  obtain ⟨oc, od, osl, lk⟩ := I.lk
  refine ⟨_, _, ["self", "word"], I.sup.oex, I.iC, I.tI, exi_ok (F := ⟨"__init__", i_NotRanked.qual, i_NotRanked.params, i_NotRanked.body, i_NotRanked.scope, [("__class__", cc)], cd⟩) (N := ["self", "word", "__class__"]) (ps := ["self", "word"]) ⟨"word", "word", _, _, _, _⟩ [] I.sup lk rfl rfl (nscope_by (sc := defScope (ini 20)) (by decide +kernel)) rfl rfl rfl rfl (C.free 78) ?_ rfl (by decide), Binds.all fun us hl => match us, hl with | [_, _], _ => rfl⟩
  intro j r hr
  match j, hr with
  | 0, rfl => exact ⟨rfl, by decide, by decide, (C.xf.ok ("NotRanked", "word") (by decide)).2⟩
  | j + 1, hr => simp at hr
theorem mk_NotKept (C : Cc K mg) : MkE PR w K mg base "NotKept" ["rule"] 1 := by
  obtain ⟨cd, cc, doc, pm, an, ctv, I⟩ := C.init (P := PR) 18 (ex_in C) (by decide +kernel) (d := i_NotKept)
  obtain ⟨oc, od, osl, lk⟩ := I.lk
  refine ⟨_, _, ["self", "rule"], I.sup.oex, I.iC, I.tI, exi_ok (F := ⟨"__init__", i_NotKept.qual, i_NotKept.params, i_NotKept.body, i_NotKept.scope, [("__class__", cc)], cd⟩) (N := ["self", "rule", "__class__"]) (ps := ["self", "rule"]) ⟨"rule", "rule", _, _, _, _⟩ [] I.sup lk rfl rfl (nscope_by (sc := defScope (ini 21)) (by decide +kernel)) rfl rfl rfl rfl (C.free 78) ?_ rfl (by decide), Binds.all fun us hl => match us, hl with | [_, _], _ => rfl⟩
  intro j r hr
  match j, hr with
  | 0, rfl => exact ⟨rfl, by decide, by decide, (C.xf.ok ("NotKept", "rule") (by decide)).2⟩
  | j + 1, hr => simp at hr
theorem mk_BadStand (C : Cc K mg) : MkE PR w K mg base "BadStand" ["at"] 1 := by
  obtain ⟨cd, cc, doc, pm, an, ctv, I⟩ := C.init (P := PR) 19 (ex_in C) (by decide +kernel) (d := i_BadStand)
  obtain ⟨oc, od, osl, lk⟩ := I.lk
  refine ⟨_, _, ["self", "at"], I.sup.oex, I.iC, I.tI, exi_ok (F := ⟨"__init__", i_BadStand.qual, i_BadStand.params, i_BadStand.body, i_BadStand.scope, [("__class__", cc)], cd⟩) (N := ["self", "at", "__class__"]) (ps := ["self", "at"]) ⟨"at", "at", _, _, _, _⟩ [] I.sup lk rfl rfl (nscope_by (sc := defScope (ini 22)) (by decide +kernel)) rfl rfl rfl rfl (C.free 78) ?_ rfl (by decide), Binds.all fun us hl => match us, hl with | [_, _], _ => rfl⟩
  intro j r hr
  match j, hr with
  | 0, rfl => exact ⟨rfl, by decide, by decide, (C.xf.ok ("BadStand", "at") (by decide)).2⟩
  | j + 1, hr => simp at hr
theorem mk_BadSign (C : Cc K mg) : MkE PR w K mg base "BadSign" ["sign"] 1 := by
  obtain ⟨cd, cc, doc, pm, an, ctv, I⟩ := C.init (P := PR) 20 (ex_in C) (by decide +kernel) (d := i_BadSign)
  obtain ⟨oc, od, osl, lk⟩ := I.lk
  refine ⟨_, _, ["self", "sign"], I.sup.oex, I.iC, I.tI, exi_ok (F := ⟨"__init__", i_BadSign.qual, i_BadSign.params, i_BadSign.body, i_BadSign.scope, [("__class__", cc)], cd⟩) (N := ["self", "sign", "__class__"]) (ps := ["self", "sign"]) ⟨"sign", "sign", _, _, _, _⟩ [] I.sup lk rfl rfl (nscope_by (sc := defScope (ini 23)) (by decide +kernel)) rfl rfl rfl rfl (C.free 78) ?_ rfl (by decide), Binds.all fun us hl => match us, hl with | [_, _], _ => rfl⟩
  intro j r hr
  match j, hr with
  | 0, rfl => exact ⟨rfl, by decide, by decide, (C.xf.ok ("BadSign", "sign") (by decide)).2⟩
  | j + 1, hr => simp at hr
theorem mk_BadSaying (C : Cc K mg) : MkE PR w K mg base "BadSaying" ["label"] 1 := by
  obtain ⟨cd, cc, doc, pm, an, ctv, I⟩ := C.init (P := PR) 21 (ex_in C) (by decide +kernel) (d := i_BadSaying)
  obtain ⟨oc, od, osl, lk⟩ := I.lk
  refine ⟨_, _, ["self", "label"], I.sup.oex, I.iC, I.tI, exi_ok (F := ⟨"__init__", i_BadSaying.qual, i_BadSaying.params, i_BadSaying.body, i_BadSaying.scope, [("__class__", cc)], cd⟩) (N := ["self", "label", "__class__"]) (ps := ["self", "label"]) ⟨"label", "label", _, _, _, _⟩ [] I.sup lk rfl rfl (nscope_by (sc := defScope (ini 24)) (by decide +kernel)) rfl rfl rfl rfl (C.free 78) ?_ rfl (by decide), Binds.all fun us hl => match us, hl with | [_, _], _ => rfl⟩
  intro j r hr
  match j, hr with
  | 0, rfl => exact ⟨rfl, by decide, by decide, (C.xf.ok ("BadSaying", "label") (by decide)).2⟩
  | j + 1, hr => simp at hr
theorem mk_NotPlain (C : Cc K mg) : MkE PR w K mg base "NotPlain" ["word"] 1 := by
  obtain ⟨cd, cc, doc, pm, an, ctv, I⟩ := C.init (P := PR) 22 (ex_in C) (by decide +kernel) (d := i_NotPlain)
  obtain ⟨oc, od, osl, lk⟩ := I.lk
  refine ⟨_, _, ["self", "word"], I.sup.oex, I.iC, I.tI, exi_ok (F := ⟨"__init__", i_NotPlain.qual, i_NotPlain.params, i_NotPlain.body, i_NotPlain.scope, [("__class__", cc)], cd⟩) (N := ["self", "word", "__class__"]) (ps := ["self", "word"]) ⟨"word", "word", _, _, _, _⟩ [] I.sup lk rfl rfl (nscope_by (sc := defScope (ini 25)) (by decide +kernel)) rfl rfl rfl rfl (C.free 78) ?_ rfl (by decide), Binds.all fun us hl => match us, hl with | [_, _], _ => rfl⟩
  intro j r hr
  match j, hr with
  | 0, rfl => exact ⟨rfl, by decide, by decide, (C.xf.ok ("NotPlain", "word") (by decide)).2⟩
  | j + 1, hr => simp at hr
theorem mk_NotOpen (C : Cc K mg) : MkE PR w K mg base "NotOpen" ["verdict"] 1 := by
  obtain ⟨cd, cc, doc, pm, an, ctv, I⟩ := C.init (P := PR) 23 (ex_in C) (by decide +kernel) (d := i_NotOpen)
  obtain ⟨oc, od, osl, lk⟩ := I.lk
  refine ⟨_, _, ["self", "verdict"], I.sup.oex, I.iC, I.tI, exi_ok (F := ⟨"__init__", i_NotOpen.qual, i_NotOpen.params, i_NotOpen.body, i_NotOpen.scope, [("__class__", cc)], cd⟩) (N := ["self", "verdict", "__class__"]) (ps := ["self", "verdict"]) ⟨"verdict", "verdict", _, _, _, _⟩ [] I.sup lk rfl rfl (nscope_by (sc := defScope (ini 26)) (by decide +kernel)) rfl rfl rfl rfl (C.free 78) ?_ rfl (by decide), Binds.all fun us hl => match us, hl with | [_, _], _ => rfl⟩
  intro j r hr
  match j, hr with
  | 0, rfl => exact ⟨rfl, by decide, by decide, (C.xf.ok ("NotOpen", "verdict") (by decide)).2⟩
  | j + 1, hr => simp at hr
theorem mk_Refused (C : Cc K mg) : MkE PR w K mg base "Refused" ["blame"] 1 := by
  obtain ⟨cd, cc, doc, pm, an, ctv, I⟩ := C.init (P := PR) 24 (ex_in C) (by decide +kernel) (d := i_Refused)
  obtain ⟨oc, od, osl, lk⟩ := I.lk
  refine ⟨_, _, ["self", "blame"], I.sup.oex, I.iC, I.tI, exi_ok (F := ⟨"__init__", i_Refused.qual, i_Refused.params, i_Refused.body, i_Refused.scope, [("__class__", cc)], cd⟩) (N := ["self", "blame", "__class__"]) (ps := ["self", "blame"]) ⟨"blame", "blame", _, _, _, _⟩ [] I.sup lk rfl rfl (nscope_by (sc := defScope (ini 27)) (by decide +kernel)) rfl rfl rfl rfl (C.free 78) ?_ rfl (by decide), Binds.all fun us hl => match us, hl with | [_, _], _ => rfl⟩
  intro j r hr
  match j, hr with
  | 0, rfl => exact ⟨rfl, by decide, by decide, (C.xf.ok ("Refused", "blame") (by decide)).2⟩
  | j + 1, hr => simp at hr
theorem mk_OverRoom (C : Cc K mg) : MkE PR w K mg base "OverRoom" ["most"] 1 := by
  obtain ⟨cd, cc, doc, pm, an, ctv, I⟩ := C.init (P := PR) 25 (ex_in C) (by decide +kernel) (d := i_OverRoom)
  obtain ⟨oc, od, osl, lk⟩ := I.lk
  refine ⟨_, _, ["self", "most"], I.sup.oex, I.iC, I.tI, exi_ok (F := ⟨"__init__", i_OverRoom.qual, i_OverRoom.params, i_OverRoom.body, i_OverRoom.scope, [("__class__", cc)], cd⟩) (N := ["self", "most", "__class__"]) (ps := ["self", "most"]) ⟨"most", "most", _, _, _, _⟩ [] I.sup lk rfl rfl (nscope_by (sc := defScope (ini 29)) (by decide +kernel)) rfl rfl rfl rfl (C.free 78) ?_ rfl (by decide), Binds.all fun us hl => match us, hl with | [_, _], _ => rfl⟩
  intro j r hr
  match j, hr with
  | 0, rfl => exact ⟨rfl, by decide, by decide, (C.xf.ok ("OverRoom", "most") (by decide)).2⟩
  | j + 1, hr => simp at hr
theorem mk_BadLine (C : Cc K mg) : MkE PR w K mg base "BadLine" ["line"] 1 := by
  obtain ⟨cd, cc, doc, pm, an, ctv, I⟩ := C.init (P := PR) 26 (ex_in C) (by decide +kernel) (d := i_BadLine)
  obtain ⟨oc, od, osl, lk⟩ := I.lk
  refine ⟨_, _, ["self", "line"], I.sup.oex, I.iC, I.tI, exi_ok (F := ⟨"__init__", i_BadLine.qual, i_BadLine.params, i_BadLine.body, i_BadLine.scope, [("__class__", cc)], cd⟩) (N := ["self", "line", "__class__"]) (ps := ["self", "line"]) ⟨"line", "line", _, _, _, _⟩ [] I.sup lk rfl rfl (nscope_by (sc := defScope (ini 30)) (by decide +kernel)) rfl rfl rfl rfl (C.free 78) ?_ rfl (by decide), Binds.all fun us hl => match us, hl with | [_, _], _ => rfl⟩
  intro j r hr
  match j, hr with
  | 0, rfl => exact ⟨rfl, by decide, by decide, (C.xf.ok ("BadLine", "line") (by decide)).2⟩
  | j + 1, hr => simp at hr
theorem mk_TooLarge (C : Cc K mg) : MkE PR w K mg base "TooLarge" ["what"] 1 := by
  obtain ⟨cd, cc, doc, pm, an, ctv, I⟩ := C.init (P := PR) 27 (ex_in C) (by decide +kernel) (d := i_TooLarge)
  obtain ⟨oc, od, osl, lk⟩ := I.lk
  refine ⟨_, _, ["self", "what"], I.sup.oex, I.iC, I.tI, exi_ok (F := ⟨"__init__", i_TooLarge.qual, i_TooLarge.params, i_TooLarge.body, i_TooLarge.scope, [("__class__", cc)], cd⟩) (N := ["self", "what", "__class__"]) (ps := ["self", "what"]) ⟨"what", "what", _, _, _, _⟩ [] I.sup lk rfl rfl (nscope_by (sc := defScope (ini 31)) (by decide +kernel)) rfl rfl rfl rfl (C.free 78) ?_ rfl (by decide), Binds.all fun us hl => match us, hl with | [_, _], _ => rfl⟩
  intro j r hr
  match j, hr with
  | 0, rfl => exact ⟨rfl, by decide, by decide, (C.xf.ok ("TooLarge", "what") (by decide)).2⟩
  | j + 1, hr => simp at hr
def N_is_dial : List Str := ["letter"]
def M_is_dial (G : Gc) : MF := mBody 1
    (sRet (mAndV (mBin (opEq false) (mCallN bLen (mCons (mVar 0) (mNil))) (mC (.int 1))) (mBin (opIn false) (mVar 0) (mC (.str "abcdefghijklmnopqrst")))))
theorem ok_is_dial (C : Cc K mg) : FOk PR w K mg base 1 "is_dial" 1 [] (M_is_dial ⟨PR, w, K⟩) := by
  refine fok (N := ["letter"]) (ps := ["letter"]) (C.def_ 0 (d := d_is_dial)) (C.glo 31) ⟨rfl, rfl, rfl, by decide +kernel, rfl, by decide +kernel, by decide +kernel⟩ (fun _ _ _ _ _ _ _ us hl => match us, hl with | [_], _ => rfl) fun cdv A outer sh H E B => ?_
  have nd : (["letter"] : List Str).Nodup := by decide +kernel
  exact sds_one (sd_ret (ed_and (ed_cmp (or_eq B.hr) (ed_callB cb_len rfl (C.free 73) bt_len (ea_cons (ed_var 0) (ea_nil))) (ed_int)) (ed_one (ed_cmp (or_in (inF B.hr)) (ed_var 0) (ed_gstr rfl (C.gstr 80))))))
def N_is_back : List Str := ["letter"]
def M_is_back (G : Gc) : MF := mBody 1
    (sRet (mAndV (mBin (opEq false) (mCallN bLen (mCons (mVar 0) (mNil))) (mC (.int 1))) (mBin (opIn false) (mVar 0) (mC (.str "ABCDEFGHIJKLMNOPQRST")))))
theorem ok_is_back (C : Cc K mg) : FOk PR w K mg base 1 "is_back" 1 [] (M_is_back ⟨PR, w, K⟩) := by
  refine fok (N := ["letter"]) (ps := ["letter"]) (C.def_ 1 (d := d_is_back)) (C.glo 32) ⟨rfl, rfl, rfl, by decide +kernel, rfl, by decide +kernel, by decide +kernel⟩ (fun _ _ _ _ _ _ _ us hl => match us, hl with | [_], _ => rfl) fun cdv A outer sh H E B => ?_
  have nd : (["letter"] : List Str).Nodup := by decide +kernel
  exact sds_one (sd_ret (ed_and (ed_cmp (or_eq B.hr) (ed_callB cb_len rfl (C.free 73) bt_len (ea_cons (ed_var 0) (ea_nil))) (ed_int)) (ed_one (ed_cmp (or_in (inF B.hr)) (ed_var 0) (ed_gstr rfl (C.gstr 81))))))
def N_is_head : List Str := ["text", "letter"]
def M_is_head (G : Gc) : MF := mBody 2
    (sRet (mCallN bAll (mCons (mL1 G false (iAny (mVar 0)) (gN 1) (mYes) (mOrV (mBin (opIn false) (mVar 1) (mC (.str "abcdefghijklmnopqrst"))) (mBin (opIn false) (mVar 1) (mC (.str "ABCDEFGHIJKLMNOPQRST")))) [1]) (mNil))))
theorem ok_is_head (C : Cc K mg) : FOk PR w K mg base 1 "is_head" 1 [] (M_is_head ⟨PR, w, K⟩) := by
  refine fok (N := ["text", "letter"]) (ps := ["text"]) (C.def_ 2 (d := d_is_head)) (C.glo 33) ⟨rfl, rfl, rfl, by decide +kernel, rfl, by decide +kernel, by decide +kernel⟩ (fun _ _ _ _ _ _ _ us hl => match us, hl with | [_], _ => rfl) fun cdv A outer sh H E B => ?_
  have nd : (["text", "letter"] : List Str).Nodup := by decide +kernel
  exact sds_one (sd_ret (ed_callB (cb_all B.calm) rfl (C.free 69) bt_all (ea_cons (ed_l1 false (own := [("letter", 1)]) B.calm nd ⟨id_any (ed_var 0), (blkOk_by (N := ["text", "letter"]) (sc := defScope (top 39)) (own := [("letter", 1)]) (by decide +kernel)), fun _ _ _ _ _ => gdw_name 1 nd (by decide), fun _ _ _ _ _ => ets_nil, fun _ _ _ _ _ => ed_or (ed_cmp (or_in (inF B.hr)) (ed_var 1) (ed_gstr rfl (C.gstr 80))) (ed_one (ed_cmp (or_in (inF B.hr)) (ed_var 1) (ed_gstr rfl (C.gstr 81))))⟩) (ea_nil))))
def N_is_word : List Str := ["text"]
def M_is_word (G : Gc) : MF := mBody 1
    (sSeq (sIf (mOr (mTru (mBin (opEq false) (mVar 0) (mC (.str "")))) (mTru (mBin (opGt) (mCallN bLen (mCons (mVar 0) (mNil))) (mC (.int 40))))) (sRet (mC (.bl false))) (sNop))
    (sRet (mAndV (mBin (opIn false) (mBin opIx (mVar 0) (mUn opNeg (mC (.int 1)))) (mC (.str "uvwxyz"))) (mCallF (M_is_head G) [] (mCons (mSl false (mVar 0) (mNoPart) (mPart (mUn opNeg (mC (.int 1))))) (mNil))))))
theorem ok_is_word (C : Cc K mg) : FOk PR w K mg base 2 "is_word" 1 [] (M_is_word ⟨PR, w, K⟩) := by
  refine fok (N := ["text"]) (ps := ["text"]) (C.def_ 3 (d := d_is_word)) (C.glo 34) ⟨rfl, rfl, rfl, by decide +kernel, rfl, by decide +kernel, by decide +kernel⟩ (fun _ _ _ _ _ _ _ us hl => match us, hl with | [_], _ => rfl) fun cdv A outer sh H E B => ?_
  have nd : (["text"] : List Str).Nodup := by decide +kernel
  exact sds_cons (sd_if (EW.eb (ew_or (eb_cmp (or_eq B.hr) bl_eq (ed_var 0) (ed_str)) (ew_or1 (eb_cmp (or_gt) bl_cmp (ed_callB cb_len rfl (C.free 73) bt_len (ea_cons (ed_var 0) (ea_nil))) (ed_gint rfl (C.gint 83)))))) (sds_one (sd_ret (ed_bl))) (sds_nil))
    (sds_one (sd_ret (ed_and (ed_cmp (or_in (inF B.hr)) (ed_ix (ixr B.hr) (ed_var 0) (ed_un ur_neg (ed_int))) (ed_gstr rfl (C.gstr 82))) (ed_one (ed_callF (ok_is_head C) B.hr (by decide) B.tk rfl (ea_cons (ed_sl false (ed_var 0) (od_none) (od_some (ed_un ur_neg (ed_int)))) (ea_nil)) (lenS (len0)) rfl)))))
def N_require_word : List Str := ["word"]
def M_require_word (G : Gc) : MF := mBody 1
    (sIf (mNot (mTru (mCallF (M_is_word G) [] (mCons (mVar 0) (mNil))))) (sRaise "BadWord" ["word"] (mCons (mVar 0) (mNil))) (sNop))
theorem ok_require_word (C : Cc K mg) : FOk PR w K mg base 3 "require_word" 1 [] (M_require_word ⟨PR, w, K⟩) := by
  refine fok (N := ["word"]) (ps := ["word"]) (C.def_ 4 (d := d_require_word)) (C.glo 35) ⟨rfl, rfl, rfl, by decide +kernel, rfl, by decide +kernel, by decide +kernel⟩ (fun _ _ _ _ _ _ _ us hl => match us, hl with | [_], _ => rfl) fun cdv A outer sh H E B => ?_
  have nd : (["word"] : List Str).Nodup := by decide +kernel
  exact sds_one (sd_if (eb_not (eb_tru (ed_callF (ok_is_word C) B.hr (by decide) B.tk rfl (ea_cons (ed_var 0) (ea_nil)) (lenS (len0)) rfl))) (sds_one (sd_raiseE (x := "BadWord") (mk_BadWord C) B.calm B.tk B.hr (by decide) rfl (C.glo 1) (ea_cons (ed_var 0) (ea_nil)))) (sds_nil))
def N_heads : List Str := ["word", "at"]
def M_heads (G : Gc) : MF := mBody 2
    (sSeq (sExp (mCallF (M_require_word G) [] (mCons (mVar 0) (mNil))))
    (sRet (mL1 G true (iR1 (mCons (mCallN bLen (mCons (mVar 0) (mNil))) (mNil))) (gN 1) (mYes) (mSl false (mVar 0) (mNoPart) (mPart (mVar 1))) [1])))
theorem ok_heads (C : Cc K mg) : FOk PR w K mg base 4 "heads" 1 [] (M_heads ⟨PR, w, K⟩) := by
  refine fok (N := ["word", "at"]) (ps := ["word"]) (C.def_ 5 (d := d_heads)) (C.glo 36) ⟨rfl, rfl, rfl, by decide +kernel, rfl, by decide +kernel, by decide +kernel⟩ (fun _ _ _ _ _ _ _ us hl => match us, hl with | [_], _ => rfl) fun cdv A outer sh H E B => ?_
  have nd : (["word", "at"] : List Str).Nodup := by decide +kernel
  exact sds_cons (sd_expr (ed_callF (ok_require_word C) B.hr (by decide) B.tk rfl (ea_cons (ed_var 0) (ea_nil)) (lenS (len0)) rfl))
    (sds_one (sd_ret (ed_l1 true (own := [("at", 1)]) B.calm nd ⟨id_range1 rfl (C.free 75) (ea_cons (ed_callB cb_len rfl (C.free 73) bt_len (ea_cons (ed_var 0) (ea_nil))) (ea_nil)), (blkOk_by (N := ["word", "at"]) (sc := defScope (top 42)) (own := [("at", 1)]) (by decide +kernel)), fun _ _ _ _ _ => gdw_name 1 nd (by decide), fun _ _ _ _ _ => ets_nil, fun _ _ _ _ _ => ed_sl false (ed_var 0) (od_none) (od_some (ed_var 1))⟩)))
def N_tails : List Str := ["word", "at"]
def M_tails (G : Gc) : MF := mBody 2
    (sSeq (sExp (mCallF (M_require_word G) [] (mCons (mVar 0) (mNil))))
    (sRet (mL1 G true (iR1 (mCons (mCallN bLen (mCons (mVar 0) (mNil))) (mNil))) (gN 1) (mYes) (mSl false (mVar 0) (mPart (mVar 1)) (mNoPart)) [1])))
theorem ok_tails (C : Cc K mg) : FOk PR w K mg base 4 "tails" 1 [] (M_tails ⟨PR, w, K⟩) := by
  refine fok (N := ["word", "at"]) (ps := ["word"]) (C.def_ 6 (d := d_tails)) (C.glo 37) ⟨rfl, rfl, rfl, by decide +kernel, rfl, by decide +kernel, by decide +kernel⟩ (fun _ _ _ _ _ _ _ us hl => match us, hl with | [_], _ => rfl) fun cdv A outer sh H E B => ?_
  have nd : (["word", "at"] : List Str).Nodup := by decide +kernel
  exact sds_cons (sd_expr (ed_callF (ok_require_word C) B.hr (by decide) B.tk rfl (ea_cons (ed_var 0) (ea_nil)) (lenS (len0)) rfl))
    (sds_one (sd_ret (ed_l1 true (own := [("at", 1)]) B.calm nd ⟨id_range1 rfl (C.free 75) (ea_cons (ed_callB cb_len rfl (C.free 73) bt_len (ea_cons (ed_var 0) (ea_nil))) (ea_nil)), (blkOk_by (N := ["word", "at"]) (sc := defScope (top 43)) (own := [("at", 1)]) (by decide +kernel)), fun _ _ _ _ _ => gdw_name 1 nd (by decide), fun _ _ _ _ _ => ets_nil, fun _ _ _ _ _ => ed_sl false (ed_var 0) (od_some (ed_var 1)) (od_none)⟩)))
def N_first_letter : List Str := ["word"]
def M_first_letter (G : Gc) : MF := mBody 1
    (sSeq (sExp (mCallF (M_require_word G) [] (mCons (mVar 0) (mNil))))
    (sRet (mBin opIx (mVar 0) (mC (.int 0)))))
theorem ok_first_letter (C : Cc K mg) : FOk PR w K mg base 4 "first_letter" 1 [] (M_first_letter ⟨PR, w, K⟩) := by
  refine fok (N := ["word"]) (ps := ["word"]) (C.def_ 7 (d := d_first_letter)) (C.glo 38) ⟨rfl, rfl, rfl, by decide +kernel, rfl, by decide +kernel, by decide +kernel⟩ (fun _ _ _ _ _ _ _ us hl => match us, hl with | [_], _ => rfl) fun cdv A outer sh H E B => ?_
  have nd : (["word"] : List Str).Nodup := by decide +kernel
  exact sds_cons (sd_expr (ed_callF (ok_require_word C) B.hr (by decide) B.tk rfl (ea_cons (ed_var 0) (ea_nil)) (lenS (len0)) rfl))
    (sds_one (sd_ret (ed_ix (ixr B.hr) (ed_var 0) (ed_int))))
def N_rest_of : List Str := ["word"]
def M_rest_of (G : Gc) : MF := mBody 1
    (sSeq (sExp (mCallF (M_require_word G) [] (mCons (mVar 0) (mNil))))
    (sRet (mSl false (mVar 0) (mPart (mC (.int 1))) (mNoPart))))
theorem ok_rest_of (C : Cc K mg) : FOk PR w K mg base 4 "rest_of" 1 [] (M_rest_of ⟨PR, w, K⟩) := by
  refine fok (N := ["word"]) (ps := ["word"]) (C.def_ 8 (d := d_rest_of)) (C.glo 39) ⟨rfl, rfl, rfl, by decide +kernel, rfl, by decide +kernel, by decide +kernel⟩ (fun _ _ _ _ _ _ _ us hl => match us, hl with | [_], _ => rfl) fun cdv A outer sh H E B => ?_
  have nd : (["word"] : List Str).Nodup := by decide +kernel
  exact sds_cons (sd_expr (ed_callF (ok_require_word C) B.hr (by decide) B.tk rfl (ea_cons (ed_var 0) (ea_nil)) (lenS (len0)) rfl))
    (sds_one (sd_ret (ed_sl false (ed_var 0) (od_some (ed_int)) (od_none))))
def N_point_of : List Str := ["word"]
def M_point_of (G : Gc) : MF := mBody 1
    (sSeq (sExp (mCallF (M_require_word G) [] (mCons (mVar 0) (mNil))))
    (sRet (mBin opIx (mVar 0) (mUn opNeg (mC (.int 1))))))
theorem ok_point_of (C : Cc K mg) : FOk PR w K mg base 4 "point_of" 1 [] (M_point_of ⟨PR, w, K⟩) := by
  refine fok (N := ["word"]) (ps := ["word"]) (C.def_ 9 (d := d_point_of)) (C.glo 40) ⟨rfl, rfl, rfl, by decide +kernel, rfl, by decide +kernel, by decide +kernel⟩ (fun _ _ _ _ _ _ _ us hl => match us, hl with | [_], _ => rfl) fun cdv A outer sh H E B => ?_
  have nd : (["word"] : List Str).Nodup := by decide +kernel
  exact sds_cons (sd_expr (ed_callF (ok_require_word C) B.hr (by decide) B.tk rfl (ea_cons (ed_var 0) (ea_nil)) (lenS (len0)) rfl))
    (sds_one (sd_ret (ed_ix (ixr B.hr) (ed_var 0) (ed_un ur_neg (ed_int)))))
def N_ordered : List Str := ["texts", "text"]
def M_ordered (G : Gc) : MF := mBody 2
    (sRet (mSortK .len true (mCallN (bSorted false) (mCons (mS1 G (iAny (mVar 0)) (gN 1) (mYes) (mVar 1) [1]) (mNil)))))
theorem ok_ordered (C : Cc K mg) : FOk PR w K mg base 1 "ordered" 1 [] (M_ordered ⟨PR, w, K⟩) := by
  refine fok (N := ["texts", "text"]) (ps := ["texts"]) (C.def_ 10 (d := d_ordered)) (C.glo 41) ⟨rfl, rfl, rfl, by decide +kernel, rfl, by decide +kernel, by decide +kernel⟩ (fun _ _ _ _ _ _ _ us hl => match us, hl with | [_], _ => rfl) fun cdv A outer sh H E B => ?_
  have nd : (["texts", "text"] : List Str).Nodup := by decide +kernel
  exact sds_one (sd_ret (ed_sortK .len true B.hr rfl (C.free 76) bt_sorted rfl (C.free 73) bt_len (ed_callB (cb_sorted false B.hr B.calm) rfl (C.free 76) bt_sorted (ea_cons (ed_s1 (own := [("text", 1)]) B.calm nd ⟨id_any (ed_var 0), (blkOk_by (N := ["texts", "text"]) (sc := defScope (top 47)) (own := [("text", 1)]) (by decide +kernel)), fun _ _ _ _ _ => gdw_name 1 nd (by decide), fun _ _ _ _ _ => ets_nil, fun _ _ _ _ _ => ed_var 1⟩) (ea_nil)))))
def N_in_order : List Str := ["words", "word"]
def M_in_order (G : Gc) : MF := mBody 2
    (sSeq (sFor (iAny (mVar 0)) (gN 1) (sExp (mCallF (M_require_word G) [] (mCons (mVar 1) (mNil)))))
    (sRet (mCallF (M_ordered G) [] (mCons (mVar 0) (mNil)))))
theorem ok_in_order (C : Cc K mg) : FOk PR w K mg base 4 "in_order" 1 [] (M_in_order ⟨PR, w, K⟩) := by
  refine fok (N := ["words", "word"]) (ps := ["words"]) (C.def_ 11 (d := d_in_order)) (C.glo 42) ⟨rfl, rfl, rfl, by decide +kernel, rfl, by decide +kernel, by decide +kernel⟩ (fun _ _ _ _ _ _ _ us hl => match us, hl with | [_], _ => rfl) fun cdv A outer sh H E B => ?_
  have nd : (["words", "word"] : List Str).Nodup := by decide +kernel
  exact sds_cons (sd_for B.pa B.calm (id_any (ed_var 0)) (gd_name 1 nd) (sds_one (sd_expr (ed_callF (ok_require_word C) B.hr (by decide) B.tk rfl (ea_cons (ed_var 1) (ea_nil)) (lenS (len0)) rfl))))
    (sds_one (sd_ret (ed_callF (ok_ordered C) B.hr (by decide) B.tk rfl (ea_cons (ed_var 0) (ea_nil)) (lenS (len0)) rfl)))
def N_tail_set : List Str := ["words", "word", "at"]
def M_tail_set (G : Gc) : MF := mBody 3
    (sSeq (sFor (iAny (mVar 0)) (gN 1) (sExp (mCallF (M_require_word G) [] (mCons (mVar 1) (mNil)))))
    (sRet (mCallF (M_ordered G) [] (mCons (mL2 G true (iAny (mVar 0)) (gN 1) (mYes) (iR1 (mCons (mCallN bLen (mCons (mVar 1) (mNil))) (mNil))) (gN 2) (mYes) (mSl false (mVar 1) (mPart (mVar 2)) (mNoPart)) [1, 2] [2]) (mNil)))))
theorem ok_tail_set (C : Cc K mg) : FOk PR w K mg base 4 "tail_set" 1 [] (M_tail_set ⟨PR, w, K⟩) := by
  refine fok (N := ["words", "word", "at"]) (ps := ["words"]) (C.def_ 12 (d := d_tail_set)) (C.glo 43) ⟨rfl, rfl, rfl, by decide +kernel, rfl, by decide +kernel, by decide +kernel⟩ (fun _ _ _ _ _ _ _ us hl => match us, hl with | [_], _ => rfl) fun cdv A outer sh H E B => ?_
  have nd : (["words", "word", "at"] : List Str).Nodup := by decide +kernel
  exact sds_cons (sd_for B.pa B.calm (id_any (ed_var 0)) (gd_name 1 nd) (sds_one (sd_expr (ed_callF (ok_require_word C) B.hr (by decide) B.tk rfl (ea_cons (ed_var 1) (ea_nil)) (lenS (len0)) rfl))))
    (sds_one (sd_ret (ed_callF (ok_ordered C) B.hr (by decide) B.tk rfl (ea_cons (ed_l2 true (own := [("word", 1), ("at", 2)]) (vs1 := [2]) B.calm nd ⟨id_any (ed_var 0), (blkOk_by (N := ["words", "word", "at"]) (sc := defScope (top 49)) (own := [("word", 1), ("at", 2)]) (by decide +kernel)), fun _ _ _ _ _ => gdw_name 1 nd (by decide), fun _ _ _ _ _ => ets_nil, fun _ _ _ _ _ => ed_sl false (ed_var 1) (od_some (ed_var 2)) (od_none)⟩ ⟨by decide, fun _ _ _ _ _ => id_range1 rfl (C.free 75) (ea_cons (ed_callB cb_len rfl (C.free 73) bt_len (ea_cons (ed_var 1) (ea_nil))) (ea_nil)), fun _ _ _ _ _ => gdw_name 2 nd (by decide), fun _ _ _ _ _ => ets_nil⟩) (ea_nil)) (lenS (len0)) rfl)))
def N_dials_of : List Str := ["words", "word", "letter"]
def M_dials_of (G : Gc) : MF := mBody 3
    (sSeq (sFor (iAny (mVar 0)) (gN 1) (sExp (mCallF (M_require_word G) [] (mCons (mVar 1) (mNil)))))
    (sRet (mCallN (bSorted true) (mCons (mS2 G (iAny (mVar 0)) (gN 1) (mYes) (iAny (mSl false (mVar 1) (mNoPart) (mPart (mUn opNeg (mC (.int 1)))))) (gN 2) (mYes) (mMt isS fLower (mVar 2) (mNil)) [1, 2] [2]) (mNil)))))
theorem ok_dials_of (C : Cc K mg) : FOk PR w K mg base 4 "dials_of" 1 [] (M_dials_of ⟨PR, w, K⟩) := by
  refine fok (N := ["words", "word", "letter"]) (ps := ["words"]) (C.def_ 13 (d := d_dials_of)) (C.glo 44) ⟨rfl, rfl, rfl, by decide +kernel, rfl, by decide +kernel, by decide +kernel⟩ (fun _ _ _ _ _ _ _ us hl => match us, hl with | [_], _ => rfl) fun cdv A outer sh H E B => ?_
  have nd : (["words", "word", "letter"] : List Str).Nodup := by decide +kernel
  exact sds_cons (sd_for B.pa B.calm (id_any (ed_var 0)) (gd_name 1 nd) (sds_one (sd_expr (ed_callF (ok_require_word C) B.hr (by decide) B.tk rfl (ea_cons (ed_var 1) (ea_nil)) (lenS (len0)) rfl))))
    (sds_one (sd_ret (ed_callB (cb_sorted true B.hr B.calm) rfl (C.free 76) bt_sorted (ea_cons (ed_s2 (own := [("word", 1), ("letter", 2)]) (vs1 := [2]) B.calm nd ⟨id_any (ed_var 0), (blkOk_by (N := ["words", "word", "letter"]) (sc := defScope (top 50)) (own := [("word", 1), ("letter", 2)]) (by decide +kernel)), fun _ _ _ _ _ => gdw_name 1 nd (by decide), fun _ _ _ _ _ => ets_nil, fun _ _ _ _ _ => ed_bm0 tyS PySem.F.plainAttrs_str PySem.F.slot_str_lower PySem.F.type_str_lower mr_lower (ed_var 2)⟩ ⟨by decide, fun _ _ _ _ _ => id_any (ed_sl false (ed_var 1) (od_none) (od_some (ed_un ur_neg (ed_int)))), fun _ _ _ _ _ => gdw_name 2 nd (by decide), fun _ _ _ _ _ => ets_nil⟩) (ea_nil)))))
def N_points_of : List Str := ["words", "word"]
def M_points_of (G : Gc) : MF := mBody 2
    (sSeq (sFor (iAny (mVar 0)) (gN 1) (sExp (mCallF (M_require_word G) [] (mCons (mVar 1) (mNil)))))
    (sRet (mCallN (bSorted true) (mCons (mS1 G (iAny (mVar 0)) (gN 1) (mYes) (mBin opIx (mVar 1) (mUn opNeg (mC (.int 1)))) [1]) (mNil)))))
theorem ok_points_of (C : Cc K mg) : FOk PR w K mg base 4 "points_of" 1 [] (M_points_of ⟨PR, w, K⟩) := by
  refine fok (N := ["words", "word"]) (ps := ["words"]) (C.def_ 14 (d := d_points_of)) (C.glo 45) ⟨rfl, rfl, rfl, by decide +kernel, rfl, by decide +kernel, by decide +kernel⟩ (fun _ _ _ _ _ _ _ us hl => match us, hl with | [_], _ => rfl) fun cdv A outer sh H E B => ?_
  have nd : (["words", "word"] : List Str).Nodup := by decide +kernel
  exact sds_cons (sd_for B.pa B.calm (id_any (ed_var 0)) (gd_name 1 nd) (sds_one (sd_expr (ed_callF (ok_require_word C) B.hr (by decide) B.tk rfl (ea_cons (ed_var 1) (ea_nil)) (lenS (len0)) rfl))))
    (sds_one (sd_ret (ed_callB (cb_sorted true B.hr B.calm) rfl (C.free 76) bt_sorted (ea_cons (ed_s1 (own := [("word", 1)]) B.calm nd ⟨id_any (ed_var 0), (blkOk_by (N := ["words", "word"]) (sc := defScope (top 51)) (own := [("word", 1)]) (by decide +kernel)), fun _ _ _ _ _ => gdw_name 1 nd (by decide), fun _ _ _ _ _ => ets_nil, fun _ _ _ _ _ => ed_ix (ixr B.hr) (ed_var 1) (ed_un ur_neg (ed_int))⟩) (ea_nil)))))
def N_partner : List Str := ["letter"]
def M_partner (G : Gc) : MF := mBody 1
    (sSeq (sIf (mTru (mCallF (M_is_dial G) [] (mCons (mVar 0) (mNil)))) (sRet (mMt isS fUpper (mVar 0) (mNil))) (sNop))
    (sSeq (sIf (mTru (mCallF (M_is_back G) [] (mCons (mVar 0) (mNil)))) (sRet (mMt isS fLower (mVar 0) (mNil))) (sNop))
    (sRaise "BadLetter" ["letter"] (mCons (mVar 0) (mNil)))))
theorem ok_partner (C : Cc K mg) : FOk PR w K mg base 3 "partner" 1 [] (M_partner ⟨PR, w, K⟩) := by
  refine fok (N := ["letter"]) (ps := ["letter"]) (C.def_ 15 (d := d_partner)) (C.glo 46) ⟨rfl, rfl, rfl, by decide +kernel, rfl, by decide +kernel, by decide +kernel⟩ (fun _ _ _ _ _ _ _ us hl => match us, hl with | [_], _ => rfl) fun cdv A outer sh H E B => ?_
  have nd : (["letter"] : List Str).Nodup := by decide +kernel
  exact sds_cons (sd_if (eb_tru (ed_callF (ok_is_dial C) B.hr (by decide) B.tk rfl (ea_cons (ed_var 0) (ea_nil)) (lenS (len0)) rfl)) (sds_one (sd_ret (ed_bm0 tyS PySem.F.plainAttrs_str PySem.F.slot_str_upper PySem.F.type_str_upper mr_upper (ed_var 0)))) (sds_nil))
    (sds_cons (sd_if (eb_tru (ed_callF (ok_is_back C) B.hr (by decide) B.tk rfl (ea_cons (ed_var 0) (ea_nil)) (lenS (len0)) rfl)) (sds_one (sd_ret (ed_bm0 tyS PySem.F.plainAttrs_str PySem.F.slot_str_lower PySem.F.type_str_lower mr_lower (ed_var 0)))) (sds_nil))
    (sds_one (sd_raiseE (x := "BadLetter") (mk_BadLetter C) B.calm B.tk B.hr (by decide) rfl (C.glo 2) (ea_cons (ed_var 0) (ea_nil)))))
def N__law_read : List Str := ["_law_script", "_law_k"]
def M__law_read (G : Gc) : MF := mBody 2
    (sSeq (sIf (mTru (mBin (opLt) (mVar 1) (mCallN bLen (mCons (mVar 0) (mNil))))) (sRet (mBin opIx (mVar 0) (mVar 1))) (sNop))
    (sRet (mC (.int 0))))
theorem ok__law_read (C : Cc K mg) : FOk PR w K mg base 1 "_law_read" 2 [] (M__law_read ⟨PR, w, K⟩) := by
  refine fok (N := ["_law_script", "_law_k"]) (ps := ["_law_script", "_law_k"]) (C.def_ 16 (d := d__law_read)) (C.glo 47) ⟨rfl, rfl, rfl, by decide +kernel, rfl, by decide +kernel, by decide +kernel⟩ (fun _ _ _ _ _ _ _ us hl => match us, hl with | [_, _], _ => rfl) fun cdv A outer sh H E B => ?_
  have nd : (["_law_script", "_law_k"] : List Str).Nodup := by decide +kernel
  exact sds_cons (sd_if (eb_cmp (or_lt) bl_cmp (ed_var 1) (ed_callB cb_len rfl (C.free 73) bt_len (ea_cons (ed_var 0) (ea_nil)))) (sds_one (sd_ret (ed_ix (ixr B.hr) (ed_var 0) (ed_var 1)))) (sds_nil))
    (sds_one (sd_ret (ed_int)))
def N__law_source : List Str := ["_law_script", "_law_k", "_law_cell"]
def M__law_source (G : Gc) : MF := mBody 3
    (sSeq (sAsg 2 (mCallF (M__law_read G) [] (mCons (mVar 0) (mCons (mVar 1) (mNil)))))
    (sSeq (sIf (mTru (mBin (opGe) (mCallN bAbs (mCons (mVar 2) (mNil))) (mBin (opPow) (mC (.int 10)) (mC (.int 18))))) (sRet (mLst true (mCons (mBin (opMod) (mCallN bInt (mCons (mBin (opSub) (mCallN bAbs (mCons (mVar 2) (mNil))) (mBin (opPow) (mC (.int 10)) (mC (.int 18)))) (mNil))) (mBin (opPow) (mC (.int 10)) (mC (.int 60)))) (mCons (mUn opNeg (mC (.int 1))) (mNil))))) (sNop))
    (sRet (mLst true (mCons (mBin (opAdd false) (mBin (opMul false) (mC (.int 2)) (mCallN bAbs (mCons (mVar 2) (mNil)))) (mCallN bInt (mCons (mBin (opLt) (mVar 2) (mC (.int 0))) (mNil)))) (mCons (mC (.int 0)) (mNil)))))))
theorem ok__law_source (C : Cc K mg) : FOk PR w K mg base 2 "_law_source" 2 [] (M__law_source ⟨PR, w, K⟩) := by
  refine fok (N := ["_law_script", "_law_k", "_law_cell"]) (ps := ["_law_script", "_law_k"]) (C.def_ 17 (d := d__law_source)) (C.glo 48) ⟨rfl, rfl, rfl, by decide +kernel, rfl, by decide +kernel, by decide +kernel⟩ (fun _ _ _ _ _ _ _ us hl => match us, hl with | [_, _], _ => rfl) fun cdv A outer sh H E B => ?_
  have nd : (["_law_script", "_law_k", "_law_cell"] : List Str).Nodup := by decide +kernel
  exact sds_cons (sd_set 2 nd (ed_callF (ok__law_read C) B.hr (by decide) B.tk rfl (ea_cons (ed_var 0) (ea_cons (ed_var 1) (ea_nil))) (lenS (lenS (len0))) rfl))
    (sds_cons (sd_if (eb_cmp (or_ge) bl_cmp (ed_callB cb_abs rfl (C.free 68) bt_abs (ea_cons (ed_var 2) (ea_nil))) (ed_bin (or_pow) (ed_int) (ed_int))) (sds_one (sd_ret (ed_lst true (ea_cons (ed_bin (or_mod) (ed_callTy cb_int rfl (C.free 71) bt_int (ea_cons (ed_bin (or_sub) (ed_callB cb_abs rfl (C.free 68) bt_abs (ea_cons (ed_var 2) (ea_nil))) (ed_bin (or_pow) (ed_int) (ed_int))) (ea_nil))) (ed_bin (or_pow) (ed_int) (ed_int))) (ea_cons (ed_un ur_neg (ed_int)) (ea_nil)))))) (sds_nil))
    (sds_one (sd_ret (ed_lst true (ea_cons (ed_bin (or_add false) (ed_bin (or_mul false) (ed_int) (ed_callB cb_abs rfl (C.free 68) bt_abs (ea_cons (ed_var 2) (ea_nil)))) (ed_callTy cb_int rfl (C.free 71) bt_int (ea_cons (ed_cmp (or_lt) (ed_var 2) (ed_int)) (ea_nil)))) (ea_cons (ed_int) (ea_nil)))))))
def N__law_draw : List Str := ["_law_source_here", "_law_many", "_law_found", "_law_place", "_law_primes", "_law_mixed"]
def M__law_draw (G : Gc) : MF := mBody 6
    (sSeq (sIf (mOr (mTru (mBin (opLt) (mVar 1) (mC (.int 2)))) (mTru (mBin (opEq false) (mBin opIx (mVar 0) (mC (.int 0))) (mC (.int 0))))) (sRet (mC (.int 0))) (sNop))
    (sSeq (sIf (mTru (mBin (opLt) (mBin opIx (mVar 0) (mC (.int 1))) (mC (.int 0)))) (sSeq (sAsg 2 (mBin (opMod) (mCallN bInt (mCons (mBin opIx (mVar 0) (mC (.int 0))) (mNil))) (mVar 1)))
    (sSeq (sAsgG (gSubD (mVar 0) (mC (.int 0))) (mBin (opDiv) (mBin opIx (mVar 0) (mC (.int 0))) (mVar 1)))
    (sRet (mVar 2)))) (sNop))
    (sSeq (sAsgG (gSubD (mVar 0) (mC (.int 1))) (mBin (opAdd false) (mBin opIx (mVar 0) (mC (.int 1))) (mC (.int 1))))
    (sSeq (sAsg 3 (mBin opIx (mVar 0) (mC (.int 1))))
    (sSeq (sAsg 4 (mLst false (mCons (mC (.int 48271)) (mCons (mC (.int 10007)) (mCons (mC (.int 69997)) (mCons (mC (.int 30011)) (mCons (mC (.int 90001)) (mCons (mC (.int 20011)) (mCons (mC (.int 50021)) (mNil))))))))))
    (sSeq (sAsg 5 (mBin (opMod) (mCallN bInt (mCons (mBin (opAdd false) (mBin (opMul false) (mBin opIx (mVar 0) (mC (.int 0))) (mBin opIx (mVar 4) (mBin (opMod) (mCallN bInt (mCons (mVar 3) (mNil))) (mC (.int 7))))) (mBin (opMul false) (mBin (opMul false) (mVar 3) (mVar 3)) (mC (.int 7919)))) (mNil))) (mC (.int 2147483647))))
    (sSeq (sAsg 5 (mBin (opMod) (mCallN bInt (mCons (mBin (opAdd false) (mBin (opMul false) (mVar 5) (mVar 5)) (mBin (opMul false) (mVar 3) (mC (.int 104729)))) (mNil))) (mC (.int 998244353))))
    (sRet (mBin (opMod) (mCallN bInt (mCons (mVar 5) (mNil))) (mVar 1))))))))))
theorem ok__law_draw (C : Cc K mg) : FOk PR w K mg base 1 "_law_draw" 2 [] (M__law_draw ⟨PR, w, K⟩) := by
  refine fok (N := ["_law_source_here", "_law_many", "_law_found", "_law_place", "_law_primes", "_law_mixed"]) (ps := ["_law_source_here", "_law_many"]) (C.def_ 18 (d := d__law_draw)) (C.glo 49) ⟨rfl, rfl, rfl, by decide +kernel, rfl, by decide +kernel, by decide +kernel⟩ (fun _ _ _ _ _ _ _ us hl => match us, hl with | [_, _], _ => rfl) fun cdv A outer sh H E B => ?_
  have nd : (["_law_source_here", "_law_many", "_law_found", "_law_place", "_law_primes", "_law_mixed"] : List Str).Nodup := by decide +kernel
  exact sds_cons (sd_if (EW.eb (ew_or (eb_cmp (or_lt) bl_cmp (ed_var 1) (ed_int)) (ew_or1 (eb_cmp (or_eq B.hr) bl_eq (ed_ix (ixr B.hr) (ed_var 0) (ed_int)) (ed_int))))) (sds_one (sd_ret (ed_int))) (sds_nil))
    (sds_cons (sd_if (eb_cmp (or_lt) bl_cmp (ed_ix (ixr B.hr) (ed_var 0) (ed_int)) (ed_int)) (sds_cons (sd_set 2 nd (ed_bin (or_mod) (ed_callTy cb_int rfl (C.free 71) bt_int (ea_cons (ed_ix (ixr B.hr) (ed_var 0) (ed_int)) (ea_nil))) (ed_var 1)))
    (sds_cons (sd_asg (ed_bin (or_div) (ed_ix (ixr B.hr) (ed_var 0) (ed_int)) (ed_var 1)) (gd_sub (W := W0) B.hr (ed_var 0) (ed_int)))
    (sds_one (sd_ret (ed_var 2))))) (sds_nil))
    (sds_cons (sd_asg (ed_bin (or_add false) (ed_ix (ixr B.hr) (ed_var 0) (ed_int)) (ed_int)) (gd_sub (W := W0) B.hr (ed_var 0) (ed_int)))
    (sds_cons (sd_set 3 nd (ed_ix (ixr B.hr) (ed_var 0) (ed_int)))
    (sds_cons (sd_set 4 nd (ed_lst false (ea_cons (ed_int) (ea_cons (ed_int) (ea_cons (ed_int) (ea_cons (ed_int) (ea_cons (ed_int) (ea_cons (ed_int) (ea_cons (ed_int) (ea_nil))))))))))
    (sds_cons (sd_set 5 nd (ed_bin (or_mod) (ed_callTy cb_int rfl (C.free 71) bt_int (ea_cons (ed_bin (or_add false) (ed_bin (or_mul false) (ed_ix (ixr B.hr) (ed_var 0) (ed_int)) (ed_ix (ixr B.hr) (ed_var 4) (ed_bin (or_mod) (ed_callTy cb_int rfl (C.free 71) bt_int (ea_cons (ed_var 3) (ea_nil))) (ed_int)))) (ed_bin (or_mul false) (ed_bin (or_mul false) (ed_var 3) (ed_var 3)) (ed_int))) (ea_nil))) (ed_int)))
    (sds_cons (sd_set 5 nd (ed_bin (or_mod) (ed_callTy cb_int rfl (C.free 71) bt_int (ea_cons (ed_bin (or_add false) (ed_bin (or_mul false) (ed_var 5) (ed_var 5)) (ed_bin (or_mul false) (ed_var 3) (ed_int))) (ea_nil))) (ed_int)))
    (sds_one (sd_ret (ed_bin (or_mod) (ed_callTy cb_int rfl (C.free 71) bt_int (ea_cons (ed_var 5) (ea_nil))) (ed_var 1))))))))))
def N__law_size : List Str := ["_law_source_here", "_law_usual", "_law_most"]
def M__law_size (G : Gc) : MF := mBody 3
    (sSeq (sIf (mTru (mBin (opEq false) (mCallF (M__law_draw G) [] (mCons (mVar 0) (mCons (mC (.int 8)) (mNil)))) (mC (.int 7)))) (sRet (mBin (opAdd false) (mC (.int 1)) (mCallF (M__law_draw G) [] (mCons (mVar 0) (mCons (mVar 2) (mNil)))))) (sNop))
    (sRet (mBin (opAdd false) (mC (.int 1)) (mCallF (M__law_draw G) [] (mCons (mVar 0) (mCons (mVar 1) (mNil)))))))
theorem ok__law_size (C : Cc K mg) : FOk PR w K mg base 2 "_law_size" 3 [] (M__law_size ⟨PR, w, K⟩) := by
  refine fok (N := ["_law_source_here", "_law_usual", "_law_most"]) (ps := ["_law_source_here", "_law_usual", "_law_most"]) (C.def_ 19 (d := d__law_size)) (C.glo 50) ⟨rfl, rfl, rfl, by decide +kernel, rfl, by decide +kernel, by decide +kernel⟩ (fun _ _ _ _ _ _ _ us hl => match us, hl with | [_, _, _], _ => rfl) fun cdv A outer sh H E B => ?_
  have nd : (["_law_source_here", "_law_usual", "_law_most"] : List Str).Nodup := by decide +kernel
  exact sds_cons (sd_if (eb_cmp (or_eq B.hr) bl_eq (ed_callF (ok__law_draw C) B.hr (by decide) B.tk rfl (ea_cons (ed_var 0) (ea_cons (ed_int) (ea_nil))) (lenS (lenS (len0))) rfl) (ed_int)) (sds_one (sd_ret (ed_bin (or_add false) (ed_int) (ed_callF (ok__law_draw C) B.hr (by decide) B.tk rfl (ea_cons (ed_var 0) (ea_cons (ed_var 2) (ea_nil))) (lenS (lenS (len0))) rfl)))) (sds_nil))
    (sds_one (sd_ret (ed_bin (or_add false) (ed_int) (ed_callF (ok__law_draw C) B.hr (by decide) B.tk rfl (ea_cons (ed_var 0) (ea_cons (ed_var 1) (ea_nil))) (lenS (lenS (len0))) rfl))))
def N__law_ordered : List Str := ["_law_words", "_law_found", "_law_word"]
def M__law_ordered (G : Gc) : MF := mBody 3
    (sSeq (sAsg 1 (mLst true (mNil)))
    (sSeq (sFor (iAny (mVar 0)) (gN 2) (sIf (mTru (mBin (opIn true) (mVar 2) (mVar 1))) (sExp (mMt isL (onL gAppend) (mVar 1) (mCons (mVar 2) (mNil)))) (sNop)))
    (sRet (mSortK .len false (mSortK .str false (mVar 1))))))
theorem ok__law_ordered (C : Cc K mg) : FOk PR w K mg base 1 "_law_ordered" 1 [] (M__law_ordered ⟨PR, w, K⟩) := by
  refine fok (N := ["_law_words", "_law_found", "_law_word"]) (ps := ["_law_words"]) (C.def_ 20 (d := d__law_ordered)) (C.glo 51) ⟨rfl, rfl, rfl, by decide +kernel, rfl, by decide +kernel, by decide +kernel⟩ (fun _ _ _ _ _ _ _ us hl => match us, hl with | [_], _ => rfl) fun cdv A outer sh H E B => ?_
  have nd : (["_law_words", "_law_found", "_law_word"] : List Str).Nodup := by decide +kernel
  exact sds_cons (sd_set 1 nd (ed_lst true (ea_nil)))
    (sds_cons (sd_for B.pa B.calm (id_any (ed_var 0)) (gd_name 2 nd) (sds_one (sd_if (eb_cmp (or_in (notInF B.hr)) bl_in (ed_var 2) (ed_var 1)) (sds_one (sd_expr (ed_bm tyL PySem.F.plainAttrs_list PySem.F.slot_list_append PySem.F.type_list_append mr_append (ed_var 1) (ea_cons (ed_var 2) (ea_nil))))) (sds_nil))))
    (sds_one (sd_ret (ed_sortK .len false B.hr rfl (C.free 76) bt_sorted rfl (C.free 73) bt_len (ed_sortK .str false B.hr rfl (C.free 76) bt_sorted rfl (C.free 77) bt_str (ed_var 1))))))
def N__law_tail_set : List Str := ["_law_words", "_law_found", "_law_word", "_law_k"]
def M__law_tail_set (G : Gc) : MF := mBody 4
    (sSeq (sAsg 1 (mLst true (mNil)))
    (sSeq (sFor (iAny (mVar 0)) (gN 2) (sAsg 1 (mBin (opAdd true) (mVar 1) (mL1 G false (iR1 (mCons (mCallN bLen (mCons (mVar 2) (mNil))) (mNil))) (gN 3) (mYes) (mSl false (mVar 2) (mPart (mVar 3)) (mNoPart)) [3]))))
    (sRet (mCallF (M__law_ordered G) [] (mCons (mVar 1) (mNil))))))
theorem ok__law_tail_set (C : Cc K mg) : FOk PR w K mg base 2 "_law_tail_set" 1 [] (M__law_tail_set ⟨PR, w, K⟩) := by
  refine fok (N := ["_law_words", "_law_found", "_law_word", "_law_k"]) (ps := ["_law_words"]) (C.def_ 21 (d := d__law_tail_set)) (C.glo 52) ⟨rfl, rfl, rfl, by decide +kernel, rfl, by decide +kernel, by decide +kernel⟩ (fun _ _ _ _ _ _ _ us hl => match us, hl with | [_], _ => rfl) fun cdv A outer sh H E B => ?_
  have nd : (["_law_words", "_law_found", "_law_word", "_law_k"] : List Str).Nodup := by decide +kernel
  exact sds_cons (sd_set 1 nd (ed_lst true (ea_nil)))
    (sds_cons (sd_for B.pa B.calm (id_any (ed_var 0)) (gd_name 2 nd) (sds_one (sd_set 1 nd (ed_bin (or_add true) (ed_var 1) (ed_l1 false (own := [("_law_k", 3)]) B.calm nd ⟨id_range1 rfl (C.free 75) (ea_cons (ed_callB cb_len rfl (C.free 73) bt_len (ea_cons (ed_var 2) (ea_nil))) (ea_nil)), (blkOk_by (N := ["_law_words", "_law_found", "_law_word", "_law_k"]) (sc := defScope (top 59)) (own := [("_law_k", 3)]) (by decide +kernel)), fun _ _ _ _ _ => gdw_name 3 nd (by decide), fun _ _ _ _ _ => ets_nil, fun _ _ _ _ _ => ed_sl false (ed_var 2) (od_some (ed_var 3)) (od_none)⟩)))))
    (sds_one (sd_ret (ed_callF (ok__law_ordered C) B.hr (by decide) B.tk rfl (ea_cons (ed_var 1) (ea_nil)) (lenS (len0)) rfl))))
def N__law_same_words : List Str := ["_law_actual", "_law_due", "_law_k"]
def M__law_same_words (G : Gc) : MF := mBody 3
    (sSeq (sIf (mOr (mNot (mTru (mCallN (bIsi isiT) (mCons (mVar 0) (mCons (mC (.ty "list")) (mNil)))))) (mTru (mBin (opEq true) (mCallN bLen (mCons (mVar 0) (mNil))) (mCallN bLen (mCons (mVar 1) (mNil)))))) (sRet (mC (.bl false))) (sNop))
    (sSeq (sFor (iR1 (mCons (mCallN bLen (mCons (mVar 1) (mNil))) (mNil))) (gN 2) (sIf (mOr (mNot (mTru (mCallN (bIsi isiT) (mCons (mBin opIx (mVar 0) (mVar 2)) (mCons (mC (.ty "str")) (mNil)))))) (mTru (mBin (opEq true) (mBin opIx (mVar 0) (mVar 2)) (mBin opIx (mVar 1) (mVar 2))))) (sRet (mC (.bl false))) (sNop)))
    (sRet (mC (.bl true)))))
theorem ok__law_same_words (C : Cc K mg) : FOk PR w K mg base 1 "_law_same_words" 2 [] (M__law_same_words ⟨PR, w, K⟩) := by
  refine fok (N := ["_law_actual", "_law_due", "_law_k"]) (ps := ["_law_actual", "_law_due"]) (C.def_ 22 (d := d__law_same_words)) (C.glo 53) ⟨rfl, rfl, rfl, by decide +kernel, rfl, by decide +kernel, by decide +kernel⟩ (fun _ _ _ _ _ _ _ us hl => match us, hl with | [_, _], _ => rfl) fun cdv A outer sh H E B => ?_
  have nd : (["_law_actual", "_law_due", "_law_k"] : List Str).Nodup := by decide +kernel
  exact sds_cons (sd_if (EW.eb (ew_or (eb_not (eb_tru (ed_callB (cb_isi C.isi) rfl (C.free 72) bt_isinstance (ea_cons (ed_var 0) (ea_cons (ed_bty "list" rfl (C.free 74) bt_list) (ea_nil)))))) (ew_or1 (eb_cmp (or_ne B.hr) bl_eq (ed_callB cb_len rfl (C.free 73) bt_len (ea_cons (ed_var 0) (ea_nil))) (ed_callB cb_len rfl (C.free 73) bt_len (ea_cons (ed_var 1) (ea_nil))))))) (sds_one (sd_ret (ed_bl))) (sds_nil))
    (sds_cons (sd_for B.pa B.calm (id_range1 rfl (C.free 75) (ea_cons (ed_callB cb_len rfl (C.free 73) bt_len (ea_cons (ed_var 1) (ea_nil))) (ea_nil))) (gd_name 2 nd) (sds_one (sd_if (EW.eb (ew_or (eb_not (eb_tru (ed_callB (cb_isi C.isi) rfl (C.free 72) bt_isinstance (ea_cons (ed_ix (ixr B.hr) (ed_var 0) (ed_var 2)) (ea_cons (ed_bty "str" rfl (C.free 77) bt_str) (ea_nil)))))) (ew_or1 (eb_cmp (or_ne B.hr) bl_eq (ed_ix (ixr B.hr) (ed_var 0) (ed_var 2)) (ed_ix (ixr B.hr) (ed_var 1) (ed_var 2)))))) (sds_one (sd_ret (ed_bl))) (sds_nil))))
    (sds_one (sd_ret (ed_bl))))
def N__law_any_word : List Str := ["_law_source_here", "_law_letters", "_law_many", "_law_word", "_law_k"]
def M__law_any_word (G : Gc) : MF := mBody 5
    (sSeq (sAsg 1 (mC (.str "abcdefghijklmnopqrstABCDEFGHIJKLMNOPQRST")))
    (sSeq (sAsg 2 (mBin (opSub) (mCallF (M__law_size G) [] (mCons (mVar 0) (mCons (mC (.int 6)) (mCons (mC (.int 40)) (mNil))))) (mC (.int 1))))
    (sSeq (sAsg 3 (mBin opIx (mC (.str "uvwxyz")) (mCallF (M__law_draw G) [] (mCons (mVar 0) (mCons (mC (.int 6)) (mNil))))))
    (sSeq (sFor (iR1 (mCons (mVar 2) (mNil))) (gN 4) (sAsg 3 (mBin (opAdd false) (mBin opIx (mVar 1) (mCallF (M__law_draw G) [] (mCons (mVar 0) (mCons (mC (.int 40)) (mNil))))) (mVar 3))))
    (sRet (mVar 3))))))
theorem ok__law_any_word (C : Cc K mg) : FOk PR w K mg base 3 "_law_any_word" 1 [] (M__law_any_word ⟨PR, w, K⟩) := by
  refine fok (N := ["_law_source_here", "_law_letters", "_law_many", "_law_word", "_law_k"]) (ps := ["_law_source_here"]) (C.def_ 23 (d := d__law_any_word)) (C.glo 54) ⟨rfl, rfl, rfl, by decide +kernel, rfl, by decide +kernel, by decide +kernel⟩ (fun _ _ _ _ _ _ _ us hl => match us, hl with | [_], _ => rfl) fun cdv A outer sh H E B => ?_
  have nd : (["_law_source_here", "_law_letters", "_law_many", "_law_word", "_law_k"] : List Str).Nodup := by decide +kernel
  exact sds_cons (sd_set 1 nd (ed_str))
    (sds_cons (sd_set 2 nd (ed_bin (or_sub) (ed_callF (ok__law_size C) B.hr (by decide) B.tk rfl (ea_cons (ed_var 0) (ea_cons (ed_int) (ea_cons (ed_int) (ea_nil)))) (lenS (lenS (lenS (len0)))) rfl) (ed_int)))
    (sds_cons (sd_set 3 nd (ed_ix (ixr B.hr) (ed_str) (ed_callF (ok__law_draw C) B.hr (by decide) B.tk rfl (ea_cons (ed_var 0) (ea_cons (ed_int) (ea_nil))) (lenS (lenS (len0))) rfl)))
    (sds_cons (sd_for B.pa B.calm (id_range1 rfl (C.free 75) (ea_cons (ed_var 2) (ea_nil))) (gd_name 4 nd) (sds_one (sd_set 3 nd (ed_bin (or_add false) (ed_ix (ixr B.hr) (ed_var 1) (ed_callF (ok__law_draw C) B.hr (by decide) B.tk rfl (ea_cons (ed_var 0) (ea_cons (ed_int) (ea_nil))) (lenS (lenS (len0))) rfl)) (ed_var 3)))))
    (sds_one (sd_ret (ed_var 3))))))
def N__law_spoilt : List Str := ["_law_source_here", "_law_word", "_law_signs", "_law_shape", "_law_at", "_law_sign"]
def M__law_spoilt (G : Gc) : MF := mBody 6
    (sSeq (sAsg 2 (mC (.str "uvwxyzUVWXYZ0123 -,;_abAB\n")))
    (sSeq (sAsg 3 (mCallF (M__law_draw G) [] (mCons (mVar 0) (mCons (mC (.int 8)) (mNil)))))
    (sSeq (sAsg 4 (mCallF (M__law_draw G) [] (mCons (mVar 0) (mCons (mBin (opAdd false) (mCallN bLen (mCons (mVar 1) (mNil))) (mC (.int 1))) (mNil)))))
    (sSeq (sAsg 5 (mBin opIx (mVar 2) (mCallF (M__law_draw G) [] (mCons (mVar 0) (mCons (mCallN bLen (mCons (mVar 2) (mNil))) (mNil))))))
    (sSeq (sIf (mOr (mTru (mBin (opEq false) (mVar 3) (mC (.int 1)))) (mTru (mBin (opEq false) (mVar 3) (mC (.int 2))))) (sRet (mBin (opAdd false) (mBin (opAdd false) (mSl false (mVar 1) (mNoPart) (mPart (mVar 4))) (mVar 5)) (mSl false (mVar 1) (mPart (mVar 4)) (mNoPart)))) (sNop))
    (sSeq (sIf (mOr (mTru (mBin (opEq false) (mVar 3) (mC (.int 3)))) (mTru (mBin (opEq false) (mVar 3) (mC (.int 4))))) (sRet (mBin (opAdd false) (mBin (opAdd false) (mSl false (mVar 1) (mNoPart) (mPart (mVar 4))) (mVar 5)) (mSl false (mVar 1) (mPart (mBin (opAdd false) (mVar 4) (mC (.int 1)))) (mNoPart)))) (sNop))
    (sSeq (sIf (mTru (mBin (opEq false) (mVar 3) (mC (.int 5)))) (sRet (mBin (opAdd false) (mSl false (mVar 1) (mNoPart) (mPart (mVar 4))) (mSl false (mVar 1) (mPart (mBin (opAdd false) (mVar 4) (mC (.int 1)))) (mNoPart)))) (sNop))
    (sSeq (sIf (mTru (mBin (opEq false) (mVar 3) (mC (.int 6)))) (sRet (mSl false (mVar 1) (mNoPart) (mPart (mUn opNeg (mC (.int 1)))))) (sNop))
    (sSeq (sIf (mTru (mBin (opEq false) (mVar 3) (mC (.int 7)))) (sRet (mBin (opAdd false) (mBin (opMul false) (mC (.str "h")) (mBin (opSub) (mBin (opAdd false) (mC (.int 40)) (mCallF (M__law_draw G) [] (mCons (mVar 0) (mCons (mC (.int 2)) (mNil))))) (mCallN bLen (mCons (mVar 1) (mNil))))) (mVar 1))) (sNop))
    (sRet (mVar 1)))))))))))
theorem ok__law_spoilt (C : Cc K mg) : FOk PR w K mg base 2 "_law_spoilt" 2 [] (M__law_spoilt ⟨PR, w, K⟩) := by
  refine fok (N := ["_law_source_here", "_law_word", "_law_signs", "_law_shape", "_law_at", "_law_sign"]) (ps := ["_law_source_here", "_law_word"]) (C.def_ 24 (d := d__law_spoilt)) (C.glo 55) ⟨rfl, rfl, rfl, by decide +kernel, rfl, by decide +kernel, by decide +kernel⟩ (fun _ _ _ _ _ _ _ us hl => match us, hl with | [_, _], _ => rfl) fun cdv A outer sh H E B => ?_
  have nd : (["_law_source_here", "_law_word", "_law_signs", "_law_shape", "_law_at", "_law_sign"] : List Str).Nodup := by decide +kernel
  exact sds_cons (sd_set 2 nd (ed_str))
    (sds_cons (sd_set 3 nd (ed_callF (ok__law_draw C) B.hr (by decide) B.tk rfl (ea_cons (ed_var 0) (ea_cons (ed_int) (ea_nil))) (lenS (lenS (len0))) rfl))
    (sds_cons (sd_set 4 nd (ed_callF (ok__law_draw C) B.hr (by decide) B.tk rfl (ea_cons (ed_var 0) (ea_cons (ed_bin (or_add false) (ed_callB cb_len rfl (C.free 73) bt_len (ea_cons (ed_var 1) (ea_nil))) (ed_int)) (ea_nil))) (lenS (lenS (len0))) rfl))
    (sds_cons (sd_set 5 nd (ed_ix (ixr B.hr) (ed_var 2) (ed_callF (ok__law_draw C) B.hr (by decide) B.tk rfl (ea_cons (ed_var 0) (ea_cons (ed_callB cb_len rfl (C.free 73) bt_len (ea_cons (ed_var 2) (ea_nil))) (ea_nil))) (lenS (lenS (len0))) rfl)))
    (sds_cons (sd_if (EW.eb (ew_or (eb_cmp (or_eq B.hr) bl_eq (ed_var 3) (ed_int)) (ew_or1 (eb_cmp (or_eq B.hr) bl_eq (ed_var 3) (ed_int))))) (sds_one (sd_ret (ed_bin (or_add false) (ed_bin (or_add false) (ed_sl false (ed_var 1) (od_none) (od_some (ed_var 4))) (ed_var 5)) (ed_sl false (ed_var 1) (od_some (ed_var 4)) (od_none))))) (sds_nil))
    (sds_cons (sd_if (EW.eb (ew_or (eb_cmp (or_eq B.hr) bl_eq (ed_var 3) (ed_int)) (ew_or1 (eb_cmp (or_eq B.hr) bl_eq (ed_var 3) (ed_int))))) (sds_one (sd_ret (ed_bin (or_add false) (ed_bin (or_add false) (ed_sl false (ed_var 1) (od_none) (od_some (ed_var 4))) (ed_var 5)) (ed_sl false (ed_var 1) (od_some (ed_bin (or_add false) (ed_var 4) (ed_int))) (od_none))))) (sds_nil))
    (sds_cons (sd_if (eb_cmp (or_eq B.hr) bl_eq (ed_var 3) (ed_int)) (sds_one (sd_ret (ed_bin (or_add false) (ed_sl false (ed_var 1) (od_none) (od_some (ed_var 4))) (ed_sl false (ed_var 1) (od_some (ed_bin (or_add false) (ed_var 4) (ed_int))) (od_none))))) (sds_nil))
    (sds_cons (sd_if (eb_cmp (or_eq B.hr) bl_eq (ed_var 3) (ed_int)) (sds_one (sd_ret (ed_sl false (ed_var 1) (od_none) (od_some (ed_un ur_neg (ed_int)))))) (sds_nil))
    (sds_cons (sd_if (eb_cmp (or_eq B.hr) bl_eq (ed_var 3) (ed_int)) (sds_one (sd_ret (ed_bin (or_add false) (ed_bin (or_mul false) (ed_str) (ed_bin (or_sub) (ed_bin (or_add false) (ed_int) (ed_callF (ok__law_draw C) B.hr (by decide) B.tk rfl (ea_cons (ed_var 0) (ea_cons (ed_int) (ea_nil))) (lenS (lenS (len0))) rfl)) (ed_callB cb_len rfl (C.free 73) bt_len (ea_cons (ed_var 1) (ea_nil))))) (ed_var 1)))) (sds_nil))
    (sds_one (sd_ret (ed_var 1)))))))))))
def N__law_right : List Str := ["_law_text", "_law_sign"]
def M__law_right (G : Gc) : MF := mBody 2
    (sSeq (sIf (mOr (mTru (mBin (opLt) (mCallN bLen (mCons (mVar 0) (mNil))) (mC (.int 1)))) (mOr (mTru (mBin (opGt) (mCallN bLen (mCons (mVar 0) (mNil))) (mC (.int 40)))) (mTru (mBin (opIn true) (mBin opIx (mVar 0) (mUn opNeg (mC (.int 1)))) (mC (.str "uvwxyz")))))) (sRet (mC (.bl false))) (sNop))
    (sSeq (sFor (iAny (mSl false (mVar 0) (mNoPart) (mPart (mUn opNeg (mC (.int 1)))))) (gN 1) (sIf (mTru (mBin (opIn true) (mVar 1) (mC (.str "abcdefghijklmnopqrstABCDEFGHIJKLMNOPQRST")))) (sRet (mC (.bl false))) (sNop)))
    (sRet (mC (.bl true)))))
theorem ok__law_right (C : Cc K mg) : FOk PR w K mg base 1 "_law_right" 1 [] (M__law_right ⟨PR, w, K⟩) := by
  refine fok (N := ["_law_text", "_law_sign"]) (ps := ["_law_text"]) (C.def_ 25 (d := d__law_right)) (C.glo 56) ⟨rfl, rfl, rfl, by decide +kernel, rfl, by decide +kernel, by decide +kernel⟩ (fun _ _ _ _ _ _ _ us hl => match us, hl with | [_], _ => rfl) fun cdv A outer sh H E B => ?_
  have nd : (["_law_text", "_law_sign"] : List Str).Nodup := by decide +kernel
  exact sds_cons (sd_if (EW.eb (ew_or (eb_cmp (or_lt) bl_cmp (ed_callB cb_len rfl (C.free 73) bt_len (ea_cons (ed_var 0) (ea_nil))) (ed_int)) (ew_or (eb_cmp (or_gt) bl_cmp (ed_callB cb_len rfl (C.free 73) bt_len (ea_cons (ed_var 0) (ea_nil))) (ed_int)) (ew_or1 (eb_cmp (or_in (notInF B.hr)) bl_in (ed_ix (ixr B.hr) (ed_var 0) (ed_un ur_neg (ed_int))) (ed_str)))))) (sds_one (sd_ret (ed_bl))) (sds_nil))
    (sds_cons (sd_for B.pa B.calm (id_any (ed_sl false (ed_var 0) (od_none) (od_some (ed_un ur_neg (ed_int))))) (gd_name 1 nd) (sds_one (sd_if (eb_cmp (or_in (notInF B.hr)) bl_in (ed_var 1) (ed_str)) (sds_one (sd_ret (ed_bl))) (sds_nil))))
    (sds_one (sd_ret (ed_bl))))
def N__law_list : List Str := ["_law_source_here", "_law_word", "_law_text", "_law_words", "_law_k", "_law_old", "_law_rest"]
def M__law_list (G : Gc) : MF := mBody 7
    (sSeq (sAsg 3 (mLst true (mCons (mVar 1) (mNil))))
    (sSeq (sFor (iR1 (mCons (mCallF (M__law_draw G) [] (mCons (mVar 0) (mCons (mC (.int 5)) (mNil)))) (mNil))) (gN 4) (sSeq (sAsg 5 (mBin opIx (mVar 3) (mCallF (M__law_draw G) [] (mCons (mVar 0) (mCons (mCallN bLen (mCons (mVar 3) (mNil))) (mNil))))))
    (sSeq (sAsg 6 (mSl false (mVar 5) (mPart (mCallF (M__law_draw G) [] (mCons (mVar 0) (mCons (mCallN bLen (mCons (mVar 5) (mNil))) (mNil))))) (mNoPart)))
    (sSeq (sIf (mAnd (mTru (mBin (opGt) (mCallF (M__law_draw G) [] (mCons (mVar 0) (mCons (mC (.int 3)) (mNil)))) (mC (.int 0)))) (mTru (mBin (opLt) (mCallN bLen (mCons (mVar 6) (mNil))) (mC (.int 40))))) (sAsg 6 (mBin (opAdd false) (mBin opIx (mC (.str "abcACTt")) (mCallF (M__law_draw G) [] (mCons (mVar 0) (mCons (mC (.int 7)) (mNil))))) (mVar 6))) (sNop))
    (sExp (mMt isL (onL gAppend) (mVar 3) (mCons (mVar 6) (mNil))))))))
    (sSeq (sIf (mTru (mBin (opEq false) (mCallF (M__law_draw G) [] (mCons (mVar 0) (mCons (mC (.int 3)) (mNil)))) (mC (.int 2)))) (sExp (mMt isL (onL gInsert) (mVar 3) (mCons (mCallF (M__law_draw G) [] (mCons (mVar 0) (mCons (mBin (opAdd false) (mCallN bLen (mCons (mVar 3) (mNil))) (mC (.int 1))) (mNil)))) (mCons (mVar 2) (mNil))))) (sNop))
    (sRet (mVar 3)))))
theorem ok__law_list (C : Cc K mg) : FOk PR w K mg base 2 "_law_list" 3 [] (M__law_list ⟨PR, w, K⟩) := by
  refine fok (N := ["_law_source_here", "_law_word", "_law_text", "_law_words", "_law_k", "_law_old", "_law_rest"]) (ps := ["_law_source_here", "_law_word", "_law_text"]) (C.def_ 26 (d := d__law_list)) (C.glo 57) ⟨rfl, rfl, rfl, by decide +kernel, rfl, by decide +kernel, by decide +kernel⟩ (fun _ _ _ _ _ _ _ us hl => match us, hl with | [_, _, _], _ => rfl) fun cdv A outer sh H E B => ?_
  have nd : (["_law_source_here", "_law_word", "_law_text", "_law_words", "_law_k", "_law_old", "_law_rest"] : List Str).Nodup := by decide +kernel
  exact sds_cons (sd_set 3 nd (ed_lst true (ea_cons (ed_var 1) (ea_nil))))
    (sds_cons (sd_for B.pa B.calm (id_range1 rfl (C.free 75) (ea_cons (ed_callF (ok__law_draw C) B.hr (by decide) B.tk rfl (ea_cons (ed_var 0) (ea_cons (ed_int) (ea_nil))) (lenS (lenS (len0))) rfl) (ea_nil))) (gd_name 4 nd) (sds_cons (sd_set 5 nd (ed_ix (ixr B.hr) (ed_var 3) (ed_callF (ok__law_draw C) B.hr (by decide) B.tk rfl (ea_cons (ed_var 0) (ea_cons (ed_callB cb_len rfl (C.free 73) bt_len (ea_cons (ed_var 3) (ea_nil))) (ea_nil))) (lenS (lenS (len0))) rfl)))
    (sds_cons (sd_set 6 nd (ed_sl false (ed_var 5) (od_some (ed_callF (ok__law_draw C) B.hr (by decide) B.tk rfl (ea_cons (ed_var 0) (ea_cons (ed_callB cb_len rfl (C.free 73) bt_len (ea_cons (ed_var 5) (ea_nil))) (ea_nil))) (lenS (lenS (len0))) rfl)) (od_none)))
    (sds_cons (sd_if (EW.eb (ew_and (eb_cmp (or_gt) bl_cmp (ed_callF (ok__law_draw C) B.hr (by decide) B.tk rfl (ea_cons (ed_var 0) (ea_cons (ed_int) (ea_nil))) (lenS (lenS (len0))) rfl) (ed_int)) (ew_and1 (eb_cmp (or_lt) bl_cmp (ed_callB cb_len rfl (C.free 73) bt_len (ea_cons (ed_var 6) (ea_nil))) (ed_int))))) (sds_one (sd_set 6 nd (ed_bin (or_add false) (ed_ix (ixr B.hr) (ed_str) (ed_callF (ok__law_draw C) B.hr (by decide) B.tk rfl (ea_cons (ed_var 0) (ea_cons (ed_int) (ea_nil))) (lenS (lenS (len0))) rfl)) (ed_var 6)))) (sds_nil))
    (sds_one (sd_expr (ed_bm tyL PySem.F.plainAttrs_list PySem.F.slot_list_append PySem.F.type_list_append mr_append (ed_var 3) (ea_cons (ed_var 6) (ea_nil)))))))))
    (sds_cons (sd_if (eb_cmp (or_eq B.hr) bl_eq (ed_callF (ok__law_draw C) B.hr (by decide) B.tk rfl (ea_cons (ed_var 0) (ea_cons (ed_int) (ea_nil))) (lenS (lenS (len0))) rfl) (ed_int)) (sds_one (sd_expr (ed_bm tyL PySem.F.plainAttrs_list PySem.F.slot_list_insert PySem.F.type_list_insert mr_insert (ed_var 3) (ea_cons (ed_callF (ok__law_draw C) B.hr (by decide) B.tk rfl (ea_cons (ed_var 0) (ea_cons (ed_bin (or_add false) (ed_callB cb_len rfl (C.free 73) bt_len (ea_cons (ed_var 3) (ea_nil))) (ed_int)) (ea_nil))) (lenS (lenS (len0))) rfl) (ea_cons (ed_var 2) (ea_nil)))))) (sds_nil))
    (sds_one (sd_ret (ed_var 3)))))
def N__law_refusal : List Str := ["_law_which", "_law_text", "_law_told", "_law_e"]
def M__law_refusal (G : Gc) : MF := mBody 4
    (sSeq (sAsg 2 (mC .non))
    (sSeq (sTry (sIf (mTru (mBin (opEq false) (mVar 0) (mC (.int 0)))) (sExp (mCallF (M_heads G) [] (mCons (mVar 1) (mNil)))) (sIf (mTru (mBin (opEq false) (mVar 0) (mC (.int 1)))) (sExp (mCallF (M_tails G) [] (mCons (mVar 1) (mNil)))) (sIf (mTru (mBin (opEq false) (mVar 0) (mC (.int 2)))) (sExp (mCallF (M_first_letter G) [] (mCons (mVar 1) (mNil)))) (sIf (mTru (mBin (opEq false) (mVar 0) (mC (.int 3)))) (sExp (mCallF (M_rest_of G) [] (mCons (mVar 1) (mNil)))) (sExp (mCallF (M_point_of G) [] (mCons (mVar 1) (mNil)))))))) (.named hit_BadWord 3 (xSet 2 (fun x => mLst false ((xCons (xFld xfT "word") (xCons (xIsi isiT (mC (.cls "DialError"))) (xCons (xIsi isiT (mC (.ty "ValueError"))) (xCons (xIsi isiT (mTup (mCons (mC (.cls "BadLetter")) (mCons (mC (.cls "NoPlace")) (mNil))))) (xNil))))) x))) :: ([])))
    (sRet (mVar 2))))
theorem ok__law_refusal (C : Cc K mg) : FOk PR w K mg base 5 "_law_refusal" 2 [] (M__law_refusal ⟨PR, w, K⟩) := by
  refine fok (N := ["_law_which", "_law_text", "_law_told", "_law_e"]) (ps := ["_law_which", "_law_text"]) (C.def_ 27 (d := d__law_refusal)) (C.glo 58) ⟨rfl, rfl, rfl, by decide +kernel, rfl, by decide +kernel, by decide +kernel⟩ (fun _ _ _ _ _ _ _ us hl => match us, hl with | [_, _], _ => rfl) fun cdv A outer sh H E B => ?_
  have nd : (["_law_which", "_law_text", "_law_told", "_law_e"] : List Str).Nodup := by decide +kernel
  exact sds_cons (sd_set 2 nd (ed_non))
    (sds_cons (sd_try rfl rfl nd B.tk (fun W pn xe tk pa => sds_one (sd_if (eb_cmp (or_eq B.hr) bl_eq (ed_var 0) (ed_int)) (sds_one (sd_expr (ed_callF (ok_heads C) B.hr (by decide) tk rfl (ea_cons (ed_var 1) (ea_nil)) (lenS (len0)) rfl))) (sds_one (sd_if (eb_cmp (or_eq B.hr) bl_eq (ed_var 0) (ed_int)) (sds_one (sd_expr (ed_callF (ok_tails C) B.hr (by decide) tk rfl (ea_cons (ed_var 1) (ea_nil)) (lenS (len0)) rfl))) (sds_one (sd_if (eb_cmp (or_eq B.hr) bl_eq (ed_var 0) (ed_int)) (sds_one (sd_expr (ed_callF (ok_first_letter C) B.hr (by decide) tk rfl (ea_cons (ed_var 1) (ea_nil)) (lenS (len0)) rfl))) (sds_one (sd_if (eb_cmp (or_eq B.hr) bl_eq (ed_var 0) (ed_int)) (sds_one (sd_expr (ed_callF (ok_rest_of C) B.hr (by decide) tk rfl (ea_cons (ed_var 1) (ea_nil)) (lenS (len0)) rfl))) (sds_one (sd_expr (ed_callF (ok_point_of C) B.hr (by decide) tk rfl (ea_cons (ed_var 1) (ea_nil)) (lenS (len0)) rfl))))))))))) (.named ⟨rfl, by decide, .inl (C.glo 1)⟩ C.hit_BadWord rfl rfl (fun a oe cls d pn U => sx_set 2 nd (ex_lst false (exa_cons (ex_fld U C.xf) (exa_cons (ex_isi C.isi U (ed_gcls "DialError" rfl (C.glo 0)) rfl (C.free 72) bt_isinstance) (exa_cons (ex_isi C.isi U (ed_bty "ValueError" rfl (C.free 67) bt_ValueError) rfl (C.free 72) bt_isinstance) (exa_cons (ex_isi C.isi U (ed_tup (ea_cons (ed_gcls "BadLetter" rfl (C.glo 2)) (ea_cons (ed_gcls "NoPlace" rfl (C.glo 10)) (ea_nil)))) rfl (C.free 72) bt_isinstance) (exa_nil))))))) (.nil)))
    (sds_one (sd_ret (ed_var 2))))
def N__law_list_refusal : List Str := ["_law_which", "_law_words", "_law_told", "_law_e"]
def M__law_list_refusal (G : Gc) : MF := mBody 4
    (sSeq (sAsg 2 (mC .non))
    (sSeq (sTry (sIf (mTru (mBin (opEq false) (mVar 0) (mC (.int 0)))) (sExp (mCallF (M_in_order G) [] (mCons (mVar 1) (mNil)))) (sIf (mTru (mBin (opEq false) (mVar 0) (mC (.int 1)))) (sExp (mCallF (M_tail_set G) [] (mCons (mVar 1) (mNil)))) (sIf (mTru (mBin (opEq false) (mVar 0) (mC (.int 2)))) (sExp (mCallF (M_dials_of G) [] (mCons (mVar 1) (mNil)))) (sExp (mCallF (M_points_of G) [] (mCons (mVar 1) (mNil))))))) (.named hit_BadWord 3 (xSet 2 (fun x => mLst false ((xCons (xFld xfT "word") (xCons (xIsi isiT (mC (.cls "DialError"))) (xCons (xIsi isiT (mC (.ty "ValueError"))) (xCons (xIsi isiT (mTup (mCons (mC (.cls "BadLetter")) (mCons (mC (.cls "NoPlace")) (mNil))))) (xNil))))) x))) :: ([])))
    (sRet (mVar 2))))
theorem ok__law_list_refusal (C : Cc K mg) : FOk PR w K mg base 5 "_law_list_refusal" 2 [] (M__law_list_refusal ⟨PR, w, K⟩) := by
  refine fok (N := ["_law_which", "_law_words", "_law_told", "_law_e"]) (ps := ["_law_which", "_law_words"]) (C.def_ 28 (d := d__law_list_refusal)) (C.glo 59) ⟨rfl, rfl, rfl, by decide +kernel, rfl, by decide +kernel, by decide +kernel⟩ (fun _ _ _ _ _ _ _ us hl => match us, hl with | [_, _], _ => rfl) fun cdv A outer sh H E B => ?_
  have nd : (["_law_which", "_law_words", "_law_told", "_law_e"] : List Str).Nodup := by decide +kernel
  exact sds_cons (sd_set 2 nd (ed_non))
    (sds_cons (sd_try rfl rfl nd B.tk (fun W pn xe tk pa => sds_one (sd_if (eb_cmp (or_eq B.hr) bl_eq (ed_var 0) (ed_int)) (sds_one (sd_expr (ed_callF (ok_in_order C) B.hr (by decide) tk rfl (ea_cons (ed_var 1) (ea_nil)) (lenS (len0)) rfl))) (sds_one (sd_if (eb_cmp (or_eq B.hr) bl_eq (ed_var 0) (ed_int)) (sds_one (sd_expr (ed_callF (ok_tail_set C) B.hr (by decide) tk rfl (ea_cons (ed_var 1) (ea_nil)) (lenS (len0)) rfl))) (sds_one (sd_if (eb_cmp (or_eq B.hr) bl_eq (ed_var 0) (ed_int)) (sds_one (sd_expr (ed_callF (ok_dials_of C) B.hr (by decide) tk rfl (ea_cons (ed_var 1) (ea_nil)) (lenS (len0)) rfl))) (sds_one (sd_expr (ed_callF (ok_points_of C) B.hr (by decide) tk rfl (ea_cons (ed_var 1) (ea_nil)) (lenS (len0)) rfl))))))))) (.named ⟨rfl, by decide, .inl (C.glo 1)⟩ C.hit_BadWord rfl rfl (fun a oe cls d pn U => sx_set 2 nd (ex_lst false (exa_cons (ex_fld U C.xf) (exa_cons (ex_isi C.isi U (ed_gcls "DialError" rfl (C.glo 0)) rfl (C.free 72) bt_isinstance) (exa_cons (ex_isi C.isi U (ed_bty "ValueError" rfl (C.free 67) bt_ValueError) rfl (C.free 72) bt_isinstance) (exa_cons (ex_isi C.isi U (ed_tup (ea_cons (ed_gcls "BadLetter" rfl (C.glo 2)) (ea_cons (ed_gcls "NoPlace" rfl (C.glo 10)) (ea_nil)))) rfl (C.free 72) bt_isinstance) (exa_nil))))))) (.nil)))
    (sds_one (sd_ret (ed_var 2))))
def N__law_word_holds : List Str := ["_law_word", "_law_due_heads", "_law_due_tails", "_law_fronts", "_law_ends", "_law_k"]
def M__law_word_holds (G : Gc) : MF := mBody 6
    (sSeq (sAsg 1 (mL1 G false (iR1 (mCons (mCallN bLen (mCons (mVar 0) (mNil))) (mNil))) (gN 5) (mYes) (mSl false (mVar 0) (mNoPart) (mPart (mVar 5))) [5]))
    (sSeq (sAsg 2 (mL1 G false (iR1 (mCons (mCallN bLen (mCons (mVar 0) (mNil))) (mNil))) (gN 5) (mYes) (mSl false (mVar 0) (mPart (mVar 5)) (mNoPart)) [5]))
    (sSeq (sAsg 3 (mCallF (M_heads G) [] (mCons (mVar 0) (mNil))))
    (sSeq (sAsg 4 (mCallF (M_tails G) [] (mCons (mVar 0) (mNil))))
    (sSeq (sIf (mOr (mNot (mTru (mCallF (M__law_same_words G) [] (mCons (mVar 3) (mCons (mVar 1) (mNil)))))) (mNot (mTru (mCallF (M__law_same_words G) [] (mCons (mVar 4) (mCons (mVar 2) (mNil))))))) (sRet (mC (.bl false))) (sNop))
    (sSeq (sFor (iR1 (mCons (mCallN bLen (mCons (mVar 0) (mNil))) (mNil))) (gN 5) (sIf (mOr (mTru (mBin (opEq true) (mBin (opAdd false) (mBin opIx (mVar 3) (mVar 5)) (mBin opIx (mVar 4) (mVar 5))) (mVar 0))) (mTru (mBin (opEq true) (mCallN bLen (mCons (mBin opIx (mVar 4) (mVar 5)) (mNil))) (mBin (opSub) (mCallN bLen (mCons (mVar 0) (mNil))) (mVar 5))))) (sRet (mC (.bl false))) (sNop)))
    (sSeq (sExp (mMt isL (onL gAppend) (mVar 3) (mCons (mC (.str "x")) (mNil))))
    (sSeq (sAsgG (gSubD (mVar 4) (mC (.int 0))) (mC (.str "x")))
    (sSeq (sIf (mOr (mNot (mTru (mCallF (M__law_same_words G) [] (mCons (mCallF (M_heads G) [] (mCons (mVar 0) (mNil))) (mCons (mVar 1) (mNil)))))) (mNot (mTru (mCallF (M__law_same_words G) [] (mCons (mCallF (M_tails G) [] (mCons (mVar 0) (mNil))) (mCons (mVar 2) (mNil))))))) (sRet (mC (.bl false))) (sNop))
    (sRet (mAndV (mBin (opEq false) (mCallF (M_first_letter G) [] (mCons (mVar 0) (mNil))) (mBin opIx (mVar 0) (mC (.int 0)))) (mAndV (mBin (opEq false) (mCallF (M_rest_of G) [] (mCons (mVar 0) (mNil))) (mSl false (mVar 0) (mPart (mC (.int 1))) (mNoPart))) (mBin (opEq false) (mCallF (M_point_of G) [] (mCons (mVar 0) (mNil))) (mBin opIx (mVar 0) (mUn opNeg (mC (.int 1)))))))))))))))))
theorem ok__law_word_holds (C : Cc K mg) : FOk PR w K mg base 5 "_law_word_holds" 1 [] (M__law_word_holds ⟨PR, w, K⟩) := by
  refine fok (N := ["_law_word", "_law_due_heads", "_law_due_tails", "_law_fronts", "_law_ends", "_law_k"]) (ps := ["_law_word"]) (C.def_ 29 (d := d__law_word_holds)) (C.glo 60) ⟨rfl, rfl, rfl, by decide +kernel, rfl, by decide +kernel, by decide +kernel⟩ (fun _ _ _ _ _ _ _ us hl => match us, hl with | [_], _ => rfl) fun cdv A outer sh H E B => ?_
  have nd : (["_law_word", "_law_due_heads", "_law_due_tails", "_law_fronts", "_law_ends", "_law_k"] : List Str).Nodup := by decide +kernel
  exact sds_cons (sd_setL1 false 1 (own := [("_law_k", 5)]) B.calm nd ⟨id_range1 rfl (C.free 75) (ea_cons (ed_callB cb_len rfl (C.free 73) bt_len (ea_cons (ed_var 0) (ea_nil))) (ea_nil)), (blkOk_by (N := ["_law_word", "_law_due_heads", "_law_due_tails", "_law_fronts", "_law_ends", "_law_k"]) (sc := defScope (top 67)) (own := [("_law_k", 5)]) (by decide +kernel)), fun _ _ _ _ _ => gdw_name 5 nd (by decide), fun _ _ _ _ _ => ets_nil, fun _ _ _ _ _ => ed_sl false (ed_var 0) (od_none) (od_some (ed_var 5))⟩)
    (sds_cons (sd_setL1 false 2 (own := [("_law_k", 5)]) B.calm nd ⟨id_range1 rfl (C.free 75) (ea_cons (ed_callB cb_len rfl (C.free 73) bt_len (ea_cons (ed_var 0) (ea_nil))) (ea_nil)), (blkOk_by (N := ["_law_word", "_law_due_heads", "_law_due_tails", "_law_fronts", "_law_ends", "_law_k"]) (sc := defScope (top 67)) (own := [("_law_k", 5)]) (by decide +kernel)), fun _ _ _ _ _ => gdw_name 5 nd (by decide), fun _ _ _ _ _ => ets_nil, fun _ _ _ _ _ => ed_sl false (ed_var 0) (od_some (ed_var 5)) (od_none)⟩)
    (sds_cons (sd_set 3 nd (ed_callF (ok_heads C) B.hr (by decide) B.tk rfl (ea_cons (ed_var 0) (ea_nil)) (lenS (len0)) rfl))
    (sds_cons (sd_set 4 nd (ed_callF (ok_tails C) B.hr (by decide) B.tk rfl (ea_cons (ed_var 0) (ea_nil)) (lenS (len0)) rfl))
    (sds_cons (sd_if (EW.eb (ew_or (eb_not (eb_tru (ed_callF (ok__law_same_words C) B.hr (by decide) B.tk rfl (ea_cons (ed_var 3) (ea_cons (ed_var 1) (ea_nil))) (lenS (lenS (len0))) rfl))) (ew_or1 (eb_not (eb_tru (ed_callF (ok__law_same_words C) B.hr (by decide) B.tk rfl (ea_cons (ed_var 4) (ea_cons (ed_var 2) (ea_nil))) (lenS (lenS (len0))) rfl)))))) (sds_one (sd_ret (ed_bl))) (sds_nil))
    (sds_cons (sd_for B.pa B.calm (id_range1 rfl (C.free 75) (ea_cons (ed_callB cb_len rfl (C.free 73) bt_len (ea_cons (ed_var 0) (ea_nil))) (ea_nil))) (gd_name 5 nd) (sds_one (sd_if (EW.eb (ew_or (eb_cmp (or_ne B.hr) bl_eq (ed_bin (or_add false) (ed_ix (ixr B.hr) (ed_var 3) (ed_var 5)) (ed_ix (ixr B.hr) (ed_var 4) (ed_var 5))) (ed_var 0)) (ew_or1 (eb_cmp (or_ne B.hr) bl_eq (ed_callB cb_len rfl (C.free 73) bt_len (ea_cons (ed_ix (ixr B.hr) (ed_var 4) (ed_var 5)) (ea_nil))) (ed_bin (or_sub) (ed_callB cb_len rfl (C.free 73) bt_len (ea_cons (ed_var 0) (ea_nil))) (ed_var 5)))))) (sds_one (sd_ret (ed_bl))) (sds_nil))))
    (sds_cons (sd_expr (ed_bm tyL PySem.F.plainAttrs_list PySem.F.slot_list_append PySem.F.type_list_append mr_append (ed_var 3) (ea_cons (ed_str) (ea_nil))))
    (sds_cons (sd_asg (ed_str) (gd_sub (W := W0) B.hr (ed_var 4) (ed_int)))
    (sds_cons (sd_if (EW.eb (ew_or (eb_not (eb_tru (ed_callF (ok__law_same_words C) B.hr (by decide) B.tk rfl (ea_cons (ed_callF (ok_heads C) B.hr (by decide) B.tk rfl (ea_cons (ed_var 0) (ea_nil)) (lenS (len0)) rfl) (ea_cons (ed_var 1) (ea_nil))) (lenS (lenS (len0))) rfl))) (ew_or1 (eb_not (eb_tru (ed_callF (ok__law_same_words C) B.hr (by decide) B.tk rfl (ea_cons (ed_callF (ok_tails C) B.hr (by decide) B.tk rfl (ea_cons (ed_var 0) (ea_nil)) (lenS (len0)) rfl) (ea_cons (ed_var 2) (ea_nil))) (lenS (lenS (len0))) rfl)))))) (sds_one (sd_ret (ed_bl))) (sds_nil))
    (sds_one (sd_ret (ed_and (ed_cmp (or_eq B.hr) (ed_callF (ok_first_letter C) B.hr (by decide) B.tk rfl (ea_cons (ed_var 0) (ea_nil)) (lenS (len0)) rfl) (ed_ix (ixr B.hr) (ed_var 0) (ed_int))) (ed_and (ed_cmp (or_eq B.hr) (ed_callF (ok_rest_of C) B.hr (by decide) B.tk rfl (ea_cons (ed_var 0) (ea_nil)) (lenS (len0)) rfl) (ed_sl false (ed_var 0) (od_some (ed_int)) (od_none))) (ed_one (ed_cmp (or_eq B.hr) (ed_callF (ok_point_of C) B.hr (by decide) B.tk rfl (ea_cons (ed_var 0) (ea_nil)) (lenS (len0)) rfl) (ed_ix (ixr B.hr) (ed_var 0) (ed_un ur_neg (ed_int)))))))))))))))))
def N__law_text_holds : List Str := ["_law_text", "_law_right_here", "_law_told", "_law_due", "_law_which"]
def M__law_text_holds (G : Gc) : MF := mBody 5
    (sSeq (sAsg 1 (mCallF (M__law_right G) [] (mCons (mVar 0) (mNil))))
    (sSeq (sAsg 2 (mCallF (M_is_word G) [] (mCons (mVar 0) (mNil))))
    (sSeq (sIf (mOr (mNot (mTru (mCallN (bIsi isiT) (mCons (mVar 2) (mCons (mC (.ty "bool")) (mNil)))))) (mTru (mBin (opEq true) (mVar 2) (mVar 1)))) (sRet (mC (.bl false))) (sNop))
    (sSeq (sAsg 3 (mC .non))
    (sSeq (sIf (mNot (mTru (mVar 1))) (sAsg 3 (mLst false (mCons (mVar 0) (mCons (mC (.bl true)) (mCons (mC (.bl true)) (mCons (mC (.bl false)) (mNil))))))) (sNop))
    (sSeq (sFor (iR1 (mCons (mC (.int 5)) (mNil))) (gN 4) (sIf (mTru (mBin (opEq true) (mCallF (M__law_refusal G) [] (mCons (mVar 4) (mCons (mVar 0) (mNil)))) (mVar 3))) (sRet (mC (.bl false))) (sNop)))
    (sRet (mC (.bl true)))))))))
theorem ok__law_text_holds (C : Cc K mg) : FOk PR w K mg base 6 "_law_text_holds" 1 [] (M__law_text_holds ⟨PR, w, K⟩) := by
  refine fok (N := ["_law_text", "_law_right_here", "_law_told", "_law_due", "_law_which"]) (ps := ["_law_text"]) (C.def_ 30 (d := d__law_text_holds)) (C.glo 61) ⟨rfl, rfl, rfl, by decide +kernel, rfl, by decide +kernel, by decide +kernel⟩ (fun _ _ _ _ _ _ _ us hl => match us, hl with | [_], _ => rfl) fun cdv A outer sh H E B => ?_
  have nd : (["_law_text", "_law_right_here", "_law_told", "_law_due", "_law_which"] : List Str).Nodup := by decide +kernel
  exact sds_cons (sd_set 1 nd (ed_callF (ok__law_right C) B.hr (by decide) B.tk rfl (ea_cons (ed_var 0) (ea_nil)) (lenS (len0)) rfl))
    (sds_cons (sd_set 2 nd (ed_callF (ok_is_word C) B.hr (by decide) B.tk rfl (ea_cons (ed_var 0) (ea_nil)) (lenS (len0)) rfl))
    (sds_cons (sd_if (EW.eb (ew_or (eb_not (eb_tru (ed_callB (cb_isi C.isi) rfl (C.free 72) bt_isinstance (ea_cons (ed_var 2) (ea_cons (ed_bty "bool" rfl (C.free 70) bt_bool) (ea_nil)))))) (ew_or1 (eb_cmp (or_ne B.hr) bl_eq (ed_var 2) (ed_var 1))))) (sds_one (sd_ret (ed_bl))) (sds_nil))
    (sds_cons (sd_set 3 nd (ed_non))
    (sds_cons (sd_if (eb_not (eb_tru (ed_var 1))) (sds_one (sd_set 3 nd (ed_lst false (ea_cons (ed_var 0) (ea_cons (ed_bl) (ea_cons (ed_bl) (ea_cons (ed_bl) (ea_nil)))))))) (sds_nil))
    (sds_cons (sd_for B.pa B.calm (id_range1 rfl (C.free 75) (ea_cons (ed_int) (ea_nil))) (gd_name 4 nd) (sds_one (sd_if (eb_cmp (or_ne B.hr) bl_eq (ed_callF (ok__law_refusal C) B.hr (by decide) B.tk rfl (ea_cons (ed_var 4) (ea_cons (ed_var 0) (ea_nil))) (lenS (lenS (len0))) rfl) (ed_var 3)) (sds_one (sd_ret (ed_bl))) (sds_nil))))
    (sds_one (sd_ret (ed_bl))))))))
def N__law_list_holds : List Str := ["_law_words", "_law_kept", "_law_bad", "_law_due", "_law_which", "_law_dials", "_law_word", "_law_given", "_law_ends", "_law_text", "_law_letter"]
def M__law_list_holds (G : Gc) : MF := mBody 11
    (sSeq (sAsg 1 (mCallN (bList true) (mCons (mVar 0) (mNil))))
    (sSeq (sAsg 2 (mL1 G false (iAny (mVar 0)) (gN 9) (mNot (mTru (mCallF (M__law_right G) [] (mCons (mVar 9) (mNil))))) (mVar 9) [9]))
    (sSeq (sAsg 3 (mC .non))
    (sSeq (sIf (mTru (mBin (opEq true) (mVar 2) (mLst false (mNil)))) (sAsg 3 (mLst false (mCons (mBin opIx (mVar 2) (mC (.int 0))) (mCons (mC (.bl true)) (mCons (mC (.bl true)) (mCons (mC (.bl false)) (mNil))))))) (sNop))
    (sSeq (sFor (iR1 (mCons (mC (.int 4)) (mNil))) (gN 4) (sIf (mTru (mBin (opEq true) (mCallF (M__law_list_refusal G) [] (mCons (mVar 4) (mCons (mVar 0) (mNil)))) (mVar 3))) (sRet (mC (.bl false))) (sNop)))
    (sSeq (sIf (mTru (mBin (opEq true) (mVar 2) (mLst false (mNil)))) (sRet (mBin (opEq false) (mVar 0) (mVar 1))) (sNop))
    (sSeq (sAsg 5 (mLst true (mNil)))
    (sSeq (sFor (iAny (mVar 0)) (gN 6) (sAsg 5 (mBin (opAdd true) (mVar 5) (mL1 G false (iAny (mSl false (mVar 6) (mNoPart) (mPart (mUn opNeg (mC (.int 1)))))) (gN 10) (mYes) (mMt isS fLower (mVar 10) (mNil)) [10]))))
    (sSeq (sAsg 7 (mCallF (M_in_order G) [] (mCons (mVar 0) (mNil))))
    (sSeq (sIf (mNot (mTru (mCallF (M__law_same_words G) [] (mCons (mVar 7) (mCons (mCallF (M__law_ordered G) [] (mCons (mVar 0) (mNil))) (mNil)))))) (sRet (mC (.bl false))) (sNop))
    (sSeq (sExp (mMt isL (onL gAppend) (mVar 7) (mCons (mC (.str "x")) (mNil))))
    (sSeq (sAsg 8 (mCallF (M_tail_set G) [] (mCons (mVar 0) (mNil))))
    (sSeq (sIf (mNot (mTru (mCallF (M__law_same_words G) [] (mCons (mVar 8) (mCons (mCallF (M__law_tail_set G) [] (mCons (mVar 0) (mNil))) (mNil)))))) (sRet (mC (.bl false))) (sNop))
    (sSeq (sExp (mMt isL (onL gAppend) (mVar 8) (mCons (mC (.str "x")) (mNil))))
    (sSeq (sIf (mNot (mTru (mCallF (M__law_same_words G) [] (mCons (mCallF (M_dials_of G) [] (mCons (mVar 0) (mNil))) (mCons (mCallF (M__law_ordered G) [] (mCons (mVar 5) (mNil))) (mNil)))))) (sRet (mC (.bl false))) (sNop))
    (sSeq (sIf (mNot (mTru (mCallF (M__law_same_words G) [] (mCons (mCallF (M_points_of G) [] (mCons (mVar 0) (mNil))) (mCons (mCallF (M__law_ordered G) [] (mCons (mL1 G true (iAny (mVar 0)) (gN 6) (mYes) (mBin opIx (mVar 6) (mUn opNeg (mC (.int 1)))) [6]) (mNil))) (mNil)))))) (sRet (mC (.bl false))) (sNop))
    (sSeq (sIf (mNot (mTru (mCallF (M__law_same_words G) [] (mCons (mCallF (M_in_order G) [] (mCons (mVar 0) (mNil))) (mCons (mCallF (M__law_ordered G) [] (mCons (mVar 1) (mNil))) (mNil)))))) (sRet (mC (.bl false))) (sNop))
    (sSeq (sIf (mOr (mTru (mBin (opEq true) (mCallF (M_in_order G) [] (mCons (mCallN bTuple (mCons (mVar 0) (mNil))) (mNil))) (mCallF (M__law_ordered G) [] (mCons (mVar 1) (mNil))))) (mTru (mBin (opEq true) (mCallF (M_tail_set G) [] (mCons (mCallN bTuple (mCons (mVar 0) (mNil))) (mNil))) (mCallF (M__law_tail_set G) [] (mCons (mVar 1) (mNil)))))) (sRet (mC (.bl false))) (sNop))
    (sRet (mAndV (mCallF (M__law_same_words G) [] (mCons (mCallF (M_tail_set G) [] (mCons (mVar 0) (mNil))) (mCons (mCallF (M__law_tail_set G) [] (mCons (mVar 1) (mNil))) (mNil)))) (mBin (opEq false) (mVar 0) (mVar 1))))))))))))))))))))))
theorem ok__law_list_holds (C : Cc K mg) : FOk PR w K mg base 6 "_law_list_holds" 1 [] (M__law_list_holds ⟨PR, w, K⟩) := by
  refine fok (N := ["_law_words", "_law_kept", "_law_bad", "_law_due", "_law_which", "_law_dials", "_law_word", "_law_given", "_law_ends", "_law_text", "_law_letter"]) (ps := ["_law_words"]) (C.def_ 31 (d := d__law_list_holds)) (C.glo 62) ⟨rfl, rfl, rfl, by decide +kernel, rfl, by decide +kernel, by decide +kernel⟩ (fun _ _ _ _ _ _ _ us hl => match us, hl with | [_], _ => rfl) fun cdv A outer sh H E B => ?_
  have nd : (["_law_words", "_law_kept", "_law_bad", "_law_due", "_law_which", "_law_dials", "_law_word", "_law_given", "_law_ends", "_law_text", "_law_letter"] : List Str).Nodup := by decide +kernel
  exact sds_cons (sd_set 1 nd (ed_callTy (cb_list true B.calm) rfl (C.free 74) bt_list (ea_cons (ed_var 0) (ea_nil))))
    (sds_cons (sd_setL1 false 2 (own := [("_law_text", 9)]) B.calm nd ⟨id_any (ed_var 0), (blkOk_by (N := ["_law_words", "_law_kept", "_law_bad", "_law_due", "_law_which", "_law_dials", "_law_word", "_law_given", "_law_ends", "_law_text", "_law_letter"]) (sc := defScope (top 69)) (own := [("_law_text", 9)]) (by decide +kernel)), fun _ _ _ _ _ => gdw_name 9 nd (by decide), fun _ _ _ _ _ => ets_one (eb_not (eb_tru (ed_callF (ok__law_right C) B.hr (by decide) takes_none5 rfl (ea_cons (ed_var 9) (ea_nil)) (lenS (len0)) rfl))), fun _ _ _ _ _ => ed_var 9⟩)
    (sds_cons (sd_set 3 nd (ed_non))
    (sds_cons (sd_if (eb_cmp (or_ne B.hr) bl_eq (ed_var 2) (ed_lst false (ea_nil))) (sds_one (sd_set 3 nd (ed_lst false (ea_cons (ed_ix (ixr B.hr) (ed_var 2) (ed_int)) (ea_cons (ed_bl) (ea_cons (ed_bl) (ea_cons (ed_bl) (ea_nil)))))))) (sds_nil))
    (sds_cons (sd_for B.pa B.calm (id_range1 rfl (C.free 75) (ea_cons (ed_int) (ea_nil))) (gd_name 4 nd) (sds_one (sd_if (eb_cmp (or_ne B.hr) bl_eq (ed_callF (ok__law_list_refusal C) B.hr (by decide) B.tk rfl (ea_cons (ed_var 4) (ea_cons (ed_var 0) (ea_nil))) (lenS (lenS (len0))) rfl) (ed_var 3)) (sds_one (sd_ret (ed_bl))) (sds_nil))))
    (sds_cons (sd_if (eb_cmp (or_ne B.hr) bl_eq (ed_var 2) (ed_lst false (ea_nil))) (sds_one (sd_ret (ed_cmp (or_eq B.hr) (ed_var 0) (ed_var 1)))) (sds_nil))
    (sds_cons (sd_set 5 nd (ed_lst true (ea_nil)))
    (sds_cons (sd_for B.pa B.calm (id_any (ed_var 0)) (gd_name 6 nd) (sds_one (sd_set 5 nd (ed_bin (or_add true) (ed_var 5) (ed_l1 false (own := [("_law_letter", 10)]) B.calm nd ⟨id_any (ed_sl false (ed_var 6) (od_none) (od_some (ed_un ur_neg (ed_int)))), (blkOk_by (N := ["_law_words", "_law_kept", "_law_bad", "_law_due", "_law_which", "_law_dials", "_law_word", "_law_given", "_law_ends", "_law_text", "_law_letter"]) (sc := defScope (top 69)) (own := [("_law_letter", 10)]) (by decide +kernel)), fun _ _ _ _ _ => gdw_name 10 nd (by decide), fun _ _ _ _ _ => ets_nil, fun _ _ _ _ _ => ed_bm0 tyS PySem.F.plainAttrs_str PySem.F.slot_str_lower PySem.F.type_str_lower mr_lower (ed_var 10)⟩)))))
    (sds_cons (sd_set 7 nd (ed_callF (ok_in_order C) B.hr (by decide) B.tk rfl (ea_cons (ed_var 0) (ea_nil)) (lenS (len0)) rfl))
    (sds_cons (sd_if (eb_not (eb_tru (ed_callF (ok__law_same_words C) B.hr (by decide) B.tk rfl (ea_cons (ed_var 7) (ea_cons (ed_callF (ok__law_ordered C) B.hr (by decide) B.tk rfl (ea_cons (ed_var 0) (ea_nil)) (lenS (len0)) rfl) (ea_nil))) (lenS (lenS (len0))) rfl))) (sds_one (sd_ret (ed_bl))) (sds_nil))
    (sds_cons (sd_expr (ed_bm tyL PySem.F.plainAttrs_list PySem.F.slot_list_append PySem.F.type_list_append mr_append (ed_var 7) (ea_cons (ed_str) (ea_nil))))
    (sds_cons (sd_set 8 nd (ed_callF (ok_tail_set C) B.hr (by decide) B.tk rfl (ea_cons (ed_var 0) (ea_nil)) (lenS (len0)) rfl))
    (sds_cons (sd_if (eb_not (eb_tru (ed_callF (ok__law_same_words C) B.hr (by decide) B.tk rfl (ea_cons (ed_var 8) (ea_cons (ed_callF (ok__law_tail_set C) B.hr (by decide) B.tk rfl (ea_cons (ed_var 0) (ea_nil)) (lenS (len0)) rfl) (ea_nil))) (lenS (lenS (len0))) rfl))) (sds_one (sd_ret (ed_bl))) (sds_nil))
    (sds_cons (sd_expr (ed_bm tyL PySem.F.plainAttrs_list PySem.F.slot_list_append PySem.F.type_list_append mr_append (ed_var 8) (ea_cons (ed_str) (ea_nil))))
    (sds_cons (sd_if (eb_not (eb_tru (ed_callF (ok__law_same_words C) B.hr (by decide) B.tk rfl (ea_cons (ed_callF (ok_dials_of C) B.hr (by decide) B.tk rfl (ea_cons (ed_var 0) (ea_nil)) (lenS (len0)) rfl) (ea_cons (ed_callF (ok__law_ordered C) B.hr (by decide) B.tk rfl (ea_cons (ed_var 5) (ea_nil)) (lenS (len0)) rfl) (ea_nil))) (lenS (lenS (len0))) rfl))) (sds_one (sd_ret (ed_bl))) (sds_nil))
    (sds_cons (sd_if (eb_not (eb_tru (ed_callF (ok__law_same_words C) B.hr (by decide) B.tk rfl (ea_cons (ed_callF (ok_points_of C) B.hr (by decide) B.tk rfl (ea_cons (ed_var 0) (ea_nil)) (lenS (len0)) rfl) (ea_cons (ed_callF (ok__law_ordered C) B.hr (by decide) B.tk rfl (ea_cons (ed_l1 true (own := [("_law_word", 6)]) B.calm nd ⟨id_any (ed_var 0), (blkOk_by (N := ["_law_words", "_law_kept", "_law_bad", "_law_due", "_law_which", "_law_dials", "_law_word", "_law_given", "_law_ends", "_law_text", "_law_letter"]) (sc := defScope (top 69)) (own := [("_law_word", 6)]) (by decide +kernel)), fun _ _ _ _ _ => gdw_name 6 nd (by decide), fun _ _ _ _ _ => ets_nil, fun _ _ _ _ _ => ed_ix (ixr B.hr) (ed_var 6) (ed_un ur_neg (ed_int))⟩) (ea_nil)) (lenS (len0)) rfl) (ea_nil))) (lenS (lenS (len0))) rfl))) (sds_one (sd_ret (ed_bl))) (sds_nil))
    (sds_cons (sd_if (eb_not (eb_tru (ed_callF (ok__law_same_words C) B.hr (by decide) B.tk rfl (ea_cons (ed_callF (ok_in_order C) B.hr (by decide) B.tk rfl (ea_cons (ed_var 0) (ea_nil)) (lenS (len0)) rfl) (ea_cons (ed_callF (ok__law_ordered C) B.hr (by decide) B.tk rfl (ea_cons (ed_var 1) (ea_nil)) (lenS (len0)) rfl) (ea_nil))) (lenS (lenS (len0))) rfl))) (sds_one (sd_ret (ed_bl))) (sds_nil))
    (sds_cons (sd_if (EW.eb (ew_or (eb_cmp (or_ne B.hr) bl_eq (ed_callF (ok_in_order C) B.hr (by decide) B.tk rfl (ea_cons (ed_callTy cb_tuple rfl (C.free 79) bt_tuple (ea_cons (ed_var 0) (ea_nil))) (ea_nil)) (lenS (len0)) rfl) (ed_callF (ok__law_ordered C) B.hr (by decide) B.tk rfl (ea_cons (ed_var 1) (ea_nil)) (lenS (len0)) rfl)) (ew_or1 (eb_cmp (or_ne B.hr) bl_eq (ed_callF (ok_tail_set C) B.hr (by decide) B.tk rfl (ea_cons (ed_callTy cb_tuple rfl (C.free 79) bt_tuple (ea_cons (ed_var 0) (ea_nil))) (ea_nil)) (lenS (len0)) rfl) (ed_callF (ok__law_tail_set C) B.hr (by decide) B.tk rfl (ea_cons (ed_var 1) (ea_nil)) (lenS (len0)) rfl))))) (sds_one (sd_ret (ed_bl))) (sds_nil))
    (sds_one (sd_ret (ed_and (ed_callF (ok__law_same_words C) B.hr (by decide) B.tk rfl (ea_cons (ed_callF (ok_tail_set C) B.hr (by decide) B.tk rfl (ea_cons (ed_var 0) (ea_nil)) (lenS (len0)) rfl) (ea_cons (ed_callF (ok__law_tail_set C) B.hr (by decide) B.tk rfl (ea_cons (ed_var 1) (ea_nil)) (lenS (len0)) rfl) (ea_nil))) (lenS (lenS (len0))) rfl) (ed_one (ed_cmp (or_eq B.hr) (ed_var 0) (ed_var 1)))))))))))))))))))))))
def N__law_partner_holds : List Str := ["_law_letter", "_law_given", "_law_refused", "_law_e"]
def M__law_partner_holds (G : Gc) : MF := mBody 4
    (sSeq (sAsg 1 (mC .non))
    (sSeq (sAsg 2 (mC .non))
    (sSeq (sTry (sAsg 1 (mCallF (M_partner G) [] (mCons (mVar 0) (mNil)))) (.named hit_BadLetter 3 (xSet 2 (fun x => mLst false ((xCons (xFld xfT "letter") (xCons (xIsi isiT (mC (.cls "DialError"))) (xCons (xIsi isiT (mTup (mCons (mC (.cls "BadWord")) (mCons (mC (.cls "NoPlace")) (mNil))))) (xNil)))) x))) :: ([])))
    (sSeq (sIf (mAnd (mTru (mBin (opEq false) (mCallN bLen (mCons (mVar 0) (mNil))) (mC (.int 1)))) (mTru (mBin (opIn false) (mVar 0) (mC (.str "abcdefghijklmnopqrst"))))) (sRet (mAndV (mBin (opIs false) (mVar 2) (mC .non)) (mBin (opEq false) (mVar 1) (mMt isS fUpper (mVar 0) (mNil))))) (sNop))
    (sSeq (sIf (mAnd (mTru (mBin (opEq false) (mCallN bLen (mCons (mVar 0) (mNil))) (mC (.int 1)))) (mTru (mBin (opIn false) (mVar 0) (mC (.str "ABCDEFGHIJKLMNOPQRST"))))) (sRet (mAndV (mBin (opIs false) (mVar 2) (mC .non)) (mBin (opEq false) (mVar 1) (mMt isS fLower (mVar 0) (mNil))))) (sNop))
    (sRet (mAndV (mBin (opIs false) (mVar 1) (mC .non)) (mBin (opEq false) (mVar 2) (mLst false (mCons (mVar 0) (mCons (mC (.bl true)) (mCons (mC (.bl false)) (mNil)))))))))))))
theorem ok__law_partner_holds (C : Cc K mg) : FOk PR w K mg base 4 "_law_partner_holds" 1 [] (M__law_partner_holds ⟨PR, w, K⟩) := by
  refine fok (N := ["_law_letter", "_law_given", "_law_refused", "_law_e"]) (ps := ["_law_letter"]) (C.def_ 32 (d := d__law_partner_holds)) (C.glo 63) ⟨rfl, rfl, rfl, by decide +kernel, rfl, by decide +kernel, by decide +kernel⟩ (fun _ _ _ _ _ _ _ us hl => match us, hl with | [_], _ => rfl) fun cdv A outer sh H E B => ?_
  have nd : (["_law_letter", "_law_given", "_law_refused", "_law_e"] : List Str).Nodup := by decide +kernel
  exact sds_cons (sd_set 1 nd (ed_non))
    (sds_cons (sd_set 2 nd (ed_non))
    (sds_cons (sd_try rfl rfl nd B.tk (fun W pn xe tk pa => sds_one (sd_set 1 nd (ed_callF (ok_partner C) B.hr (by decide) tk rfl (ea_cons (ed_var 0) (ea_nil)) (lenS (len0)) rfl))) (.named ⟨rfl, by decide, .inl (C.glo 2)⟩ C.hit_BadLetter rfl rfl (fun a oe cls d pn U => sx_set 2 nd (ex_lst false (exa_cons (ex_fld U C.xf) (exa_cons (ex_isi C.isi U (ed_gcls "DialError" rfl (C.glo 0)) rfl (C.free 72) bt_isinstance) (exa_cons (ex_isi C.isi U (ed_tup (ea_cons (ed_gcls "BadWord" rfl (C.glo 1)) (ea_cons (ed_gcls "NoPlace" rfl (C.glo 10)) (ea_nil)))) rfl (C.free 72) bt_isinstance) (exa_nil)))))) (.nil)))
    (sds_cons (sd_if (EW.eb (ew_and (eb_cmp (or_eq B.hr) bl_eq (ed_callB cb_len rfl (C.free 73) bt_len (ea_cons (ed_var 0) (ea_nil))) (ed_int)) (ew_and1 (eb_cmp (or_in (inF B.hr)) bl_in (ed_var 0) (ed_str))))) (sds_one (sd_ret (ed_and (ed_cmp (or_is) (ed_var 2) (ed_non)) (ed_one (ed_cmp (or_eq B.hr) (ed_var 1) (ed_bm0 tyS PySem.F.plainAttrs_str PySem.F.slot_str_upper PySem.F.type_str_upper mr_upper (ed_var 0))))))) (sds_nil))
    (sds_cons (sd_if (EW.eb (ew_and (eb_cmp (or_eq B.hr) bl_eq (ed_callB cb_len rfl (C.free 73) bt_len (ea_cons (ed_var 0) (ea_nil))) (ed_int)) (ew_and1 (eb_cmp (or_in (inF B.hr)) bl_in (ed_var 0) (ed_str))))) (sds_one (sd_ret (ed_and (ed_cmp (or_is) (ed_var 2) (ed_non)) (ed_one (ed_cmp (or_eq B.hr) (ed_var 1) (ed_bm0 tyS PySem.F.plainAttrs_str PySem.F.slot_str_lower PySem.F.type_str_lower mr_lower (ed_var 0))))))) (sds_nil))
    (sds_one (sd_ret (ed_and (ed_cmp (or_is) (ed_var 1) (ed_non)) (ed_one (ed_cmp (or_eq B.hr) (ed_var 2) (ed_lst false (ea_cons (ed_var 0) (ea_cons (ed_bl) (ea_cons (ed_bl) (ea_nil))))))))))))))
def N__law_kinds : List Str := ["_law_e", "_law_found"]
def M__law_kinds (G : Gc) : MF := mBody 2
    (sSeq (sAsg 1 (mLst false (mCons (mCallN (bIsi isiT) (mCons (mVar 0) (mCons (mC (.cls "BadWord")) (mNil)))) (mCons (mCallN (bIsi isiT) (mCons (mVar 0) (mCons (mC (.cls "BadLetter")) (mNil)))) (mCons (mCallN (bIsi isiT) (mCons (mVar 0) (mCons (mC (.cls "BadFact")) (mNil)))) (mNil))))))
    (sSeq (sAsg 1 (mBin (opAdd false) (mVar 1) (mLst false (mCons (mCallN (bIsi isiT) (mCons (mVar 0) (mCons (mC (.cls "MixedFact")) (mNil)))) (mCons (mCallN (bIsi isiT) (mCons (mVar 0) (mCons (mC (.cls "BadSteps")) (mNil)))) (mCons (mCallN (bIsi isiT) (mCons (mVar 0) (mCons (mC (.cls "BadPlace")) (mNil)))) (mNil)))))))
    (sSeq (sAsg 1 (mBin (opAdd false) (mVar 1) (mLst false (mCons (mCallN (bIsi isiT) (mCons (mVar 0) (mCons (mC (.cls "BadTable")) (mNil)))) (mCons (mCallN (bIsi isiT) (mCons (mVar 0) (mCons (mC (.cls "BrokenFact")) (mNil)))) (mCons (mCallN (bIsi isiT) (mCons (mVar 0) (mCons (mC (.cls "NotGrounded")) (mNil)))) (mNil)))))))
    (sSeq (sAsg 1 (mBin (opAdd false) (mVar 1) (mLst false (mCons (mCallN (bIsi isiT) (mCons (mVar 0) (mCons (mC (.cls "NoPlace")) (mNil)))) (mCons (mCallN (bIsi isiT) (mCons (mVar 0) (mCons (mC (.cls "NoTable")) (mNil)))) (mCons (mCallN (bIsi isiT) (mCons (mVar 0) (mCons (mC (.cls "NotPaired")) (mNil)))) (mNil)))))))
    (sSeq (sAsg 1 (mBin (opAdd false) (mVar 1) (mLst false (mCons (mCallN (bIsi isiT) (mCons (mVar 0) (mCons (mC (.cls "NoPairs")) (mNil)))) (mCons (mCallN (bIsi isiT) (mCons (mVar 0) (mCons (mC (.cls "Unlike")) (mNil)))) (mCons (mCallN (bIsi isiT) (mCons (mVar 0) (mCons (mC (.cls "NotMade")) (mNil)))) (mNil)))))))
    (sSeq (sAsg 1 (mBin (opAdd false) (mVar 1) (mLst false (mCons (mCallN (bIsi isiT) (mCons (mVar 0) (mCons (mC (.cls "BadEntry")) (mNil)))) (mCons (mCallN (bIsi isiT) (mCons (mVar 0) (mCons (mC (.cls "Clash")) (mNil)))) (mCons (mCallN (bIsi isiT) (mCons (mVar 0) (mCons (mC (.cls "BadGroups")) (mNil)))) (mNil)))))))
    (sSeq (sAsg 1 (mBin (opAdd false) (mVar 1) (mLst false (mCons (mCallN (bIsi isiT) (mCons (mVar 0) (mCons (mC (.cls "NotRanked")) (mNil)))) (mCons (mCallN (bIsi isiT) (mCons (mVar 0) (mCons (mC (.cls "NotKept")) (mNil)))) (mCons (mCallN (bIsi isiT) (mCons (mVar 0) (mCons (mC (.cls "BadStand")) (mNil)))) (mNil)))))))
    (sSeq (sAsg 1 (mBin (opAdd false) (mVar 1) (mLst false (mCons (mCallN (bIsi isiT) (mCons (mVar 0) (mCons (mC (.cls "BadSign")) (mNil)))) (mCons (mCallN (bIsi isiT) (mCons (mVar 0) (mCons (mC (.cls "BadSaying")) (mNil)))) (mCons (mCallN (bIsi isiT) (mCons (mVar 0) (mCons (mC (.cls "NotPlain")) (mNil)))) (mNil)))))))
    (sSeq (sAsg 1 (mBin (opAdd false) (mVar 1) (mLst false (mCons (mCallN (bIsi isiT) (mCons (mVar 0) (mCons (mC (.cls "NotOpen")) (mNil)))) (mCons (mCallN (bIsi isiT) (mCons (mVar 0) (mCons (mC (.cls "Refused")) (mNil)))) (mCons (mCallN (bIsi isiT) (mCons (mVar 0) (mCons (mC (.cls "NothingTold")) (mNil)))) (mNil)))))))
    (sRet (mBin (opAdd false) (mVar 1) (mLst false (mCons (mCallN (bIsi isiT) (mCons (mVar 0) (mCons (mC (.cls "OverRoom")) (mNil)))) (mCons (mCallN (bIsi isiT) (mCons (mVar 0) (mCons (mC (.cls "BadLine")) (mNil)))) (mCons (mCallN (bIsi isiT) (mCons (mVar 0) (mCons (mC (.cls "TooLarge")) (mNil)))) (mNil))))))))))))))))
theorem ok__law_kinds (C : Cc K mg) : FOk PR w K mg base 1 "_law_kinds" 1 [] (M__law_kinds ⟨PR, w, K⟩) := by
  refine fok (N := ["_law_e", "_law_found"]) (ps := ["_law_e"]) (C.def_ 33 (d := d__law_kinds)) (C.glo 64) ⟨rfl, rfl, rfl, by decide +kernel, rfl, by decide +kernel, by decide +kernel⟩ (fun _ _ _ _ _ _ _ us hl => match us, hl with | [_], _ => rfl) fun cdv A outer sh H E B => ?_
  have nd : (["_law_e", "_law_found"] : List Str).Nodup := by decide +kernel
  exact sds_cons (sd_set 1 nd (ed_lst false (ea_cons (ed_callB (cb_isi C.isi) rfl (C.free 72) bt_isinstance (ea_cons (ed_var 0) (ea_cons (ed_gcls "BadWord" rfl (C.glo 1)) (ea_nil)))) (ea_cons (ed_callB (cb_isi C.isi) rfl (C.free 72) bt_isinstance (ea_cons (ed_var 0) (ea_cons (ed_gcls "BadLetter" rfl (C.glo 2)) (ea_nil)))) (ea_cons (ed_callB (cb_isi C.isi) rfl (C.free 72) bt_isinstance (ea_cons (ed_var 0) (ea_cons (ed_gcls "BadFact" rfl (C.glo 3)) (ea_nil)))) (ea_nil))))))
    (sds_cons (sd_set 1 nd (ed_bin (or_add false) (ed_var 1) (ed_lst false (ea_cons (ed_callB (cb_isi C.isi) rfl (C.free 72) bt_isinstance (ea_cons (ed_var 0) (ea_cons (ed_gcls "MixedFact" rfl (C.glo 4)) (ea_nil)))) (ea_cons (ed_callB (cb_isi C.isi) rfl (C.free 72) bt_isinstance (ea_cons (ed_var 0) (ea_cons (ed_gcls "BadSteps" rfl (C.glo 5)) (ea_nil)))) (ea_cons (ed_callB (cb_isi C.isi) rfl (C.free 72) bt_isinstance (ea_cons (ed_var 0) (ea_cons (ed_gcls "BadPlace" rfl (C.glo 6)) (ea_nil)))) (ea_nil)))))))
    (sds_cons (sd_set 1 nd (ed_bin (or_add false) (ed_var 1) (ed_lst false (ea_cons (ed_callB (cb_isi C.isi) rfl (C.free 72) bt_isinstance (ea_cons (ed_var 0) (ea_cons (ed_gcls "BadTable" rfl (C.glo 7)) (ea_nil)))) (ea_cons (ed_callB (cb_isi C.isi) rfl (C.free 72) bt_isinstance (ea_cons (ed_var 0) (ea_cons (ed_gcls "BrokenFact" rfl (C.glo 8)) (ea_nil)))) (ea_cons (ed_callB (cb_isi C.isi) rfl (C.free 72) bt_isinstance (ea_cons (ed_var 0) (ea_cons (ed_gcls "NotGrounded" rfl (C.glo 9)) (ea_nil)))) (ea_nil)))))))
    (sds_cons (sd_set 1 nd (ed_bin (or_add false) (ed_var 1) (ed_lst false (ea_cons (ed_callB (cb_isi C.isi) rfl (C.free 72) bt_isinstance (ea_cons (ed_var 0) (ea_cons (ed_gcls "NoPlace" rfl (C.glo 10)) (ea_nil)))) (ea_cons (ed_callB (cb_isi C.isi) rfl (C.free 72) bt_isinstance (ea_cons (ed_var 0) (ea_cons (ed_gcls "NoTable" rfl (C.glo 11)) (ea_nil)))) (ea_cons (ed_callB (cb_isi C.isi) rfl (C.free 72) bt_isinstance (ea_cons (ed_var 0) (ea_cons (ed_gcls "NotPaired" rfl (C.glo 12)) (ea_nil)))) (ea_nil)))))))
    (sds_cons (sd_set 1 nd (ed_bin (or_add false) (ed_var 1) (ed_lst false (ea_cons (ed_callB (cb_isi C.isi) rfl (C.free 72) bt_isinstance (ea_cons (ed_var 0) (ea_cons (ed_gcls "NoPairs" rfl (C.glo 13)) (ea_nil)))) (ea_cons (ed_callB (cb_isi C.isi) rfl (C.free 72) bt_isinstance (ea_cons (ed_var 0) (ea_cons (ed_gcls "Unlike" rfl (C.glo 14)) (ea_nil)))) (ea_cons (ed_callB (cb_isi C.isi) rfl (C.free 72) bt_isinstance (ea_cons (ed_var 0) (ea_cons (ed_gcls "NotMade" rfl (C.glo 15)) (ea_nil)))) (ea_nil)))))))
    (sds_cons (sd_set 1 nd (ed_bin (or_add false) (ed_var 1) (ed_lst false (ea_cons (ed_callB (cb_isi C.isi) rfl (C.free 72) bt_isinstance (ea_cons (ed_var 0) (ea_cons (ed_gcls "BadEntry" rfl (C.glo 16)) (ea_nil)))) (ea_cons (ed_callB (cb_isi C.isi) rfl (C.free 72) bt_isinstance (ea_cons (ed_var 0) (ea_cons (ed_gcls "Clash" rfl (C.glo 17)) (ea_nil)))) (ea_cons (ed_callB (cb_isi C.isi) rfl (C.free 72) bt_isinstance (ea_cons (ed_var 0) (ea_cons (ed_gcls "BadGroups" rfl (C.glo 18)) (ea_nil)))) (ea_nil)))))))
    (sds_cons (sd_set 1 nd (ed_bin (or_add false) (ed_var 1) (ed_lst false (ea_cons (ed_callB (cb_isi C.isi) rfl (C.free 72) bt_isinstance (ea_cons (ed_var 0) (ea_cons (ed_gcls "NotRanked" rfl (C.glo 19)) (ea_nil)))) (ea_cons (ed_callB (cb_isi C.isi) rfl (C.free 72) bt_isinstance (ea_cons (ed_var 0) (ea_cons (ed_gcls "NotKept" rfl (C.glo 20)) (ea_nil)))) (ea_cons (ed_callB (cb_isi C.isi) rfl (C.free 72) bt_isinstance (ea_cons (ed_var 0) (ea_cons (ed_gcls "BadStand" rfl (C.glo 21)) (ea_nil)))) (ea_nil)))))))
    (sds_cons (sd_set 1 nd (ed_bin (or_add false) (ed_var 1) (ed_lst false (ea_cons (ed_callB (cb_isi C.isi) rfl (C.free 72) bt_isinstance (ea_cons (ed_var 0) (ea_cons (ed_gcls "BadSign" rfl (C.glo 22)) (ea_nil)))) (ea_cons (ed_callB (cb_isi C.isi) rfl (C.free 72) bt_isinstance (ea_cons (ed_var 0) (ea_cons (ed_gcls "BadSaying" rfl (C.glo 23)) (ea_nil)))) (ea_cons (ed_callB (cb_isi C.isi) rfl (C.free 72) bt_isinstance (ea_cons (ed_var 0) (ea_cons (ed_gcls "NotPlain" rfl (C.glo 24)) (ea_nil)))) (ea_nil)))))))
    (sds_cons (sd_set 1 nd (ed_bin (or_add false) (ed_var 1) (ed_lst false (ea_cons (ed_callB (cb_isi C.isi) rfl (C.free 72) bt_isinstance (ea_cons (ed_var 0) (ea_cons (ed_gcls "NotOpen" rfl (C.glo 25)) (ea_nil)))) (ea_cons (ed_callB (cb_isi C.isi) rfl (C.free 72) bt_isinstance (ea_cons (ed_var 0) (ea_cons (ed_gcls "Refused" rfl (C.glo 26)) (ea_nil)))) (ea_cons (ed_callB (cb_isi C.isi) rfl (C.free 72) bt_isinstance (ea_cons (ed_var 0) (ea_cons (ed_gcls "NothingTold" rfl (C.glo 27)) (ea_nil)))) (ea_nil)))))))
    (sds_one (sd_ret (ed_bin (or_add false) (ed_var 1) (ed_lst false (ea_cons (ed_callB (cb_isi C.isi) rfl (C.free 72) bt_isinstance (ea_cons (ed_var 0) (ea_cons (ed_gcls "OverRoom" rfl (C.glo 28)) (ea_nil)))) (ea_cons (ed_callB (cb_isi C.isi) rfl (C.free 72) bt_isinstance (ea_cons (ed_var 0) (ea_cons (ed_gcls "BadLine" rfl (C.glo 29)) (ea_nil)))) (ea_cons (ed_callB (cb_isi C.isi) rfl (C.free 72) bt_isinstance (ea_cons (ed_var 0) (ea_cons (ed_gcls "TooLarge" rfl (C.glo 30)) (ea_nil)))) (ea_nil))))))))))))))))
def N__law_errors_hold : List Str := ["_law_sign", "_law_made", "_law_k", "_law_texts", "_law_others", "_law_due", "_law_j", "_law_text"]
def M__law_errors_hold (G : Gc) : MF := mBody 8
    (sSeq (sAsg 1 (mLst false (mCons (mExo "BadWord" ["word"] (mCons (mVar 0) (mNil))) (mCons (mExo "BadLetter" ["letter"] (mCons (mVar 0) (mNil))) (mCons (mExo "BadFact" ["low", "high"] (mCons (mVar 0) (mCons (mC (.str "q")) (mNil)))) (mCons (mExo "MixedFact" ["low", "high"] (mCons (mC (.str "q")) (mCons (mVar 0) (mNil)))) (mCons (mExo "BadSteps" ["many"] (mCons (mC (.int 7)) (mNil))) (mCons (mExo "BadPlace" ["point", "stand"] (mCons (mVar 0) (mCons (mC (.int 8)) (mNil)))) (mNil)))))))))
    (sSeq (sAsg 1 (mBin (opAdd false) (mVar 1) (mLst false (mCons (mExo "BadTable" ["dial"] (mCons (mVar 0) (mNil))) (mCons (mExo "BrokenFact" ["low", "high", "at"] (mCons (mVar 0) (mCons (mC (.str "q")) (mCons (mC (.int 9)) (mNil))))) (mCons (mExo "NotGrounded" ["dial"] (mCons (mVar 0) (mNil))) (mCons (mExo "NoPlace" ["point"] (mCons (mVar 0) (mNil))) (mCons (mExo "NoTable" ["letter"] (mCons (mVar 0) (mNil))) (mNil)))))))))
    (sSeq (sAsg 1 (mBin (opAdd false) (mVar 1) (mLst false (mCons (mExo "NotPaired" ["letter"] (mCons (mVar 0) (mNil))) (mCons (mExo "NoPairs" ["letter"] (mCons (mVar 0) (mNil))) (mCons (mExn "Unlike") (mCons (mExo "NotMade" ["points"] (mCons (mTup (mCons (mVar 0) (mCons (mC (.str "q")) (mNil)))) (mNil))) (mCons (mExo "BadEntry" ["letter", "at", "shown"] (mCons (mVar 0) (mCons (mC (.int 7)) (mCons (mC (.int 8)) (mNil))))) (mNil)))))))))
    (sSeq (sAsg 1 (mBin (opAdd false) (mVar 1) (mLst false (mCons (mExo "Clash" ["rule", "one", "other"] (mCons (mC (.int 3)) (mCons (mTup (mCons (mVar 0) (mCons (mC (.int 7)) (mCons (mC (.int 8)) (mNil))))) (mCons (mTup (mCons (mC (.str "q")) (mCons (mC (.int 8)) (mCons (mC (.int 9)) (mNil))))) (mNil))))) (mCons (mExo "BadGroups" ["word"] (mCons (mVar 0) (mNil))) (mCons (mExo "NotRanked" ["word"] (mCons (mVar 0) (mNil))) (mCons (mExo "NotKept" ["rule"] (mCons (mC (.int 4)) (mNil))) (mCons (mExo "BadStand" ["at"] (mCons (mTup (mCons (mC (.int 7)) (mCons (mC (.int 8)) (mNil)))) (mNil))) (mNil)))))))))
    (sSeq (sAsg 1 (mBin (opAdd false) (mVar 1) (mLst false (mCons (mExo "BadSign" ["sign"] (mCons (mVar 0) (mNil))) (mCons (mExo "BadSaying" ["label"] (mCons (mVar 0) (mNil))) (mCons (mExo "NotPlain" ["word"] (mCons (mVar 0) (mNil))) (mCons (mExo "NotOpen" ["verdict"] (mCons (mVar 0) (mNil))) (mCons (mExo "Refused" ["blame"] (mCons (mTup (mCons (mVar 0) (mNil))) (mNil))) (mCons (mExn "NothingTold") (mNil))))))))))
    (sSeq (sAsg 1 (mBin (opAdd false) (mVar 1) (mLst false (mCons (mExo "OverRoom" ["most"] (mCons (mC (.int 6)) (mNil))) (mCons (mExo "BadLine" ["line"] (mCons (mVar 0) (mNil))) (mCons (mExo "TooLarge" ["what"] (mCons (mVar 0) (mNil))) (mNil)))))))
    (sSeq (sFor (iR1 (mCons (mC (.int 30)) (mNil))) (gN 2) (sSeq (sIf (mTru (mBin (opEq true) (mCallF (M__law_kinds G) [] (mCons (mBin opIx (mVar 1) (mVar 2)) (mNil))) (mL1 G false (iR1 (mCons (mC (.int 30)) (mNil))) (gN 6) (mYes) (mBin (opEq false) (mVar 6) (mVar 2)) [6]))) (sRet (mC (.bl false))) (sNop))
    (sIf (mOr (mNot (mTru (mCallN (bIsi isiT) (mCons (mBin opIx (mVar 1) (mVar 2)) (mCons (mC (.cls "DialError")) (mNil)))))) (mNot (mTru (mCallN (bIsi isiT) (mCons (mBin opIx (mVar 1) (mVar 2)) (mCons (mC (.ty "ValueError")) (mNil))))))) (sRet (mC (.bl false))) (sNop))))
    (sSeq (sAsg 3 (mLst false (mCons (mXf xfT "word" (mBin opIx (mVar 1) (mC (.int 0)))) (mCons (mXf xfT "letter" (mBin opIx (mVar 1) (mC (.int 1)))) (mCons (mXf xfT "low" (mBin opIx (mVar 1) (mC (.int 2)))) (mCons (mXf xfT "high" (mBin opIx (mVar 1) (mC (.int 3)))) (mCons (mXf xfT "point" (mBin opIx (mVar 1) (mC (.int 5)))) (mCons (mXf xfT "dial" (mBin opIx (mVar 1) (mC (.int 6)))) (mCons (mXf xfT "low" (mBin opIx (mVar 1) (mC (.int 7)))) (mNil))))))))))
    (sSeq (sAsg 3 (mBin (opAdd false) (mVar 3) (mLst false (mCons (mXf xfT "dial" (mBin opIx (mVar 1) (mC (.int 8)))) (mCons (mXf xfT "point" (mBin opIx (mVar 1) (mC (.int 9)))) (mCons (mXf xfT "letter" (mBin opIx (mVar 1) (mC (.int 10)))) (mCons (mXf xfT "letter" (mBin opIx (mVar 1) (mC (.int 11)))) (mCons (mXf xfT "letter" (mBin opIx (mVar 1) (mC (.int 12)))) (mCons (mXf xfT "letter" (mBin opIx (mVar 1) (mC (.int 15)))) (mNil))))))))))
    (sSeq (sAsg 3 (mBin (opAdd false) (mVar 3) (mLst false (mCons (mXf xfT "word" (mBin opIx (mVar 1) (mC (.int 17)))) (mCons (mXf xfT "word" (mBin opIx (mVar 1) (mC (.int 18)))) (mCons (mXf xfT "sign" (mBin opIx (mVar 1) (mC (.int 21)))) (mCons (mXf xfT "label" (mBin opIx (mVar 1) (mC (.int 22)))) (mCons (mXf xfT "word" (mBin opIx (mVar 1) (mC (.int 23)))) (mCons (mXf xfT "verdict" (mBin opIx (mVar 1) (mC (.int 24)))) (mNil))))))))))
    (sSeq (sAsg 3 (mBin (opAdd false) (mVar 3) (mLst false (mCons (mXf xfT "line" (mBin opIx (mVar 1) (mC (.int 28)))) (mCons (mXf xfT "what" (mBin opIx (mVar 1) (mC (.int 29)))) (mNil))))))
    (sSeq (sIf (mTru (mBin (opEq true) (mL1 G false (iAny (mVar 3)) (gN 7) (mTru (mBin (opEq true) (mVar 7) (mVar 0))) (mVar 7) [7]) (mLst false (mNil)))) (sRet (mC (.bl false))) (sNop))
    (sSeq (sAsg 4 (mLst false (mCons (mXf xfT "high" (mBin opIx (mVar 1) (mC (.int 2)))) (mCons (mXf xfT "low" (mBin opIx (mVar 1) (mC (.int 3)))) (mCons (mXf xfT "many" (mBin opIx (mVar 1) (mC (.int 4)))) (mCons (mXf xfT "stand" (mBin opIx (mVar 1) (mC (.int 5)))) (mCons (mXf xfT "high" (mBin opIx (mVar 1) (mC (.int 7)))) (mCons (mXf xfT "at" (mBin opIx (mVar 1) (mC (.int 7)))) (mCons (mXf xfT "points" (mBin opIx (mVar 1) (mC (.int 14)))) (mNil))))))))))
    (sSeq (sAsg 4 (mBin (opAdd false) (mVar 4) (mLst false (mCons (mXf xfT "at" (mBin opIx (mVar 1) (mC (.int 15)))) (mCons (mXf xfT "shown" (mBin opIx (mVar 1) (mC (.int 15)))) (mCons (mXf xfT "rule" (mBin opIx (mVar 1) (mC (.int 16)))) (mCons (mXf xfT "one" (mBin opIx (mVar 1) (mC (.int 16)))) (mCons (mXf xfT "other" (mBin opIx (mVar 1) (mC (.int 16)))) (mCons (mXf xfT "rule" (mBin opIx (mVar 1) (mC (.int 19)))) (mNil))))))))))
    (sSeq (sAsg 5 (mLst false (mCons (mC (.str "q")) (mCons (mC (.str "q")) (mCons (mC (.int 7)) (mCons (mC (.int 8)) (mCons (mC (.str "q")) (mCons (mC (.int 9)) (mCons (mTup (mCons (mVar 0) (mCons (mC (.str "q")) (mNil)))) (mCons (mC (.int 7)) (mCons (mC (.int 8)) (mCons (mC (.int 3)) (mCons (mTup (mCons (mVar 0) (mCons (mC (.int 7)) (mCons (mC (.int 8)) (mNil))))) (mCons (mTup (mCons (mC (.str "q")) (mCons (mC (.int 8)) (mCons (mC (.int 9)) (mNil))))) (mCons (mC (.int 4)) (mNil))))))))))))))))
    (sRet (mAndV (mBin (opEq false) (mVar 4) (mVar 5)) (mAndV (mBin (opEq false) (mXf xfT "at" (mBin opIx (mVar 1) (mC (.int 20)))) (mTup (mCons (mC (.int 7)) (mCons (mC (.int 8)) (mNil))))) (mAndV (mBin (opEq false) (mXf xfT "blame" (mBin opIx (mVar 1) (mC (.int 25)))) (mTup (mCons (mVar 0) (mNil)))) (mBin (opEq false) (mXf xfT "most" (mBin opIx (mVar 1) (mC (.int 27)))) (mC (.int 6))))))))))))))))))))))
theorem ok__law_errors_hold (C : Cc K mg) : FOk PR w K mg base 3 "_law_errors_hold" 1 [] (M__law_errors_hold ⟨PR, w, K⟩) := by
  refine fok (N := ["_law_sign", "_law_made", "_law_k", "_law_texts", "_law_others", "_law_due", "_law_j", "_law_text"]) (ps := ["_law_sign"]) (C.def_ 34 (d := d__law_errors_hold)) (C.glo 65) ⟨rfl, rfl, rfl, by decide +kernel, rfl, by decide +kernel, by decide +kernel⟩ (fun _ _ _ _ _ _ _ us hl => match us, hl with | [_], _ => rfl) fun cdv A outer sh H E B => ?_
  have nd : (["_law_sign", "_law_made", "_law_k", "_law_texts", "_law_others", "_law_due", "_law_j", "_law_text"] : List Str).Nodup := by decide +kernel
  exact sds_cons (sd_set 1 nd (ed_lst false (ea_cons (ed_exoE (mk_BadWord C) B.hr (by decide) rfl (C.glo 1) (ea_cons (ed_var 0) (ea_nil))) (ea_cons (ed_exoE (mk_BadLetter C) B.hr (by decide) rfl (C.glo 2) (ea_cons (ed_var 0) (ea_nil))) (ea_cons (ed_exoE (mk_BadFact C) B.hr (by decide) rfl (C.glo 3) (ea_cons (ed_var 0) (ea_cons (ed_str) (ea_nil)))) (ea_cons (ed_exoE (mk_MixedFact C) B.hr (by decide) rfl (C.glo 4) (ea_cons (ed_str) (ea_cons (ed_var 0) (ea_nil)))) (ea_cons (ed_exoE (mk_BadSteps C) B.hr (by decide) rfl (C.glo 5) (ea_cons (ed_int) (ea_nil))) (ea_cons (ed_exoE (mk_BadPlace C) B.hr (by decide) rfl (C.glo 6) (ea_cons (ed_var 0) (ea_cons (ed_int) (ea_nil)))) (ea_nil)))))))))
    (sds_cons (sd_set 1 nd (ed_bin (or_add false) (ed_var 1) (ed_lst false (ea_cons (ed_exoE (mk_BadTable C) B.hr (by decide) rfl (C.glo 7) (ea_cons (ed_var 0) (ea_nil))) (ea_cons (ed_exoE (mk_BrokenFact C) B.hr (by decide) rfl (C.glo 8) (ea_cons (ed_var 0) (ea_cons (ed_str) (ea_cons (ed_int) (ea_nil))))) (ea_cons (ed_exoE (mk_NotGrounded C) B.hr (by decide) rfl (C.glo 9) (ea_cons (ed_var 0) (ea_nil))) (ea_cons (ed_exoE (mk_NoPlace C) B.hr (by decide) rfl (C.glo 10) (ea_cons (ed_var 0) (ea_nil))) (ea_cons (ed_exoE (mk_NoTable C) B.hr (by decide) rfl (C.glo 11) (ea_cons (ed_var 0) (ea_nil))) (ea_nil)))))))))
    (sds_cons (sd_set 1 nd (ed_bin (or_add false) (ed_var 1) (ed_lst false (ea_cons (ed_exoE (mk_NotPaired C) B.hr (by decide) rfl (C.glo 12) (ea_cons (ed_var 0) (ea_nil))) (ea_cons (ed_exoE (mk_NoPairs C) B.hr (by decide) rfl (C.glo 13) (ea_cons (ed_var 0) (ea_nil))) (ea_cons (ed_exn (C.exc 84) rfl (C.glo 14)) (ea_cons (ed_exoE (mk_NotMade C) B.hr (by decide) rfl (C.glo 15) (ea_cons (ed_tup (ea_cons (ed_var 0) (ea_cons (ed_str) (ea_nil)))) (ea_nil))) (ea_cons (ed_exoE (mk_BadEntry C) B.hr (by decide) rfl (C.glo 16) (ea_cons (ed_var 0) (ea_cons (ed_int) (ea_cons (ed_int) (ea_nil))))) (ea_nil)))))))))
    (sds_cons (sd_set 1 nd (ed_bin (or_add false) (ed_var 1) (ed_lst false (ea_cons (ed_exoE (mk_Clash C) B.hr (by decide) rfl (C.glo 17) (ea_cons (ed_int) (ea_cons (ed_tup (ea_cons (ed_var 0) (ea_cons (ed_int) (ea_cons (ed_int) (ea_nil))))) (ea_cons (ed_tup (ea_cons (ed_str) (ea_cons (ed_int) (ea_cons (ed_int) (ea_nil))))) (ea_nil))))) (ea_cons (ed_exoE (mk_BadGroups C) B.hr (by decide) rfl (C.glo 18) (ea_cons (ed_var 0) (ea_nil))) (ea_cons (ed_exoE (mk_NotRanked C) B.hr (by decide) rfl (C.glo 19) (ea_cons (ed_var 0) (ea_nil))) (ea_cons (ed_exoE (mk_NotKept C) B.hr (by decide) rfl (C.glo 20) (ea_cons (ed_int) (ea_nil))) (ea_cons (ed_exoE (mk_BadStand C) B.hr (by decide) rfl (C.glo 21) (ea_cons (ed_tup (ea_cons (ed_int) (ea_cons (ed_int) (ea_nil)))) (ea_nil))) (ea_nil)))))))))
    (sds_cons (sd_set 1 nd (ed_bin (or_add false) (ed_var 1) (ed_lst false (ea_cons (ed_exoE (mk_BadSign C) B.hr (by decide) rfl (C.glo 22) (ea_cons (ed_var 0) (ea_nil))) (ea_cons (ed_exoE (mk_BadSaying C) B.hr (by decide) rfl (C.glo 23) (ea_cons (ed_var 0) (ea_nil))) (ea_cons (ed_exoE (mk_NotPlain C) B.hr (by decide) rfl (C.glo 24) (ea_cons (ed_var 0) (ea_nil))) (ea_cons (ed_exoE (mk_NotOpen C) B.hr (by decide) rfl (C.glo 25) (ea_cons (ed_var 0) (ea_nil))) (ea_cons (ed_exoE (mk_Refused C) B.hr (by decide) rfl (C.glo 26) (ea_cons (ed_tup (ea_cons (ed_var 0) (ea_nil))) (ea_nil))) (ea_cons (ed_exn (C.exc 85) rfl (C.glo 27)) (ea_nil))))))))))
    (sds_cons (sd_set 1 nd (ed_bin (or_add false) (ed_var 1) (ed_lst false (ea_cons (ed_exoE (mk_OverRoom C) B.hr (by decide) rfl (C.glo 28) (ea_cons (ed_int) (ea_nil))) (ea_cons (ed_exoE (mk_BadLine C) B.hr (by decide) rfl (C.glo 29) (ea_cons (ed_var 0) (ea_nil))) (ea_cons (ed_exoE (mk_TooLarge C) B.hr (by decide) rfl (C.glo 30) (ea_cons (ed_var 0) (ea_nil))) (ea_nil)))))))
    (sds_cons (sd_for B.pa B.calm (id_range1 rfl (C.free 75) (ea_cons (ed_int) (ea_nil))) (gd_name 2 nd) (sds_cons (sd_if (eb_cmp (or_ne B.hr) bl_eq (ed_callF (ok__law_kinds C) B.hr (by decide) B.tk rfl (ea_cons (ed_ix (ixr B.hr) (ed_var 1) (ed_var 2)) (ea_nil)) (lenS (len0)) rfl) (ed_l1 false (own := [("_law_j", 6)]) B.calm nd ⟨id_range1 rfl (C.free 75) (ea_cons (ed_int) (ea_nil)), (blkOk_by (N := ["_law_sign", "_law_made", "_law_k", "_law_texts", "_law_others", "_law_due", "_law_j", "_law_text"]) (sc := defScope (top 72)) (own := [("_law_j", 6)]) (by decide +kernel)), fun _ _ _ _ _ => gdw_name 6 nd (by decide), fun _ _ _ _ _ => ets_nil, fun _ _ _ _ _ => ed_cmp (or_eq B.hr) (ed_var 6) (ed_var 2)⟩)) (sds_one (sd_ret (ed_bl))) (sds_nil))
    (sds_one (sd_if (EW.eb (ew_or (eb_not (eb_tru (ed_callB (cb_isi C.isi) rfl (C.free 72) bt_isinstance (ea_cons (ed_ix (ixr B.hr) (ed_var 1) (ed_var 2)) (ea_cons (ed_gcls "DialError" rfl (C.glo 0)) (ea_nil)))))) (ew_or1 (eb_not (eb_tru (ed_callB (cb_isi C.isi) rfl (C.free 72) bt_isinstance (ea_cons (ed_ix (ixr B.hr) (ed_var 1) (ed_var 2)) (ea_cons (ed_bty "ValueError" rfl (C.free 67) bt_ValueError) (ea_nil))))))))) (sds_one (sd_ret (ed_bl))) (sds_nil)))))
    (sds_cons (sd_set 3 nd (ed_lst false (ea_cons (ed_xf C.xf (ed_ix (ixr B.hr) (ed_var 1) (ed_int))) (ea_cons (ed_xf C.xf (ed_ix (ixr B.hr) (ed_var 1) (ed_int))) (ea_cons (ed_xf C.xf (ed_ix (ixr B.hr) (ed_var 1) (ed_int))) (ea_cons (ed_xf C.xf (ed_ix (ixr B.hr) (ed_var 1) (ed_int))) (ea_cons (ed_xf C.xf (ed_ix (ixr B.hr) (ed_var 1) (ed_int))) (ea_cons (ed_xf C.xf (ed_ix (ixr B.hr) (ed_var 1) (ed_int))) (ea_cons (ed_xf C.xf (ed_ix (ixr B.hr) (ed_var 1) (ed_int))) (ea_nil))))))))))
    (sds_cons (sd_set 3 nd (ed_bin (or_add false) (ed_var 3) (ed_lst false (ea_cons (ed_xf C.xf (ed_ix (ixr B.hr) (ed_var 1) (ed_int))) (ea_cons (ed_xf C.xf (ed_ix (ixr B.hr) (ed_var 1) (ed_int))) (ea_cons (ed_xf C.xf (ed_ix (ixr B.hr) (ed_var 1) (ed_int))) (ea_cons (ed_xf C.xf (ed_ix (ixr B.hr) (ed_var 1) (ed_int))) (ea_cons (ed_xf C.xf (ed_ix (ixr B.hr) (ed_var 1) (ed_int))) (ea_cons (ed_xf C.xf (ed_ix (ixr B.hr) (ed_var 1) (ed_int))) (ea_nil))))))))))
    (sds_cons (sd_set 3 nd (ed_bin (or_add false) (ed_var 3) (ed_lst false (ea_cons (ed_xf C.xf (ed_ix (ixr B.hr) (ed_var 1) (ed_int))) (ea_cons (ed_xf C.xf (ed_ix (ixr B.hr) (ed_var 1) (ed_int))) (ea_cons (ed_xf C.xf (ed_ix (ixr B.hr) (ed_var 1) (ed_int))) (ea_cons (ed_xf C.xf (ed_ix (ixr B.hr) (ed_var 1) (ed_int))) (ea_cons (ed_xf C.xf (ed_ix (ixr B.hr) (ed_var 1) (ed_int))) (ea_cons (ed_xf C.xf (ed_ix (ixr B.hr) (ed_var 1) (ed_int))) (ea_nil))))))))))
    (sds_cons (sd_set 3 nd (ed_bin (or_add false) (ed_var 3) (ed_lst false (ea_cons (ed_xf C.xf (ed_ix (ixr B.hr) (ed_var 1) (ed_int))) (ea_cons (ed_xf C.xf (ed_ix (ixr B.hr) (ed_var 1) (ed_int))) (ea_nil))))))
    (sds_cons (sd_if (eb_cmp (or_ne B.hr) bl_eq (ed_l1 false (own := [("_law_text", 7)]) B.calm nd ⟨id_any (ed_var 3), (blkOk_by (N := ["_law_sign", "_law_made", "_law_k", "_law_texts", "_law_others", "_law_due", "_law_j", "_law_text"]) (sc := defScope (top 72)) (own := [("_law_text", 7)]) (by decide +kernel)), fun _ _ _ _ _ => gdw_name 7 nd (by decide), fun _ _ _ _ _ => ets_one (eb_cmp (or_ne B.hr) bl_eq (ed_var 7) (ed_var 0)), fun _ _ _ _ _ => ed_var 7⟩) (ed_lst false (ea_nil))) (sds_one (sd_ret (ed_bl))) (sds_nil))
    (sds_cons (sd_set 4 nd (ed_lst false (ea_cons (ed_xf C.xf (ed_ix (ixr B.hr) (ed_var 1) (ed_int))) (ea_cons (ed_xf C.xf (ed_ix (ixr B.hr) (ed_var 1) (ed_int))) (ea_cons (ed_xf C.xf (ed_ix (ixr B.hr) (ed_var 1) (ed_int))) (ea_cons (ed_xf C.xf (ed_ix (ixr B.hr) (ed_var 1) (ed_int))) (ea_cons (ed_xf C.xf (ed_ix (ixr B.hr) (ed_var 1) (ed_int))) (ea_cons (ed_xf C.xf (ed_ix (ixr B.hr) (ed_var 1) (ed_int))) (ea_cons (ed_xf C.xf (ed_ix (ixr B.hr) (ed_var 1) (ed_int))) (ea_nil))))))))))
    (sds_cons (sd_set 4 nd (ed_bin (or_add false) (ed_var 4) (ed_lst false (ea_cons (ed_xf C.xf (ed_ix (ixr B.hr) (ed_var 1) (ed_int))) (ea_cons (ed_xf C.xf (ed_ix (ixr B.hr) (ed_var 1) (ed_int))) (ea_cons (ed_xf C.xf (ed_ix (ixr B.hr) (ed_var 1) (ed_int))) (ea_cons (ed_xf C.xf (ed_ix (ixr B.hr) (ed_var 1) (ed_int))) (ea_cons (ed_xf C.xf (ed_ix (ixr B.hr) (ed_var 1) (ed_int))) (ea_cons (ed_xf C.xf (ed_ix (ixr B.hr) (ed_var 1) (ed_int))) (ea_nil))))))))))
    (sds_cons (sd_set 5 nd (ed_lst false (ea_cons (ed_str) (ea_cons (ed_str) (ea_cons (ed_int) (ea_cons (ed_int) (ea_cons (ed_str) (ea_cons (ed_int) (ea_cons (ed_tup (ea_cons (ed_var 0) (ea_cons (ed_str) (ea_nil)))) (ea_cons (ed_int) (ea_cons (ed_int) (ea_cons (ed_int) (ea_cons (ed_tup (ea_cons (ed_var 0) (ea_cons (ed_int) (ea_cons (ed_int) (ea_nil))))) (ea_cons (ed_tup (ea_cons (ed_str) (ea_cons (ed_int) (ea_cons (ed_int) (ea_nil))))) (ea_cons (ed_int) (ea_nil))))))))))))))))
    (sds_one (sd_ret (ed_and (ed_cmp (or_eq B.hr) (ed_var 4) (ed_var 5)) (ed_and (ed_cmp (or_eq B.hr) (ed_xf C.xf (ed_ix (ixr B.hr) (ed_var 1) (ed_int))) (ed_tup (ea_cons (ed_int) (ea_cons (ed_int) (ea_nil))))) (ed_and (ed_cmp (or_eq B.hr) (ed_xf C.xf (ed_ix (ixr B.hr) (ed_var 1) (ed_int))) (ed_tup (ea_cons (ed_var 0) (ea_nil)))) (ed_one (ed_cmp (or_eq B.hr) (ed_xf C.xf (ed_ix (ixr B.hr) (ed_var 1) (ed_int))) (ed_int))))))))))))))))))))))
def N_law : List Str := ["_law_script", "_law_word", "_law_source_here", "_law_text", "_law_letter", "_law_words"]
def M_law (G : Gc) : MF := mBody 6
    (sSeq (sAsg 1 (mCallF (M__law_any_word G) [] (mCons (mCallF (M__law_source G) [] (mCons (mVar 0) (mCons (mC (.int 0)) (mNil)))) (mNil))))
    (sSeq (sAsg 2 (mCallF (M__law_source G) [] (mCons (mVar 0) (mCons (mC (.int 1)) (mNil)))))
    (sSeq (sAsg 3 (mCallF (M__law_spoilt G) [] (mCons (mVar 2) (mCons (mVar 1) (mNil)))))
    (sSeq (sAsg 4 (mBin opIx (mVar 1) (mC (.int 0))))
    (sSeq (sIf (mTru (mBin (opEq false) (mCallF (M__law_draw G) [] (mCons (mVar 2) (mCons (mC (.int 3)) (mNil)))) (mC (.int 2)))) (sAsg 4 (mSl false (mVar 3) (mPart (mCallF (M__law_draw G) [] (mCons (mVar 2) (mCons (mBin (opAdd false) (mCallN bLen (mCons (mVar 3) (mNil))) (mC (.int 1))) (mNil))))) (mNoPart))) (sNop))
    (sSeq (sIf (mTru (mBin (opEq false) (mCallF (M__law_draw G) [] (mCons (mVar 2) (mCons (mC (.int 4)) (mNil)))) (mC (.int 3)))) (sAsg 4 (mBin opIx (mLst false (mCons (mC (.str "1")) (mCons (mC (.str "u")) (mCons (mC (.str "U")) (mCons (mC (.str "")) (mCons (mC (.str "ab")) (mCons (mC (.str "aA")) (mNil)))))))) (mCallF (M__law_draw G) [] (mCons (mVar 2) (mCons (mC (.int 6)) (mNil)))))) (sNop))
    (sSeq (sAsg 5 (mCallF (M__law_list G) [] (mCons (mCallF (M__law_source G) [] (mCons (mVar 0) (mCons (mC (.int 2)) (mNil)))) (mCons (mVar 1) (mCons (mVar 3) (mNil))))))
    (sSeq (sIf (mOr (mNot (mTru (mCallF (M__law_word_holds G) [] (mCons (mVar 1) (mNil))))) (mOr (mNot (mTru (mCallF (M__law_text_holds G) [] (mCons (mVar 1) (mNil))))) (mNot (mTru (mCallF (M__law_text_holds G) [] (mCons (mVar 3) (mNil))))))) (sRet (mC (.bl false))) (sNop))
    (sSeq (sIf (mOr (mTru (mBin (opEq true) (mCallF (M_in_order G) [] (mCons (mLst true (mNil)) (mNil))) (mLst false (mNil)))) (mTru (mBin (opEq true) (mCallF (M_tail_set G) [] (mCons (mLst true (mNil)) (mNil))) (mLst false (mNil))))) (sRet (mC (.bl false))) (sNop))
    (sRet (mAndV (mCallF (M__law_list_holds G) [] (mCons (mVar 5) (mNil))) (mAndV (mCallF (M__law_partner_holds G) [] (mCons (mVar 4) (mNil))) (mCallF (M__law_errors_hold G) [] (mCons (mVar 4) (mNil)))))))))))))))
theorem ok_law (C : Cc K mg) : ∃ fd, (∀ (sh : Shared) (u : Value), BindsTo sh fd ⟨[u], []⟩ [("_law_script", u)]) ∧ ∀ base : Heap, FnOk PR w K mg base (L2.CX PR w) 7 (He.ga K "law") fd ["_law_script"] (spD ⟨PR, w, K⟩ 1 (M_law ⟨PR, w, K⟩)) := by
  refine fokL (N := ["_law_script", "_law_word", "_law_source_here", "_law_text", "_law_letter", "_law_words"]) (C.def_ 35 (d := d_law)) ⟨rfl, rfl, rfl, by decide +kernel, rfl, by decide +kernel, by decide +kernel⟩ (fun _ _ _ _ _ _ _ us hl => match us, hl with | [_], _ => rfl) fun base cdv A outer sh H E B => ?_
  have nd : (["_law_script", "_law_word", "_law_source_here", "_law_text", "_law_letter", "_law_words"] : List Str).Nodup := by decide +kernel
  exact sds_cons (sd_set 1 nd (ed_callF (ok__law_any_word C) B.hr (by decide) B.tk rfl (ea_cons (ed_callF (ok__law_source C) B.hr (by decide) B.tk rfl (ea_cons (ed_var 0) (ea_cons (ed_int) (ea_nil))) (lenS (lenS (len0))) rfl) (ea_nil)) (lenS (len0)) rfl))
    (sds_cons (sd_set 2 nd (ed_callF (ok__law_source C) B.hr (by decide) B.tk rfl (ea_cons (ed_var 0) (ea_cons (ed_int) (ea_nil))) (lenS (lenS (len0))) rfl))
    (sds_cons (sd_set 3 nd (ed_callF (ok__law_spoilt C) B.hr (by decide) B.tk rfl (ea_cons (ed_var 2) (ea_cons (ed_var 1) (ea_nil))) (lenS (lenS (len0))) rfl))
    (sds_cons (sd_set 4 nd (ed_ix (ixr B.hr) (ed_var 1) (ed_int)))
    (sds_cons (sd_if (eb_cmp (or_eq B.hr) bl_eq (ed_callF (ok__law_draw C) B.hr (by decide) B.tk rfl (ea_cons (ed_var 2) (ea_cons (ed_int) (ea_nil))) (lenS (lenS (len0))) rfl) (ed_int)) (sds_one (sd_set 4 nd (ed_sl false (ed_var 3) (od_some (ed_callF (ok__law_draw C) B.hr (by decide) B.tk rfl (ea_cons (ed_var 2) (ea_cons (ed_bin (or_add false) (ed_callB cb_len rfl (C.free 73) bt_len (ea_cons (ed_var 3) (ea_nil))) (ed_int)) (ea_nil))) (lenS (lenS (len0))) rfl)) (od_none)))) (sds_nil))
    (sds_cons (sd_if (eb_cmp (or_eq B.hr) bl_eq (ed_callF (ok__law_draw C) B.hr (by decide) B.tk rfl (ea_cons (ed_var 2) (ea_cons (ed_int) (ea_nil))) (lenS (lenS (len0))) rfl) (ed_int)) (sds_one (sd_set 4 nd (ed_ix (ixr B.hr) (ed_lst false (ea_cons (ed_str) (ea_cons (ed_str) (ea_cons (ed_str) (ea_cons (ed_str) (ea_cons (ed_str) (ea_cons (ed_str) (ea_nil)))))))) (ed_callF (ok__law_draw C) B.hr (by decide) B.tk rfl (ea_cons (ed_var 2) (ea_cons (ed_int) (ea_nil))) (lenS (lenS (len0))) rfl)))) (sds_nil))
    (sds_cons (sd_set 5 nd (ed_callF (ok__law_list C) B.hr (by decide) B.tk rfl (ea_cons (ed_callF (ok__law_source C) B.hr (by decide) B.tk rfl (ea_cons (ed_var 0) (ea_cons (ed_int) (ea_nil))) (lenS (lenS (len0))) rfl) (ea_cons (ed_var 1) (ea_cons (ed_var 3) (ea_nil)))) (lenS (lenS (lenS (len0)))) rfl))
    (sds_cons (sd_if (EW.eb (ew_or (eb_not (eb_tru (ed_callF (ok__law_word_holds C) B.hr (by decide) B.tk rfl (ea_cons (ed_var 1) (ea_nil)) (lenS (len0)) rfl))) (ew_or (eb_not (eb_tru (ed_callF (ok__law_text_holds C) B.hr (by decide) B.tk rfl (ea_cons (ed_var 1) (ea_nil)) (lenS (len0)) rfl))) (ew_or1 (eb_not (eb_tru (ed_callF (ok__law_text_holds C) B.hr (by decide) B.tk rfl (ea_cons (ed_var 3) (ea_nil)) (lenS (len0)) rfl))))))) (sds_one (sd_ret (ed_bl))) (sds_nil))
    (sds_cons (sd_if (EW.eb (ew_or (eb_cmp (or_ne B.hr) bl_eq (ed_callF (ok_in_order C) B.hr (by decide) B.tk rfl (ea_cons (ed_lst true (ea_nil)) (ea_nil)) (lenS (len0)) rfl) (ed_lst false (ea_nil))) (ew_or1 (eb_cmp (or_ne B.hr) bl_eq (ed_callF (ok_tail_set C) B.hr (by decide) B.tk rfl (ea_cons (ed_lst true (ea_nil)) (ea_nil)) (lenS (len0)) rfl) (ed_lst false (ea_nil)))))) (sds_one (sd_ret (ed_bl))) (sds_nil))
    (sds_one (sd_ret (ed_and (ed_callF (ok__law_list_holds C) B.hr (by decide) B.tk rfl (ea_cons (ed_var 5) (ea_nil)) (lenS (len0)) rfl) (ed_and (ed_callF (ok__law_partner_holds C) B.hr (by decide) B.tk rfl (ea_cons (ed_var 4) (ea_nil)) (lenS (len0)) rfl) (ed_one (ed_callF (ok__law_errors_hold C) B.hr (by decide) B.tk rfl (ea_cons (ed_var 4) (ea_nil)) (lenS (len0)) rfl))))))))))))))
theorem glo_law (C : Cc K mg) : mg "law" = some (.ref (He.ga K "law")) := C.glo 66
end
end Gk00
set_option Elab.async false
set_option linter.all false
set_option maxRecDepth 100000
set_option maxHeartbeats 0
/-! printed by wip/head.py -/
namespace Gk00
open PySem PySem.Spec PyProof.Rows L2 SM
abbrev Rw : PySem.W.OpenRow := PySem.W.OpenLaw.row PySem.Challenge.rw_unseendials_k00_heads_and_tails
abbrev qv : Program := PySem.W.view Rw.prog [73]
def nm_0 : List Str := ["DialError", "BadWord", "BadLetter", "BadFact", "MixedFact", "BadSteps", "BadPlace", "BadTable", "BrokenFact", "NotGrounded", "NoPlace", "NoTable", "NotPaired", "NoPairs", "Unlike", "NotMade", "BadEntry", "Clash", "BadGroups", "NotRanked"]
def nm_1 : List Str := ["NotKept", "BadStand", "BadSign", "BadSaying", "NotPlain", "NotOpen", "Refused", "NothingTold", "OverRoom", "BadLine", "TooLarge", "DIALS", "BACKS", "POINTS", "LONGEST", "is_dial", "is_back", "is_head", "is_word", "require_word"]
def nm_2 : List Str := ["heads", "tails", "first_letter", "rest_of", "point_of", "ordered", "in_order", "tail_set", "dials_of", "points_of", "partner", "_law_read", "_law_source", "_law_draw", "_law_size", "_law_ordered", "_law_tail_set", "_law_same_words", "_law_any_word", "_law_spoilt"]
def nm_3 : List Str := ["_law_right", "_law_list", "_law_refusal", "_law_list_refusal", "_law_word_holds", "_law_text_holds", "_law_list_holds", "_law_partner_holds", "_law_kinds", "_law_errors_hold"]
def names : List Str := nm_0 ++ nm_1 ++ nm_2 ++ nm_3
abbrev hk : PySem.W.Hook := hookM fa fn ins ex
def ob (s : PySem.W.SharedT) : AlM := obsMG fa fn ins ex (HandSHeadRun.getT s)
theorem ob_eq (s : PySem.W.SharedT) : ob s = hk.obs s.abs := obsMG_eq (HandSHeadRun.getT_eq s)
theorem run (w : World) : HandSHeadRun.RunEq Rw qv hk ob 30000 names w := by
  intro os
  kernel_rfl
end Gk00
set_option Elab.async false
set_option linter.all false
set_option maxRecDepth 100000
set_option maxHeartbeats 4000000
namespace Gk00
open PySem SM
variable {G : Gc} {Q : KV} {E : QE} {st : Sto}
def DI : Sg := [97, 98, 99, 100, 101, 102, 103, 104, 105, 106, 107, 108, 109, 110, 111, 112, 113, 114, 115, 116]
def BA : Sg := [65, 66, 67, 68, 69, 70, 71, 72, 73, 74, 75, 76, 77, 78, 79, 80, 81, 82, 83, 84]
def PO : Sg := [117, 118, 119, 120, 121, 122]
theorem l_DI : (("abcdefghijklmnopqrst" : String) : Str) = T DI := by decide +kernel
theorem l_BA : (("ABCDEFGHIJKLMNOPQRST" : String) : Str) = T BA := by decide +kernel
theorem l_PO : (("uvwxyz" : String) : Str) = T PO := by decide +kernel
theorem l_LE : (("abcdefghijklmnopqrstABCDEFGHIJKLMNOPQRST" : String) : Str) = T (DI ++ BA) := by decide +kernel
theorem l_nil : (("" : String) : Str) = T [] := by decide +kernel
theorem sz {n : Nat} (h : n ≤ 1000000) : n ≤ sizeLine := by show n ≤ 2 ^ 24; omega
theorem sz' {n : Nat} (h : n ≤ 1000000) : n < sizeLine := by show n < 2 ^ 24; omega
theorem sz1 : 1 ≤ sizeLine := by decide

def isDi : Sg → Bool
  | [c] => decide (c ∈ DI)
  | _ => false
def isBa : Sg → Bool
  | [c] => decide (c ∈ BA)
  | _ => false
theorem one_len {l : Sg} (h : l.length = 1) : ∃ c, l = [c] := by
  match l, h with
  | [c], _ => exact ⟨c, rfl⟩
theorem is_dial_w {l : Sg} (hl : l.length ≤ 1000000) (h : Q (.bl (isDi l)) st) : wp (M_is_dial G [tv l] st) Q E := by
  unfold M_is_dial
  rw [wp_body]
  simp [l_DI, sz hl]
  by_cases h1 : l.length = 1
  · obtain ⟨c, rfl⟩ := one_len h1
    simpa [isDi] using h
  · have : isDi l = false := by
      unfold isDi
      split <;> simp_all
    rw [this] at h
    have h2 : ¬ ((l.length : Int) = 1) := by omega
    simpa [h1, h2] using h
theorem is_back_w {l : Sg} (hl : l.length ≤ 1000000) (h : Q (.bl (isBa l)) st) : wp (M_is_back G [tv l] st) Q E := by
  unfold M_is_back
  rw [wp_body]
  simp [l_BA, sz hl]
  by_cases h1 : l.length = 1
  · obtain ⟨c, rfl⟩ := one_len h1
    simpa [isBa] using h
  · have : isBa l = false := by
      unfold isBa
      split <;> simp_all
    rw [this] at h
    have h2 : ¬ ((l.length : Int) = 1) := by omega
    simpa [h1, h2] using h
def isHd (l : Sg) : Bool := l.all fun c => decide (c ∈ DI) || decide (c ∈ BA)
theorem is_head_w {l : Sg} (hl : l.length < 1000000) (h : Q (.bl (isHd l)) st) : wp (M_is_head G [tv l] st) Q E := by
  unfold M_is_head
  rw [wp_body]
  simp [l_DI, l_BA]
  refine l1_of l (fun c => tv [c]) (fun c => .bl (decide (c ∈ DI) || decide (c ∈ BA))) inj_ch yS hl (fun c hc => ?_) ?_
  · simp
    by_cases hd : c ∈ DI <;> simp [hd]
  · simp [all_map]
    exact h
/-- a word of the program -/
def isWd (l : Sg) : Bool := l != [] && (decide (l.length ≤ 40) && ((match l.getLast? with | some c => decide (c ∈ PO) | none => false) && isHd l.dropLast))
theorem sok_of {l m : Sg} (h : SOk l) (s : ∀ c ∈ m, c ∈ l) : SOk m := fun c hc => h c (s c hc)
theorem is_word_w {l : Sg} (hl : l.length < 1000000) (hs : SOk l) (h : Q (.bl (isWd l)) st) : wp (M_is_word G [tv l] st) Q E := by
  unfold M_is_word
  rw [wp_body]
  have z := sz (Nat.le_of_lt hl)
  simp [l_nil, l_PO]
  rw [eq_tt hs (by intro c hc; simp at hc)]
  by_cases h0 : l = []
  · subst h0
    simpa [isWd] using h
  · simp [h0, z]
    by_cases h1 : l.length ≤ 40
    · have h2 : ¬ ((40 : Int) < (l.length : Int)) := by omega
      simp [h1, h2, z, atI_last, cut_last]
      refine ⟨l.getLast h0, List.getLast?_eq_some_getLast h0, ?_⟩
      have e : isWd l = (decide (l.getLast h0 ∈ PO) && isHd l.dropLast) := by
        unfold isWd
        rw [List.getLast?_eq_some_getLast h0]
        simp [h0, h1]
      rw [e] at h
      by_cases h3 : l.getLast h0 ∈ PO
      · simp [h3] at h ⊢
        exact is_head_w (by simp; omega) h
      · simpa [h3] using h
    · have h2 : ((40 : Int) < (l.length : Int)) := by omega
      simp [h2]
      simpa [isWd, h1] using h
/-- what is raised for a text that is no word -/
def bw (l : Sg) : Exn := ⟨"BadWord", [("word", tv l)]⟩
theorem require_w {l : Sg} (hl : l.length < 1000000) (hs : SOk l) (h : isWd l = true → Q .non st) (he : isWd l = false → E (bw l) st) : wp (M_require_word G [tv l] st) Q E := by
  unfold M_require_word
  rw [wp_body]
  simp
  refine is_word_w hl hs ?_
  cases e : isWd l with
  | true => simpa using h e
  | false =>
    simp
    exact ⟨rfl, he e⟩
theorem wd_len {l : Sg} (h : isWd l = true) : 0 < l.length ∧ l.length ≤ 40 := by
  unfold isWd at h
  simp at h
  exact ⟨by cases l <;> simp_all, h.2.1⟩
theorem at_ok {α : Type} {l : List α} {k : Nat} (h : k < l.length) : ∃ c, L2.atI l (k : Int) = some c ∧ l[k]? = some c := ⟨l[k], by rw [atI_nat]; simp [h], by simp [h]⟩
theorem heads_w {l : Sg} (hl : l.length < 1000000) (hs : SOk l) (h : isWd l = true → Q (.ref st.length) (st ++ [.lst ((List.range l.length).map fun k => tv (l.take k))])) (he : isWd l = false → E (bw l) st) : wp (M_heads G [tv l] st) Q E := by
  unfold M_heads
  rw [wp_body]
  simp
  refine require_w hl hs (fun w => ?_) he
  have z := sz (Nat.le_of_lt hl)
  simp [z, lim62_nat (k := l.length) (by omega)]
  refine l1_of (List.range l.length) (fun (k : Nat) => .int (k : Int)) (fun k => tv (l.take k)) inj_nat yR0 (by simpa using hl) (fun k hk => ?_) ?_
  · simp [z, cut_to]
  · simpa using h w
theorem tails_w {l : Sg} (hl : l.length < 1000000) (hs : SOk l) (h : isWd l = true → Q (.ref st.length) (st ++ [.lst ((List.range l.length).map fun k => tv (l.drop k))])) (he : isWd l = false → E (bw l) st) : wp (M_tails G [tv l] st) Q E := by
  unfold M_tails
  rw [wp_body]
  simp
  refine require_w hl hs (fun w => ?_) he
  have z := sz (Nat.le_of_lt hl)
  simp [z, lim62_nat (k := l.length) (by omega)]
  refine l1_of (List.range l.length) (fun (k : Nat) => .int (k : Int)) (fun k => tv (l.drop k)) inj_nat yR0 (by simpa using hl) (fun k hk => ?_) ?_
  · simp [z, cut_from]
  · simpa using h w
theorem first_w {l : Sg} (hl : l.length < 1000000) (hs : SOk l) (h : isWd l = true → ∀ c, l[0]? = some c → Q (tv [c]) st) (he : isWd l = false → E (bw l) st) : wp (M_first_letter G [tv l] st) Q E := by
  unfold M_first_letter
  rw [wp_body]
  simp
  refine require_w hl hs (fun w => ?_) he
  have z := sz (Nat.le_of_lt hl)
  obtain ⟨c, h1, h2⟩ := at_ok (k := 0) (wd_len w).1
  simp [z]
  exact ⟨c, h1, h w c h2⟩
theorem rest_w {l : Sg} (hl : l.length < 1000000) (hs : SOk l) (h : isWd l = true → Q (tv (l.drop 1)) st) (he : isWd l = false → E (bw l) st) : wp (M_rest_of G [tv l] st) Q E := by
  unfold M_rest_of
  rw [wp_body]
  simp
  refine require_w hl hs (fun w => ?_) he
  have z := sz (Nat.le_of_lt hl)
  simp [z, cut_one]
  simpa using h w
theorem point_w {l : Sg} (hl : l.length < 1000000) (hs : SOk l) (h : isWd l = true → ∀ c, l.getLast? = some c → Q (tv [c]) st) (he : isWd l = false → E (bw l) st) : wp (M_point_of G [tv l] st) Q E := by
  unfold M_point_of
  rw [wp_body]
  simp
  refine require_w hl hs (fun w => ?_) he
  have z := sz (Nat.le_of_lt hl)
  have n : l ≠ [] := by have := (wd_len w).1; intro e; simp [e] at this
  simp [z, atI_last]
  exact ⟨_, List.getLast?_eq_some_getLast n, h w _ (List.getLast?_eq_some_getLast n)⟩
/-! lists of texts -/
structure Tx (ls : List Sg) : Prop where
  few : ls.length < 1000
  len : ∀ l ∈ ls, l.length < 1000
  ok : ∀ l ∈ ls, SOk l
theorem Tx.len' {ls : List Sg} (h : Tx ls) : ∀ l ∈ ls, l.length < 1000000 := fun l hl => Nat.lt_trans (h.len l hl) (by decide)
theorem Tx.sz {ls : List Sg} (h : Tx ls) : ∀ l ∈ ls, l.length ≤ sizeLine := fun l hl => Gk00.sz (Nat.le_of_lt (h.len' l hl))
/-- the thing x walks the texts ls -/
def Wk (st : Sto) (x : Va) (ls : List Sg) : Prop := x = .tup (ls.map tv) ∨ lookL st x = some (ls.map tv)
theorem Wk.gr {st' : Sto} {x : Va} {ls : List Sg} (g : ∀ (i : Nat) (o : Ob), st[i]? = some o → st'[i]? = some o) (h : Wk st x ls) : Wk st' x ls := by
  rcases h with h | h
  · exact .inl h
  · refine .inr ?_
    cases x with
    | ref i =>
      unfold lookL at h
      cases e : st[i]? with
      | none => simp [e] at h
      | some o => cases o <;> simp [e] at h; simp [lookL, g _ _ e, h]
    | _ => exact h
theorem k_it {QG : Gt → Sto → Prop} {x : Va} {ls : List Sg} (h : Wk st x ls) (q : ∀ get, (∀ st', Wk st' x ls → yields get (ls.map tv) st') → QG get st) : kIt QG x st := by
  rcases h with rfl | h
  · exact q _ fun st' h' => yT
  · cases x with
    | tup xs => cases h
    | fl xs => exact q _ fun st' h' => yL (by rcases h' with h' | h'; cases h'; exact h')
    | fz xs => exact q _ fun st' h' => yL (by rcases h' with h' | h'; cases h'; exact h')
    | ref i =>
      unfold kIt
      simp only [h]
      exact q _ fun st' h' => yL (by rcases h' with h' | h'; cases h'; exact h')
    | _ => cases h
theorem ordered_w {x : Va} {ls : List Sg} (t : Tx ls) (hw : Wk st x ls) (h : Q (.ref st.length) (st ++ [.lst ((wordOrd ls).map tv)])) : wp (M_ordered G [x] st) Q E := by
  unfold M_ordered
  rw [wp_body]
  simp
  refine k_it hw fun get hy => ?_
  refine s1_of ls tv (fun l => l) inj_tv (hy st hw) (Nat.lt_trans t.few (by decide)) (fun b hb => ?_) ?_
  · simp
  · rw [List.map_id']
    simp
    rw [sortedS]
    simp
    rw [k_sortLen (ls := srt (dd [] ls)) rfl (fun l hl => t.sz l (by rw [srt_mem, dd_mem] at hl; simpa using hl))]
    exact h
/-- each is a word, or the first that is none is told -/
def bads (ls : List Sg) : List Sg := ls.filter fun l => !isWd l
theorem bads_take {ls : List Sg} {k : Nat} (h : bads (ls.take k) = []) (l : Sg) (hk : ls[k]? = some l) (w : isWd l = true) : bads (ls.take (k + 1)) = [] := by
  rw [List.take_add_one, hk]
  unfold bads at *
  rw [List.filter_append, h]
  simp [w]
theorem bads_first {ls : List Sg} {k : Nat} (h : bads (ls.take k) = []) (l : Sg) (hk : ls[k]? = some l) (w : isWd l = false) : (bads ls).head? = some l := by
  have : ls = ls.take k ++ l :: ls.drop (k + 1) := by
    obtain ⟨hl, e⟩ := List.getElem?_eq_some_iff.mp hk
    rw [← e, ← List.drop_eq_getElem_cons hl, List.take_append_drop]
  rw [this]
  unfold bads at *
  rw [List.filter_append, h]
  simp [w]
theorem req_loop {QX : QS} {get : Gt} {x : Va} {ls : List Sg} {r : Slo} (t : Tx ls) (hy : ∀ st', Wk st' x ls → yields get (ls.map tv) st') (hw : Wk st x ls)
    (h : bads ls = [] → ∀ y, QX .nx (some x :: y :: r) st) (he : ∀ l, (bads ls).head? = some l → E (bw l) st) :
    kFor (gN 1) (sExp (mCallF (M_require_word G) [] (mCons (mVar 1) mNil))) (some x :: none :: r) QX (dropE E) get st := by
  refine for_of ls tv (fun k sl s => s = st ∧ bads (ls.take k) = [] ∧ ∃ y, sl = some x :: y :: r) (Nat.lt_trans t.few (by decide)) (fun k sl s h => hy s (by rw [h.1]; exact hw)) ⟨rfl, rfl, _, rfl⟩ (fun k l sl s hk h => ?_) fun sl s h' => ?_
  · obtain ⟨rfl, h1, y, rfl⟩ := h
    have hm : l ∈ ls := List.mem_of_getElem? hk
    simp
    refine require_w (t.len' l hm) (t.ok l hm) (fun w => ?_) fun w => he l (bads_first h1 l hk w)
    simp
    exact bads_take h1 l hk w
  · obtain ⟨rfl, h1, y, rfl⟩ := h'
    rw [List.take_length] at h1
    exact h h1 y
theorem in_order_w {x : Va} {ls : List Sg} (t : Tx ls) (hw : Wk st x ls) (h : bads ls = [] → Q (.ref st.length) (st ++ [.lst ((wordOrd ls).map tv)])) (he : ∀ l, (bads ls).head? = some l → E (bw l) st) : wp (M_in_order G [x] st) Q E := by
  unfold M_in_order
  rw [wp_body]
  simp
  refine k_it hw fun get hy => ?_
  refine req_loop t hy hw (fun b y => ?_) he
  simp
  refine ordered_w t hw ?_
  simpa using h b
/-- all tails, in the order in which they come -/
def tls (ls : List Sg) : List Sg := ls.flatMap fun l => (List.range l.length).map fun k => l.drop k
theorem wd_of {ls : List Sg} (b : bads ls = []) : ∀ l ∈ ls, isWd l = true := fun l hl => by
  have := List.filter_eq_nil_iff.mp b l hl
  simpa using this
theorem flat_len {α β : Type} {f : α → List β} {n : Nat} : ∀ {xs : List α}, (∀ x ∈ xs, (f x).length ≤ n) → (xs.flatMap f).length ≤ xs.length * n
  | [], _ => by simp
  | x :: xs, h => by
    rw [List.flatMap_cons, List.length_append, List.length_cons, Nat.succ_mul]
    have := h x List.mem_cons_self
    have := flat_len (xs := xs) fun y hy => h y (List.mem_cons_of_mem _ hy)
    omega
theorem tls_mem {ls : List Sg} {t : Sg} (h : t ∈ tls ls) : ∃ l ∈ ls, ∃ k, k < l.length ∧ t = l.drop k := by
  obtain ⟨l, hl, h⟩ := List.mem_flatMap.mp h
  obtain ⟨k, hk, rfl⟩ := List.mem_map.mp h
  exact ⟨l, hl, k, List.mem_range.mp hk, rfl⟩
theorem Tx.tls {ls : List Sg} (t : Tx ls) (h : (tls ls).length < 1000) : Tx (tls ls) := by
  refine ⟨h, fun u hu => ?_, fun u hu => ?_⟩
  · obtain ⟨l, hl, k, hk, rfl⟩ := tls_mem hu
    have := t.len l hl
    rw [List.length_drop]; omega
  · obtain ⟨l, hl, k, hk, rfl⟩ := tls_mem hu
    exact fun c hc => t.ok l hl c (List.mem_of_mem_drop hc)
theorem tail_set_w {x : Va} {ls : List Sg} (t : Tx ls) (hw : Wk st x ls) (hf : ls.length < 20) (h : bads ls = [] → ∀ st', Gr st st' → st.length ≤ st'.length → Q (.ref st'.length) (st' ++ [.lst ((wordOrd (tls ls)).map tv)])) (he : ∀ l, (bads ls).head? = some l → E (bw l) st) : wp (M_tail_set G [x] st) Q E := by
  unfold M_tail_set
  rw [wp_body]
  simp
  refine k_it hw fun get hy => ?_
  refine req_loop t hy hw (fun b y => ?_) he
  simp
  refine k_it hw fun get2 hy2 => ?_
  have w := wd_of b
  have e : (ls.flatMap fun l => (List.range l.length).map fun k => tv (l.drop k)) = (tls ls).map tv := by
    unfold tls; rw [List.map_flatMap]; simp only [List.map_map]; rfl
  have hn : (tls ls).length ≤ ls.length * 40 := flat_len fun l hl => by simp; exact (wd_len (w l hl)).2
  refine l2_of ls tv (fun l => List.range l.length) (fun (k : Nat) => .int (k : Int)) (fun l k => tv (l.drop k)) inj_tv inj_nat (hy2 st hw) (Nat.lt_trans t.few (by decide)) (fun l hl => ?_) (fun l hl k hk => ?_) ?_ ?_
  · have := t.len l hl
    simp [sz (Nat.le_of_lt (t.len' l hl)), lim62_nat (k := l.length) (by omega)]
    exact ⟨yR0, t.len' l hl⟩
  · simp [sz (Nat.le_of_lt (t.len' l hl)), cut_from]
  · rw [e, List.length_map]; exact sz (by omega)
  · rw [e]
    simp
    refine ordered_w (t.tls (by omega)) (.inr (lookL_ref at_new)) ?_
    simpa using h b (st ++ [.lst ((tls ls).map tv)]) .app (by simp)
/-- the dials of words: small letters -/
def lo (c : Nat) : Nat := if 65 ≤ c ∧ c ≤ 90 then c + 32 else c
def up (c : Nat) : Nat := if 97 ≤ c ∧ c ≤ 122 then c - 32 else c
def dls (ls : List Sg) : List Sg := ls.flatMap fun l => l.dropLast.map fun c => [lo c]
/-- the point of a word -/
def ptOf (l : Sg) : Sg := [l.getLastD 0]
theorem points_of_w {x : Va} {ls : List Sg} (t : Tx ls) (hw : Wk st x ls) (h : bads ls = [] → Q (.ref st.length) (st ++ [.lst ((srt (dd [] (ls.map ptOf))).map tv)])) (he : ∀ l, (bads ls).head? = some l → E (bw l) st) : wp (M_points_of G [x] st) Q E := by
  unfold M_points_of
  rw [wp_body]
  simp
  refine k_it hw fun get hy => ?_
  refine req_loop t hy hw (fun b y => ?_) he
  simp
  refine k_it hw fun get2 hy2 => ?_
  refine s1_of ls tv (ptOf) inj_tv (hy2 st hw) (Nat.lt_trans t.few (by decide)) (fun l hl => ?_) ?_
  · have n : l ≠ [] := by have := (wd_len (wd_of b l hl)).1; intro e; simp [e] at this
    simp [ptOf, t.sz l hl, atI_last, List.getLast?_eq_some_getLast n]
  · simp
    rw [sortedS]
    simpa using h b
end Gk00
set_option Elab.async false
set_option linter.all false
set_option maxRecDepth 100000
set_option maxHeartbeats 4000000
namespace Gk00
open PySem SM
variable {G : Gc} {Q : KV} {E : QE} {st : Sto}
theorem low_w {c : Nat} (h : c < 128) : wpO (fLower (tv [c]) [] st) Q = Q (tv [lo c]) st := by
  have : Txt.lower (T [c]) = T [lo c] := by
    rw [PyProof.Rows.lower_ascii (by intro d hd; simp at hd; omega)]
    simp [T, lo, PyProof.Rows.lo1]
  unfold fLower
  simp [this]
theorem upp_w {c : Nat} (h : c < 128) : wpO (fUpper (tv [c]) [] st) Q = Q (tv [up c]) st := by
  have : Txt.upper (T [c]) = T [up c] := by
    rw [PyProof.Rows.upper_ascii (by intro d hd; simp at hd; omega)]
    simp [T, up, PyProof.Rows.up1]
  unfold fUpper
  simp [this]
theorem di_lt {c : Nat} (h : c ∈ DI) : c < 128 := by
  revert c; decide
theorem ba_lt {c : Nat} (h : c ∈ BA) : c < 128 := by
  revert c; decide
theorem hd_lt {l : Sg} (h : isHd l = true) : ∀ c ∈ l, c < 128 := fun c hc => by
  have := List.all_eq_true.mp h c hc
  simp at this
  exact this.elim di_lt ba_lt
theorem wd_hd {l : Sg} (h : isWd l = true) : isHd l.dropLast = true := by
  unfold isWd at h
  simp at h
  exact h.2.2.2
theorem dials_of_w {x : Va} {ls : List Sg} (t : Tx ls) (hw : Wk st x ls) (hf : ls.length < 20) (h : bads ls = [] → Q (.ref st.length) (st ++ [.lst ((srt (dd [] (dls ls))).map tv)])) (he : ∀ l, (bads ls).head? = some l → E (bw l) st) : wp (M_dials_of G [x] st) Q E := by
  unfold M_dials_of
  rw [wp_body]
  simp
  refine k_it hw fun get hy => ?_
  refine req_loop t hy hw (fun b y => ?_) he
  simp
  refine k_it hw fun get2 hy2 => ?_
  have w := wd_of b
  have hn : (dls ls).length ≤ ls.length * 40 := flat_len fun l hl => by simp; have := (wd_len (w l hl)).2; omega
  refine s2_of ls tv (fun l => l.dropLast) (fun c => tv [c]) (fun l c => [lo c]) inj_tv inj_ch (hy2 st hw) (Nat.lt_trans t.few (by decide)) (fun l hl => ?_) (fun l hl c hc => ?_) ?_ ?_
  · have := t.len l hl
    simp [t.sz l hl, cut_last, -List.map_dropLast]
    exact ⟨yS, by omega⟩
  · simp
    rw [low_w (hd_lt (wd_hd (w l hl)) c hc)]
    simp
  · show (dls ls).length < 4000
    omega
  · simp [-List.map_dropLast]
    rw [sortedS]
    simp [-List.map_dropLast]
    exact h b
def bl_ (l : Sg) : Exn := ⟨"BadLetter", [("letter", tv l)]⟩
theorem partner_w {l : Sg} (hl : l.length ≤ 1000000) (h1 : ∀ c, l = [c] → c ∈ DI → Q (tv [up c]) st) (h2 : ∀ c, l = [c] → c ∈ BA → Q (tv [lo c]) st) (he : isDi l = false → isBa l = false → E (bl_ l) st) : wp (M_partner G [tv l] st) Q E := by
  unfold M_partner
  rw [wp_body]
  simp
  refine is_dial_w hl ?_
  cases e : isDi l with
  | true =>
    simp
    unfold isDi at e
    split at e
    · rename_i c
      have hc : c ∈ DI := of_decide_eq_true e
      rw [upp_w (di_lt hc)]
      simp
      exact h1 c rfl hc
    · cases e
  | false =>
    simp
    refine is_back_w hl ?_
    cases e2 : isBa l with
    | true =>
      simp
      unfold isBa at e2
      split at e2
      · rename_i c
        have hc : c ∈ BA := of_decide_eq_true e2
        rw [low_w (ba_lt hc)]
        simp
        exact h2 c rfl hc
      · cases e2
    | false =>
      simp
      exact ⟨rfl, he e e2⟩
/-! ### the law's own defs -/
theorem read_w {ns : List Int} {k : Nat} (h : Q (.int (ns.getD k 0)) st) : wp (M__law_read G [.fz (ns.map .int), .int k] st) Q E := by
  unfold M__law_read
  rw [wp_body]
  simp
  rw [len_l (l := ns.map .int) rfl]
  simp
  by_cases hk : k < ns.length
  · simp [hk]
    rw [ix_l (l := ns.map .int) rfl]
    obtain ⟨c, h1, h2⟩ := at_ok (l := ns.map Va.int) (k := k) (by simpa using hk)
    refine ⟨c, h1, ?_⟩
    simp
    rw [List.getElem?_map] at h2
    simp [hk] at h2 h
    rw [← h2]; exact h
  · simp [hk]
    simpa [hk] using h
/-- a source of draws stands at i, with n draws taken at most -/
structure Src (st : Sto) (i : Nat) (n : Nat) : Prop where
  at_ : ∃ a b : Int, st[i]? = some (.lst [.int a, .int b]) ∧ 0 ≤ a ∧ -1 ≤ b ∧ b ≤ n
theorem Src.mono {i n : Nat} {st' : Sto} (h : Src st i n) (g : Gr st st') : Src st' i n := by
  obtain ⟨a, b, e, r⟩ := h.at_
  exact ⟨a, b, g _ _ e, r⟩
theorem source_w {ns : List Int} {k : Nat} (h : ∀ st', Gr st st' → st'.length = st.length + 1 → Src st' st.length 0 → Q (.ref st.length) st') : wp (M__law_source G [.fz (ns.map .int), .int k] st) Q E := by
  unfold M__law_source
  rw [wp_body]
  simp
  refine read_w ?_
  generalize ns.getD k 0 = v
  simp [opPow, opI]
  by_cases hv : (10 : Int) ^ 18 ≤ v.natAbs
  · have hv' : (1000000000000000000 : Int) ≤ v.natAbs := by simpa using hv
    simp [hv, hv']
    rw [mod_int (by decide)]
    simp
    refine ⟨by decide, h _ .app (by simp) ⟨_, _, at_new, ?_, by omega, by omega⟩⟩
    exact Int.emod_nonneg _ (by decide)
  · have hv' : ¬ (1000000000000000000 : Int) ≤ v.natAbs := by simpa using hv
    simp [hv, hv']
    rw [mul_intL (by decide)]
    simp
    refine ⟨by decide, h _ .app (by simp) ⟨_, _, at_new, ?_, by omega, by omega⟩⟩
    split <;> omega
theorem draw_w {i n : Nat} {m : Int} (s : Src st i n) (hn : n < 1000000) (hm : m < 1073741824) (h : ∀ (k : Nat) st', (k : Int) < max m 1 → GrX i st st' → st'.length = st.length → Src st' i (n + 1) → Q (.int (k : Int)) st') : wp (M__law_draw G [.ref i, .int m] st) Q E := by
  obtain ⟨a, b, e, ha, hb, hbn⟩ := s.at_
  have S' : Src st i (n + 1) := ⟨a, b, e, ha, hb, by omega⟩
  unfold M__law_draw
  rw [wp_body]
  simp
  have look : ∀ j, wpO (opIx (.ref i) (.int j) st) = fun Q => ∃ c, L2.atI [Va.int a, Va.int b] j = some c ∧ Q c st := fun j => funext fun Q => propext (by rw [ix_l (lookL_ref e)])
  have ix0 : ∀ Q, wpO (opIx (.ref i) (.int 0) st) Q = Q (.int a) st := fun Q => by
    rw [look]
    simp [show L2.atI [Va.int a, Va.int b] 0 = some (.int a) from rfl]
  have ix1 : ∀ Q, wpO (opIx (.ref i) (.int 1) st) Q = Q (.int b) st := fun Q => by
    rw [look]
    simp [show L2.atI [Va.int a, Va.int b] 1 = some (.int b) from rfl]
  by_cases c1 : m < 2
  · simp [c1]
    exact h 0 st (by omega) .rf rfl S'
  · simp [c1, ix0]
    by_cases c2 : a = 0
    · simp [c2]
      exact h 0 st (by omega) .rf rfl S'
    · simp [c2, ix1]
      have hp : 0 < m := by omega
      by_cases c3 : b < 0
      · simp [c3, ix0]
        rw [mod_int hp]
        simp [ix0]
        rw [div_int hp hm]
        simp
        rw [asg_ref (k := 0) (xs := [.int a, .int b]) e rfl rfl (by simp)]
        simp
        have := h (a % m).toNat (st.set i (.lst [.int (a / m), .int b])) (by
          have := Int.emod_lt_of_pos a hp
          have := Int.emod_nonneg a (by omega : m ≠ 0)
          omega) grX_set (by simp) ⟨_, _, set_at e, Int.ediv_nonneg ha (by omega), hb, by omega⟩
        have h0 := Int.emod_nonneg a (by omega : m ≠ 0)
        rw [Int.toNat_of_nonneg h0] at this
        exact this
      · simp [c3]
        rw [asg_ref (k := 1) (xs := [.int a, .int b]) e rfl rfl (by simp)]
        simp
        have e' := set_at (o := .lst [.int a, .int (b + 1)]) e
        have g : GrX i st (st.set i (.lst [.int a, .int (b + 1)])) := grX_set
        have hlen : (st.set i (.lst [.int a, .int (b + 1)])).length = st.length := by simp
        revert e' g hlen
        generalize st.set i (.lst [.int a, .int (b + 1)]) = st1
        intro e' g hlen
        have jx0 : ∀ Q, wpO (opIx (.ref i) (.int 0) st1) Q = Q (.int a) st1 := fun Q => by
          rw [ix_l (lookL_ref e')]
          simp [show L2.atI [Va.int a, Va.int (b + 1)] 0 = some (.int a) from rfl]
        have jx1 : ∀ Q, wpO (opIx (.ref i) (.int 1) st1) Q = Q (.int (b + 1)) st1 := fun Q => by
          rw [ix_l (lookL_ref e')]
          simp [show L2.atI [Va.int a, Va.int (b + 1)] 1 = some (.int (b + 1)) from rfl]
        simp [jx0, jx1]
        refine ⟨by decide, ?_⟩
        rw [mod_int (by decide)]
        simp
        rw [ix_l (l := [.int 48271, .int 10007, .int 69997, .int 30011, .int 90001, .int 20011, .int 50021]) rfl]
        have pr : ∃ p : Int, L2.atI [Va.int 48271, .int 10007, .int 69997, .int 30011, .int 90001, .int 20011, .int 50021] ((b + 1) % 7) = some (.int p) ∧ 0 < p ∧ p < 100000 := by
          have h1 := Int.emod_nonneg (b + 1) (by decide : (7 : Int) ≠ 0)
          have h2 := Int.emod_lt_of_pos (b + 1) (by decide : (0 : Int) < 7)
          generalize (b + 1) % 7 = x at h1 h2
          have : x = 0 ∨ x = 1 ∨ x = 2 ∨ x = 3 ∨ x = 4 ∨ x = 5 ∨ x = 6 := by omega
          rcases this with rfl | rfl | rfl | rfl | rfl | rfl | rfl
          · exact ⟨48271, rfl, by decide, by decide⟩
          · exact ⟨10007, rfl, by decide, by decide⟩
          · exact ⟨69997, rfl, by decide, by decide⟩
          · exact ⟨30011, rfl, by decide, by decide⟩
          · exact ⟨90001, rfl, by decide, by decide⟩
          · exact ⟨20011, rfl, by decide, by decide⟩
          · exact ⟨50021, rfl, by decide, by decide⟩
        obtain ⟨p, hp1, hp2, hp3⟩ := pr
        refine ⟨_, hp1, ?_⟩
        have i64 : ∀ x : Int, 0 ≤ x → x < 4000000000 → in64 x = true := fun x h1 h2 => by
          unfold in64; simp only [Bool.and_eq_true, decide_eq_true_eq]; omega
        simp
        rw [mul_intR (i64 p (by omega) (by omega))]
        simp
        rw [mul_intR (i64 (b + 1) (by omega) (by omega))]
        simp
        rw [mul_intR (by decide)]
        simp
        rw [mod_int (by decide)]
        simp
        generalize hu : (a * p + (b + 1) * (b + 1) * 7919) % 2147483647 = u
        have u1 : 0 ≤ u := by rw [← hu]; exact Int.emod_nonneg _ (by decide)
        have u2 : u < 2147483647 := by rw [← hu]; exact Int.emod_lt_of_pos _ (by decide)
        rw [mul_intR (i64 u u1 (by omega))]
        simp
        rw [mul_intR (by decide)]
        simp
        rw [mod_int (by decide)]
        simp
        rw [mod_int hp]
        simp
        generalize (u * u + (b + 1) * 104729) % 998244353 = z
        have h0 := Int.emod_nonneg z (by omega : m ≠ 0)
        have h1 := Int.emod_lt_of_pos z hp
        have := h (z % m).toNat st1 (by omega) g hlen ⟨_, _, e', ha, by omega, by omega⟩
        rw [Int.toNat_of_nonneg h0] at this
        exact this
theorem Src.more {i n m : Nat} (h : Src st i n) (hm : n ≤ m) : Src st i m := by
  obtain ⟨a, b, e, r1, r2, r3⟩ := h.at_
  exact ⟨a, b, e, r1, r2, by omega⟩
theorem size_w {i n : Nat} {u m : Int} (s : Src st i n) (hn : n < 900000) (hu : 1 ≤ u ∧ u < 1000) (hm : 1 ≤ m ∧ m < 1000)
    (h : ∀ (k : Nat) st', 1 ≤ k → (k : Int) ≤ max u m → GrX i st st' → st'.length = st.length → Src st' i (n + 2) → Q (.int (k : Int)) st') : wp (M__law_size G [.ref i, .int u, .int m] st) Q E := by
  unfold M__law_size
  rw [wp_body]
  simp
  refine draw_w s (by omega) (by decide) fun k st1 h1 h2 h3 h4 => ?_
  simp
  by_cases c : (k : Int) = 7
  · simp [c]
    refine draw_w h4 (by omega) (by omega) fun j st2 j1 j2 j3 j4 => ?_
    simp
    have := h (j + 1) st2 (by omega) (by omega) (h2.tr j2) (by omega) j4
    rw [show ((j + 1 : Nat) : Int) = 1 + (j : Int) by omega] at this
    exact this
  · simp [c]
    refine draw_w h4 (by omega) (by omega) fun j st2 j1 j2 j3 j4 => ?_
    simp
    have := h (j + 1) st2 (by omega) (by omega) (h2.tr j2) (by omega) j4
    rw [show ((j + 1 : Nat) : Int) = 1 + (j : Int) by omega] at this
    exact this
theorem yN {lo : Int} {n : Nat} : yields (SM.getR lo n) ((List.range n).map fun (i : Nat) => Va.int (lo + (i : Int))) st := yR
def LE : Sg := DI ++ BA
/-- a word of letters and a point -/
def Wd (l : Sg) : Prop := isWd l = true ∧ SOk l
theorem let_of {k : Nat} (h : k < 40) : ∃ c, L2.atI (DI ++ BA) (k : Int) = some c ∧ (c ∈ DI ∨ c ∈ BA) := by
  obtain ⟨c, h1, h2⟩ := at_ok (l := DI ++ BA) (k := k) h
  exact ⟨c, h1, List.mem_append.mp (List.mem_of_getElem? h2)⟩
theorem po_of {k : Nat} (h : k < 6) : ∃ c, L2.atI PO (k : Int) = some c ∧ c ∈ PO := by
  obtain ⟨c, h1, h2⟩ := at_ok (l := PO) (k := k) h
  exact ⟨c, h1, List.mem_of_getElem? h2⟩
/-- a head and a point -/
def HP (l : Sg) : Prop := ∃ h p, l = h ++ [p] ∧ isHd h = true ∧ p ∈ PO
theorem po_lt {c : Nat} (h : c ∈ PO) : c < 128 := by
  revert c; decide
theorem HP.lt {l : Sg} (h : HP l) : ∀ c ∈ l, c < 128 := by
  obtain ⟨h, p, rfl, h1, h2⟩ := h
  intro c hc
  rcases List.mem_append.mp hc with hc | hc
  · exact hd_lt h1 c hc
  · rw [List.mem_singleton.mp hc]; exact po_lt h2
theorem HP.sok {l : Sg} (h : HP l) : SOk l := fun c hc => by have := h.lt c hc; omega
theorem HP.wd {l : Sg} (h : HP l) (hl : l.length ≤ 40) : isWd l = true := by
  obtain ⟨h, p, rfl, h1, h2⟩ := h
  unfold isWd
  simp at hl ⊢
  exact ⟨hl, h2, h1⟩
theorem HP.cons {l : Sg} {c : Nat} (h : HP l) (hc : c ∈ DI ∨ c ∈ BA) : HP (c :: l) := by
  obtain ⟨h, p, rfl, h1, h2⟩ := h
  refine ⟨c :: h, p, rfl, ?_, h2⟩
  unfold isHd at *
  rw [List.all_cons, h1]
  simpa using hc
theorem any_word_w {i : Nat} (s : Src st i 0) (h : ∀ l st', HP l → l.length ≤ 40 → GrX i st st' → st'.length = st.length → Q (tv l) st') : wp (M__law_any_word G [.ref i] st) Q E := by
  unfold M__law_any_word
  rw [wp_body]
  simp [l_PO, l_LE]
  refine size_w s (by decide) (by decide) (by decide) fun k st1 k0 k1 k2 k3 k4 => ?_
  simp
  refine draw_w k4 (by decide) (by decide) fun j st2 j1 j2 j3 j4 => ?_
  obtain ⟨c, c1, c2⟩ := po_of (k := j) (by omega)
  have k5 : k ≤ 40 := by omega
  have e : ((k : Int) - 1) = ((k - 1 : Nat) : Int) := by omega
  simp
  refine ⟨by decide, c, c1, ?_⟩
  rw [e]
  simp [lim62_nat (k := k - 1) (by omega)]
  refine for_of (List.range (k - 1)) (fun (k : Nat) => .int (k : Int)) (fun t sl s => ∃ l y, sl = [some (.ref i), some (tv (DI ++ BA)), some (.int ((k - 1 : Nat) : Int)), some (tv l), y] ∧ HP l ∧ l.length = t + 1 ∧ Src s i (3 + t) ∧ GrX i st s ∧ s.length = st.length) (by simp; omega) (fun _ _ _ _ => yR0) ⟨[c], none, rfl, ⟨[], c, rfl, rfl, c2⟩, rfl, j4, k2.tr j2, by omega⟩ (fun t x sl s hx hI => ?_) fun sl s hI => ?_
  · obtain ⟨l, y, rfl, l1, l2, l3, l4, l5⟩ := hI
    have ht : t < k - 1 := by simpa using (List.getElem?_eq_some_iff.mp hx).1
    simp
    refine draw_w l3 (by omega) (by decide) fun m st3 m1 m2 m3 m4 => ?_
    obtain ⟨d, d1, d2⟩ := let_of (k := m) (by omega)
    simp
    refine ⟨by decide, d, d1, ?_⟩
    exact ⟨sz (by omega), d :: l, rfl, l1.cons d2, by simp [l2], m4, l4.tr m2, by omega⟩
  · obtain ⟨l, y, rfl, l1, l2, l3, l4, l5⟩ := hI
    simp at l2
    simp
    exact h l s l1 (by omega) l4 l5
end Gk00
set_option Elab.async false
set_option linter.all false
set_option maxRecDepth 100000
set_option maxHeartbeats 4000000
namespace Gk00
open PySem SM
variable {G : Gc} {Q : KV} {E : QE} {st : Sto}
def SI : Sg := [117, 118, 119, 120, 121, 122, 85, 86, 87, 88, 89, 90, 48, 49, 50, 51, 32, 45, 44, 59, 95, 97, 98, 65, 66, 10]
theorem l_SI : (("uvwxyzUVWXYZ0123 -,;_abAB\n" : String) : Str) = T SI := by decide +kernel
theorem l_h : (("h" : String) : Str) = T [104] := by decide +kernel
theorem si_of {k : Nat} (h : k < 26) : ∃ c, L2.atI SI (k : Int) = some c ∧ c < 128 := by
  obtain ⟨c, h1, h2⟩ := at_ok (l := SI) (k := k) h
  have : ∀ c ∈ SI, c < 128 := by decide
  exact ⟨c, h1, this c (List.mem_of_getElem? h2)⟩
/-- a plain text -/
structure Pt (l : Sg) : Prop where
  lt : ∀ c ∈ l, c < 128
  len : l.length < 200
theorem Pt.sok {l : Sg} (h : Pt l) : SOk l := fun c hc => by have := h.lt c hc; omega
theorem Pt.big {l : Sg} (h : Pt l) : l.length < 1000000 := by have := h.len; omega
theorem Pt.sz {l : Sg} (h : Pt l) : l.length ≤ sizeLine := Gk00.sz (by have := h.len; omega)
theorem HP.pt {l : Sg} (h : HP l) (hl : l.length ≤ 40) : Pt l := ⟨h.lt, by omega⟩
theorem pt_of {l m : Sg} (h : Pt l) (s : ∀ c ∈ m, c ∈ l) (hl : m.length ≤ l.length) : Pt m := ⟨fun c hc => h.lt c (s c hc), by have := h.len; omega⟩
theorem spoilt_w {i : Nat} {l : Sg} (s : Src st i 0) (hp : HP l) (hl : l.length ≤ 40) (h : ∀ u st', Pt u → GrX i st st' → st'.length = st.length → Src st' i 4 → Q (tv u) st') : wp (M__law_spoilt G [.ref i, tv l] st) Q E := by
  have P := hp.pt hl
  unfold M__law_spoilt
  rw [wp_body]
  simp [l_SI, l_h]
  refine draw_w s (by decide) (by decide) fun a st1 a1 a2 a3 a4 => ?_
  simp [P.sz]
  refine draw_w a4 (by decide) (by omega) fun b st2 b1 b2 b3 b4 => ?_
  simp
  refine ⟨by decide, ?_⟩
  refine draw_w b4 (by decide) (by decide) fun k st3 c1 c2 c3 c4 => ?_
  obtain ⟨c, d1, d2⟩ := si_of (k := k) (by have : SI.length = 26 := rfl; omega)
  have g : GrX i st st3 := (a2.tr b2).tr c2
  have gl : st3.length = st.length := by omega
  have S4 : Src st3 i 4 := c4.more (by decide)
  simp
  refine ⟨by decide, c, d1, ?_⟩
  have hc1 : cut l (some ((b : Int) + 1)) none = l.drop (b + 1) := cut_from (k := b + 1)
  have cap : ∀ {n : Nat}, n ≤ 1000 → n ≤ sizeLine := fun h => sz (by omega)
  have T1 : Pt (l.take b ++ c :: l.drop b) := ⟨fun x hx => by
    simp at hx
    rcases hx with hx | rfl | hx
    · exact P.lt x (List.mem_of_mem_take hx)
    · exact d2
    · exact P.lt x (List.mem_of_mem_drop hx), by simp; omega⟩
  have T2 : Pt (l.take b ++ c :: l.drop (b + 1)) := ⟨fun x hx => by
    simp at hx
    rcases hx with hx | rfl | hx
    · exact P.lt x (List.mem_of_mem_take hx)
    · exact d2
    · exact P.lt x (List.mem_of_mem_drop hx), by simp; omega⟩
  have T3 : Pt (l.take b ++ l.drop (b + 1)) := ⟨fun x hx => by
    simp at hx
    rcases hx with hx | hx
    · exact P.lt x (List.mem_of_mem_take hx)
    · exact P.lt x (List.mem_of_mem_drop hx), by simp; omega⟩
  by_cases e1 : (a : Int) = 1
  · simp [e1, P.sz, cut_to, cut_from]
    exact ⟨cap (by omega), cap (by omega), h _ _ T1 g gl S4⟩
  simp [e1]
  by_cases e2 : (a : Int) = 2
  · simp [e2, P.sz, cut_to, cut_from]
    exact ⟨cap (by omega), cap (by omega), h _ _ T1 g gl S4⟩
  simp [e2]
  by_cases e3 : (a : Int) = 3
  · simp [e3, P.sz, cut_to, hc1, cut_from]
    exact ⟨cap (by omega), cap (by omega), h _ _ T2 g gl S4⟩
  simp [e3]
  by_cases e4 : (a : Int) = 4
  · simp [e4, P.sz, cut_to, hc1, cut_from]
    exact ⟨cap (by omega), cap (by omega), h _ _ T2 g gl S4⟩
  simp [e4]
  by_cases e5 : (a : Int) = 5
  · simp [e5, P.sz, cut_to, hc1, cut_from]
    exact ⟨cap (by omega), h _ _ T3 g gl S4⟩
  simp [e5]
  by_cases e6 : (a : Int) = 6
  · simp [e6, P.sz, cut_last]
    exact h _ _ (pt_of P (fun c hc => List.dropLast_subset l hc) (by simp)) g gl S4
  simp [e6]
  by_cases e7 : (a : Int) = 7
  · simp [e7]
    refine draw_w c4 (by decide) (by decide) fun j st4 j1 j2 j3 j4 => ?_
    simp [P.sz]
    rw [show (40 : Int) + (j : Int) - (l.length : Int) = ((40 + j - l.length : Nat) : Int) by omega, mul_str (by omega)]
    simp
    refine ⟨cap (by omega), h _ _ ⟨fun x hx => ?_, by simp; omega⟩ (g.tr j2) (by omega) j4⟩
    rcases List.mem_append.mp hx with hx | hx
    · rw [(List.mem_replicate.mp hx).2]; decide
    · exact P.lt x hx
  · simp [e7]
    exact h _ _ P g gl S4
theorem right_w {l : Sg} (P : Pt l) (h : Q (.bl (isWd l)) st) : wp (M__law_right G [tv l] st) Q E := by
  unfold M__law_right
  rw [wp_body]
  simp [l_PO, l_LE, P.sz]
  by_cases h0 : l = []
  · subst h0
    simpa [isWd] using h
  · have n1 : ¬ ((l.length : Int) < 1) := by have := List.length_pos_iff.mpr h0; omega
    simp [n1, P.sz]
    by_cases h1 : l.length ≤ 40
    · have h2 : ¬ ((40 : Int) < (l.length : Int)) := by omega
      simp [h2, P.sz, atI_last]
      refine ⟨_, List.getLast?_eq_some_getLast h0, ?_⟩
      have e : isWd l = (decide (l.getLast h0 ∈ PO) && isHd l.dropLast) := by
        unfold isWd
        rw [List.getLast?_eq_some_getLast h0]
        simp [h0, h1]
      rw [e] at h
      by_cases h3 : l.getLast h0 ∈ PO
      · simp [h3, P.sz, cut_last] at h ⊢
        refine for_of l.dropLast (fun c => tv [c]) (fun k sl s => s = st ∧ isHd (l.dropLast.take k) = true ∧ ∃ y, sl = [some (tv l), y]) (by have := P.big; simp; omega) (fun _ _ _ _ => yS) ⟨rfl, rfl, _, rfl⟩ (fun k c sl s hk hI => ?_) fun sl s hI => ?_
        · obtain ⟨rfl, i1, y, rfl⟩ := hI
          simp
          by_cases hc : c ∈ DI ∨ c ∈ BA
          · rw [if_neg (fun z => hc.elim z.1 z.2)]
            rw [List.take_add_one, hk]
            unfold isHd at *
            rw [List.all_append, i1]
            simpa using hc
          · rw [if_pos (not_or.mp hc)]
            have : isHd l.dropLast = false := by
              rw [← Bool.not_eq_true]
              intro w
              have := List.all_eq_true.mp w c (List.mem_of_getElem? hk)
              simp at this
              exact hc this
            rwa [this] at h
        · obtain ⟨rfl, i1, y, rfl⟩ := hI
          rw [List.take_length] at i1
          rw [i1] at h
          simpa using h
      · simpa [h3] using h
    · have h2 : ((40 : Int) < (l.length : Int)) := by omega
      simp [h2]
      simpa [isWd, h1] using h
theorem isi_ll : isiT.look (.ty "list") (.ty "list") = some true := by decide +kernel
theorem isi_ss : isiT.look (.ty "str") (.ty "str") = some true := by decide +kernel
theorem isi_bb : isiT.look (.ty "bool") (.ty "bool") = some true := by decide +kernel
/-- x is a list -/
theorem tag_l {x : Va} {xs : List Va} (h : lookL st x = some xs) : tagOf isiT st x = some (.ty "list") := by
  cases x with
  | fl xs => rfl
  | fz xs => rfl
  | ref i =>
    unfold lookL at h
    cases e : st[i]? with
    | none => simp [e] at h
    | some o =>
      cases o <;> simp [e] at h
      simp [tagOf, e]
  | _ => cases h
theorem same_w {x y : Va} {ls : List Sg} (hx : lookL st x = some (ls.map tv)) (hy : lookL st y = some (ls.map tv)) (ok : ∀ l ∈ ls, SOk l) (hn : ls.length < 1000000) (h : Q (.bl true) st) : wp (M__law_same_words G [x, y] st) Q E := by
  unfold M__law_same_words
  rw [wp_body]
  simp
  rw [isi_of (tag_l hx) rfl isi_ll]
  simp
  rw [len_l hx]
  simp
  rw [len_l hy]
  simp
  rw [len_l hy]
  simp [lim62_nat (k := ls.length) (by omega)]
  refine for_of (List.range ls.length) (fun (k : Nat) => .int (k : Int)) (fun k sl s => s = st ∧ ∃ z, sl = [some x, some y, z]) (by simpa using hn) (fun _ _ _ _ => yR0) ⟨rfl, _, rfl⟩ (fun k t sl s hk hI => ?_) fun sl s hI => ?_
  · obtain ⟨rfl, z, rfl⟩ := hI
    have hk' := (List.getElem?_eq_some_iff.mp hk)
    obtain ⟨hk1, hk2⟩ := hk'
    simp at hk1 hk2
    subst hk2
    obtain ⟨c, c1, c2⟩ := at_ok (l := ls.map tv) (k := k) (by simpa using hk1)
    rw [List.getElem?_map] at c2
    have e : ls[k]? = some ls[k] := by simp [hk1]
    rw [e] at c2
    cases c2
    have ixx : ∀ Q, wpO (opIx x (.int (k : Int)) s) Q = Q (tv ls[k]) s := fun Q => by rw [ix_l hx, c1]; simp
    have ixy : ∀ Q, wpO (opIx y (.int (k : Int)) s) Q = Q (tv ls[k]) s := fun Q => by rw [ix_l hy, c1]; simp
    simp [ixx]
    rw [isi_of (t := .ty "str") rfl rfl isi_ss]
    simp [ixx, ixy]
    have o := ok ls[k] (List.getElem_mem hk1)
    rw [eq_tt o o]
    simp
  · obtain ⟨rfl, z, rfl⟩ := hI
    simpa using h
/-- the law's list without doubles, by == -/
theorem in_ll {neg : Bool} {x : Va} {l : Sg} {ls : List Sg} (hx : lookL st x = some (ls.map tv)) (hl : SOk l) (ok : ∀ l ∈ ls, SOk l) : wpO (opIn neg (tv l) x st) Q = Q (.bl (neg != decide (l ∈ ls))) st := by
  have e : ((ls.map fun l => PyData.str (T l)).any fun z => PyData.eqv z (.str (T l))) = decide (l ∈ ls) := by
    rw [Bool.eq_iff_iff, List.any_eq_true]
    simp only [List.mem_map, decide_eq_true_eq]
    constructor
    · rintro ⟨d, ⟨m, hm, rfl⟩, q⟩
      rw [eqv_T, decide_eq_true_eq] at q
      exact q ▸ hm
    · intro h
      exact ⟨_, ⟨l, h, rfl⟩, by rw [eqv_T]; simp⟩
  have s1 : lookS st x = none := by
    cases x with
    | ref i =>
      unfold lookL at hx
      cases e : st[i]? with
      | none => simp [e] at hx
      | some o => cases o <;> simp [e] at hx; simp [lookS, e]
    | fl _ => rfl
    | fz _ => rfl
    | _ => cases hx
  have s2 : SM.getD st x (tv l) = none := by
    have : lookD st x = none := by
      cases x with
      | ref i =>
        unfold lookL at hx
        cases e : st[i]? with
        | none => simp [e] at hx
        | some o => cases o <;> simp [e] at hx; simp [lookD, e]
      | fl _ => rfl
      | fz _ => rfl
      | _ => cases hx
    unfold SM.getD
    rw [this]
  have q : opIn neg (tv l) x st = some (.bl (neg != decide (l ∈ ls)), st) := by
    have p1 := py_l hx
    have p2 := shaped_str hl
    have p3 := shaped_l ok
    cases x with
    | ref i => simp [opIn, s1, s2, p1, p2, p3, e]
    | fl _ => simp [opIn, s1, s2, p1, p2, p3, e]
    | fz _ => simp [opIn, s1, s2, p1, p2, p3, e]
    | _ => cases hx
  rw [q]; rfl
theorem dd_snoc : ∀ (xs a : List Sg) (x : Sg), dd a (xs ++ [x]) = if x ∈ dd a xs then dd a xs else dd a xs ++ [x]
  | [], a, x => rfl
  | y :: ys, a, x => by
    rw [List.cons_append, dd, dd_snoc ys, dd]
theorem lordered_w {x : Va} {ls : List Sg} (t : Tx ls) (hw : Wk st x ls) (h : ∀ st', Gr st st' → Q (.fl ((wordOrd ls).map tv)) st') : wp (M__law_ordered G [x] st) Q E := by
  unfold M__law_ordered
  rw [wp_body]
  simp
  have hw1 : Wk (st ++ [.lst []]) x ls := hw.gr Gr.app
  refine k_it hw1 fun get hy => ?_
  refine for_of ls tv (fun k sl s => Gr st s ∧ Wk s x ls ∧ s[st.length]? = some (.lst ((dd [] (ls.take k)).map tv)) ∧ ∃ y, sl = [some x, some (.ref st.length), y]) (Nat.lt_trans t.few (by decide)) (fun k sl s hI => hy s hI.2.1) ⟨.app, hw1, at_new, _, rfl⟩ (fun k l sl s hk hI => ?_) fun sl s hI => ?_
  · obtain ⟨g, w, e, y, rfl⟩ := hI
    have hl : l ∈ ls := List.mem_of_getElem? hk
    have sub : ∀ l ∈ dd [] (ls.take k), l ∈ ls := fun l hl => by
      rw [dd_mem] at hl
      exact List.mem_of_mem_take (hl.resolve_left (by simp))
    have few : (dd [] (ls.take k)).length ≤ 1000 := by
      have := dd_len (ls.take k) []
      have := t.few
      simp at *
      omega
    simp
    rw [in_ll (lookL_ref e) (t.ok l hl) fun l hl => t.ok l (sub l hl)]
    have nx : ls.take (k + 1) = ls.take k ++ [l] := by rw [List.take_add_one, hk]; rfl
    by_cases hm : l ∈ dd [] (ls.take k)
    · simp [hm]
      exact ⟨g, w, by rw [nx, dd_snoc, if_pos hm]; exact e⟩
    · simp [hm, isL_ref e]
      rw [app_ref e]
      have g2 := g.setNew (o := .lst ((dd [] (ls.take k)).map tv ++ [tv l])) (Nat.le_refl st.length)
      refine ⟨by rw [List.length_map]; exact sz' (by omega), ?_⟩
      simp
      refine ⟨g2, hw.gr g2, ?_⟩
      · rw [set_at e, nx, dd_snoc, if_neg hm]
        simp
  · obtain ⟨g, w, e, y, rfl⟩ := hI
    rw [List.take_length] at e
    simp
    rw [k_sortStr (lookL_ref e)]
    simp
    rw [k_sortLen (ls := srt (dd [] ls)) rfl (fun l hl => t.sz l (by rw [srt_mem, dd_mem] at hl; simpa using hl))]
    simp
    exact h s g
end Gk00
set_option Elab.async false
set_option linter.all false
set_option maxRecDepth 100000
set_option maxHeartbeats 4000000
namespace Gk00
open PySem SM
variable {G : Gc} {Q : KV} {E : QE} {st : Sto}
theorem ltail_set_w {x : Va} {ls : List Sg} (t : Tx ls) (hw : Wk st x ls) (hn : (tls ls).length < 1000) (h : ∀ st', Gr st st' → Q (.fl ((wordOrd (tls ls)).map tv)) st') : wp (M__law_tail_set G [x] st) Q E := by
  unfold M__law_tail_set
  rw [wp_body]
  simp
  have hw1 : Wk (st ++ [.lst []]) x ls := hw.gr Gr.app
  refine k_it hw1 fun get hy => ?_
  refine for_of ls tv (fun k sl s => Gr st s ∧ ∃ j y z, sl = [some x, some (.ref j), y, z] ∧ s[j]? = some (.lst ((tls (ls.take k)).map tv))) (Nat.lt_trans t.few (by decide)) (fun k sl s hI => hy s (hw.gr hI.1)) ⟨.app, _, _, _, rfl, at_new⟩ (fun k l sl s hk hI => ?_) fun sl s hI => ?_
  · obtain ⟨g, j, y, z, rfl, e⟩ := hI
    have hl : l ∈ ls := List.mem_of_getElem? hk
    have ll := t.len l hl
    have nx : ls.take (k + 1) = ls.take k ++ [l] := by rw [List.take_add_one, hk]; rfl
    have e2 : tls (ls.take (k + 1)) = tls (ls.take k) ++ (List.range l.length).map fun k => l.drop k := by
      unfold tls
      rw [nx, List.flatMap_append]
      simp
    have le : (tls (ls.take (k + 1))).length ≤ (tls ls).length := by
      have : tls ls = tls (ls.take (k + 1)) ++ tls (ls.drop (k + 1)) := by
        unfold tls
        rw [← List.flatMap_append, List.take_append_drop]
      rw [this, List.length_append]; omega
    rw [e2, List.length_append, List.length_map, List.length_range] at le
    simp [t.sz l hl, lim62_nat (k := l.length) (by omega)]
    refine l1_of (List.range l.length) (fun (k : Nat) => .int (k : Int)) (fun k => tv (l.drop k)) inj_nat yR0 (by simpa using t.len' l hl) (fun k hk => ?_) ?_
    · simp [t.sz l hl, cut_from]
    · simp
      rw [add_l (a := (tls (ls.take k)).map tv) (b := (List.range l.length).map fun k => tv (l.drop k)) (lookM_ref e) rfl]
      refine ⟨by simp; exact sz (by omega), ?_⟩
      simp
      refine ⟨g.tr .app, ?_⟩
      rw [e2, List.map_append, List.map_map]
      rfl
  · obtain ⟨g, j, y, z, rfl, e⟩ := hI
    rw [List.take_length] at e
    simp
    refine lordered_w (t.tls hn) (.inr (lookL_ref e)) fun st' g' => ?_
    simp
    exact h st' (g.tr g')
theorem isx_of {I : Isi} {c : Str} {y : Va} {u : Tg} {b : Bool} (he : I.exl.contains c = true) (hu : tgC y = some u) (h : I.look (.cl c) u = some b) : wpO (isX I c y st) Q = Q (.bl b) st := by
  have : isX I c y st = some (.bl b, st) := by
    cases y with
    | tup us => cases hu
    | _ => simp only [isX, he, if_true, hu, Option.bind_some, h, Option.map_some]
  rw [this]; rfl
theorem isx_tup {I : Isi} {c : Str} {us : List Va} {cs : List Tg} {b : Bool} (he : I.exl.contains c = true) (hu : us.mapM tgC = some cs) (h : anyI I (.cl c) cs = some b) : wpO (isX I c (.tup us) st) Q = Q (.bl b) st := by
  have : isX I c (.tup us) st = some (.bl b, st) := by
    simp only [isX, he, if_true, hu, Option.bind_some, h, Option.map_some]
  rw [this]; rfl
theorem w_exl : isiT.exl.contains "BadWord" = true := by decide +kernel
theorem w_hit : hit_BadWord.lookup ("BadWord" : Str) = some true := by decide +kernel
theorem w_fld : xfT.contains (("BadWord" : Str), ("word" : Str)) = true := by decide +kernel
theorem w_d : isiT.look (.cl "BadWord") (.cl "DialError") = some true := by decide +kernel
theorem w_v : isiT.look (.cl "BadWord") (.ty "ValueError") = some true := by decide +kernel
theorem w_n : anyI isiT (.cl "BadWord") [.cl "BadLetter", .cl "NoPlace"] = some false := by decide +kernel
def rfs (l : Sg) : Va := if isWd l = true then .non else .fl [tv l, .bl true, .bl true, .bl false]
theorem suite_w {a b : Va} {QX : QS} {X : QES} {l : Sg} (h : QX .nx [some a, some b, some (.fl [tv l, .bl true, .bl true, .bl false]), none] st) :
    wpS (handleM (.named hit_BadWord 3 (xSet 2 (fun x => mLst false ((xCons (xFld xfT "word") (xCons (xIsi isiT (mC (.cls "DialError"))) (xCons (xIsi isiT (mC (.ty "ValueError"))) (xCons (xIsi isiT (mTup (mCons (mC (.cls "BadLetter")) (mCons (mC (.cls "NoPlace")) (mNil))))) (xNil))))) x))) :: []) (bw l) [some a, some b, some .non, none] st) QX X := by
  rw [wpS_named w_hit (by simp)]
  have e1 : (("BadWord" : Str), ("word" : Str)) ∈ xfT := by simpa using w_fld
  simp [bw, e1, w_exl]
  rw [isx_of w_exl rfl w_d]
  simp
  rw [isx_of w_exl rfl w_v]
  simp
  rw [isx_tup w_exl rfl w_n]
  simp
  exact ⟨by decide, by decide, h⟩
theorem sok_words {l : Sg} (P : Pt l) : l.length < 1000000 ∧ SOk l := ⟨P.big, P.sok⟩
theorem refusal_w {k : Nat} {l : Sg} (P : Pt l) (h : ∀ st', Gr st st' → Q (rfs l) st') : wp (M__law_refusal G [.int (k : Int), tv l] st) Q E := by
  unfold M__law_refusal
  rw [wp_body]
  simp
  have yes : isWd l = true → ∀ st', Gr st st' → Q .non st' := fun w st' g => by
    have := h st' g
    unfold rfs at this
    rwa [if_pos w] at this
  have no : isWd l = false → wpS (handleM (.named hit_BadWord 3 (xSet 2 (fun x => mLst false ((xCons (xFld xfT "word") (xCons (xIsi isiT (mC (.cls "DialError"))) (xCons (xIsi isiT (mC (.ty "ValueError"))) (xCons (xIsi isiT (mTup (mCons (mC (.cls "BadLetter")) (mCons (mC (.cls "NoPlace")) (mNil))))) (xNil))))) x))) :: []) (bw l) [some (.int (k : Int)), some (tv l), some .non, none] st) (kSeq (sRet (mVar 2)) (kBody Q) (dropE E)) (dropE E) := fun w => by
    refine suite_w ?_
    simp
    have := h st .rf
    unfold rfs at this
    rwa [if_neg (by simp [w])] at this
  by_cases k0 : k = 0
  · simp [k0]
    refine heads_w P.big P.sok (fun w => ?_) fun w => ?_
    · simp; exact yes w _ .app
    · simp; have := no w; simp [k0] at this; exact this
  by_cases k1 : k = 1
  · simp [k1]
    refine tails_w P.big P.sok (fun w => ?_) fun w => ?_
    · simp; exact yes w _ .app
    · simp; have := no w; simp [k1] at this; exact this
  by_cases k2 : k = 2
  · simp [k2]
    refine first_w P.big P.sok (fun w c _ => ?_) fun w => ?_
    · simp; exact yes w _ .rf
    · simp; have := no w; simp [k2] at this; exact this
  by_cases k3 : k = 3
  · simp [k3]
    refine rest_w P.big P.sok (fun w => ?_) fun w => ?_
    · simp; exact yes w _ .rf
    · simp; have := no w; simp [k3] at this; exact this
  · have j1 : ¬ (k : Int) = 1 := by omega
    have j2 : ¬ (k : Int) = 2 := by omega
    have j3 : ¬ (k : Int) = 3 := by omega
    simp [k0, j1, j2, j3]
    refine point_w P.big P.sok (fun w c _ => ?_) fun w => ?_
    · simp; exact yes w _ .rf
    · simp; exact no w
/-- the list's refusal -/
def rfl_ (ls : List Sg) : Va := match (bads ls).head? with
  | none => .non
  | some l => .fl [tv l, .bl true, .bl true, .bl false]
theorem lrefusal_w {k : Nat} {x : Va} {ls : List Sg} (t : Tx ls) (hw : Wk st x ls) (hf : ls.length < 20) (h : ∀ st', Gr st st' → Q (rfl_ ls) st') : wp (M__law_list_refusal G [.int (k : Int), x] st) Q E := by
  unfold M__law_list_refusal
  rw [wp_body]
  simp
  have yes : bads ls = [] → ∀ st', Gr st st' → Q .non st' := fun w st' g => by
    have := h st' g
    unfold rfl_ at this
    rwa [w] at this
  have no : ∀ l, (bads ls).head? = some l → wpS (handleM (.named hit_BadWord 3 (xSet 2 (fun x => mLst false ((xCons (xFld xfT "word") (xCons (xIsi isiT (mC (.cls "DialError"))) (xCons (xIsi isiT (mC (.ty "ValueError"))) (xCons (xIsi isiT (mTup (mCons (mC (.cls "BadLetter")) (mCons (mC (.cls "NoPlace")) (mNil))))) (xNil))))) x))) :: []) (bw l) [some (.int (k : Int)), some x, some .non, none] st) (kSeq (sRet (mVar 2)) (kBody Q) (dropE E)) (dropE E) := fun l w => by
    refine suite_w ?_
    simp
    have := h st .rf
    unfold rfl_ at this
    rwa [w] at this
  by_cases k0 : k = 0
  · simp [k0]
    refine in_order_w t hw (fun w => ?_) fun l w => ?_
    · simp; exact yes w _ .app
    · simp; have := no l w; simp [k0] at this; exact this
  by_cases k1 : k = 1
  · simp [k1]
    refine tail_set_w t hw hf (fun w st' g _ => ?_) fun l w => ?_
    · simp; exact yes w _ (g.tr .app)
    · simp; have := no l w; simp [k1] at this; exact this
  by_cases k2 : k = 2
  · simp [k2]
    refine dials_of_w t hw hf (fun w => ?_) fun l w => ?_
    · simp; exact yes w _ .app
    · simp; have := no l w; simp [k2] at this; exact this
  · have j1 : ¬ (k : Int) = 1 := by omega
    have j2 : ¬ (k : Int) = 2 := by omega
    simp [k0, j1, j2]
    refine points_of_w t hw (fun w => ?_) fun l w => ?_
    · simp; exact yes w _ .app
    · simp; exact no l w
end Gk00
set_option Elab.async false
set_option linter.all false
set_option maxRecDepth 100000
set_option maxHeartbeats 4000000
namespace Gk00
open PySem SM
variable {G : Gc} {Q : KV} {E : QE} {st : Sto}
def hds (l : Sg) : List Sg := (List.range l.length).map fun k => l.take k
def tlz (l : Sg) : List Sg := (List.range l.length).map fun k => l.drop k
theorem hds_map {l : Sg} : ((List.range l.length).map fun k => tv (l.take k)) = (hds l).map tv := by unfold hds; rw [List.map_map]; rfl
theorem tlz_map {l : Sg} : ((List.range l.length).map fun k => tv (l.drop k)) = (tlz l).map tv := by unfold tlz; rw [List.map_map]; rfl
theorem hds_sok {l : Sg} (h : SOk l) : ∀ m ∈ hds l, SOk m := fun m hm => by
  obtain ⟨k, _, rfl⟩ := List.mem_map.mp hm
  exact fun c hc => h c (List.mem_of_mem_take hc)
theorem tlz_sok {l : Sg} (h : SOk l) : ∀ m ∈ tlz l, SOk m := fun m hm => by
  obtain ⟨k, _, rfl⟩ := List.mem_map.mp hm
  exact fun c hc => h c (List.mem_of_mem_drop hc)
theorem hds_len {l : Sg} : (hds l).length = l.length := by simp [hds]
theorem tlz_len {l : Sg} : (tlz l).length = l.length := by simp [tlz]
theorem l_x : (("x" : String) : Str) = T [120] := by decide +kernel
theorem word_holds_w {l : Sg} (P : Pt l) (w : isWd l = true) (h : ∀ st', Gr st st' → Q (.bl true) st') : wp (M__law_word_holds G [tv l] st) Q E := by
  have o := P.sok
  have b := P.big
  have l40 := wd_len w
  have due : ∀ {j : Nat} {sl : Slo} {s : Sto}, True := fun {_ _ _} => trivial
  unfold M__law_word_holds
  rw [wp_body]
  simp [l_x, P.sz, lim62_nat (k := l.length) (by omega)]
  refine l1_of (List.range l.length) (fun (k : Nat) => .int (k : Int)) (fun k => tv (l.take k)) inj_nat yR0 (by simpa using b) (fun k hk => ?_) ?_
  · simp [P.sz, cut_to]
  rw [hds_map]
  simp [P.sz, lim62_nat (k := l.length) (by omega)]
  refine l1_of (List.range l.length) (fun (k : Nat) => .int (k : Int)) (fun k => tv (l.drop k)) inj_nat yR0 (by simpa using b) (fun k hk => ?_) ?_
  · simp [P.sz, cut_from]
  rw [tlz_map]
  simp
  refine heads_w b o (fun _ => ?_) fun w' => by simp [w] at w'
  rw [hds_map]
  simp
  refine tails_w b o (fun _ => ?_) fun w' => by simp [w] at w'
  rw [tlz_map]
  simp
  generalize hs2 : st ++ [Ob.lst ((hds l).map tv), .lst ((tlz l).map tv)] = s2
  have e1 : s2[st.length]? = some (.lst ((hds l).map tv)) := by rw [← hs2]; simp
  have e2 : s2[st.length + 1]? = some (.lst ((tlz l).map tv)) := by rw [← hs2]; simp
  have g2 : Gr st s2 := by rw [← hs2]; exact .app
  refine same_w (ls := hds l) (lookL_ref e1) rfl (hds_sok o) (by rw [hds_len]; exact b) ?_
  simp
  refine same_w (ls := tlz l) (lookL_ref e2) rfl (tlz_sok o) (by rw [tlz_len]; exact b) ?_
  simp [P.sz, lim62_nat (k := l.length) (by omega)]
  refine for_of (List.range l.length) (fun (k : Nat) => .int (k : Int)) (fun k sl s => s = s2 ∧ ∃ y, sl = [some (tv l), some (.fl ((hds l).map tv)), some (.fl ((tlz l).map tv)), some (.ref st.length), some (.ref (st.length + 1)), y]) (by simpa using b) (fun _ _ _ _ => yR0) ⟨rfl, _, rfl⟩ (fun k t sl s hk hI => ?_) fun sl s hI => ?_
  · obtain ⟨rfl, y, rfl⟩ := hI
    obtain ⟨hk1, hk2⟩ := List.getElem?_eq_some_iff.mp hk
    simp at hk1 hk2
    subst hk2
    have ixx : ∀ Q, wpO (opIx (.ref st.length) (.int (k : Int)) s) Q = Q (tv (l.take k)) s := fun Q => by
      rw [ix_l (lookL_ref e1), atI_nat]; simp [hds, hk1]
    have ixy : ∀ Q, wpO (opIx (.ref (st.length + 1)) (.int (k : Int)) s) Q = Q (tv (l.drop k)) s := fun Q => by
      rw [ix_l (lookL_ref e2), atI_nat]; simp [tlz, hk1]
    simp [ixx, ixy]
    refine ⟨sz (by omega), ?_⟩
    rw [eq_tt o o]
    simp [ixy, P.sz]
    exact ⟨by have := P.sz; omega, fun c => absurd (by omega) c⟩
  · obtain ⟨rfl, y, rfl⟩ := hI
    simp [isL_ref e1]
    rw [app_ref e1]
    refine ⟨by rw [List.length_map, hds_len]; exact sz' (by omega), ?_⟩
    simp
    have e2' : (s.set st.length (.lst ((hds l).map tv ++ [tv [120]])))[st.length + 1]? = some (.lst ((tlz l).map tv)) := by rw [List.getElem?_set_ne (by omega)]; exact e2
    rw [asg_ref (k := 0) (i := st.length + 1) (xs := (tlz l).map tv) e2' rfl rfl (by rw [List.length_map, tlz_len]; omega)]
    simp
    generalize hs3 : (s.set st.length (.lst ((hds l).map tv ++ [tv [120]]))).set (st.length + 1) (.lst (((tlz l).map tv).set 0 (tv [120]))) = s3
    have g3 : Gr st s3 := by rw [← hs3]; exact (g2.setNew (Nat.le_refl _)).setNew (Nat.le_succ _)
    refine heads_w b o (fun _ => ?_) fun w' => by simp [w] at w'
    rw [hds_map]
    simp
    refine same_w (ls := hds l) (lookL_ref at_new) rfl (hds_sok o) (by rw [hds_len]; exact b) ?_
    simp
    refine tails_w b o (fun _ => ?_) fun w' => by simp [w] at w'
    rw [tlz_map]
    simp
    generalize hs4 : s3 ++ [Ob.lst ((hds l).map tv), .lst ((tlz l).map tv)] = s4
    have e4 : s4[s3.length + 1]? = some (.lst ((tlz l).map tv)) := by rw [← hs4]; simp
    have g4 : Gr st s4 := g3.tr (by rw [← hs4]; exact .app)
    refine same_w (ls := tlz l) (lookL_ref e4) rfl (tlz_sok o) (by rw [tlz_len]; exact b) ?_
    simp
    have n : l ≠ [] := by intro e; simp [e] at l40
    refine first_w b o (fun _ c c1 => ?_) fun w' => by simp [w] at w'
    simp [P.sz]
    refine ⟨c, by rw [← c1]; exact atI_nat (k := 0), ?_⟩
    have oc : SOk [c] := fun d hd => by
      rw [List.mem_singleton.mp hd]; exact o c (List.mem_of_getElem? c1)
    rw [eq_tt oc oc]
    simp
    refine rest_w b o (fun _ => ?_) fun w' => by simp [w] at w'
    simp [P.sz, cut_one]
    have od : SOk (l.drop 1) := fun d hd => o d (List.mem_of_mem_drop hd)
    simp at od
    rw [eq_tt od od]
    simp
    refine point_w b o (fun _ c c1 => ?_) fun w' => by simp [w] at w'
    simp [P.sz, atI_last]
    refine ⟨c, c1, ?_⟩
    have oc : SOk [c] := fun d hd => by
      rw [List.mem_singleton.mp hd]; exact o c (List.mem_of_getLast? c1)
    rw [eq_tt oc oc]
    simp
    exact h _ g4
theorem py_rfs {l : Sg} (P : Pt l) : ∃ d, py st (rfs l) = some d ∧ SeqAt.shaped d = true ∧ PySem.W.alike d d = true := by
  unfold rfs
  split
  · exact ⟨_, rfl, rfl, rfl⟩
  · refine ⟨_, rfl, ?_, rfl⟩
    unfold SeqAt.shaped
    simp [PyData.canLay0, PyData.canLayAll0, strOk_T P.sok, PyData.depth, PyData.depthAll]
theorem py_rfl {ls : List Sg} (ok : ∀ l ∈ ls, SOk l) : ∃ d, py st (rfl_ ls) = some d ∧ SeqAt.shaped d = true ∧ PySem.W.alike d d = true := by
  unfold rfl_
  split
  · exact ⟨_, rfl, rfl, rfl⟩
  · rename_i l e
    refine ⟨_, rfl, ?_, rfl⟩
    have : SOk l := ok l (List.mem_filter.mp (List.mem_of_mem_head? e)).1
    unfold SeqAt.shaped
    simp [PyData.canLay0, PyData.canLayAll0, strOk_T this, PyData.depth, PyData.depthAll]
theorem text_holds_w {l : Sg} (P : Pt l) (h : ∀ st', Gr st st' → Q (.bl true) st') : wp (M__law_text_holds G [tv l] st) Q E := by
  unfold M__law_text_holds
  rw [wp_body]
  simp
  refine right_w P ?_
  simp
  refine is_word_w P.big P.sok ?_
  simp
  rw [isi_of (t := .ty "bool") rfl rfl isi_bb]
  simp
  have fin : ∀ v, v = rfs l → kFor (gN 4) (sIf (mTru (mBin (opEq true) (mCallF (M__law_refusal G) [] (mCons (mVar 4) (mCons (mVar 0) (mNil)))) (mVar 3))) (sRet (mC (.bl false))) (sNop)) [some (tv l), some (.bl (isWd l)), some (.bl (isWd l)), some v, none] (kSeq (sRet (mC (.bl true))) (kBody Q) (dropE E)) (dropE E) (SM.getR 0 5) st := fun v hv => by
    subst hv
    refine for_of (List.range 5) (fun (k : Nat) => .int (k : Int)) (fun k sl s => Gr st s ∧ ∃ y, sl = [some (tv l), some (.bl (isWd l)), some (.bl (isWd l)), some (rfs l), y]) (by decide) (fun _ _ _ _ => yR0) ⟨.rf, _, rfl⟩ (fun k t sl s hk hI => ?_) fun sl s hI => ?_
    · obtain ⟨g, y, rfl⟩ := hI
      simp
      refine refusal_w P fun st' g' => ?_
      obtain ⟨d, d1, d2, d3⟩ := py_rfs (st := st') P
      simp
      rw [eq_self d1 d1 d2 d3]
      simp
      exact g.tr g'
    · obtain ⟨g, y, rfl⟩ := hI
      simp
      exact h s g
  cases w : isWd l with
  | true =>
    rw [w] at fin
    simp
    exact ⟨by decide, fin _ (by unfold rfs; rw [if_pos w])⟩
  | false =>
    rw [w] at fin
    simp
    exact ⟨by decide, by decide, fin _ (by unfold rfs; rw [if_neg (by simp [w])])⟩
end Gk00
set_option Elab.async false
set_option linter.all false
set_option maxRecDepth 100000
set_option maxHeartbeats 4000000
namespace Gk00
open PySem SM
variable {G : Gc} {Q : KV} {E : QE} {st : Sto}
theorem list_l {c : Bool} {x : Va} {xs : List Va} (h : lookL st x = some xs) : wpO (bList c [x] st) Q = Q (mkL c xs st).1 (mkL c xs st).2 := by
  have : bList c [x] st = some (mkL c xs st) := by
    cases x <;> first | (cases h; done) | skip
    all_goals simp only [bList, h]
  rw [this]; rfl
theorem tuple_l {x : Va} {xs : List Va} (h : lookL st x = some xs) : wpO (bTuple [x] st) Q = Q (.tup xs) st := by
  have : bTuple [x] st = some (.tup xs, st) := by
    cases x <;> first | (cases h; done) | skip
    all_goals simp only [bTuple, h, Option.map_some]
  rw [this]; rfl
theorem srtN_one {ls : List Sg} (h : ∀ l ∈ ls, l.length = 1) : srtN ls = ls := by
  unfold srtN
  refine List.mergeSort_of_pairwise ?_
  refine List.Pairwise.imp_of_mem (R := fun _ _ => True) ?_ (List.pairwise_iff_forall_sublist.mpr fun _ => trivial)
  intro a b ha hb _
  unfold leN
  rw [h a ha, h b hb]
  rfl
theorem wordOrd_one {ls : List Sg} (h : ∀ l ∈ ls, l.length = 1) : wordOrd ls = srt (dd [] ls) := by
  unfold wordOrd
  refine srtN_one fun l hl => h l ?_
  rw [srt_mem, dd_mem] at hl
  simpa using hl
theorem dls_one {ls : List Sg} : ∀ l ∈ dls ls, l.length = 1 := fun l hl => by
  obtain ⟨w, _, hl⟩ := List.mem_flatMap.mp hl
  obtain ⟨c, _, rfl⟩ := List.mem_map.mp hl
  rfl
theorem lo_lt {c : Nat} (h : c < 128) : lo c < 128 := by
  unfold lo; split <;> omega
/-- several plain texts -/
structure Ps (ls : List Sg) : Prop where
  few : ls.length < 20
  pt : ∀ l ∈ ls, Pt l
theorem Ps.tx {ls : List Sg} (h : Ps ls) : Tx ls := ⟨by have := h.few; omega, fun l hl => by have := (h.pt l hl).len; omega, fun l hl => (h.pt l hl).sok⟩
theorem tls_len {ls : List Sg} (w : ∀ l ∈ ls, isWd l = true) (hf : ls.length < 20) : (tls ls).length < 1000 := by
  have : (tls ls).length ≤ ls.length * 40 := flat_len fun l hl => by simp; exact (wd_len (w l hl)).2
  omega
theorem dls_len {ls : List Sg} (w : ∀ l ∈ ls, isWd l = true) (hf : ls.length < 20) : (dls ls).length < 1000 := by
  have : (dls ls).length ≤ ls.length * 40 := flat_len fun l hl => by simp; have := (wd_len (w l hl)).2; omega
  omega
theorem dls_sok {ls : List Sg} (w : ∀ l ∈ ls, isWd l = true) : ∀ l ∈ dls ls, SOk l := fun l hl => by
  obtain ⟨u, hu, hl⟩ := List.mem_flatMap.mp hl
  obtain ⟨c, hc, rfl⟩ := List.mem_map.mp hl
  intro d hd
  rw [List.mem_singleton.mp hd]
  have := lo_lt (hd_lt (wd_hd (w u hu)) c hc)
  omega
theorem wordOrd_sok {ls : List Sg} (h : ∀ l ∈ ls, SOk l) : ∀ l ∈ wordOrd ls, SOk l := fun l hl => h l (wordOrd_mem.mp hl)
theorem wordOrd_len {ls : List Sg} : (wordOrd ls).length ≤ ls.length := by
  unfold wordOrd
  rw [srtN_len, srt_len]
  have := dd_len ls []
  simpa using this
theorem isi_none : True := trivial
theorem list_holds_w {i : Nat} {ls : List Sg} (p : Ps ls) (e : st[i]? = some (.lst (ls.map tv))) (h : ∀ st', Q (.bl true) st') : wp (M__law_list_holds G [.ref i] st) Q E := by
  have t := p.tx
  unfold M__law_list_holds
  rw [wp_body]
  simp [l_x]
  rw [list_l (lookL_ref e)]
  simp
  generalize hk : st.length = k
  generalize hs1 : st ++ [Ob.lst (ls.map tv)] = s1
  have e1 : s1[i]? = some (.lst (ls.map tv)) := by rw [← hs1]; exact Gr.app _ _ e
  have ek : s1[k]? = some (.lst (ls.map tv)) := by rw [← hs1, ← hk]; exact at_new
  rw [k_it_ref e1]
  refine l1_if ls tv (fun l => !isWd l) tv inj_tv (yL (lookL_ref e1)) (by have := p.few; omega) (fun l hl => ?_) (fun l hl _ => ?_) ?_
  · simp
    refine right_w (p.pt l hl) ?_
    simp
  · simp
  show kAsg 2 _ _ (mkL false ((bads ls).map tv) s1).1 _
  simp
  rw [eq_ll (a := bads ls) (b := []) rfl rfl (fun l hl => t.ok l (List.mem_filter.mp hl).1) (by simp)]
  simp
  have loop : ∀ (v : Va) (r : Slo) (QX : QS), v = rfl_ ls → (∀ y s, Gr s1 s → QX .nx (some (.ref i) :: some (.ref k) :: some (.fl ((bads ls).map tv)) :: some v :: y :: r) s) → kFor (gN 4) (sIf (mTru (mBin (opEq true) (mCallF (M__law_list_refusal G) [] (mCons (mVar 4) (mCons (mVar 0) (mNil)))) (mVar 3))) (sRet (mC (.bl false))) (sNop)) (some (.ref i) :: some (.ref k) :: some (.fl ((bads ls).map tv)) :: some v :: none :: r) QX (dropE E) (SM.getR 0 4) s1 := fun v r QX hv hq => by
    subst hv
    refine for_of (List.range 4) (fun (k : Nat) => .int (k : Int)) (fun n sl s => Gr s1 s ∧ ∃ y, sl = some (.ref i) :: some (.ref k) :: some (.fl ((bads ls).map tv)) :: some (rfl_ ls) :: y :: r) (by decide) (fun _ _ _ _ => yR0) ⟨.rf, _, rfl⟩ (fun n a sl s hk hI => ?_) fun sl s hI => ?_
    · obtain ⟨g, y, rfl⟩ := hI
      simp
      refine lrefusal_w t (.inr (lookL_ref (g _ _ e1))) p.few fun st' g' => ?_
      obtain ⟨d, d1, d2, d3⟩ := py_rfl (st := st') t.ok
      simp
      rw [eq_self d1 d1 d2 d3]
      simp
      exact g.tr g'
    · obtain ⟨g, y, rfl⟩ := hI
      exact hq y s g
  by_cases b : bads ls = []
  · simp [b]
    rw [b] at loop
    refine ⟨by decide, loop .non _ _ (by unfold rfl_; rw [b]; rfl) fun y s g => ?_⟩
    have w := wd_of b
    have ei := g _ _ e1
    have ew := g _ _ ek
    simp
    rw [eq_ll (a := []) (b := []) rfl rfl (by simp) (by simp)]
    simp
    rw [k_it_ref (Gr.app _ _ ei)]
    refine for_of ls tv (fun n sl s' => Gr s s' ∧ ∃ j u z, sl = [some (.ref i), some (.ref k), some (.fl []), some .non, y, some (.ref j), u, none, none, none, z] ∧ s'[j]? = some (.lst ((dls (ls.take n)).map tv))) (by have := p.few; omega) (fun n sl s' hI => yL (lookL_ref (hI.1 _ _ ei))) ⟨.app, _, _, _, rfl, at_new⟩ (fun n l sl s' hk hI => ?_) fun sl s3 hI => ?_
    · obtain ⟨g', j, u, z, rfl, e'⟩ := hI
      have hl : l ∈ ls := List.mem_of_getElem? hk
      have P := p.pt l hl
      have nx : ls.take (n + 1) = ls.take n ++ [l] := by rw [List.take_add_one, hk]; rfl
      have e2 : dls (ls.take (n + 1)) = dls (ls.take n) ++ l.dropLast.map fun c => [lo c] := by
        unfold dls
        rw [nx, List.flatMap_append]
        simp
      have le : (dls (ls.take (n + 1))).length ≤ (dls ls).length := by
        have : dls ls = dls (ls.take (n + 1)) ++ dls (ls.drop (n + 1)) := by
          unfold dls
          rw [← List.flatMap_append, List.take_append_drop]
        rw [this, List.length_append]; omega
      have le2 := dls_len w p.few
      rw [e2, List.length_append, List.length_map] at le
      simp [P.sz, cut_last]
      refine l1_of l.dropLast (fun c => tv [c]) (fun c => tv [lo c]) inj_ch yS (by have := P.big; rw [List.length_dropLast]; omega) (fun c hc => ?_) ?_
      · simp
        rw [low_w (hd_lt (wd_hd (w l hl)) c hc)]
        simp
      · rw [show (l.dropLast.map fun c => tv [lo c]) = (l.dropLast.map fun c => [lo c]).map tv by rw [List.map_map]; rfl]
        simp only [mkL_f, k_bin2]
        rw [add_l (a := (dls (ls.take n)).map tv) (b := (l.dropLast.map fun c => [lo c]).map tv) (lookM_ref e') rfl]
        refine ⟨by simp only [List.length_map]; exact sz (by omega), ?_⟩
        simp only [mkL_t, k_asg, k_turn_nx]
        refine ⟨g'.tr .app, s'.length, ⟨_, _, rfl⟩, ?_⟩
        rw [at_new, e2, List.map_append]
    · obtain ⟨g3, j, u, z, rfl, ej⟩ := hI
      rw [List.take_length] at ej
      have ei3 := g3 _ _ ei
      have ek3 := g3 _ _ ew
      simp
      refine in_order_w t (.inr (lookL_ref ei3)) (fun _ => ?_) (fun l hl => by simp [b] at hl)
      simp
      refine lordered_w t (.inr (lookL_ref (Gr.app _ _ ei3))) fun s4 g4 => ?_
      simp
      have e4 := g4 _ _ (at_new (st := s3))
      refine same_w (ls := wordOrd ls) (lookL_ref e4) rfl (wordOrd_sok t.ok) (by have := @wordOrd_len ls; have := p.few; omega) ?_
      simp [isL_ref e4]
      rw [app_ref e4]
      refine ⟨by rw [List.length_map]; have := @wordOrd_len ls; have := p.few; exact sz' (by omega), ?_⟩
      have g5 : Gr s3 (s4.set s3.length (.lst ((wordOrd ls).map tv ++ [tv [120]]))) := (Gr.tr .app g4).setNew (Nat.le_refl _)
      revert g5
      generalize s4.set s3.length (.lst ((wordOrd ls).map tv ++ [tv [120]])) = s5
      intro g5
      have ei5 := g5 _ _ ei3
      simp
      have tl := tls_len w p.few
      refine tail_set_w t (.inr (lookL_ref ei5)) p.few (fun _ s6 g6 _ => ?_) (fun l hl => by simp [b] at hl)
      simp
      refine ltail_set_w t (.inr (lookL_ref ((g6.tr .app) _ _ ei5))) tl fun s7 g7 => ?_
      simp
      have e7 := g7 _ _ (at_new (st := s6))
      have tlo := (t.tls tl).ok
      have tll := @wordOrd_len (tls ls)
      refine same_w (ls := wordOrd (tls ls)) (lookL_ref e7) rfl (wordOrd_sok tlo) (by omega) ?_
      simp [isL_ref e7]
      rw [app_ref e7]
      refine ⟨by rw [List.length_map]; exact sz' (by omega), ?_⟩
      have g8 : Gr s5 (s7.set s6.length (.lst ((wordOrd (tls ls)).map tv ++ [tv [120]]))) := (g6.tr (Gr.tr .app g7)).setNew (len_of_gr g6)
      revert g8
      generalize s7.set s6.length (.lst ((wordOrd (tls ls)).map tv ++ [tv [120]])) = s8
      intro g8
      have G8 := g5.tr g8
      simp
      refine dials_of_w t (.inr (lookL_ref (G8 _ _ ei3))) p.few (fun _ => ?_) (fun l hl => by simp [b] at hl)
      simp
      have td : Tx (dls ls) := ⟨dls_len w p.few, fun l hl => by rw [dls_one l hl]; decide, dls_sok w⟩
      refine lordered_w td (.inr (lookL_ref ((G8.tr .app) _ _ ej))) fun s9 g9 => ?_
      simp
      rw [wordOrd_one dls_one]
      have dl : (srt (dd [] (dls ls))).length < 1000000 := by rw [srt_len]; have := dd_len (dls ls) []; have := td.few; simp at *; omega
      refine same_w (ls := srt (dd [] (dls ls))) (lookL_ref (g9 _ _ at_new)) rfl (fun l hl => dls_sok w l (by rw [srt_mem, dd_mem] at hl; simpa using hl)) dl ?_
      have G9 := G8.tr (Gr.tr .app g9)
      simp
      refine points_of_w t (.inr (lookL_ref (G9 _ _ ei3))) (fun _ => ?_) (fun l hl => by simp [b] at hl)
      simp
      rw [k_it_ref ((G9.tr .app) _ _ ei3)]
      refine l1_of ls tv (fun l => tv (ptOf l)) inj_tv (yL (lookL_ref ((G9.tr .app) _ _ ei3))) (by have := p.few; omega) (fun l hl => ?_) ?_
      · have n : l ≠ [] := by have := (wd_len (w l hl)).1; intro e; simp [e] at this
        simp [ptOf, t.sz l hl, atI_last, List.getLast?_eq_some_getLast n]
      rw [show (ls.map fun l => tv (ptOf l)) = (ls.map ptOf).map tv by rw [List.map_map]; rfl]
      have lo1 : ∀ l ∈ (ls.map ptOf), l.length = 1 := fun l hl => by
        obtain ⟨u, _, rfl⟩ := List.mem_map.mp hl; rfl
      have lok : ∀ l ∈ (ls.map ptOf), SOk l := fun l hl => by
        obtain ⟨u, hu, rfl⟩ := List.mem_map.mp hl
        have n : u ≠ [] := by have := (wd_len (w u hu)).1; intro e; simp [e] at this
        intro d hd
        unfold ptOf at hd
        rw [List.mem_singleton.mp hd, List.getLastD_eq_getLast?, List.getLast?_eq_some_getLast n]
        exact t.ok u hu _ (List.getLast_mem n)
      have tp : Tx (ls.map ptOf) := ⟨by rw [List.length_map]; exact t.few, fun l hl => by rw [lo1 l hl]; decide, lok⟩
      simp only [mkL_t, k_cons1, wp_nil, k_cons2, k_callF, List.append_nil]
      refine lordered_w tp (.inr (lookL_ref at_new)) fun s10 g10' => ?_
      have g10 := Gr.tr .app g10'
      simp only [k_cons2, wp_nil, k_callF, List.append_nil, k_cons1]
      rw [wordOrd_one lo1]
      have pl : (srt (dd [] (ls.map ptOf))).length < 1000000 := by rw [srt_len]; have := dd_len (ls.map ptOf) []; have := tp.few; simp at *; omega
      refine same_w (ls := srt (dd [] (ls.map ptOf))) (lookL_ref (g10 _ _ at_new)) rfl (fun l hl => lok l (by rw [srt_mem, dd_mem] at hl; simpa using hl)) pl ?_
      have G10 := G9.tr (Gr.tr .app g10)
      simp
      refine in_order_w t (.inr (lookL_ref (G10 _ _ ei3))) (fun _ => ?_) (fun l hl => by simp [b] at hl)
      simp
      refine lordered_w t (.inr (lookL_ref ((G10.tr .app) _ _ ek3))) fun s11 g11 => ?_
      have G11 := G10.tr (Gr.tr .app g11)
      simp
      refine same_w (ls := wordOrd ls) (lookL_ref (g11 _ _ at_new)) rfl (wordOrd_sok t.ok) (by have := @wordOrd_len ls; have := p.few; omega) ?_
      simp
      rw [tuple_l (lookL_ref (G11 _ _ ei3))]
      simp
      refine in_order_w t (.inl rfl) (fun _ => ?_) (fun l hl => by simp [b] at hl)
      simp
      refine lordered_w t (.inr (lookL_ref ((G11.tr .app) _ _ ek3))) fun s12 g12 => ?_
      have G12 := G11.tr (Gr.tr .app g12)
      simp
      rw [eq_ll (a := wordOrd ls) (b := wordOrd ls) (lookL_ref (g12 _ _ at_new)) rfl (wordOrd_sok t.ok) (wordOrd_sok t.ok)]
      simp
      rw [tuple_l (lookL_ref (G12 _ _ ei3))]
      simp
      refine tail_set_w t (.inl rfl) p.few (fun _ s13 g13 _ => ?_) (fun l hl => by simp [b] at hl)
      simp
      refine ltail_set_w t (.inr (lookL_ref (((G12.tr g13).tr .app) _ _ ek3))) tl fun s14 g14 => ?_
      have G14 := G12.tr (g13.tr (Gr.tr .app g14))
      simp
      rw [eq_ll (a := wordOrd (tls ls)) (b := wordOrd (tls ls)) (lookL_ref (g14 _ _ at_new)) rfl (wordOrd_sok tlo) (wordOrd_sok tlo)]
      simp
      refine tail_set_w t (.inr (lookL_ref (G14 _ _ ei3))) p.few (fun _ s15 g15 _ => ?_) (fun l hl => by simp [b] at hl)
      simp
      refine ltail_set_w t (.inr (lookL_ref (((G14.tr g15).tr .app) _ _ ek3))) tl fun s16 g16 => ?_
      have G16 := G14.tr (g15.tr (Gr.tr .app g16))
      simp
      refine same_w (ls := wordOrd (tls ls)) (lookL_ref (g16 _ _ at_new)) rfl (wordOrd_sok tlo) (by omega) ?_
      simp
      rw [eq_ll (a := ls) (b := ls) (lookL_ref (G16 _ _ ei3)) (lookL_ref (G16 _ _ ek3)) t.ok t.ok]
      simp
      exact h _
  · obtain ⟨l, r, hb⟩ := List.exists_cons_of_ne_nil b
    simp [hb]
    rw [hb] at loop
    rw [ix_l (l := (l :: r).map tv) rfl]
    simp
    refine ⟨tv l, atI_nat (k := 0), ?_⟩
    refine ⟨by decide, by decide, loop _ _ _ (by unfold rfl_; rw [hb]; rfl) fun y s g => ?_⟩
    simp
    have lb : ∀ m ∈ l :: r, SOk m := fun m hm => t.ok m (List.mem_filter.mp (by rw [← hb] at hm; exact hm)).1
    rw [eq_ll (x := .fl (tv l :: r.map tv)) (a := l :: r) (b := []) rfl rfl lb (by simp)]
    simp
    rw [eq_ll (a := ls) (b := ls) (lookL_ref (g _ _ e1)) (lookL_ref (g _ _ ek)) t.ok t.ok]
    simp
    exact h _
end Gk00
set_option Elab.async false
set_option linter.all false
set_option maxRecDepth 100000
set_option maxHeartbeats 4000000
namespace Gk00
open PySem SM
variable {G : Gc} {Q : KV} {E : QE} {st : Sto}
def ES : List Str := ["BadWord", "BadLetter", "BadFact", "MixedFact", "BadSteps", "BadPlace", "BadTable", "BrokenFact", "NotGrounded", "NoPlace", "NoTable", "NotPaired", "NoPairs", "Unlike", "NotMade", "BadEntry", "Clash", "BadGroups", "NotRanked", "NotKept", "BadStand", "BadSign", "BadSaying", "NotPlain", "NotOpen", "Refused", "NothingTold", "OverRoom", "BadLine", "TooLarge"]
theorem look_0 : (ES.all fun d => decide (isiT.look (.cl "BadWord") (.cl d) = some (decide (("BadWord" : Str) = d)))) = true := by decide +kernel
theorem look_1 : (ES.all fun d => decide (isiT.look (.cl "BadLetter") (.cl d) = some (decide (("BadLetter" : Str) = d)))) = true := by decide +kernel
theorem look_2 : (ES.all fun d => decide (isiT.look (.cl "BadFact") (.cl d) = some (decide (("BadFact" : Str) = d)))) = true := by decide +kernel
theorem look_3 : (ES.all fun d => decide (isiT.look (.cl "MixedFact") (.cl d) = some (decide (("MixedFact" : Str) = d)))) = true := by decide +kernel
theorem look_4 : (ES.all fun d => decide (isiT.look (.cl "BadSteps") (.cl d) = some (decide (("BadSteps" : Str) = d)))) = true := by decide +kernel
theorem look_5 : (ES.all fun d => decide (isiT.look (.cl "BadPlace") (.cl d) = some (decide (("BadPlace" : Str) = d)))) = true := by decide +kernel
theorem look_6 : (ES.all fun d => decide (isiT.look (.cl "BadTable") (.cl d) = some (decide (("BadTable" : Str) = d)))) = true := by decide +kernel
theorem look_7 : (ES.all fun d => decide (isiT.look (.cl "BrokenFact") (.cl d) = some (decide (("BrokenFact" : Str) = d)))) = true := by decide +kernel
theorem look_8 : (ES.all fun d => decide (isiT.look (.cl "NotGrounded") (.cl d) = some (decide (("NotGrounded" : Str) = d)))) = true := by decide +kernel
theorem look_9 : (ES.all fun d => decide (isiT.look (.cl "NoPlace") (.cl d) = some (decide (("NoPlace" : Str) = d)))) = true := by decide +kernel
theorem look_10 : (ES.all fun d => decide (isiT.look (.cl "NoTable") (.cl d) = some (decide (("NoTable" : Str) = d)))) = true := by decide +kernel
theorem look_11 : (ES.all fun d => decide (isiT.look (.cl "NotPaired") (.cl d) = some (decide (("NotPaired" : Str) = d)))) = true := by decide +kernel
theorem look_12 : (ES.all fun d => decide (isiT.look (.cl "NoPairs") (.cl d) = some (decide (("NoPairs" : Str) = d)))) = true := by decide +kernel
theorem look_13 : (ES.all fun d => decide (isiT.look (.cl "Unlike") (.cl d) = some (decide (("Unlike" : Str) = d)))) = true := by decide +kernel
theorem look_14 : (ES.all fun d => decide (isiT.look (.cl "NotMade") (.cl d) = some (decide (("NotMade" : Str) = d)))) = true := by decide +kernel
theorem look_15 : (ES.all fun d => decide (isiT.look (.cl "BadEntry") (.cl d) = some (decide (("BadEntry" : Str) = d)))) = true := by decide +kernel
theorem look_16 : (ES.all fun d => decide (isiT.look (.cl "Clash") (.cl d) = some (decide (("Clash" : Str) = d)))) = true := by decide +kernel
theorem look_17 : (ES.all fun d => decide (isiT.look (.cl "BadGroups") (.cl d) = some (decide (("BadGroups" : Str) = d)))) = true := by decide +kernel
theorem look_18 : (ES.all fun d => decide (isiT.look (.cl "NotRanked") (.cl d) = some (decide (("NotRanked" : Str) = d)))) = true := by decide +kernel
theorem look_19 : (ES.all fun d => decide (isiT.look (.cl "NotKept") (.cl d) = some (decide (("NotKept" : Str) = d)))) = true := by decide +kernel
theorem look_20 : (ES.all fun d => decide (isiT.look (.cl "BadStand") (.cl d) = some (decide (("BadStand" : Str) = d)))) = true := by decide +kernel
theorem look_21 : (ES.all fun d => decide (isiT.look (.cl "BadSign") (.cl d) = some (decide (("BadSign" : Str) = d)))) = true := by decide +kernel
theorem look_22 : (ES.all fun d => decide (isiT.look (.cl "BadSaying") (.cl d) = some (decide (("BadSaying" : Str) = d)))) = true := by decide +kernel
theorem look_23 : (ES.all fun d => decide (isiT.look (.cl "NotPlain") (.cl d) = some (decide (("NotPlain" : Str) = d)))) = true := by decide +kernel
theorem look_24 : (ES.all fun d => decide (isiT.look (.cl "NotOpen") (.cl d) = some (decide (("NotOpen" : Str) = d)))) = true := by decide +kernel
theorem look_25 : (ES.all fun d => decide (isiT.look (.cl "Refused") (.cl d) = some (decide (("Refused" : Str) = d)))) = true := by decide +kernel
theorem look_26 : (ES.all fun d => decide (isiT.look (.cl "NothingTold") (.cl d) = some (decide (("NothingTold" : Str) = d)))) = true := by decide +kernel
theorem look_27 : (ES.all fun d => decide (isiT.look (.cl "OverRoom") (.cl d) = some (decide (("OverRoom" : Str) = d)))) = true := by decide +kernel
theorem look_28 : (ES.all fun d => decide (isiT.look (.cl "BadLine") (.cl d) = some (decide (("BadLine" : Str) = d)))) = true := by decide +kernel
theorem look_29 : (ES.all fun d => decide (isiT.look (.cl "TooLarge") (.cl d) = some (decide (("TooLarge" : Str) = d)))) = true := by decide +kernel
theorem look_c {c : Str} (h : c ∈ ES) : (ES.all fun d => decide (isiT.look (.cl c) (.cl d) = some (decide (c = d)))) = true := by
  simp only [ES, List.mem_cons, List.mem_nil_iff, or_false] at h
  rcases h with rfl | rfl | rfl | rfl | rfl | rfl | rfl | rfl | rfl | rfl | rfl | rfl | rfl | rfl | rfl | rfl | rfl | rfl | rfl | rfl | rfl | rfl | rfl | rfl | rfl | rfl | rfl | rfl | rfl | rfl
  · exact look_0
  · exact look_1
  · exact look_2
  · exact look_3
  · exact look_4
  · exact look_5
  · exact look_6
  · exact look_7
  · exact look_8
  · exact look_9
  · exact look_10
  · exact look_11
  · exact look_12
  · exact look_13
  · exact look_14
  · exact look_15
  · exact look_16
  · exact look_17
  · exact look_18
  · exact look_19
  · exact look_20
  · exact look_21
  · exact look_22
  · exact look_23
  · exact look_24
  · exact look_25
  · exact look_26
  · exact look_27
  · exact look_28
  · exact look_29
theorem look_d : (ES.all fun c => decide (isiT.exl.contains c = true) && decide (isiT.look (.cl c) (.cl "DialError") = some true) && decide (isiT.look (.cl c) (.ty "ValueError") = some true)) = true := by decide +kernel
theorem tag_e {c : Str} {fs : List (Str × Va)} (h : c ∈ ES) : tagOf isiT st (.exo c fs) = some (.cl c) := by
  have := List.all_eq_true.mp look_d c h
  simp only [Bool.and_eq_true, decide_eq_true_eq] at this
  unfold tagOf
  simp only [this.1.1, if_true]
theorem isi_c {c d : Str} {fs : List (Str × Va)} (h : c ∈ ES) (hd : d ∈ ES) : wpO (bIsi isiT [.exo c fs, .cls d] st) Q = Q (.bl (decide (c = d))) st := by
  have := List.all_eq_true.mp (look_c h) d hd
  exact isi_of (tag_e h) rfl (of_decide_eq_true this)
theorem isi_dial {c : Str} {fs : List (Str × Va)} (h : c ∈ ES) : wpO (bIsi isiT [.exo c fs, .cls "DialError"] st) Q = Q (.bl true) st := by
  have := List.all_eq_true.mp look_d c h
  simp only [Bool.and_eq_true, decide_eq_true_eq] at this
  exact isi_of (tag_e h) rfl this.1.2
theorem isi_val {c : Str} {fs : List (Str × Va)} (h : c ∈ ES) : wpO (bIsi isiT [.exo c fs, .ty "ValueError"] st) Q = Q (.bl true) st := by
  have := List.all_eq_true.mp look_d c h
  simp only [Bool.and_eq_true, decide_eq_true_eq] at this
  exact isi_of (tag_e h) rfl this.2
theorem add_fl {a b : List Va} : wpO (opAdd false (.fl a) (.fl b) st) Q = (a.length + b.length ≤ sizeLine ∧ Q (.fl (a ++ b)) st) := by rw [add_l (a := a) (b := b) rfl rfl]; rfl
theorem zL : sizeLine = 16777216 := rfl
theorem m0 : ("BadWord" : Str) ∈ ES := by decide +kernel
theorem m1 : ("BadLetter" : Str) ∈ ES := by decide +kernel
theorem m2 : ("BadFact" : Str) ∈ ES := by decide +kernel
theorem m3 : ("MixedFact" : Str) ∈ ES := by decide +kernel
theorem m4 : ("BadSteps" : Str) ∈ ES := by decide +kernel
theorem m5 : ("BadPlace" : Str) ∈ ES := by decide +kernel
theorem m6 : ("BadTable" : Str) ∈ ES := by decide +kernel
theorem m7 : ("BrokenFact" : Str) ∈ ES := by decide +kernel
theorem m8 : ("NotGrounded" : Str) ∈ ES := by decide +kernel
theorem m9 : ("NoPlace" : Str) ∈ ES := by decide +kernel
theorem m10 : ("NoTable" : Str) ∈ ES := by decide +kernel
theorem m11 : ("NotPaired" : Str) ∈ ES := by decide +kernel
theorem m12 : ("NoPairs" : Str) ∈ ES := by decide +kernel
theorem m13 : ("Unlike" : Str) ∈ ES := by decide +kernel
theorem m14 : ("NotMade" : Str) ∈ ES := by decide +kernel
theorem m15 : ("BadEntry" : Str) ∈ ES := by decide +kernel
theorem m16 : ("Clash" : Str) ∈ ES := by decide +kernel
theorem m17 : ("BadGroups" : Str) ∈ ES := by decide +kernel
theorem m18 : ("NotRanked" : Str) ∈ ES := by decide +kernel
theorem m19 : ("NotKept" : Str) ∈ ES := by decide +kernel
theorem m20 : ("BadStand" : Str) ∈ ES := by decide +kernel
theorem m21 : ("BadSign" : Str) ∈ ES := by decide +kernel
theorem m22 : ("BadSaying" : Str) ∈ ES := by decide +kernel
theorem m23 : ("NotPlain" : Str) ∈ ES := by decide +kernel
theorem m24 : ("NotOpen" : Str) ∈ ES := by decide +kernel
theorem m25 : ("Refused" : Str) ∈ ES := by decide +kernel
theorem m26 : ("NothingTold" : Str) ∈ ES := by decide +kernel
theorem m27 : ("OverRoom" : Str) ∈ ES := by decide +kernel
theorem m28 : ("BadLine" : Str) ∈ ES := by decide +kernel
theorem m29 : ("TooLarge" : Str) ∈ ES := by decide +kernel
theorem kinds_w {c : Str} {fs : List (Str × Va)} (h : c ∈ ES) (q : Q (.fl (ES.map fun d => .bl (decide (c = d)))) st) : wp (M__law_kinds G [.exo c fs] st) Q E := by
  unfold M__law_kinds
  rw [wp_body]
  simp [add_fl, zL, isi_c h m0, isi_c h m1, isi_c h m2, isi_c h m3, isi_c h m4, isi_c h m5, isi_c h m6, isi_c h m7, isi_c h m8, isi_c h m9, isi_c h m10, isi_c h m11, isi_c h m12, isi_c h m13, isi_c h m14, isi_c h m15, isi_c h m16, isi_c h m17, isi_c h m18, isi_c h m19, isi_c h m20, isi_c h m21, isi_c h m22, isi_c h m23, isi_c h m24, isi_c h m25, isi_c h m26, isi_c h m27, isi_c h m28, isi_c h m29]
  exact q
end Gk00
set_option Elab.async false
set_option linter.all false
set_option maxRecDepth 100000
set_option maxHeartbeats 4000000
namespace Gk00
open PySem PySem.W SM
variable {G : Gc} {Q : KV} {E : QE} {st : Sto} {sl : Slo} {QX : QS} {X : QES}
theorem asg_ok {i : Nat} {m : ME} {x : Va} {st' : Sto} (h : m sl st = .ok x st') (q : QX .nx (sl.set i (some x)) st') : wpS (sAsg i m sl st) QX X := by
  rw [wpS_asg, h]
  exact q
theorem bin_ok {f : Op2} {a b : ME} {x y : Va} {s1 s2 : Sto} (h1 : a sl st = .ok x s1) (h2 : b sl s1 = .ok y s2) (q : wpO (f x y s2) Q) : wp (mBin f a b sl st) Q E := by
  rw [wp_bin, h1, wp_okE, k_bin1, h2, wp_okE, k_bin2]
  exact q
def fss (l : Sg) : List (List (Str × Va)) := [[("word", tv l)], [("letter", tv l)], [("high", .str "q"), ("low", tv l)], [("high", tv l), ("low", .str "q")], [("many", .int 7)], [("stand", .int 8), ("point", tv l)], [("dial", tv l)], [("at", .int 9), ("high", .str "q"), ("low", tv l)], [("dial", tv l)], [("point", tv l)], [("letter", tv l)], [("letter", tv l)], [("letter", tv l)], [], [("points", .tup [tv l, .str "q"])], [("shown", .int 8), ("at", .int 7), ("letter", tv l)], [("other", .tup [.str "q", .int 8, .int 9]), ("one", .tup [tv l, .int 7, .int 8]), ("rule", .int 3)], [("word", tv l)], [("word", tv l)], [("rule", .int 4)], [("at", .tup [.int 7, .int 8])], [("sign", tv l)], [("label", tv l)], [("word", tv l)], [("verdict", tv l)], [("blame", .tup [tv l])], [], [("most", .int 6)], [("line", tv l)], [("what", tv l)]]
def made (l : Sg) : List Va := List.zipWith (fun c fs => .exo c fs) ES (fss l)
theorem made_at {l : Sg} {k : Nat} (h : k < 30) : ∃ c fs, (made l)[k]? = some (.exo c fs) ∧ c ∈ ES ∧ ES[k]? = some c := by
  have h1 : k < ES.length := h
  have h2 : k < (fss l).length := h
  refine ⟨ES[k], (fss l)[k], ?_, List.getElem_mem h1, List.getElem?_eq_getElem h1⟩
  unfold made
  rw [List.getElem?_zipWith]
  rw [List.getElem?_eq_getElem h1, List.getElem?_eq_getElem h2]
  rfl
theorem es_row : ((List.range 30).all fun k => decide ((ES.map fun d => decide (ES[k]? = some d)) = (List.range 30).map fun (j : Nat) => decide ((j : Int) = (k : Int)))) = true := by decide +kernel
theorem bools_py {bs : List Bool} : py st (.fl (bs.map .bl)) = some (.list (bs.map .bool)) := by
  have : (bs.map Va.bl).mapM (toPy st 11) = some (bs.map .bool) := by
    induction bs with
    | nil => rfl
    | cons b bs ih => rw [List.map_cons, List.mapM_cons, ih]; rfl
  show ((bs.map Va.bl).mapM (toPy st 11)).map PyData.list = _
  rw [this]; rfl
theorem bools_ok {bs : List Bool} : SeqAt.shaped (.list (bs.map .bool)) = true ∧ PySem.W.alike (.list (bs.map .bool)) (.list (bs.map .bool)) = true := by
  have h1 : PyData.canLayAll0 (bs.map .bool) = true := by
    induction bs with
    | nil => rfl
    | cons b bs ih => rw [List.map_cons, PyData.canLayAll0, ih]; rfl
  have h2 : PyData.depthAll (bs.map .bool) = 0 := by
    clear h1
    induction bs with
    | nil => rfl
    | cons b bs ih => rw [List.map_cons, PyData.depthAll, ih]; rfl
  have h3 : PySem.W.alikeAll (bs.map .bool) (bs.map .bool) = true := by
    clear h1 h2
    induction bs with
    | nil => rfl
    | cons b bs ih => rw [List.map_cons, PySem.W.alikeAll, ih]; rfl
  refine ⟨?_, ?_⟩
  · unfold SeqAt.shaped
    rw [PyData.canLay0, h1, PyData.depth, h2]; rfl
  · rw [PySem.W.alike, h3]
theorem errors_w {l : Sg} (P : Pt l) (h : Q (.bl true) st) : wp (M__law_errors_hold G [tv l] st) Q E := by
  unfold M__law_errors_hold
  rw [wp_body, wpS_seq]
  generalize hK : kSeq _ _ _ = K
  refine asg_ok (x := .fl ((made l).take 6)) (st' := st) (by kernel_rfl) ?_
  rw [← hK, k_seq_nx, wpS_seq]
  clear hK K
  generalize hK : kSeq _ _ _ = K
  refine asg_ok (x := .fl ((made l).take 11)) (st' := st) (by kernel_rfl) ?_
  rw [← hK, k_seq_nx, wpS_seq]
  clear hK K
  generalize hK : kSeq _ _ _ = K
  refine asg_ok (x := .fl ((made l).take 16)) (st' := st) (by kernel_rfl) ?_
  rw [← hK, k_seq_nx, wpS_seq]
  clear hK K
  generalize hK : kSeq _ _ _ = K
  refine asg_ok (x := .fl ((made l).take 21)) (st' := st) (by kernel_rfl) ?_
  rw [← hK, k_seq_nx, wpS_seq]
  clear hK K
  generalize hK : kSeq _ _ _ = K
  refine asg_ok (x := .fl ((made l).take 27)) (st' := st) (by kernel_rfl) ?_
  rw [← hK, k_seq_nx, wpS_seq]
  clear hK K
  generalize hK : kSeq _ _ _ = K
  refine asg_ok (x := .fl ((made l).take 30)) (st' := st) (by kernel_rfl) ?_
  rw [← hK, k_seq_nx, wpS_seq]
  clear hK K
  rw [show (made l).take 30 = made l from rfl]
  generalize hK : kSeq _ _ _ = K
  generalize hS : List.set _ 1 (some (Va.fl (made l))) = S
  have hS2 : S = [some (tv l), some (.fl (made l)), none, none, none, none, none, none] := by rw [← hS]; rfl
  rw [hS2]
  clear hS2 hS S
  rw [wpS_for]
  simp only [wp_iR1, wp_cons, wp_c, k_cons1, wp_nil, k_cons2, k_r1]
  refine ⟨rfl, ?_⟩
  generalize hb : sSeq _ _ = bd
  refine for_of (List.range 30) (fun (k : Nat) => .int (k : Int)) (fun n sl s => s = st ∧ ∃ y, sl = [some (tv l), some (.fl (made l)), y, none, none, none, none, none]) (by decide) (fun _ _ _ _ => yR0) ⟨rfl, _, rfl⟩ (fun k t sl s hk hI => ?_) fun sl s hI => ?_
  · obtain ⟨rfl, y, rfl⟩ := hI
    obtain ⟨hk1, hk2⟩ := List.getElem?_eq_some_iff.mp hk
    simp only [List.length_range] at hk1
    simp at hk2
    subst hk2
    obtain ⟨c, fs, h1, h2, h3⟩ := made_at (l := l) hk1
    clear hK
    generalize hm : made l = ms at h1
    have look : ∀ Q, wpO (opIx (.fl ms) (.int (k : Int)) s) Q = Q (.exo c fs) s := fun Q => by
      rw [ix_l (l := ms) rfl, atI_nat, h1]; simp
    rw [← hb]
    simp [look]
    refine kinds_w h2 ?_
    simp [show lim62 30 = true from rfl]
    generalize hQ : kBin2 (opEq true) _ _ = Q2
    generalize hel : mBin (opEq false) (mVar 6) (mVar 2) = el
    refine l1_of (List.range 30) (fun (k : Nat) => .int (k : Int)) (fun j => .bl (decide ((j : Int) = (k : Int)))) inj_nat yR0 (by decide) (fun j hj => ?_) ?_
    · rw [← hel]
      simp
    · have row := List.all_eq_true.mp es_row k (List.mem_range.mpr hk1)
      rw [decide_eq_true_eq] at row
      have e1 : (ES.map fun d => Va.bl (decide (c = d))) = ((List.range 30).map fun (j : Nat) => decide ((j : Int) = (k : Int))).map .bl := by
        rw [← row, List.map_map]
        refine List.map_congr_left fun d _ => ?_
        rw [h3]
        simp
      have e2 : ((List.range 30).map fun (j : Nat) => Va.bl (decide ((j : Int) = (k : Int)))) = ((List.range 30).map fun (j : Nat) => decide ((j : Int) = (k : Int))).map .bl := by
        rw [List.map_map]; rfl
      rw [← hQ, e1, e2]
      simp only [mkL_f, k_bin2]
      rw [eq_self bools_py bools_py bools_ok.1 bools_ok.2]
      simp [look]
      rw [isi_dial h2]
      simp [look]
      rw [isi_val h2]
      simp
  · obtain ⟨rfl, y, rfl⟩ := hI
    rw [← hK, k_seq_nx, wpS_seq]
    clear hK K
    generalize hK : kSeq _ _ _ = K
    refine asg_ok (x := .fl (List.replicate 7 (tv l))) (st' := s) (by kernel_rfl) ?_
    rw [← hK, k_seq_nx, wpS_seq]
    clear hK K
    generalize hK : kSeq _ _ _ = K
    refine asg_ok (x := .fl (List.replicate 13 (tv l))) (st' := s) (by kernel_rfl) ?_
    rw [← hK, k_seq_nx, wpS_seq]
    clear hK K
    generalize hK : kSeq _ _ _ = K
    refine asg_ok (x := .fl (List.replicate 19 (tv l))) (st' := s) (by kernel_rfl) ?_
    rw [← hK, k_seq_nx, wpS_seq]
    clear hK K
    generalize hK : kSeq _ _ _ = K
    refine asg_ok (x := .fl (List.replicate 21 (tv l))) (st' := s) (by kernel_rfl) ?_
    rw [← hK, k_seq_nx, wpS_seq]
    clear hK K
    generalize hK : kSeq _ _ _ = K
    generalize hm : Va.fl (made l) = ms
    generalize hS : List.set _ 3 (some (Va.fl (List.replicate 21 (tv l)))) = S
    have hS2 : S = [some (tv l), some ms, y, some (.fl (List.replicate 21 (tv l))), none, none, none, none] := by rw [← hS]; rfl
    rw [hS2]
    clear hS2 hS S
    simp only [wpS_if, wp_tru, wp_bin, wp_mL1, wp_iAny, wp_var, List.getElem?_cons_succ, List.getElem?_cons_zero, k_it_fl]
    refine l1_if (List.replicate 21 ()) (fun _ => tv l) (fun _ => false) (fun _ => tv l) (fun _ _ _ => rfl) (yL rfl) (by decide) (fun b hb => ?_) (fun b hb hp => (by cases hp)) ?_
    · simp only [wipe_cons, wipe_nil, List.set_cons_succ, List.set_cons_zero, wp_tru, wp_bin, wp_var, List.getElem?_cons_succ, List.getElem?_cons_zero, k_bin1, k_bin2]
      rw [eq_tt P.sok P.sok]
      simp
    · rw [show ((List.replicate 21 ()).filter fun _ => false).map (fun _ => tv l) = [] from rfl]
      simp only [mkL_f, k_bin1, wp_lst, wp_nil, k_lst, k_bin2]
      refine ⟨Nat.zero_le _, ?_⟩
      rw [eq_ll (a := []) (b := []) rfl rfl (by simp) (by simp)]
      simp only [k_tru, truOf_bl, k_if, wpS_nop]
      rw [if_neg (by simp)]
      rw [← hK, k_seq_nx, wpS_seq, ← hm]
      clear hK K hm ms
      generalize hK : kSeq _ _ _ = K
      refine asg_ok (x := .fl [.str "q", .str "q", .int 7, .int 8, .str "q", .int 9, .tup [tv l, .str "q"]]) (st' := s) (by kernel_rfl) ?_
      rw [← hK, k_seq_nx, wpS_seq]
      clear hK K
      generalize hK : kSeq _ _ _ = K
      refine asg_ok (x := .fl [.str "q", .str "q", .int 7, .int 8, .str "q", .int 9, .tup [tv l, .str "q"], .int 7, .int 8, .int 3, .tup [tv l, .int 7, .int 8], .tup [.str "q", .int 8, .int 9], .int 4]) (st' := s) (by kernel_rfl) ?_
      rw [← hK, k_seq_nx, wpS_seq]
      clear hK K
      generalize hK : kSeq _ _ _ = K
      refine asg_ok (x := .fl [.str "q", .str "q", .int 7, .int 8, .str "q", .int 9, .tup [tv l, .str "q"], .int 7, .int 8, .int 3, .tup [tv l, .int 7, .int 8], .tup [.str "q", .int 8, .int 9], .int 4]) (st' := s) (by kernel_rfl) ?_
      rw [← hK, k_seq_nx, wpS_ret, wp_andV]
      clear hK K
      generalize hK : kAndV _ _ _ _ = K
      have hq : PyData.strOk "q" = true := by decide +kernel
      have hl := strOk_T P.sok
      refine bin_ok (x := .fl [.str "q", .str "q", .int 7, .int 8, .str "q", .int 9, .tup [tv l, .str "q"], .int 7, .int 8, .int 3, .tup [tv l, .int 7, .int 8], .tup [.str "q", .int 8, .int 9], .int 4]) (y := .fl [.str "q", .str "q", .int 7, .int 8, .str "q", .int 9, .tup [tv l, .str "q"], .int 7, .int 8, .int 3, .tup [tv l, .int 7, .int 8], .tup [.str "q", .int 8, .int 9], .int 4]) (s1 := s) (s2 := s) (by kernel_rfl) (by kernel_rfl) ?_
      rw [eq_self (d := .list [.str "q", .str "q", .int 7, .int 8, .str "q", .int 9, .tuple [.str (T l), .str "q"], .int 7, .int 8, .int 3, .tuple [.str (T l), .int 7, .int 8], .tuple [.str "q", .int 8, .int 9], .int 4]) (by kernel_rfl) (by kernel_rfl) (by simp [SeqAt.shaped, PyData.canLay0, PyData.canLayAll0, hl, hq, PyData.depth, PyData.depthAll]) (by kernel_rfl)]
      rw [← hK, k_andV, if_pos (by simp), wp_andV]
      clear hK K
      generalize hK : kAndV _ _ _ _ = K
      refine bin_ok (x := .tup [.int 7, .int 8]) (y := .tup [.int 7, .int 8]) (s1 := s) (s2 := s) (by kernel_rfl) (by kernel_rfl) ?_
      rw [eq_self (d := .tuple [.int 7, .int 8]) (by kernel_rfl) (by kernel_rfl) (by kernel_rfl) (by kernel_rfl)]
      rw [← hK, k_andV, if_pos (by simp), wp_andV]
      clear hK K
      generalize hK : kAndV _ _ _ _ = K
      refine bin_ok (x := .tup [tv l]) (y := .tup [tv l]) (s1 := s) (s2 := s) (by kernel_rfl) (by kernel_rfl) ?_
      rw [eq_self (d := .tuple [.str (T l)]) (by kernel_rfl) (by kernel_rfl) (by simp [SeqAt.shaped, PyData.canLay0, PyData.canLayAll0, hl, PyData.depth, PyData.depthAll]) (by kernel_rfl)]
      rw [← hK, k_andV, if_pos (by simp)]
      clear hK K
      generalize hK : SM.kRet _ _ = K
      refine bin_ok (x := .int 6) (y := .int 6) (s1 := s) (s2 := s) (by kernel_rfl) (by kernel_rfl) ?_
      rw [eq_int, ← hK, SM.k_ret, k_body_rt]
      exact h
end Gk00
set_option Elab.async false
set_option linter.all false
set_option maxRecDepth 100000
set_option maxHeartbeats 4000000
namespace Gk00
open PySem SM
variable {G : Gc} {Q : KV} {E : QE} {st : Sto}
theorem b_exl : isiT.exl.contains "BadLetter" = true := by decide +kernel
theorem b_hit : hit_BadLetter.lookup ("BadLetter" : Str) = some true := by decide +kernel
theorem b_fld : xfT.contains (("BadLetter" : Str), ("letter" : Str)) = true := by decide +kernel
theorem b_d : isiT.look (.cl "BadLetter") (.cl "DialError") = some true := by decide +kernel
theorem b_n : anyI isiT (.cl "BadLetter") [.cl "BadWord", .cl "NoPlace"] = some false := by decide +kernel
theorem isDi_iff {l : Sg} : isDi l = true ↔ ∃ c, l = [c] ∧ c ∈ DI := by
  unfold isDi
  split
  · rename_i c; simp
  · rename_i h; simp; intro c e; exact absurd e (h c)
theorem isBa_iff {l : Sg} : isBa l = true ↔ ∃ c, l = [c] ∧ c ∈ BA := by
  unfold isBa
  split
  · rename_i c; simp
  · rename_i h; simp; intro c e; exact absurd e (h c)
theorem di_ba {c : Nat} (h : c ∈ DI) : c ∉ BA := by
  revert c; decide
theorem partner_holds_w {l : Sg} (P : Pt l) (h : Q (.bl true) st) : wp (M__law_partner_holds G [tv l] st) Q E := by
  have o := P.sok
  unfold M__law_partner_holds
  rw [wp_body]
  simp [l_DI, l_BA]
  refine partner_w (by have := P.big; omega) (fun c e hc => ?_) (fun c e hc => ?_) fun e1 e2 => ?_
  · subst e
    have oc : SOk [up c] := fun d hd => by
      rw [List.mem_singleton.mp hd]; have := di_lt hc; unfold up; split <;> omega
    simp [sz1, hc]
    rw [upp_w (di_lt hc)]
    simp
    rw [eq_tt oc oc]
    simpa using h
  · subst e
    have oc : SOk [lo c] := fun d hd => by
      rw [List.mem_singleton.mp hd]; have := lo_lt (ba_lt hc); omega
    have nd : c ∉ DI := fun z => di_ba z hc
    simp [sz1, hc, nd]
    rw [low_w (ba_lt hc)]
    simp
    rw [eq_tt oc oc]
    simpa using h
  · have f1 : (("BadLetter" : Str), ("letter" : Str)) ∈ xfT := by simpa using b_fld
    rw [atE_at, k_try, wpS_named b_hit (by simp)]
    simp [bl_, f1, b_exl]
    rw [isx_of b_exl rfl b_d]
    simp
    rw [isx_tup b_exl rfl b_n]
    simp [P.sz]
    refine ⟨by decide, by decide, ?_⟩
    have fin : ∀ sl, wpO (opEq false (.fl [tv l, .bl true, .bl false]) (.fl [tv l, .bl true, .bl false]) st) (SM.kRet sl (kBody Q)) := fun sl => by
      rw [eq_self (d := .list [.str (T l), .bool true, .bool false]) rfl rfl (by simp [SeqAt.shaped, PyData.canLay0, PyData.canLayAll0, strOk_T o, PyData.depth, PyData.depthAll]) rfl]
      simpa using h
    by_cases h1 : l.length = 1
    · obtain ⟨c, rfl⟩ := one_len h1
      have n1 : c ∉ DI := fun z => by have := isDi_iff.mpr ⟨c, rfl, z⟩; rw [e1] at this; cases this
      have n2 : c ∉ BA := fun z => by have := isBa_iff.mpr ⟨c, rfl, z⟩; rw [e2] at this; cases this
      simp [n1, n2, sz1]
      exact ⟨by decide, fin _⟩
    · have h2 : ¬ ((l.length : Int) = 1) := by omega
      simp [h2, h1, P.sz]
      exact ⟨by decide, fin _⟩
end Gk00
set_option Elab.async false
set_option linter.all false
set_option maxRecDepth 100000
set_option maxHeartbeats 4000000
namespace Gk00
open PySem SM
variable {G : Gc} {Q : KV} {E : QE} {st : Sto}
def AB : Sg := [97, 98, 99, 65, 67, 84, 116]
theorem l_AB : (("abcACTt" : String) : Str) = T AB := by decide +kernel
theorem ab_of {k : Nat} (h : k < 7) : ∃ c, L2.atI AB (k : Int) = some c ∧ (c ∈ DI ∨ c ∈ BA) := by
  obtain ⟨c, h1, h2⟩ := at_ok (l := AB) (k := k) h
  have : ∀ c ∈ AB, c ∈ DI ∨ c ∈ BA := by decide
  exact ⟨c, h1, this c (List.mem_of_getElem? h2)⟩
theorem HP.drop {l : Sg} {k : Nat} (h : HP l) (hk : k < l.length) : HP (l.drop k) := by
  obtain ⟨h, p, rfl, h1, h2⟩ := h
  simp at hk
  refine ⟨h.drop k, p, ?_, ?_, h2⟩
  · rw [List.drop_append_of_le_length (by omega)]
  · unfold isHd at *
    rw [List.all_eq_true] at *
    exact fun c hc => h1 c (List.mem_of_mem_drop hc)
theorem HP.ne {l : Sg} (h : HP l) : 0 < l.length := by
  obtain ⟨h, p, rfl, h1, h2⟩ := h
  simp
theorem _root_.SM.GrX.setNew {k j : Nat} {s : Sto} {o : Ob} (g : GrX k st s) (h : st.length ≤ j) : GrX k st (s.set j o) := fun i u n e => by
  have := lt_of_at e
  rw [List.getElem?_set_ne (by omega)]
  exact g i u n e
theorem Src.set {i j n : Nat} {s : Sto} {o : Ob} (h : Src s i n) (ne : j ≠ i) : Src (s.set j o) i n := by
  obtain ⟨a, b, e, r⟩ := h.at_
  exact ⟨a, b, by rw [List.getElem?_set_ne ne]; exact e, r⟩
/-- the list of words, at turn k -/
def LI (i j : Nat) (l u : Sg) (st : Sto) (k : Nat) (sl : Slo) (s : Sto) : Prop :=
  ∃ (ws : List Sg) (x y z : Option Va), sl = [some (.ref i), some (tv l), some (tv u), some (.ref j), x, y, z] ∧ GrX i st s ∧ Src s i (1 + 5 * k) ∧ s[j]? = some (.lst (ws.map tv)) ∧ ws.length = k + 1 ∧ ∀ w ∈ ws, HP w ∧ w.length ≤ 40
theorem LI.add {i j k n : Nat} {l u r : Sg} {s : Sto} {ws : List Sg} {x y z : Option Va} (hj : st.length ≤ j) (ri : j ≠ i) (g : GrX i st s) (S : Src s i n) (hn : n ≤ 1 + 5 * (k + 1)) (e : s[j]? = some (.lst (ws.map tv))) (wn : ws.length = k + 1) (ok : ∀ w ∈ ws, HP w ∧ w.length ≤ 40) (r1 : HP r) (r2 : r.length ≤ 40) :
    LI i j l u st (k + 1) [some (.ref i), some (tv l), some (tv u), some (.ref j), x, y, z] (s.set j (.lst (ws.map tv ++ [tv r]))) := by
  refine ⟨ws ++ [r], x, y, z, rfl, g.setNew hj, (S.more hn).set ri, by rw [set_at e]; simp, by simp [wn], fun v hv => ?_⟩
  rcases List.mem_append.mp hv with hv | hv
  · exact ok v hv
  · rw [List.mem_singleton.mp hv]; exact ⟨r1, r2⟩
theorem list_w {i : Nat} {l u : Sg} (s : Src st i 0) (hp : HP l) (hl : l.length ≤ 40) (pu : Pt u)
    (h : ∀ ws st', Ps ws → GrX i st st' → st'[st.length]? = some (.lst (ws.map tv)) → Q (.ref st.length) st') : wp (M__law_list G [.ref i, tv l, tv u] st) Q E := by
  obtain ⟨_, _, si, _⟩ := s.at_
  have hi := lt_of_at si
  have ri : st.length ≠ i := by omega
  unfold M__law_list
  rw [wp_body]
  simp [l_AB]
  refine ⟨sz1, ?_⟩
  refine draw_w (s.mono .app) (by decide) (by decide) fun m st1 m1 m2 m3 m4 => ?_
  simp [lim62_nat (k := m) (by omega)]
  have e0 : st1[st.length]? = some (.lst ([l].map tv)) := m2 _ _ (by omega) at_new
  have g0 : GrX i st st1 := (Gr.app.x).tr m2
  refine for_of (List.range m) (fun (k : Nat) => .int (k : Int)) (LI i st.length l u st) (by simp; omega) (fun _ _ _ _ => yR0) ⟨[l], _, _, _, rfl, g0, m4, e0, rfl, fun w hw => by rw [List.mem_singleton.mp hw]; exact ⟨hp, hl⟩⟩ (fun k t sl s hk hI => ?_) fun sl s hI => ?_
  · obtain ⟨ws, x, y, z, rfl, g, S, e, n, ok⟩ := hI
    have hk1 : k < m := by simpa using (List.getElem?_eq_some_iff.mp hk).1
    simp
    rw [len_l (lookL_ref e)]
    simp
    refine draw_w S (by omega) (by omega) fun a s1 a1 a2 a3 a4 => ?_
    have e1 := a2 _ _ ri e
    simp
    rw [ix_l (lookL_ref e1), atI_nat]
    have ha : a < ws.length := by omega
    have hw : ws[a] ∈ ws := List.getElem_mem ha
    obtain ⟨w1, w2⟩ := ok ws[a] hw
    have P := w1.pt w2
    refine ⟨tv ws[a], by simp [ha], ?_⟩
    generalize ws[a] = w at w1 w2 P
    simp [P.sz]
    have w3 := w1.ne
    refine draw_w a4 (by omega) (by omega) fun b s2 b1 b2 b3 b4 => ?_
    have e2 := b2 _ _ ri e1
    have hb : b < w.length := by omega
    have r1 := w1.drop hb
    have r2 : (w.drop b).length ≤ 40 := by rw [List.length_drop]; omega
    simp [P.sz, cut_from]
    refine draw_w b4 (by omega) (by decide) fun c s3 c1 c2 c3 c4 => ?_
    have e3 := c2 _ _ ri e2
    have g3 : GrX i st s3 := ((g.tr a2).tr b2).tr c2
    have wl : ws.length < 1000 := by omega
    by_cases hc : (0 : Int) < (c : Int)
    · have hc' : 0 < c := by omega
      simp [hc']
      have rz : w.length ≤ sizeLine + b := by have := P.sz; omega
      refine ⟨rz, ?_⟩
      by_cases h40 : (w.drop b).length < 40
      · rw [if_pos (by rw [List.length_drop] at h40; omega)]
        refine draw_w c4 (by omega) (by decide) fun d s4 d1 d2 d3 d4 => ?_
        have e4 := d2 _ _ ri e3
        obtain ⟨f, f1, f2⟩ := ab_of (k := d) (by omega)
        simp
        refine ⟨by decide, f, f1, ?_⟩
        refine ⟨sz (by omega), isL_ref e4, ?_⟩
        rw [app_ref e4]
        refine ⟨by rw [List.length_map]; exact sz' (by omega), ?_⟩
        simp
        exact LI.add (Nat.le_refl _) ri (g3.tr d2) d4 (by omega) e4 n ok (r1.cons f2) (by simp at h40 ⊢; omega)
      · rw [if_neg (by rw [List.length_drop] at h40; omega)]
        simp [isL_ref e3]
        rw [app_ref e3]
        refine ⟨by rw [List.length_map]; exact sz' (by omega), ?_⟩
        simp
        exact LI.add (Nat.le_refl _) ri g3 c4 (by omega) e3 n ok r1 r2
    · have hc' : c = 0 := by omega
      simp [hc', isL_ref e3]
      rw [app_ref e3]
      refine ⟨by rw [List.length_map]; exact sz' (by omega), ?_⟩
      simp
      exact LI.add (Nat.le_refl _) ri g3 c4 (by omega) e3 n ok r1 r2
  · obtain ⟨ws, x, y, z, rfl, g, S, e, n, ok⟩ := hI
    rw [List.length_range] at n S
    have pw : ∀ w ∈ ws, Pt w := fun w hw => (ok w hw).1.pt (ok w hw).2
    simp
    refine draw_w S (by omega) (by decide) fun c s1 c1 c2 c3 c4 => ?_
    have e1 := c2 _ _ ri e
    simp
    by_cases h2 : (c : Int) = 2
    · simp [h2, isL_ref e1]
      rw [len_l (lookL_ref e1)]
      simp
      refine draw_w c4 (by omega) (by omega) fun d s2 d1 d2 d3 d4 => ?_
      have e2 := d2 _ _ ri e1
      simp
      rw [ins_ref e2 (by omega)]
      refine ⟨by rw [List.length_map]; exact sz' (by omega), ?_⟩
      simp
      refine h (ws.take d ++ u :: ws.drop d) _ ⟨by simp; omega, fun v hv => ?_⟩ (((g.tr c2).tr d2).setNew (Nat.le_refl _)) (by rw [set_at e2]; simp)
      rcases List.mem_append.mp hv with hv | hv
      · exact pw v (List.mem_of_mem_take hv)
      · rcases List.mem_cons.mp hv with rfl | hv
        · exact pu
        · exact pw v (List.mem_of_mem_drop hv)
    · simp [h2]
      exact h ws s1 ⟨by omega, pw⟩ (g.tr c2) e1
end Gk00
set_option Elab.async false
set_option linter.all false
set_option maxRecDepth 100000
set_option maxHeartbeats 4000000
namespace Gk00
open PySem SM
variable {G : Gc} {Q : KV} {E : QE} {st : Sto}
def SixL : List Sg := [[49], [117], [85], [], [97, 98], [97, 65]]
theorem l_1 : (("1" : String) : Str) = T [49] := by decide +kernel
theorem l_u : (("u" : String) : Str) = T [117] := by decide +kernel
theorem l_U : (("U" : String) : Str) = T [85] := by decide +kernel
theorem l_e : (("" : String) : Str) = T [] := by decide +kernel
theorem l_ab : (("ab" : String) : Str) = T [97, 98] := by decide +kernel
theorem l_aA : (("aA" : String) : Str) = T [97, 65] := by decide +kernel
theorem six_pt : ∀ l ∈ SixL, Pt l := by
  intro l hl
  have h1 : ∀ l ∈ SixL, (∀ c ∈ l, c < 128) ∧ l.length < 200 := by decide
  exact ⟨(h1 l hl).1, (h1 l hl).2⟩
theorem tx_nil : Tx [] := ⟨by decide, by simp, by simp⟩
theorem at_new2 {st : Sto} {a b : Ob} : (st ++ [a, b])[st.length + 1]? = some b := by simp
theorem wordOrd_nil : wordOrd [] = [] := by simp [wordOrd, srt, srtN, dd]
theorem law_w (ns : List Int) : wp (M_law G [.fz (ns.map .int)] []) (fun x _ => x = .bl true) NoE := by
  have er := @errors_w G
  unfold M_law
  revert er
  generalize M__law_errors_hold G = ME
  intro er
  rw [wp_body]
  simp [l_1, l_u, l_U, l_e, l_ab, l_aA]
  refine source_w (k := 0) fun s1 a1 a2 a3 => ?_
  simp
  refine any_word_w a3 fun l s2 hp hl b1 b2 => ?_
  have P := hp.pt hl
  have w := hp.wd hl
  simp
  refine source_w (k := 1) fun s3 c1 c2 c3 => ?_
  simp
  refine spoilt_w c3 hp hl fun u s4 pu d1 d2 d3 => ?_
  simp [P.sz]
  obtain ⟨f, f1, f2⟩ := at_ok (k := 0) hp.ne
  refine ⟨f, f1, ?_⟩
  have pf : Pt [f] := pt_of P (fun c hc => by rw [List.mem_singleton.mp hc]; exact List.mem_of_getElem? f2) hp.ne
  generalize hK : kSeq _ _ _ = K
  generalize s2.length = j at *
  have tail : ∀ (v : Sg) (s : Sto), Pt v → Src s j 10 → K .nx [some (.fz (ns.map .int)), some (tv l), some (.ref j), some (tv u), some (tv v), none] s := fun v s pv S => by
    rw [← hK]
    clear hK K
    simp
    generalize hK : kSeq _ _ _ = K
    have tail : ∀ (v : Sg) (s : Sto), Pt v → K .nx [some (.fz (ns.map .int)), some (tv l), some (.ref j), some (tv u), some (tv v), none] s := fun v s pv => by
      rw [← hK]
      clear hK K S
      simp
      refine source_w (k := 2) fun t1 e1 e2 e3 => ?_
      simp
      refine list_w e3 hp hl pu fun ws t2 p g2 h2 => ?_
      generalize t1.length = r at *
      simp
      refine word_holds_w P w fun t3 g3 => ?_
      simp
      refine text_holds_w P fun t4 g4 => ?_
      simp
      refine text_holds_w pu fun t5 g5 => ?_
      have h5 := ((g3.tr g4).tr g5) _ _ h2
      simp
      refine in_order_w (ls := []) tx_nil (.inr (lookL_ref at_new)) (fun _ => ?_) (fun l hl => by simp [bads] at hl)
      simp
      rw [eq_ll (a := wordOrd []) (b := []) (lookL_ref at_new2) rfl (wordOrd_sok (by simp)) (by simp)]
      simp [wordOrd_nil]
      refine tail_set_w (ls := []) tx_nil (.inr (lookL_ref (by simp))) (by decide) (fun _ t6 g6 _ => ?_) (fun l hl => by simp [bads] at hl)
      simp
      rw [eq_ll (a := wordOrd (tls [])) (b := []) (lookL_ref at_new) rfl (wordOrd_sok (by simp [tls])) (by simp)]
      simp [tls, wordOrd_nil]
      refine list_holds_w p (Gr.app _ _ (g6 _ _ (Gr.app _ _ h5))) fun t7 => ?_
      simp
      refine partner_holds_w pv ?_
      simp
      refine er pv ?_
      simp
    refine draw_w S (by decide) (by decide) fun a t1 a1 a2 a3 a4 => ?_
    simp
    by_cases c : (a : Int) = 3
    · simp [c]
      refine ⟨by decide, ?_⟩
      refine draw_w a4 (by decide) (by decide) fun b t2 b1 b2 b3 b4 => ?_
      simp
      have hb : b < SixL.length := by have : SixL.length = 6 := rfl; omega
      rw [ix_l (l := SixL.map tv) rfl, atI_nat]
      refine ⟨tv SixL[b], by simp [hb], ?_⟩
      simp
      exact tail _ _ (six_pt _ (List.getElem_mem hb))
    · simp [c]
      exact tail _ _ pv
  refine draw_w d3 (by decide) (by decide) fun g s5 g1 g2 g3 g4 => ?_
  simp
  by_cases c : (g : Int) = 2
  · simp [c, pu.sz]
    refine draw_w g4 (by decide) (by have := pu.len; omega) fun b t2 b1 b2 b3 b4 => ?_
    simp [pu.sz, cut_from]
    exact tail _ _ (pt_of pu (fun c hc => List.mem_of_mem_drop hc) (by simp)) (b4.more (by decide))
  · simp [c]
    exact tail _ _ pf (g4.more (by decide))
theorem plain (G : Gc) (ns : List Int) (h : ns.length ≤ 63) : ∃ st, M_law G [.fz (ns.map .int)] [] = .ok (.bl true) st := by
  obtain ⟨x, st, e, rfl⟩ := wp_ok (law_w (G := G) ns)
  exact ⟨st, e⟩
end Gk00

set_option Elab.async false
set_option linter.all false
set_option maxRecDepth 100000
set_option maxHeartbeats 0
open PySem PySem.W PySem.Calls PyProof.Rows
theorem PySem.Challenge.cw_unseendials_k00_heads_and_tails_holds : PySem.Challenge.rw_unseendials_k00_heads_and_tails.Holds := by
  w_on; o_law
  refine HandSHeadRun.head_any (r := Gk00.Rw) (q := Gk00.qv) (H := Gk00.hk) (ob := Gk00.ob) (M := 30000) (loose := Gk00.names) (d := HandSHeadRun.topDef Gk00.Rw.prog 73) (kwd := []) Gk00.ob_eq
    (by kernel_rfl) (fun s => by kernel_rfl) Gk00.run (by kernel_rfl) (by kernel_rfl) (by kernel_rfl) (by rfl) (by first | assumption | decide +kernel) (by decide +kernel) ⟨rfl, rfl, rfl, rfl, rfl, by decide +kernel⟩ ?hw ?hc
  case hw => w_witness2
  case hc =>
    refine SM.law_end (l := PySem.Challenge.rw_unseendials_k00_heads_and_tails) (n := 63) (k := 7) (x := "_law_script") (M := Gk00.M_law) rfl (by decide) (by kernel_rfl) ⟨rfl, by decide, by decide⟩ (fun w mg fa h Y G hmg0 => ?_) Gk00.plain
    obtain ⟨K, KX, c⟩ := Y
    have C : Gk00.Cc K mg := ⟨⟨h, KX, G⟩, c⟩
    have hmg : mg ("law" : PySem.Str) = some (.ref fa) := by
      have e : (HandSHeadRun.topDef Gk00.Rw.prog 73).name = ("law" : PySem.Str) := by kernel_rfl
      rw [← e]
      exact hmg0
    have e := hmg.symm.trans (Gk00.glo_law C)
    cases e
    obtain ⟨fd, hb, hF⟩ := Gk00.ok_law (w := w) C
    exact ⟨K, fd, KX, hb, fun base _ _ => hF base⟩
