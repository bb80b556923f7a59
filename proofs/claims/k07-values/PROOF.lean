import PyProof.Rows.All
import Wide.All
import OpenK.AllK
import Wide.FinOn
import HandS.ForMost
import HandS.TupAny
import HandS.Flow
import HandS.Wide
import HandS.WideBits
import HandS.Text
import HandS.Iter
import HandS.IsInst
import HandS.TupLe
import HandS.FStr
import HandS.Words
import HandS.WordsExc
import HandS.WordsDict
import HandS.Rev
import HandS.Zip
import HandS.Defaults
import HandS.Head0
import HandS.Head1
import HandS.Head2
import HandS.HeadEnd
import HandS.HeadHook1
import HandS.HeadHook2
import HandS.HeadHook3
import HandS.HeadHook4
import HandS.More
import HandS.SetKeys
import HandS.Conv
import KE.KDictKeyed
import HandS.SetBool
import HandS.Zip0
import PyProof.Rows.SortShellAny
import PySem.Challenge.RW_sumwarden_k07_values_of_sums
import KE.KDictZip
import KE.KDictItemsList
import KE.GoesEnum
import HandS.RaiseMore
import PyProof.NeKinds
import HandS.TryMany
import HandS.Small
import HandS.ExcOwn
import HandS.Dict
import HandS.DictComp
set_option Elab.async false
set_option linter.all false
set_option maxRecDepth 100000
set_option maxHeartbeats 0
section
/-! The D-layer, part 1: values as trees, a small store, readings over them. -/
namespace DL
open PySem
/-- values: tuples by value; cl, cd: a list, a dict that is never written; ref: an object of the store, a class -/
inductive D where
  | non | bl (b : Bool) | int (i : Int) | str (s : Str) | tup (xs : List D) | ref (a : Addr) | ty (n : String)
  | cl (xs : List D) | cd (ks vs : List D)
inductive Cell where
  | lst (xs : List D)
  | dic (ks vs : List D)
  | set (xs : List D)
  | ins (C : Addr) (fs : List (Str × D))
abbrev Sto := Addr → Option Cell
def put (S : Sto) (a : Addr) (c : Cell) : Sto := fun b => if b = a then some c else S b
theorem put_same {S : Sto} {a : Addr} {c : Cell} : put S a c a = some c := by unfold put; rw [if_pos rfl]
theorem put_ne {S : Sto} {a b : Addr} {c : Cell} (h : b ≠ a) : put S a c b = S b := by unfold put; rw [if_neg h]
/-- less is known -/
def Le (S S' : Sto) : Prop := ∀ a c, S a = some c → S' a = some c
theorem Le.refl (S : Sto) : Le S S := fun _ _ h => h
theorem Le.trans {A B C : Sto} (h : Le A B) (h' : Le B C) : Le A C := fun a c e => h' a c (h a c e)
theorem Le.put {S S' : Sto} {p : Addr} {c : Cell} (h : Le S S') (n : S' p = none) : Le S (put S' p c) := fun a d e => by
  have e' := h a d e
  by_cases q : a = p
  · subst q; rw [n] at e'; cases e'
  · rw [put_ne q]; exact e'

abbrev Env := List (Option D)
abbrev DK := D → Sto → Prop
abbrev DTE := Env → Sto → DK → Prop
abbrev DTT := Env → Sto → (Bool → Sto → Prop) → Prop
abbrev DTA := Env → Sto → (List D → Sto → Prop) → Prop
structure DEnds where
  nx : Env → Sto → Prop
  rt : DK
  bk : Env → Sto → Prop := fun _ _ => False
  ct : Env → Sto → Prop := fun _ _ => False
abbrev DTS := DEnds → Env → Sto → Prop

/-! ### expressions -/
def dVar (i : Nat) : DTE := fun ε S Q => ∃ d, ε[i]? = some (some d) ∧ Q d S
def dC (d : D) : DTE := fun _ S Q => Q d S
def dNil : DTA := fun _ S Q => Q [] S
def dCons (t : DTE) (r : DTA) : DTA := fun ε S Q => t ε S fun x S1 => r ε S1 fun xs S2 => Q (x :: xs) S2
def dTup (t : DTA) : DTE := fun ε S Q => t ε S fun xs S1 => xs.length ≤ sizeLine ∧ Q (.tup xs) S1
def dLst (t : DTA) : DTE := fun ε S Q => t ε S fun xs S1 => xs.length ≤ sizeLine ∧ ∀ p, S1 p = none → Q (.ref p) (put S1 p (.lst xs))
abbrev DR2 := D → D → Sto → DK → Prop
def dOp (r : DR2) (a b : DTE) : DTE := fun ε S Q => a ε S fun x S1 => b ε S1 fun y S2 => r x y S2 Q
end DL
end
section
/-! The D-layer: sets of ints and texts, told by their members in some order. -/
namespace DL
open PySem PySem.Spec PyProof.Rows L2
/-- the key that a value carries -/
def keyV : Value → Option Key
  | .int i _ => some (.inl i)
  | .str x _ => some (.inr x)
  | _ => none
theorem keyV_is {v : Value} {k : Key} : keyIs k v = true ↔ keyV v = some k := by
  cases k with
  | inl i =>
    cases v with
    | int j t =>
      show (j == i) = true ↔ some (Sum.inl j : Key) = some (.inl i)
      rw [beq_iff_eq]
      exact ⟨fun e => by rw [e], fun e => Sum.inl.inj (Option.some.inj e)⟩
    | str y t => exact ⟨fun z => (nomatch (show false = true from z)), fun z => by cases z⟩
    | _ => exact ⟨fun z => (nomatch (show false = true from z)), fun z => by cases z⟩
  | inr x =>
    cases v with
    | str y t =>
      constructor
      · intro z
        obtain ⟨t', e⟩ := Value.isStrOf_shape (x := x) (v := .str y t) z
        cases e
        rfl
      · intro z
        have e : y = x := Sum.inr.inj (Option.some.inj z)
        subst e
        exact keyIs_str y t
    | int j t => exact ⟨fun z => (nomatch (show false = true from z)), fun z => by cases z⟩
    | _ => exact ⟨fun z => (nomatch (show false = true from z)), fun z => by cases z⟩
theorem keyV_scan {v : Value} {k : Key} (h : keyV v = some k) : v.scannable = true := by
  cases v <;> first | rfl | cases h
def entK (e : Int × Value) : Option Key := keyV e.2
/-- an entry that a set of keys has -/
def EntOk (w : World) (e : Int × Value) : Prop := ∃ k, entK e = some k ∧ e.1 = keyH w k
/-- among them -/
def inM (ms : List Key) (k : Key) : Bool := ms.any fun j => decide (j = k)
theorem inM_iff {ms : List Key} {k : Key} : inM ms k = true ↔ k ∈ ms := by
  unfold inM
  rw [List.any_eq_true]
  exact ⟨fun ⟨j, h, e⟩ => of_decide_eq_true e ▸ h, fun h => ⟨k, h, decide_eq_true rfl⟩⟩
structure SetI (w : World) (es : Array (Int × Value)) (t : SetTable) (ms : List Key) : Prop where
  ent : ∀ e ∈ es.toList, EntOk w e
  perm : (es.toList.filterMap entK).Perm ms
  nodup : ms.Nodup
  bd : es.size < scanBound
  fits : t.fits es.size = true
  ris : Ris t.place.toList
  led : w.params.followText "set-order" = true ∨ t.led = true
/-- at a stands a set whose members are ms, in some order -/
def SetQ (w : World) (h : Heap) (a : Addr) (ms : List Key) : Prop := ∃ o es ep t, h.get? a = some o ∧ o.ExactSet ∧ o.data = .set es ep t ∧ SetI w es t ms
theorem ent_all {w : World} {l : List (Int × Value)} (g : ∀ e ∈ l, EntOk w e) : (l.filterMap entK).length = l.length := by
  induction l with
  | nil => rfl
  | cons e l ih =>
    obtain ⟨k, hk, _⟩ := g e List.mem_cons_self
    rw [List.filterMap_cons_some hk, List.length_cons, List.length_cons, ih fun e' he' => g e' (List.mem_cons_of_mem _ he')]
theorem SetI.size {w : World} {es : Array (Int × Value)} {t : SetTable} {ms : List Key} (I : SetI w es t ms) : es.size = ms.length := by
  rw [← I.perm.length_eq, ent_all I.ent, Array.length_toList]
section
variable {P : Program} {w : World} {h h' : Heap} {a : Addr} {ms : List Key}
theorem SetQ.at (R : SetQ w h a ms) (k : ∀ o, h.get? a = some o → h'.get? a = some o) : SetQ w h' a ms := by
  obtain ⟨o, es, ep, t, ho, r⟩ := R
  exact ⟨o, es, ep, t, k o ho, r⟩
theorem ent_elems {l : List (Int × Value)} (g : ∀ e ∈ l, EntOk w e) : ElemsOf (mixKind P w) l := fun e he => by
  obtain ⟨k, h1, h2⟩ := g e he
  exact ⟨⟨k, keyV_is.mpr h1, h2⟩, keyV_scan h1⟩
theorem ent_mem {l : List (Int × Value)} (k : Key) : k ∈ l.filterMap entK ↔ ∃ e ∈ l, (mixKind P w).is k e.2 = true := by
  rw [List.mem_filterMap]
  exact ⟨fun ⟨e, he, q⟩ => ⟨e, he, keyV_is.mpr q⟩, fun ⟨e, he, q⟩ => ⟨e, he, keyV_is.mp q⟩⟩
theorem SetQ.setOf (R : SetQ w h a ms) : h.SetOf (mixKind P w) a (inM ms) ms.length := by
  obtain ⟨o, es, ep, t, ho, hx, hd, I⟩ := R
  exact ⟨o, es, ep, t, ho, hx, hd, ent_elems I.ent, fun k => by rw [inM_iff, ← I.perm.mem_iff]; exact ent_mem k, I.bd, I.fits, I.size⟩
end
/-- one more member, if it is new -/
def putM (ms : List Key) (k : Key) : List Key := if inM ms k = true then ms else ms ++ [k]
section
variable {P : Program} {w : World} {A : Around} {E : Value → Shared → Prop} {s : Shared} {a : Addr} {ms : List Key}
theorem put_at {h : Heap} {a : Addr} {o : Obj} {es es' : Array (Int × Value)} {ep : Nat} {t t' : SetTable} (ho : h.get? a = some o) (hd : o.data = .set es ep t) :
    (h.update a (Obj.putSet es' t')).get? a = some { o with data := .set es' (ep + 1) t' } := by
  have e := putSet_of es' t' hd
  have u := Heap.get?_update_self (Obj.putSet es' t') ho (by rw [e]; rfl)
  exact u.trans (congrArg some e)
theorem add_tail {g : Bool → Sem Unit} (hg : ∀ (b : Bool) (s1 : Shared) (Q' : Unit → Shared → Prop), Q' () s1 → wpAny (model P w) A (g b) Q' E s1)
    {o : Obj} {es : Array (Int × Value)} {ep : Nat} {t : SetTable} (ho : s.heap.get? a = some o) (hex : o.ExactSet) (hd : o.data = .set es ep t)
    {es1 : Array (Int × Value)} {t2 : SetTable} {ns : List Key} (I : SetI w es1 t2 ns) {wasDummy : Bool} {R : Option Bool → Shared → Prop}
    (hR : ∀ h', Heap.SameBut a s.heap h' → SetQ w h' a ns → R (some true) { s with heap := h' }) :
    wpAny (model P w) A (do
        storeSet a es1 t2
        if (!wasDummy && t2.tooFull) = true then do
            g (relayAll t2 es1 (SetTable.grown es1.size)).2.2
            storeSet a (relayAll t2 es1 (SetTable.grown es1.size)).1 (relayAll t2 es1 (SetTable.grown es1.size)).2.1
            pure (some true)
          else pure (some true)) R E s := by
  refine wpAny_bind (wpAny_storeSet_of ho hd ?_ (fits_of_scanBound I.bd))
  have o1 := put_at (es' := es1) (t' := t2) ho hd
  have b1 := Heap.SameBut.update s.heap a (Obj.putSet es1 t2)
  by_cases full : (!wasDummy && t2.tooFull) = true
  · rw [if_pos full]
    have z1 := relayAll_perm t2 es1 (SetTable.grown es1.size)
    have z2 := relayAll_fits t2 es1 (SetTable.grown es1.size)
    have z3 := relayAll_ris t2 es1 (SetTable.grown es1.size)
    have z4 := relayAll_led t2 es1 (SetTable.grown es1.size)
    revert z1 z2 z3 z4
    obtain ⟨es2, t3, gave⟩ := relayAll t2 es1 (SetTable.grown es1.size)
    intro z1 z2 z3 z4
    have hsz : es2.size = es1.size := by
      have := z1.length_eq
      rwa [Array.length_toList, Array.length_toList] at this
    have I2 : SetI w es2 t3 ns := ⟨fun e he => I.ent e (z1.mem_iff.mp he), (z1.filterMap entK).trans I.perm, I.nodup, by rw [hsz]; exact I.bd, z2, z3, I.led.imp_right fun y => by
      rw [show t3.led = t2.led from z4]; exact y⟩
    refine wpAny_bind (hg _ _ _ (wpAny_bind (wpAny_storeSet_of o1 rfl (wpAny_pure (hR _ (b1.trans (Heap.SameBut.update _ a _)) ?_)) (fits_of_scanBound I2.bd))))
    exact ⟨_, es2, _, t3, put_at (es' := es2) (t' := t3) o1 rfl, hex, rfl, I2⟩
  · rw [if_neg full]
    exact wpAny_pure (hR _ b1 ⟨_, es1, _, t2, o1, hex, rfl, I⟩)
theorem add_hashed {v : Value} {k : Key} {Q : Bool → Shared → Prop} (hkey : keyIs k v = true) (R : SetQ w s.heap a ms) (room : ms.length + 1 < scanBound)
    (hQ : ∀ b h', Heap.SameBut a s.heap h' → SetQ w h' a (putM ms k) → Q b { s with heap := h' }) : wpAny (model P w) A (setAddHashed a v (keyH w k)) Q E s := by
  obtain ⟨o, es, ep, t, ho, hex, hd, I⟩ := R
  have hkm : (mixKind P w).is k v = true := hkey
  have hsc : v.scannable = true := keyV_scan (keyV_is.mp hkey)
  have hel : ElemsOf (mixKind P w) es.toList := ent_elems I.ent
  unfold setAddHashed setAddHashedIn
  refine wpAny_holding (wpAny_bind (wpAny_setState_of ho hd I.fits ?_))
  dsimp only
  rw [byScan_of hsc I.bd hel]
  simp only [↓reduceIte]
  unfold setAddByScan
  refine wpAny_bind (wpAny_bind (wpAny_rule (wpAny_bind (wpAny_setScan_of hkm ho hd I.fits hel ?_))))
  cases hfi : es.toList.findIdx? (fun e => (mixKind P w).is k e.2) with
  | some j =>
    dsimp only
    obtain ⟨hj, pj, _⟩ := List.findIdx?_eq_some_iff_getElem.mp hfi
    have there : k ∈ ms := I.perm.mem_iff.mp ((ent_mem (P := P) (w := w) k).mpr ⟨es.toList[j], List.getElem_mem hj, pj⟩)
    refine wpAny_pure (wpAny_pure ?_)
    exact hQ false s.heap (Heap.SameBut.refl a s.heap) (by unfold putM; rw [if_pos (inM_iff.mpr there)]; exact ⟨o, es, ep, t, ho, hex, hd, I⟩)
  | none =>
    dsimp only
    have fresh : k ∉ ms := fun y => by
      obtain ⟨e, he, q⟩ := (ent_mem (P := P) (w := w) k).mp (I.perm.mem_iff.mpr y)
      have c := List.findIdx?_eq_none_iff.mp hfi e he
      rw [q] at c
      cases c
    have y1 := layNew_perm t es (keyH w k) v
    have y2 := layNew_fits t es (keyH w k) v
    have y3 := layNew_ris t es (keyH w k) v I.ris
    have y4 := layNew_led t es (keyH w k) v
    change wpAny _ _ ((match (layNew t es (keyH w k) v).2.2.2 with | true => _ | false => _) >>= _) _ _ _
    revert y1 y2 y3 y4
    obtain ⟨es1, t1, wasDummy, gave⟩ := layNew t es (keyH w k) v
    intro y1 y2 y3 y4
    dsimp only at y1 y2 y3 y4 ⊢
    rw [Array.toList_push] at y1
    have pc : es1.toList.Perm ((keyH w k, v) :: es.toList) := y1.trans (List.perm_append_singleton _ _)
    have hv : entK (keyH w k, v) = some k := keyV_is.mp hkey
    have pk : (es1.toList.filterMap entK).Perm (putM ms k) := by
      unfold putM
      rw [if_neg fun y => fresh (inM_iff.mp y)]
      refine (pc.filterMap entK).trans ?_
      rw [List.filterMap_cons_some hv]
      exact (List.Perm.cons k I.perm).trans (List.perm_append_singleton k ms).symm
    have ent1 : ∀ e ∈ es1.toList, EntOk w e := fun e he => by
      rcases List.mem_cons.mp (pc.mem_iff.mp he) with y | y
      · subst y; exact ⟨k, hv, rfl⟩
      · exact I.ent e y
    have nd1 : (putM ms k).Nodup := by
      unfold putM
      rw [if_neg fun y => fresh (inM_iff.mp y)]
      exact (List.perm_append_singleton k ms).nodup_iff.mpr (List.nodup_cons.mpr ⟨fresh, I.nodup⟩)
    have sz1 : es1.size = ms.length + 1 := by
      have := pc.length_eq
      rw [Array.length_toList, List.length_cons, Array.length_toList, I.size] at this
      exact this
    have I1 : ∀ t' : SetTable, t'.fits es1.size = true → Ris t'.place.toList → t'.led = t.led → SetI w es1 t' (putM ms k) := fun t' f r l =>
      ⟨ent1, pk, nd1, by rw [sz1]; exact room, f, r, I.led.imp_right fun y => by rw [l]; exact y⟩
    have hgw : ∀ (b : Bool) {s1 : Shared} {Q' : Unit → Shared → Prop}, Q' () s1 → wpAny (model P w) A (match b with | true => rule "set.scan.the-table-gave-way" | false => pure ()) Q' E s1 := fun b s1 Q' q => by
      cases b <;> first | exact wpAny_pure q | exact wpAny_rule q
    refine wpAny_bind (hgw _ ?_)
    split
    · refine wpAny_bind ?_
      rw [hashByValue_scannable 8 hsc]
      refine wpAny_pure (add_tail ?_ ho hex hd (I1 _ ?_ ?_ ?_) fun h' sb r => wpAny_pure (hQ true h' sb r))
      · intro b s1 Q' q; cases b <;> first | exact wpAny_pure q | exact wpAny_rule q
      · first | (split <;> first | exact y2 | exact SetTable.fits_plain_off y2) | exact y2
      · first | (split <;> exact y3) | exact y3
      · first | (split <;> exact y4) | exact y4
    · refine wpAny_bind (wpAny_pure ?_)
      simp only [↓reduceIte]
      refine add_tail ?_ ho hex hd (I1 _ y2 y3 y4) fun h' sb r => wpAny_pure (hQ true h' sb r)
      intro b s1 Q' q; cases b <;> first | exact wpAny_pure q | exact wpAny_rule q
/-- set.add -/
theorem add_call {v : Value} {k : Key} {Q : Value → Shared → Prop} (hkey : keyIs k v = true) (R : SetQ w s.heap a ms) (room : ms.length + 1 < scanBound)
    (hQ : ∀ h', Heap.SameBut a s.heap h' → SetQ w h' a (putM ms k) → Q .none { s with heap := h', toks := s.toks + 1 }) : wpAny (model P w) A (call (.builtin "set.add") [.ref a, v]) Q E s := by
  have hS := R.setOf (P := P)
  refine wpAny_call_entry F.slot_set_add hS.typeIs F.entry_set_add ?_ (F.args_set_add_2 _ _)
  unfold Builtin.«set.add» Builtin.Frozenset.oneOther
  simp only [List.isEmpty_nil, bind_assoc]
  unfold Builtin.Frozenset.addrOf setAdd
  refine wpAny_bind (wpAny_pure ?_)
  try dsimp only
  refine wpAny_bind (wpAny_pure ?_)
  try dsimp only
  refine wpAny_bind (wpAny_holding (wpAny_bind ((mixKind P w).pyHash (k := k) hkey ?_)))
  refine add_hashed (s := { s with toks := s.toks + 1 }) hkey R room fun b h' sb r => ?_
  show wpAny _ _ (ret Value.none) _ _ _
  exact wpAny_pure ⟨_, rfl, hQ h' sb r⟩
/-- a new set -/
theorem new_setQ {h : Heap} (w : World) : SetQ w (h.push { cls := .type "set", dict := none, data := .set #[] 0 (.fresh 0 0 (!w.params.followText "set-order")) }) h.objs.size [] := by
  refine ⟨_, #[], 0, _, Heap.get?_push_size _ rfl, ⟨rfl, rfl, rfl⟩, rfl, (fun e he => by simp at he), .nil, .nil, by decide, by rfl, List.Pairwise.nil, ?_⟩
  cases q : w.params.followText "set-order" with
  | true => exact .inl rfl
  | false => exact .inr rfl
end
/-- the set at a, as a thing of the layer -/
def SetO2 (w : World) (a : Addr) (ms : List Key) : HO := .ext fun h => SetQ w h a ms
theorem setO2_ok {w : World} {P : Program} {H : Hp} {h : Heap} {a : Addr} {ms : List Key} (R : SetQ w h a ms) : ObjOk P w H h a (SetO2 w a ms) := by
  have ⟨o, _, _, _, ho, _⟩ := R
  exact ⟨R, ⟨o, ho⟩, fun _ _ p k => p.at k⟩
theorem setO2_get {X : Cx} {pins : List (Addr × Obj)} {σ : L2.St} {H : Hp} {s : Shared} {a : Addr} {ms : List Key} (I : Inv X pins σ H s) (ha : H a = some (SetO2 X.w a ms)) : SetQ X.w s.heap a ms := (I.hok a _ ha).1
theorem add_inv {X : Cx} {pins : List (Addr × Obj)} {σ : L2.St} {H : Hp} {s : Shared} {E : Value → Shared → Prop} {D : Addr} {ms : List Key} {v : Value} {k : Key} {Q : Value → Shared → Prop} (hkey : keyIs k v = true) (I : Inv X pins σ H s) (hD : H D = some (SetO2 X.w D ms)) (room : ms.length + 1 < scanBound)
    (h : ∀ s', Inv X pins σ (upd H D (SetO2 X.w D (putM ms k))) s' → Q .none s') : wpAny (model X.prog X.w) X.A (call (.builtin "set.add") [.ref D, v]) Q E s := by
  refine add_call hkey (setO2_get I hD) room fun h' sb new => ?_
  have he : ∃ u, h'.get? D = some u := by
    have ⟨o, _, _, _, ho, _⟩ := new
    exact ⟨o, ho⟩
  refine h _ (I.write (e := D) (t' := s.toks + 1) (by rw [hD]; trivial) (.inl rfl) (fun b u hb hu => ?_) he (setO2_ok new))
  exact (sb.2 b hb).trans hu
end DL
end
section
/-! The D-layer: sets sorted, made of lists. -/
namespace DL
open PySem PySem.Spec PyProof.Rows L2
theorem strs_vals : ∀ {vs : List Value}, (∀ v ∈ vs, ∃ k, keyV v = some k) → ∀ {xs : List Str}, vs.filterMap keyV = xs.map .inr → StrsAre vs xs
  | [], _, xs, h => by
    cases xs with
    | nil => exact .nil
    | cons x xs => cases h
  | v :: vs, g, xs, h => by
    obtain ⟨k, hk⟩ := g v List.mem_cons_self
    rw [List.filterMap_cons_some hk] at h
    cases xs with
    | nil => cases h
    | cons x xs =>
      rw [List.map_cons] at h
      injection h with h1 h2
      subst h1
      cases v with
      | str y t =>
        have e2 : y = x := Sum.inr.inj (Option.some.inj hk)
        subst e2
        exact .cons y t (strs_vals (fun u hu => g u (List.mem_cons_of_mem _ hu)) h2)
      | _ => cases hk
def outS : Key → Option Str
  | .inr x => some x
  | .inl _ => none
theorem perm_inr : ∀ {l : List Key} {xs : List Str}, l.Perm (xs.map .inr) → ∃ ys : List Str, l = ys.map .inr ∧ ys.Perm xs := fun {l xs} p => by
  have all : ∀ k ∈ l, ∃ x : Str, k = .inr x := fun k hk => by
    obtain ⟨x, _, e⟩ := List.mem_map.mp (p.mem_iff.mp hk)
    exact ⟨x, e.symm⟩
  have ex : ∃ ys : List Str, l = ys.map .inr := by
    clear p
    induction l with
    | nil => exact ⟨[], rfl⟩
    | cons k l ih =>
      obtain ⟨x, e⟩ := all k List.mem_cons_self
      obtain ⟨ys, e2⟩ := ih fun j hj => all j (List.mem_cons_of_mem _ hj)
      exact ⟨x :: ys, by rw [e, e2]; rfl⟩
  obtain ⟨ys, e⟩ := ex
  subst e
  refine ⟨ys, rfl, ?_⟩
  have q := p.filterMap outS
  have un : ∀ zs : List Str, (zs.map (Sum.inr : Str → Key)).filterMap outS = zs := fun zs => by
    induction zs with
    | nil => rfl
    | cons z zs ih =>
      have e : (Sum.inr z :: zs.map (Sum.inr : Str → Key)).filterMap outS = z :: (zs.map (Sum.inr : Str → Key)).filterMap outS := List.filterMap_cons_some rfl
      rw [List.map_cons, e, ih]
  rwa [un, un] at q
section
variable {P : Program} {w : World} {A : Around} {E : Value → Shared → Prop} {s : Shared} {a : Addr}
theorem sorted_setS {ms : List Key} {xs : List Str} {Q : Value → Shared → Prop} (R : SetQ w s.heap a ms) (hm : ms = xs.map .inr) (hh : A.handled = none)
    (hQ : ∀ s' p (out : Array Value) (c : Nat) (ys : List Str), (∀ b o, s.heap.get? b = some o → s'.heap.get? b = some o) → s'.gens = s.gens → s'.os = s.os → s.heap.objs.size ≤ p →
      s'.heap.get? p = some (seqObj "list" out c) → StrsAre out.toList ys → ys.Perm xs → sortedS ys = true → Q (.ref p) s') : wpAny (model P w) A (call (.builtin "sorted") [.ref a]) Q E s := by
  obtain ⟨o, es, ep, t, ho, hex, hd, I⟩ := R
  refine Calls.call_function_entry kind_sorted plain_sorted entry_sorted (args_sorted1 _) ?_
  unfold Builtin.«sorted»
  refine wpAny_bind (m := checkCount "sorted" 1 1 _) (wpAny_pure ?_)
  refine wpAny_bind (collect_set (A := A.in1) hh ⟨o, ho, hex.1, hd⟩ I.fits I.bd I.ris I.led fun s1 vs k1 hz g1 o1 pm => ?_)
  have vlen : vs.length = es.size := by rw [pm.length_eq, List.length_map, Array.length_toList]
  have vfit : vs.length ≤ sizeLine := by rw [vlen]; exact fits_of_scanBound I.bd
  -- the texts that are gathered
  have hk : ∃ ys : List Str, (vs.filterMap keyV) = ys.map .inr ∧ ys.Perm xs := by
    refine perm_inr ?_
    have e1 : (es.toList.map (·.2)).filterMap keyV = es.toList.filterMap entK := by rw [List.filterMap_map]; rfl
    have p1 := pm.filterMap keyV
    rw [e1] at p1
    have p2 := I.perm
    rw [hm] at p2
    exact p1.trans p2
  obtain ⟨zs, hz1, hz2⟩ := hk
  have hS : StrsAre vs zs := strs_vals (fun v hv => by
    obtain ⟨e, he, q⟩ := List.mem_map.mp (pm.mem_iff.mp hv)
    obtain ⟨k, hk, _⟩ := I.ent e he
    exact ⟨k, by rw [← q]; exact hk⟩) hz1
  refine wpAny_bind (wpAny_newList ?_ vfit)
  have hoL : (s1.heap.push (seqObj "list" vs.toArray 0)).get? s1.heap.objs.size = some (seqObj "list" vs.toArray 0) := Heap.get?_push_size _ rfl
  refine wpAny_bind (wpAny_holding (wpAny_call_entry slot_list_sort ⟨_, hoL, rfl⟩ entry_list_sort (list_sort_treeKAny strKind_oneLt hoL hS.keysOf (fun v₁ v₂ rest e => keyKind_strs (by rw [← e]; exact hS)) vfit fun st' hp hs => ⟨_, rfl, ?_⟩) (args_list_sort _)))
  obtain ⟨ys, r1, r2, r3⟩ := sorted_out_str hS hp hs
  obtain ⟨c, hc⟩ := sortedHeap_at (vs := vs) (out := (PyProof.Rows.arrOf st').map (·.2)) hoL
  refine wpAny_pure ⟨_, rfl, hQ _ s1.heap.objs.size _ c ys (fun b u e => ?_) g1 o1 hz hc r1 (r2.trans hz2) r3⟩
  have e2 := k1 b u e
  have lt := Heap.lt_size e2
  show (sortedHeap (s1.heap.push (seqObj "list" vs.toArray 0)) s1.heap.objs.size vs ((PyProof.Rows.arrOf st').map (·.2))).get? b = some u
  rw [sortedHeap_old (Nat.ne_of_lt lt) (by rw [size_push']; exact Nat.lt_succ_of_lt lt)]
  exact Heap.get?_push_of_some _ e2
end
end DL
end
section
/-! The D-layer: set comprehensions, sets of lists. -/
namespace DL
open PySem PySem.Spec PyProof.Rows L2
section
variable {X : Cx}
/-- {elt for target in iter if ..}, elt an int or a text; D the new set -/
def tSq (w : World) (wi : TI) (g : TG) (tt : TT) (te : TE) (vs : List Nat) : TE := fun σ H Q => wi σ H fun J H1 => ∀ D, H1 D = none → ∃ W : Nat → Nat → Hp → Prop, (∃ m, W 0 m (upd H1 D (SetO2 w D []))) ∧ ∀ i m H, W i m H →
  (J.stop i H ∧ Q (.ref D) H) ∨ (J.go i H ∧ ∃ Nx : Hp → Prop, (∀ H', Nx H' → ∃ m', m' < m ∧ W (i + 1) m' H') ∧ ∀ x H', J.yld i H x H' → g x (wipe σ vs) H' fun σ2 H2 => wipe σ2 vs = wipe σ vs ∧ tt σ2 H2 fun b H3 =>
    if b = true then te σ2 H3 fun y H4 => ∃ (k : Key) (ms : List Key), y = kV k ∧ H4 D = some (SetO2 w D ms) ∧ ms.length + 1 < scanBound ∧ Nx (upd H4 D (SetO2 w D (putM ms k))) else Nx H3)
theorem rel_key {k : Key} {u : Value} (r : RelV (kV k) u) : keyIs k u = true := by
  cases k with
  | inl i => obtain ⟨t, rfl⟩ := (show ∃ t, u = Value.int i t from r); exact keyIs_int i t
  | inr x => obtain ⟨t, rfl⟩ := (show ∃ t, u = Value.str x t from r); exact keyIs_str x t
variable {elt tg iter : Expr} {ifs : List Expr} {scope : Scope} {own : List (PySem.Str × Nat)} {pos : Pos} {wi : TI} {g : TG} {tt : TT} {te : TE}
theorem pe_sq (hc : X.calm = true) (hN : X.N.Nodup) (hi : PI X tg iter wi) (ok : BlkOk X.N X.env.scope scope own)
    (hg : ∀ (s : Shared) (H : Hp) (C : Addr) (cl : List (PySem.Str × Addr)) (fp : List Addr), PG (X.blk s H scope (compEnvC scope cl C X.env) fp) tg g) (ht : ∀ (s : Shared) (H : Hp) (C : Addr) (cl : List (PySem.Str × Addr)) (fp : List Addr), PTs (X.blk s H scope (compEnvC scope cl C X.env) fp) ifs tt)
    (he : ∀ (s : Shared) (H : Hp) (C : Addr) (cl : List (PySem.Str × Addr)) (fp : List Addr), PE (X.blk s H scope (compEnvC scope cl C X.env) fp) elt te) (hs : ∀ x, foldedSetIterable iter X.env x = pure x) :
    PE X (.SetComp elt [⟨tg, iter, ifs, 0⟩] scope pos) (tSq X.w wi g tt te (own.map (·.2))) := by
  refine ⟨fun pins s σ H Q I h => ?_⟩
  rw [PpSet.eval_SetComp]
  have free : ∀ y ∈ scope.names, y.2 = .free → ∃ c, X.env.cells.lookup y.1 = some c := fun y hy e =>
    (ok.free y hy e).elim (fun k => I.ok.has _ (.inl k)) fun k => I.ok.has _ (.inr k)
  refine wpAny_comprehension_free (use := none) rfl hs (closure_ok free) ok.kind (fun y hy e => by rw [ok.uniq y hy, e]) (thn (hi.run pins s σ H _ I h) fun _ s1 hx => thn hx fun _ s2 h2 => ?_)
  obtain ⟨it, fp, tn, J, H2, e, I2, T, st2, f2, q⟩ := h2
  subst e
  refine PpSet.newSet_ok (newEnv_comp ?_)
  generalize hD : s2.heap.objs.size = D
  obtain ⟨W, ⟨m0, w0⟩, turn⟩ := q D (I2.hok.fresh (Nat.le_of_eq hD))
  -- the set is there
  generalize hs3 : ({ s2 with heap := s2.heap.push { cls := .type "set", dict := none, data := .set #[] 0 (.fresh 0 0 (!X.w.params.followText "set-order")) } } : Shared) = s3
  have hp3 : s3.heap = s2.heap.push { cls := .type "set", dict := none, data := .set #[] 0 (.fresh 0 0 (!X.w.params.followText "set-order")) } := by rw [← hs3]
  have I3 : Inv X pins σ (upd H2 D (SetO2 X.w D [])) s3 := by
    rw [← hs3]
    have new := setO2_ok (P := X.prog) (H := upd H2 D (SetO2 X.w D [])) (new_setQ (h := s2.heap) X.w)
    rw [hD] at new
    exact I2.laid (t' := s2.toks) (fun b o e => Heap.get?_push_of_some _ e) (Nat.le_of_eq hD) new
  have low : ∀ b ∈ fp, b < s2.heap.objs.size := fun b hb => let ⟨o, e, _⟩ := T.obj _ _ st2 b hb; Heap.lt_size e
  have f3 : ∀ b ∈ fp, FpOk X pins (upd H2 D (SetO2 X.w D [])) b ∧ b < s3.heap.objs.size := fun b hb => by
    have lt := low b hb
    have ne : b ≠ D := by rw [← hD]; exact Nat.ne_of_lt lt
    exact ⟨⟨(upd_ne ne).trans (f2 b hb).1, (f2 b hb).2⟩, by rw [hp3, Heap.size_push]; exact Nat.lt_succ_of_lt lt⟩
  have st3 : tn 0 s3.heap := T.keep _ _ _ st2 fun b _ o e => by rw [hp3]; exact Heap.get?_push_of_some _ e
  have I4 := block_start I3 ok hN f3
  have pg := hg s3 (upd H2 D (SetO2 X.w D [])) s3.heap.objs.size (cellsFrom (s3.heap.objs.size + 1) scope.names (cloFrom X.env.cells scope.names [])) fp
  have pt := ht s3 (upd H2 D (SetO2 X.w D [])) s3.heap.objs.size (cellsFrom (s3.heap.objs.size + 1) scope.names (cloFrom X.env.cells scope.names [])) fp
  have pe := he s3 (upd H2 D (SetO2 X.w D [])) s3.heap.objs.size (cellsFrom (s3.heap.objs.size + 1) scope.names (cloFrom X.env.cells scope.names [])) fp
  show codeAny _ _ (.compStart (.SetComp elt [⟨tg, iter, ifs, 0⟩] scope pos) 0 (.ref it) (.ref D) (compEnvC scope (cellsFrom (s3.heap.objs.size + 1) scope.names (cloFrom X.env.cells scope.names [])) s3.heap.objs.size X.env)) (compPost (model X.prog X.w) X.A X.xe none (EP X pins σ Q) (.ref D) s3.heap.objs.size) { s3 with heap := pushCells (s3.heap.push { cls := .type "dict", data := .dict #[] }) scope.names }
  have nfp : ∀ b ∈ fp, (upd H2 D (SetO2 X.w D [])) b = none := fun b hb => (f3 b hb).1.1
  generalize hce : compEnvC scope (cellsFrom (s3.heap.objs.size + 1) scope.names (cloFrom X.env.cells scope.names [])) s3.heap.objs.size X.env = ce at I4 pg pt pe ⊢
  have cL : ce.locals = s3.heap.objs.size := by subst hce; rfl
  generalize hH3 : upd H2 D (SetO2 X.w D []) = H3 at I3 I4 pg pt pe w0 nfp f3
  generalize hs4 : ({ s3 with heap := pushCells (s3.heap.push { cls := .type "dict", data := .dict #[] }) scope.names } : Shared) = s4 at I4 ⊢
  have st4 : tn 0 s4.heap := T.keep _ _ _ st3 fun b _ o e => by rw [← hs4]; exact pushCells_keeps _ _ _ _ (Heap.get?_push_of_some _ e)
  have stat : ∀ {σ' : L2.St} {H' : Hp} {s' : Shared}, Inv (X.blk s3 H3 scope ce fp) [] σ' H' s' → (∀ b ∈ fp, H' b = none) → ∀ b ∈ fp, FpOk (X.blk s3 H3 scope ce fp) [] H' b := fun {σ' H' s'} I' hn b hb =>
    ⟨hn b hb, (I'.ok.exf b hb).1, I'.ok.exfs b hb, .inl hb, fun x c e => (I'.ok.exf b hb).2 x c e, fun p hp => absurd (show p ∈ ([] : List (Addr × Obj)) ++ [] from hp) (by simp)⟩
  have loop : codeAny (model X.prog X.w) X.A (.compLoop (.SetComp elt [⟨tg, iter, ifs, 0⟩] scope pos) 0 (.ref it) (.ref D) ce) (compPost (model X.prog X.w) X.A X.xe none (EP X pins σ Q) (.ref D) s3.heap.objs.size) s4 := by
    refine PpSet.compLoopS_any (fun n s' => ∃ i H', Inv (X.blk s3 H3 scope ce fp) [] (wipe σ (own.map (·.2))) H' s' ∧ tn i s'.heap ∧ (∀ b ∈ fp, H' b = none) ∧ W i n H') ?_ m0 ⟨0, H3, I4, st4, nfp, w0⟩
    rintro n s5 ⟨i, H5, I5, st5, n5, w5⟩
    rcases turn i n H5 w5 with ⟨stop, fin⟩ | ⟨go, Nx, hNx, step⟩
    · refine thnF (T.done (X.blk s3 H3 scope ce fp) rfl rfl rfl hc i [] s5 _ H5 (fun _ _ => False) I5 (stat I5 n5) st5 stop) fun r s6 ⟨hr, I6⟩ => ?_
      subst hr
      have I7 : Inv X pins σ H5 s6 := I3.call' (ch := fp) I6.os I6.base I6.hok I6.bare fun b hb => ⟨(f3 b hb).1.2.2.2.1, (f3 b hb).1.2.1, (f3 b hb).1.2.2.2.2.1, (f3 b hb).1.2.2.2.2.2⟩
      have nC : H5 s3.heap.objs.size = none := by
        have z : H5 ce.locals = none := I6.free
        rwa [cL] at z
      obtain ⟨m, hn, _⟩ := I6.loc
      have hn : s6.heap.Ns ce.locals m := hn
      rw [cL] at hn
      obtain ⟨k0, k1, k2, k3, k4, k5⟩ := I3.fpOk (Nat.le_refl _) nC
      refine ⟨m, hn, fun h'' sb => ⟨.ref D, H5, I7.turned (t' := s6.toks) (fun b o hb e => (sb.2 b hb).trans e) ?_ k1 k3 k4 k5, rfl, fin⟩⟩
      exact nC
    · refine thnF (T.item (X.blk s3 H3 scope ce fp) rfl rfl rfl hc i [] s5 _ H5 (fun _ _ => False) I5 (stat I5 n5) st5 go) fun r s6 ⟨u, hr, h6⟩ => ?_
      subst hr
      refine thnF h6 fun _ s7 ⟨x, H7, I7, r7, y7, st7, n7⟩ => ?_
      refine thnF (pg.run _ s7 _ H7 x u _ (I7.pinned (stat I7 n7) (T.obj _ _ st7)) r7 (step x H7 y7)) fun _ s8 ⟨σ8, H8, I8, hw8, q8⟩ => ?_
      refine thnF (pt.run _ s8 σ8 H8 _ I8 q8) fun b s9 ⟨H9, I9, q9⟩ => ?_
      have on : ∀ {s' : Shared} {H' : Hp}, Inv (X.blk s3 H3 scope ce fp) ([] ++ pinsAt fp s7.heap) σ8 H' s' → Nx H' → ∃ m, m < n ∧ ∃ i H', Inv (X.blk s3 H3 scope ce fp) [] (wipe σ (own.map (·.2))) H' s' ∧ tn i s'.heap ∧ (∀ b ∈ fp, H' b = none) ∧ W i m H' := fun {s' H'} I' nx => by
        obtain ⟨m', hm, w'⟩ := hNx H' nx
        have pin : ∀ b ∈ fp, ∀ o, s7.heap.get? b = some o → s'.heap.get? b = some o ∧ H' b = none := fun b hb o e =>
          let z := I'.pin (b, o) (List.mem_append_right _ (List.mem_append_right _ (mem_pinsAt hb e)))
          ⟨z.1, z.2.1⟩
        refine ⟨m', hm, i + 1, H', (I'.unpinned (pins := [])).weak (by rw [← hw8, wipe_length]) (fun j v e => ?_), T.keep _ _ _ st7 fun b hb o e => (pin b hb o e).1, fun b hb => ?_, w'⟩
        · rw [← hw8] at e
          exact (wipe_some e).1
        · obtain ⟨o, e, _⟩ := T.obj _ _ st7 b hb
          exact (pin b hb o e).2
      cases b with
      | false => exact on I9 q9
      | true =>
        refine thnF (pe.run _ s9 σ8 H9 _ I9 q9) fun z s10 ⟨yv, H10, I10, r10, k, ms, ey, hD10, room, nx⟩ => ?_
        subst ey
        exact add_inv (X := X.blk s3 H3 scope ce fp) (rel_key r10) I10 hD10 room fun s11 I11 => on I11 nx
  exact PpSet.codeAny_compStart_set loop (T.self X.A 0 _ _ _ st4 loop)
end
end DL
end
section
/-! The D-layer: set(xs), sorted(set) as calls. -/
namespace DL
open PySem PySem.Spec PyProof.Rows L2
theorem putM_len (ms : List Key) (k : Key) : (putM ms k).length ≤ ms.length + 1 := by
  unfold putM
  split
  · exact Nat.le_succ _
  · rw [List.length_append]; exact Nat.le_refl _
section
variable {prog : Program} {w : World} {A : Around} {R : Result → Shared → Prop} {I : Addr} {fp wr : List Addr} {G : Array GenState → Array GenState → Prop} {n : Nat} {Pv : Nat → Value → Prop} {St : Nat → Shared → Prop}
theorem loopQ (W : WalksS prog w A.in1 I fp wr G n Pv St) (D : Addr) (hDf : D ∉ fp) (ks : List Key) (hl : ks.length = n) (hb : n < scanBound) (hv : ∀ i v, Pv i v → ∃ k, ks[i]? = some k ∧ keyIs k v = true) :
    ∀ (m i : Nat) (s : Shared) (ms : List Key), n - i = m → i ≤ n → St i s → SetQ w s.heap D ms → ms.length ≤ i → (∀ s', Moved (D :: wr) G s s' → SetQ w s'.heap D ((ks.drop i).foldl putM ms) → R (.ok (.ret .none)) s') →
      codeAny (model prog w) A (.builtin "set.update.loop" ⟨[.ref D, .ref I], []⟩) R s := by
  have notW : D ∉ wr := fun z => hDf (W.sub _ z)
  have more : ∀ b ∈ wr, b ∈ D :: wr := fun b z => List.mem_cons_of_mem _ z
  intro m
  induction m with
  | zero =>
    intro i s ms hm hi hst hS hle hR
    have e : i = n := by omega
    subst e
    refine codeAny_builtin PyProof.Rows.F.entry_set_update_loop ?_
    rw [Around.under_plainId PyProof.Rows.F.plain_set_update_loop _]
    show wpAny _ A.in1 (pyNext (.ref I) >>= _) _ _ s
    refine wpAny_bind (W.done s _ _ hst fun s' mv => ?_)
    refine wpAny_pure (hR s' (mv.mono more) ?_)
    rw [List.drop_eq_nil_of_le (by omega)]
    exact hS.at fun o z => mv.heap D o notW z
  | succ m ih =>
    intro i s ms hm hi hst hS hle hR
    have lt : i < n := by omega
    refine codeAny_builtin PyProof.Rows.F.entry_set_update_loop ?_
    rw [Around.under_plainId PyProof.Rows.F.plain_set_update_loop _]
    show wpAny _ A.in1 (pyNext (.ref I) >>= _) _ _ s
    refine wpAny_bind (W.item i s _ _ lt hst fun v s' hP hst' mv => ?_)
    obtain ⟨k, hk, hkv⟩ := hv i v hP
    have hS' : SetQ w s'.heap D ms := hS.at fun o z => mv.heap D o notW z
    show wpAny _ A.in1 (holding [v] (setAdd D v) >>= _) _ _ s'
    refine wpAny_bind (wpAny_holding ?_)
    unfold setAdd
    refine wpAny_holding (wpAny_bind ((mixKind prog w).pyHash (k := k) hkv ?_))
    refine add_hashed (P := prog) (s := { s' with toks := s'.toks + 1 }) hkv hS' (by omega) fun b h' sb new => ?_
    have dr : ks.drop i = k :: ks.drop (i + 1) := by
      obtain ⟨h1, h2⟩ := List.getElem?_eq_some_iff.mp hk
      rw [List.drop_eq_getElem_cons h1, h2]
    refine wpAny_pure ⟨plainId_quiet PyProof.Rows.F.plain_set_update_loop _, ih (i + 1) _ (putM ms k) (by omega) lt (W.frame _ s' _ _ hst' (Nat.le_succ _) fun b hb o e => ?_) new (Nat.le_trans (putM_len ms k) (Nat.succ_le_succ hle)) fun s'' mv2 hS'' => ?_⟩
    · have ne : b ≠ D := fun z => hDf (z ▸ hb)
      exact (sb.2 b ne).trans e
    · refine hR s'' (Moved.trans W.gtrans ((mv.mono more).then_heap (Nat.le_succ _) fun b o hb e => ?_) mv2) (by rw [dr]; exact hS'')
      have ne : b ≠ D := fun z => hb (by rw [z]; exact List.mem_cons_self)
      exact (sb.2 b ne).trans e
end
section
variable {prog : Program} {w : World} {A : Around} {E : Value → Shared → Prop} {s : Shared}
/-- the class's new object, its word for the order kept -/
theorem code_newQ (a : Value) {Q1 : Value → Shared → Prop} (h : Q1 (.ref s.heap.objs.size) { s with heap := s.heap.push { cls := .type "set", dict := none, data := .set #[] 0 (.fresh 0 0 (!w.params.followText "set-order")) } }) :
    codeAny (model prog w) A (.call (.builtin "set.__new__") ⟨[.type "set", a], []⟩) (wants Q1 E) s := by
  refine codeAny_of_tree ?_
  show wpAny _ A.in1 (checkBuiltinCall "set.__new__" ⟨[.type "set", a], []⟩ >>= fun _ => again (.builtin "set.__new__" ⟨[.type "set", a], []⟩)) _ _ s
  refine wpAny_bind (wpAny_of_eq (PySem.F.newCall_set_1 a) (wpAny_pure ⟨plainId_quiet PySem.F.plain_set_new _, codeAny_builtin PySem.F.entry_set_new ?_⟩))
  rw [Around.under_plainId PySem.F.plain_set_new _]
  unfold Builtin.«set.__new__» Builtin.Frozenset.newClass
  have hsub := sub_set_self
  obtain ⟨hp, g, d, tk, os⟩ := s
  dsimp only at h ⊢
  wp_walk
  refine wpAny_askSetting (wpAny_pure ?_)
  dsimp only
  simp only [newObj]
  exact wpAny_bind (wpAny_alloc (wpAny_pure (wpAny_pure h)))
theorem call_setL {l : Addr} {items : Array Value} {ks : List Key} {Q : Value → Shared → Prop} (hh : A.handled = none) (hl : s.heap.IsList l items) (hk : ks.length = items.size) (hv : ∀ (i : Nat) (v : Value), items[i]? = some v → ∃ k : Key, ks[i]? = some k ∧ keyIs k v = true) (hb : items.size < scanBound)
    (h : ∀ (h' : Heap) (tk : Nat), SetQ w h' s.heap.objs.size (ks.foldl putM []) → (∀ b o, b < s.heap.objs.size → s.heap.get? b = some o → h'.get? b = some o) → Q (.ref s.heap.objs.size) { s with heap := h', toks := tk }) :
    wpAny (model prog w) A (call (.type "set") [.ref l]) Q E s := by
  obtain ⟨c, tl, hmro⟩ := PySem.F.called_set.mro
  have hmade := PySem.F.called_set.made
  have hsub := PySem.F.called_set.sub
  refine wpAny_call (codeAny_of_tree ?_)
  show wpAny _ _ (callAny (.type "set") _) _ _ _
  refine wpAny_pure ⟨Code.quiet_builtin _ (by decide +kernel), codeAny_builtin PySem.F.entry_type_call ?_⟩
  rw [Around.under_plain (weight_type_call_type "set" [.ref l] []) rfl]
  have h1 := PySem.F.called_set.notType
  have h2 := PySem.F.called_set.canCreate
  have hct := PySem.F.typeCall_set_1 (.ref l)
  repeat (any_goals (first | assumption | wp_step))
  refine codeAny_mono (code_newQ (.ref l) (E := E) (Q1 := fun obj s1 => obj = .ref s.heap.objs.size ∧ s1 = { s with heap := s.heap.push { cls := .type "set", dict := none, data := .set #[] 0 (.fresh 0 0 (!w.params.followText "set-order")) } }) ⟨rfl, rfl⟩) fun r s1 hr => ?_
  cases r with
  | error e => exact hr
  | ok fl =>
    cases fl with
    | ret obj =>
      obtain ⟨rfl, rfl⟩ := hr
      have hQ0 := new_setQ (h := s.heap) w
      generalize hled : (!w.params.followText "set-order") = led at hQ0 ⊢
      have hS : (s.heap.push { cls := .type "set", dict := none, data := .set #[] 0 (.fresh 0 0 led) }).get? s.heap.objs.size = some { cls := .type "set", dict := none, data := .set #[] 0 (.fresh 0 0 led) } := Heap.get?_push_size _ rfl
      have hT : Shared.TypeIs { s with heap := s.heap.push { cls := .type "set", dict := none, data := .set #[] 0 (.fresh 0 0 led) } } (.ref s.heap.objs.size) "set" := ⟨_, hS, rfl⟩
      have hli := PySem.F.called_set.init.lookup
      have hbi := PySem.F.called_set.init.bind (.ref s.heap.objs.size)
      repeat (any_goals (first | assumption | wp_step))
      refine codeAny_mono (codeAny_call_builtin (R := wants (fun r s2 => r = .none ∧ ∃ h' tk, s2 = { s with heap := h', toks := tk } ∧ SetQ w h' s.heap.objs.size (ks.foldl putM []) ∧
          (∀ b o, b < s.heap.objs.size → s.heap.get? b = some o → h'.get? b = some o)) E) PySem.F.called_set.init.plain PySem.F.entry_set_init (check_set_init_1 hT ?_)) fun r2 s2 hr2 => ?_
      · obtain ⟨ol, hol, hlc, nl, hdl⟩ := hl
        obtain ⟨ocls, odict, odata, oslots⟩ := ol
        simp only at hlc hdl
        subst hlc hdl
        have hol1 : (s.heap.push { cls := .type "set", dict := none, data := .set #[] 0 (.fresh 0 0 led) }).get? l = some { cls := .type "list", dict := odict, data := .seq items nl, slots := oslots } := Heap.get?_push_of_some _ hol
        have hsls := PySem.F.sub_list_set
        have hslf := PySem.F.sub_list_frozenset
        have hne : (Value.type "list" == Value.type "dict") = false := by decide
        have hl1 : (s.heap.push { cls := .type "set", dict := none, data := .set #[] 0 (.fresh 0 0 led) }).IsList l items := ⟨_, hol1, rfl, nl, rfl⟩
        unfold Builtin.«set.__init__» noKeywords Builtin.Frozenset.updateFrom
        generalize hPI : pyIter = PI
        wp_walk
        subst hPI
        refine wpAny_pyIter_list hl1 ?_
        refine wpAny_bind (wpAny_runValue ?_)
        have ll : l < s.heap.objs.size := Heap.lt_size hol
        have hh3 : A.in1.in1.in1.handled = none := by simp [hh]
        have psz : (s.heap.push { cls := .type "set", dict := none, data := .set #[] 0 (.fresh 0 0 led) }).objs.size = s.heap.objs.size + 1 := Heap.size_push _ _
        have hnI : l ≠ (s.heap.push { cls := .type "set", dict := none, data := .set #[] 0 (.fresh 0 0 led) }).objs.size := by rw [psz]; exact Nat.ne_of_lt (Nat.lt_succ_of_lt ll)
        have hDf : s.heap.objs.size ∉ [(s.heap.push { cls := .type "set", dict := none, data := .set #[] 0 (.fresh 0 0 led) }).objs.size, l] := by
          rw [psz]
          simp only [List.mem_cons, List.mem_singleton, List.not_mem_nil, or_false, not_or]
          exact ⟨Nat.ne_of_lt (Nat.lt_succ_self _), Nat.ne_of_gt ll⟩
        refine loopQ ((Walks.list hh3 _ l hnI items).toS) s.heap.objs.size hDf ks hk hb (fun i v hv' => hv i v hv') (items.size - 0) 0 _ [] (by omega) (Nat.zero_le _) ⟨⟨_, Heap.get?_push_size _ rfl, rfl, rfl⟩, hl1.push _⟩ ?_ (Nat.le_refl _) fun s' mv new => ?_
        · exact hQ0.at fun o e => Heap.get?_push_of_some _ e
        · obtain ⟨h', g', d', tk', os'⟩ := s'
          have eg : g' = s.gens := mv.gens
          have ed : d' = s.drawn := mv.drawn
          have eo : os' = s.os := mv.os
          subst eg ed eo
          refine wpAny_pure ?_
          show wpAny _ _ (ret Value.none) _ _ _
          refine wpAny_pure ⟨rfl, h', tk', rfl, new, fun b o hb' e => ?_⟩
          refine mv.heap b o ?_ (Heap.get?_push_of_some _ (Heap.get?_push_of_some _ e))
          rw [psz]
          simp only [List.mem_cons, List.mem_singleton, List.not_mem_nil, or_false, not_or]
          exact ⟨Nat.ne_of_lt hb', Nat.ne_of_lt (Nat.lt_succ_of_lt hb')⟩
      · cases r2 with
        | error e => exact hr2
        | ok fl2 =>
          cases fl2 with
          | ret r =>
            obtain ⟨rfl, h', tk, rfl, hS', hk'⟩ := hr2
            repeat (any_goals (first | assumption | wp_step))
            exact h _ _ hS' hk'
          | _ => exact hr2.elim
    | _ => exact hr.elim
end
section
variable {X : Cx}
def rSetL (K : PySem.W.Frag) (w : World) : List V → Hp → VK → Prop := fun vs H Q => ∃ (l : Addr) (ks : List Key), vs = [.ref l] ∧ SqL K H l (ks.map kV) ∧ ks.length < scanBound ∧ ∀ p, H p = none → Q (.ref p) (upd H p (SetO2 w p (ks.foldl putM [])))
theorem cr_setL (hc : X.calm = true) : CallR X (.type "set") (rSetL X.K X.w) := by
  intro pins s σ H vs us Q I r h
  obtain ⟨l, ks, rfl, hq, hb, q⟩ := h
  obtain ⟨its, rv, pl, hz⟩ := I.list hq
  rw [Vals.ref1 r]
  have hl : its.length = ks.length := by rw [← rv.length, List.length_map]
  refine call_setL (ks := ks) (I.ok.hd hc) pl.isList (by rw [List.size_toArray, hl]) (fun i v hv => ?_) (by rw [List.size_toArray, hl]; exact hb) fun h' tk new keep => ?_
  · have hv' : its[i]? = some v := by simpa using hv
    have lt : i < ks.length := by
      rw [← hl]
      exact (List.getElem?_eq_some_iff.mp hv').1
    refine ⟨ks[i], List.getElem?_eq_getElem lt, ?_⟩
    obtain ⟨u, hu, ru⟩ := rv.get (i := i) (x := kV ks[i]) (by rw [List.getElem?_map, List.getElem?_eq_getElem lt]; rfl)
    rw [hv'] at hu
    cases hu
    exact rel_key ru
  · exact ⟨.ref _, upd H s.heap.objs.size (SetO2 X.w s.heap.objs.size (ks.foldl putM [])), I.laid (t' := tk) (fun b u e => keep b u (Heap.lt_size e) e) (Nat.le_refl _) (setO2_ok new), rfl, q _ (I.hok.fresh (Nat.le_refl _))⟩
def rSortSet (w : World) : List V → Hp → VK → Prop := fun vs H Q => ∃ (a : Addr) (xs : List Str), vs = [.ref a] ∧ H a = some (SetO2 w a (xs.map .inr)) ∧ ∀ (ys : List Str) (p : Addr), ys.Perm xs → sortedS ys = true → H p = none → Q (.ref p) (upd H p (.lst (ys.map V.str)))
theorem cr_sortSet (hc : X.calm = true) : CallR X (.builtin "sorted") (rSortSet X.w) := by
  intro pins s σ H vs us Q I r h
  obtain ⟨a, xs, rfl, ha, q⟩ := h
  have R := setO2_get I ha
  rw [Vals.ref1 r]
  have small : xs.length < scanBound := by
    obtain ⟨_, _, _, _, _, _, _, J⟩ := id R
    have e := J.size
    rw [List.length_map] at e
    rw [← e]; exact J.bd
  refine sorted_setS R rfl (I.ok.hd hc) fun s' p out c ys k g o hp hg hi hm hs => ?_
  have hlen : (ys.map V.str).length ≤ sizeLine := by rw [List.length_map, hm.length_eq]; exact fits_of_scanBound small
  have hn : H p = none := I.hok.fresh hp
  have J : Inv X pins σ (upd H p (.lst (ys.map V.str))) { s with heap := s'.heap, gens := s'.gens, drawn := s'.drawn, toks := s'.toks } :=
    I.call (ch := []) (Un.laid k hp hn) (I.hok.laid k hp ⟨hlen, out.toList, c, vals_of_strs hi, hg⟩) (by rw [g]; exact I.bare) (fun _ z => nomatch z)
  have e : s' = { s with heap := s'.heap, gens := s'.gens, drawn := s'.drawn, toks := s'.toks } := by
    obtain ⟨h1, h2, h3, h4, h5⟩ := s'
    obtain ⟨k1, k2, k3, k4, k5⟩ := s
    have o' : h5 = k5 := o
    subst o'
    rfl
  rw [e]
  exact ⟨.ref p, _, J, rfl, q ys p hm hs hn⟩
end
end DL
end
section
/-! The D-layer, part 2: what stands for what, the judgements, names, constants, tuples, lists, operators. -/
namespace DL
open PySem PySem.Spec PyProof.Rows L2
structure Md where
  P : Program
  w : World
  K : PySem.W.Frag
abbrev Cxmd (X : Cx) : Md := ⟨X.prog, X.w, X.K⟩
def kD : Key → D
  | .inl i => .int i
  | .inr x => .str x
/-- a list that is not written: of the written part, or frozen -/
def FzL (K : PySem.W.Frag) (H : Hp) (a : Addr) (xs : List V) : Prop :=
  (∃ o, H a = some (.frz o (.lst xs))) ∨
    ∃ (o : Obj) (its : Array Value) (n : Nat), K.lookup a = some o ∧ o.cls = .type "list" ∧ o.dict = none ∧ o.data = .seq its n ∧ its.size ≤ sizeLine ∧ Vals xs its.toList
/-- a tuple: laid, or of the written part -/
def TpT (K : PySem.W.Frag) (H : Hp) (a : Addr) (xs : List V) : Prop :=
  H a = some (.tup xs) ∨
    ∃ (o : Obj) (its : Array Value) (n : Nat), K.lookup a = some o ∧ o.cls = .type "tuple" ∧ o.data = .seq its n ∧ its.size ≤ sizeLine ∧ Vals xs its.toList
theorem TpT.sq {K : PySem.W.Frag} {H : Hp} {a : Addr} {xs : List V} (h : TpT K H a xs) : SqT K H a xs := h.imp (fun z => .inl z) (fun z => z)
/-- a dict of the written part: its keys, its values -/
def CdA (M : Md) (a : Addr) (ks : List D) (us : List V) : Prop :=
  (a == sysModules) = false ∧ (∃ o, M.K.lookup a = some o ∧ o.cls = .type "dict" ∧ o.dict = none) ∧
  ((∃ kk : List Key, ks = kk.map kD ∧ kk.length = us.length ∧ ∀ h : Heap, M.K.In h → ∃ vs, Vals us vs ∧ h.DictOf (mixKind M.P M.w) a (kk.zip vs)) ∨
   (∃ kk : List (List Key), ks = kk.map (fun l => .tup (l.map kD)) ∧ kk.length = us.length ∧ ∀ h : Heap, M.K.In h → ∃ vs, Vals us vs ∧ h.DictKeyed (tupleKind (mixKind M.P M.w)) a (kk.zip vs)))
mutual
/-- v stands for d -/
def Is (M : Md) (H : Hp) (v : V) : D → Prop
  | .non => v = .non
  | .bl b => v = .bl b
  | .int i => v = .int i
  | .str s => v = .str s
  | .ref a => v = .ref a
  | .ty n => v = .ty n
  | .tup ds => ∃ a vs, v = .ref a ∧ TpT M.K H a vs ∧ IsL M H vs ds
  | .cl ds => ∃ a vs, v = .ref a ∧ FzL M.K H a vs ∧ IsL M H vs ds
  | .cd ks ds => ∃ a vs, v = .ref a ∧ CdA M a ks vs ∧ IsL M H vs ds
def IsL (M : Md) (H : Hp) (vs : List V) : List D → Prop
  | [] => vs = []
  | d :: ds => ∃ v r, vs = v :: r ∧ Is M H v d ∧ IsL M H r ds
end
/-- tuples and frozen things stay -/
structure TLe (H H' : Hp) : Prop where
  tup : ∀ a xs, H a = some (.tup xs) → H' a = some (.tup xs)
  frz : ∀ a o u, H a = some (.frz o u) → H' a = some (.frz o u)
theorem TLe.refl (H : Hp) : TLe H H := ⟨fun _ _ h => h, fun _ _ _ h => h⟩
theorem TLe.trans {A B C : Hp} (h : TLe A B) (g : TLe B C) : TLe A C := ⟨fun a xs e => g.tup a xs (h.tup a xs e), fun a o u e => g.frz a o u (h.frz a o u e)⟩
theorem TLe.new {H : Hp} {p : Addr} {o : HO} (n : H p = none) : TLe H (upd H p o) :=
  ⟨fun a xs e => by rw [upd_ne (ne_of_none e n)]; exact e, fun a o u e => by rw [upd_ne (ne_of_none e n)]; exact e⟩
theorem TLe.mut {H : Hp} {p : Addr} {o : HO} (m : Mut (H p)) : TLe H (upd H p o) :=
  ⟨fun a xs e => by
    have q : a ≠ p := fun z => by subst z; rw [e] at m; exact m
    rw [upd_ne q]; exact e, fun a o u e => by
    have q : a ≠ p := fun z => by subst z; rw [e] at m; exact m
    rw [upd_ne q]; exact e⟩
theorem TLe.sqT {K : PySem.W.Frag} {H H' : Hp} {a : Addr} {xs : List V} (t : TLe H H') (h : TpT K H a xs) : TpT K H' a xs := by
  rcases h with h | h
  · exact .inl (t.tup _ _ h)
  · exact .inr h
theorem TLe.fzL {K : PySem.W.Frag} {H H' : Hp} {a : Addr} {xs : List V} (t : TLe H H') (h : FzL K H a xs) : FzL K H' a xs := by
  rcases h with ⟨o, h⟩ | h
  · exact .inl ⟨o, t.frz _ _ _ h⟩
  · exact .inr h
theorem FzL.sq {K : PySem.W.Frag} {H : Hp} {a : Addr} {xs : List V} (h : FzL K H a xs) : SqL K H a xs := by
  rcases h with ⟨o, h⟩ | h
  · exact .inl (.inr ⟨o, h⟩)
  · exact .inr h
mutual
theorem Is.mono {M : Md} {H H' : Hp} (t : TLe H H') : ∀ {d : D} {v : V}, Is M H v d → Is M H' v d
  | .non, v, h => h
  | .bl b, v, h => h
  | .int i, v, h => h
  | .str s, v, h => h
  | .ref a, v, h => h
  | .ty n, v, h => h
  | .tup ds, v, h => by
    obtain ⟨a, vs, e, q, r⟩ := (show ∃ a vs, v = .ref a ∧ TpT M.K H a vs ∧ IsL M H vs ds from h)
    exact ⟨a, vs, e, t.sqT q, IsL.mono t r⟩
  | .cl ds, v, h => by
    obtain ⟨a, vs, e, q, r⟩ := (show ∃ a vs, v = .ref a ∧ FzL M.K H a vs ∧ IsL M H vs ds from h)
    exact ⟨a, vs, e, t.fzL q, IsL.mono t r⟩
  | .cd ks ds, v, h => by
    obtain ⟨a, vs, e, q, r⟩ := (show ∃ a vs, v = .ref a ∧ CdA M a ks vs ∧ IsL M H vs ds from h)
    exact ⟨a, vs, e, q, IsL.mono t r⟩
theorem IsL.mono {M : Md} {H H' : Hp} (t : TLe H H') : ∀ {ds : List D} {vs : List V}, IsL M H vs ds → IsL M H' vs ds
  | [], vs, h => h
  | d :: ds, vs, h => by
    obtain ⟨v, r, e, q, z⟩ := (show ∃ v r, vs = v :: r ∧ Is M H v d ∧ IsL M H r ds from h)
    exact ⟨v, r, e, Is.mono t q, IsL.mono t z⟩
end
theorem IsL.length {M : Md} {H : Hp} : ∀ {ds : List D} {vs : List V}, IsL M H vs ds → vs.length = ds.length
  | [], vs, h => by have e : vs = [] := h; rw [e]; rfl
  | d :: ds, vs, h => by
    obtain ⟨v, r, e, q, z⟩ := (show ∃ v r, vs = v :: r ∧ Is M H v d ∧ IsL M H r ds from h)
    rw [e, List.length_cons, List.length_cons, IsL.length z]
theorem IsL.nil {M : Md} {H : Hp} : IsL M H [] [] := rfl
theorem IsL.cons {M : Md} {H : Hp} {v : V} {vs : List V} {d : D} {ds : List D} (h : Is M H v d) (r : IsL M H vs ds) : IsL M H (v :: vs) (d :: ds) := ⟨v, vs, rfl, h, r⟩
theorem IsL.append {M : Md} {H : Hp} : ∀ {ds es : List D} {vs us : List V}, IsL M H vs ds → IsL M H us es → IsL M H (vs ++ us) (ds ++ es)
  | [], es, vs, us, h, g => by have e : vs = [] := h; rw [e]; exact g
  | d :: ds, es, vs, us, h, g => by
    obtain ⟨v, r, e, q, z⟩ := (show ∃ v r, vs = v :: r ∧ Is M H v d ∧ IsL M H r ds from h)
    rw [e]; exact IsL.cons q (IsL.append z g)
theorem IsL.get {M : Md} {H : Hp} : ∀ {ds : List D} {vs : List V} {i : Nat} {d : D}, IsL M H vs ds → ds[i]? = some d → ∃ v, vs[i]? = some v ∧ Is M H v d
  | [], vs, i, d, h, e => by simp at e
  | x :: ds, vs, 0, d, h, e => by
    obtain ⟨v, r, e1, q, z⟩ := (show ∃ v r, vs = v :: r ∧ Is M H v x ∧ IsL M H r ds from h)
    have e2 : x = d := by simpa using e
    subst e2
    exact ⟨v, by rw [e1]; rfl, q⟩
  | x :: ds, vs, i + 1, d, h, e => by
    obtain ⟨v, r, e1, q, z⟩ := (show ∃ v r, vs = v :: r ∧ Is M H v x ∧ IsL M H r ds from h)
    obtain ⟨u, hu, hq⟩ := IsL.get (i := i) (d := d) z (by simpa using e)
    exact ⟨u, by rw [e1]; simpa using hu, hq⟩
theorem IsL.drop {M : Md} {H : Hp} : ∀ {ds : List D} {vs : List V} (n : Nat), IsL M H vs ds → IsL M H (vs.drop n) (ds.drop n)
  | ds, vs, 0, h => h
  | [], vs, n + 1, h => by have e : vs = [] := h; rw [e]; rfl
  | x :: ds, vs, n + 1, h => by
    obtain ⟨v, r, e1, q, z⟩ := (show ∃ v r, vs = v :: r ∧ Is M H v x ∧ IsL M H r ds from h)
    rw [e1]; exact IsL.drop n z
theorem IsL.take {M : Md} {H : Hp} : ∀ {ds : List D} {vs : List V} (n : Nat), IsL M H vs ds → IsL M H (vs.take n) (ds.take n)
  | ds, vs, 0, h => rfl
  | [], vs, n + 1, h => by have e : vs = [] := h; rw [e]; rfl
  | x :: ds, vs, n + 1, h => by
    obtain ⟨v, r, e1, q, z⟩ := (show ∃ v r, vs = v :: r ∧ Is M H v x ∧ IsL M H r ds from h)
    rw [e1]; exact IsL.cons q (IsL.take n z)
theorem IsL.set {M : Md} {H : Hp} {v : V} {d : D} (h : Is M H v d) : ∀ {ds : List D} {vs : List V} (i : Nat), IsL M H vs ds → IsL M H (vs.set i v) (ds.set i d)
  | [], vs, i, g => by have e : vs = [] := g; rw [e]; rfl
  | x :: ds, vs, 0, g => by
    obtain ⟨u, r, e1, q, z⟩ := (show ∃ v r, vs = v :: r ∧ Is M H v x ∧ IsL M H r ds from g)
    rw [e1]; exact IsL.cons h z
  | x :: ds, vs, i + 1, g => by
    obtain ⟨u, r, e1, q, z⟩ := (show ∃ v r, vs = v :: r ∧ Is M H v x ∧ IsL M H r ds from g)
    rw [e1]; exact IsL.cons q (IsL.set h i z)
theorem IsL.reverse {M : Md} {H : Hp} : ∀ {ds : List D} {vs : List V}, IsL M H vs ds → IsL M H vs.reverse ds.reverse
  | [], vs, h => by have e : vs = [] := h; rw [e]; rfl
  | d :: ds, vs, h => by
    obtain ⟨v, r, e, q, z⟩ := (show ∃ v r, vs = v :: r ∧ Is M H v d ∧ IsL M H r ds from h)
    rw [e, List.reverse_cons, List.reverse_cons]; exact IsL.append (IsL.reverse z) (IsL.cons q IsL.nil)
theorem IsL.eraseIdx {M : Md} {H : Hp} : ∀ {ds : List D} {vs : List V} (i : Nat), IsL M H vs ds → IsL M H (vs.eraseIdx i) (ds.eraseIdx i)
  | [], vs, i, g => by have e : vs = [] := g; rw [e]; rfl
  | x :: ds, vs, 0, g => by
    obtain ⟨u, r, e1, q, z⟩ := (show ∃ v r, vs = v :: r ∧ Is M H v x ∧ IsL M H r ds from g)
    rw [e1]; exact z
  | x :: ds, vs, i + 1, g => by
    obtain ⟨u, r, e1, q, z⟩ := (show ∃ v r, vs = v :: r ∧ Is M H v x ∧ IsL M H r ds from g)
    rw [e1]; exact IsL.cons q (IsL.eraseIdx i z)
theorem IsL.dropLast {M : Md} {H : Hp} {ds : List D} {vs : List V} (h : IsL M H vs ds) : IsL M H vs.dropLast ds.dropLast := by
  rw [List.dropLast_eq_take, List.dropLast_eq_take, h.length]; exact h.take _
theorem Is.i {M : Md} {H : Hp} {i : Int} : Is M H (.int i) (.int i) := rfl
theorem Is.b {M : Md} {H : Hp} {b : Bool} : Is M H (.bl b) (.bl b) := rfl
theorem Is.n {M : Md} {H : Hp} : Is M H .non .non := rfl
theorem Is.s {M : Md} {H : Hp} {s : Str} : Is M H (.str s) (.str s) := rfl
theorem Is.r {M : Md} {H : Hp} {a : Addr} : Is M H (.ref a) (.ref a) := rfl
theorem Is.y {M : Md} {H : Hp} {n : String} : Is M H (.ty n) (.ty n) := rfl
theorem Is.t {M : Md} {H : Hp} {a : Addr} {vs : List V} {ds : List D} (h : TpT M.K H a vs) (r : IsL M H vs ds) : Is M H (.ref a) (.tup ds) := ⟨a, vs, rfl, h, r⟩
theorem Is.tn {M : Md} {H : Hp} {a : Addr} {vs : List V} {ds : List D} (r : IsL M (upd H a (.tup vs)) vs ds) : Is M (upd H a (.tup vs)) (.ref a) (.tup ds) := ⟨a, vs, rfl, .inl upd_same, r⟩
/-- fields -/
def IsF (M : Md) (H : Hp) (fs : List (Str × V)) (gs : List (Str × D)) : Prop := fs.map (·.1) = gs.map (·.1) ∧ IsL M H (fs.map (·.2)) (gs.map (·.2))
def CellIs (M : Md) (H : Hp) (a : Addr) : Cell → Prop
  | .lst ds => ∃ vs, H a = some (.lst vs) ∧ IsL M H vs ds
  | .dic ks ds => ∃ kvs, H a = some (.dK kvs) ∧ ks = (kvs.map (·.1)).map kD ∧ IsL M H (kvs.map (·.2)) ds
  | .set xs => ∃ ms : List Key, H a = some (SetO2 M.w a ms) ∧ xs = ms.map kD
  | .ins C gs => ∃ dx fs, H a = some (.ins C dx fs) ∧ IsF M H fs gs
theorem CellIs.l {M : Md} {H : Hp} {a : Addr} {vs : List V} {ds : List D} (e : H a = some (.lst vs)) (r : IsL M H vs ds) : CellIs M H a (.lst ds) := ⟨vs, e, r⟩
theorem CellIs.ln {M : Md} {H : Hp} {a : Addr} {vs : List V} {ds : List D} (r : IsL M (upd H a (.lst vs)) vs ds) : CellIs M (upd H a (.lst vs)) a (.lst ds) := ⟨vs, upd_same, r⟩
/-- the store's objects stand -/
def Rp (M : Md) (H : Hp) (S : Sto) : Prop := ∀ a c, S a = some c → CellIs M H a c
def EpO (M : Md) (H : Hp) : Option V → Option D → Prop
  | _, none => True
  | some v, some d => Is M H v d
  | none, some _ => False
/-- the slots -/
def Ep (M : Md) (H : Hp) (σ : L2.St) (ε : Env) : Prop := σ.length = ε.length ∧ ∀ (i : Nat) (d : D), ε[i]? = some (some d) → ∃ v, σ[i]? = some (some v) ∧ Is M H v d
theorem Ep.mono {M : Md} {H H' : Hp} {σ : L2.St} {ε : Env} (t : TLe H H') (h : Ep M H σ ε) : Ep M H' σ ε :=
  ⟨h.1, fun i d e => let ⟨v, a, b⟩ := h.2 i d e; ⟨v, a, Is.mono t b⟩⟩
theorem Ep.set {M : Md} {H : Hp} {σ : L2.St} {ε : Env} {i : Nat} {v : V} {d : D} (h : Ep M H σ ε) (r : Is M H v d) : Ep M H (σ.set i (some v)) (ε.set i (some d)) := by
  refine ⟨by rw [List.length_set, List.length_set]; exact h.1, fun j x e => ?_⟩
  by_cases q : i = j
  · subst q
    by_cases l : i < ε.length
    · rw [List.getElem?_set_self l] at e
      have e2 : d = x := by simpa using e
      subst e2
      exact ⟨v, by rw [List.getElem?_set_self (by rw [h.1]; exact l)], r⟩
    · rw [List.getElem?_eq_none (by rw [List.length_set]; omega)] at e
      cases e
  · rw [List.getElem?_set_ne q] at e
    obtain ⟨u, a, b⟩ := h.2 j x e
    exact ⟨u, by rw [List.getElem?_set_ne q]; exact a, b⟩
theorem Rp.le {M : Md} {H : Hp} {S S' : Sto} (h : Rp M H S') (l : Le S S') : Rp M H S := fun a c e => h a c (l a c e)
theorem CellIs.keep {M : Md} {H H' : Hp} {a : Addr} {c : Cell} (t : TLe H H') (k : ∀ o, H a = some o → H' a = some o) (h : CellIs M H a c) : CellIs M H' a c := by
  cases c with
  | lst ds => obtain ⟨vs, e, r⟩ := h; exact ⟨vs, k _ e, IsL.mono t r⟩
  | dic ks ds => obtain ⟨kvs, e, r, z⟩ := h; exact ⟨kvs, k _ e, r, IsL.mono t z⟩
  | set xs => obtain ⟨ms, e, r⟩ := h; exact ⟨ms, k _ e, r⟩
  | ins C gs => obtain ⟨dx, fs, e, r, z⟩ := h; exact ⟨dx, fs, k _ e, r, IsL.mono t z⟩
/-- a new thing that the store does not know -/
theorem Rp.new {M : Md} {H : Hp} {S : Sto} {p : Addr} {o : HO} (h : Rp M H S) (n : H p = none) : Rp M (upd H p o) S := fun a c e =>
  (h a c e).keep (TLe.new n) fun u q => by rw [upd_ne (ne_of_none q n)]; exact q
theorem CellIs.some {M : Md} {H : Hp} {a : Addr} {c : Cell} (h : CellIs M H a c) : ∃ o, H a = some o := by
  cases c with
  | lst ds => obtain ⟨vs, e, r⟩ := h; exact ⟨_, e⟩
  | dic ks ds => obtain ⟨kvs, e, r, z⟩ := h; exact ⟨_, e⟩
  | set xs => obtain ⟨ms, e, r⟩ := h; exact ⟨_, e⟩
  | ins C gs => obtain ⟨dx, fs, e, r, z⟩ := h; exact ⟨_, e⟩
theorem Rp.free {M : Md} {H : Hp} {S : Sto} {p : Addr} (h : Rp M H S) (n : H p = none) : S p = none := by
  cases q : S p with
  | none => rfl
  | some c => obtain ⟨o, e⟩ := (h p c q).some; rw [n] at e; cases e
/-- an object is put -/
theorem Rp.put {M : Md} {H : Hp} {S : Sto} {p : Addr} {o : HO} {c : Cell} (h : Rp M H S) (t : TLe H (upd H p o)) (r : CellIs M (upd H p o) p c) : Rp M (upd H p o) (put S p c) := fun a d e => by
  by_cases q : a = p
  · subst q; rw [put_same] at e; cases e; exact r
  · rw [put_ne q] at e
    exact (h a d e).keep t fun u z => by rw [upd_ne q]; exact z

/-! ### the judgements -/
structure DE (X : Cx) (e : Expr) (t : DTE) : Prop where
  ex : ∃ te, PE X e te ∧ ∀ σ H ε S Q, Ep (Cxmd X) H σ ε → Rp (Cxmd X) H S → t ε S Q → ∀ Q2 : VK, (∀ v H' d S', TLe H H' → Is (Cxmd X) H' v d → Rp (Cxmd X) H' S' → Q d S' → Q2 v H') → te σ H Q2
structure DT (X : Cx) (e : Expr) (t : DTT) : Prop where
  ex : ∃ te, PT X e te ∧ ∀ σ H ε S Q, Ep (Cxmd X) H σ ε → Rp (Cxmd X) H S → t ε S Q → ∀ Q2 : Bool → Hp → Prop, (∀ b H' S', TLe H H' → Rp (Cxmd X) H' S' → Q b S' → Q2 b H') → te σ H Q2
structure DW (X : Cx) (e : Expr) (t : DTT) : Prop where
  ex : ∃ te, PW X e te ∧ ∀ σ H ε S Q, Ep (Cxmd X) H σ ε → Rp (Cxmd X) H S → t ε S Q → ∀ Q2 : Bool → Hp → Prop, (∀ b H' S', TLe H H' → Rp (Cxmd X) H' S' → Q b S' → Q2 b H') → te σ H Q2
structure DA (X : Cx) (es : List Expr) (t : DTA) : Prop where
  ex : ∃ te, PA X es te ∧ ∀ σ H ε S Q, Ep (Cxmd X) H σ ε → Rp (Cxmd X) H S → t ε S Q → ∀ Q2 : List V → Hp → Prop, (∀ vs H' ds S', TLe H H' → IsL (Cxmd X) H' vs ds → Rp (Cxmd X) H' S' → Q ds S' → Q2 vs H') → te σ H Q2
structure EndsOk (M : Md) (H : Hp) (Dd : DEnds) (D : Ends) : Prop where
  nx : ∀ σ H' ε S, TLe H H' → Ep M H' σ ε → Rp M H' S → Dd.nx ε S → D.nx σ H'
  bk : ∀ σ H' ε S, TLe H H' → Ep M H' σ ε → Rp M H' S → Dd.bk ε S → D.bk σ H'
  ct : ∀ σ H' ε S, TLe H H' → Ep M H' σ ε → Rp M H' S → Dd.ct ε S → D.ct σ H'
  rt : ∀ v H' d S, TLe H H' → Is M H' v d → Rp M H' S → Dd.rt d S → D.rt v H'
theorem EndsOk.mono {M : Md} {H H' : Hp} {Dd : DEnds} {D : Ends} (t : TLe H H') (h : EndsOk M H Dd D) : EndsOk M H' Dd D :=
  ⟨fun σ H1 ε S t1 => h.nx σ H1 ε S (t.trans t1), fun σ H1 ε S t1 => h.bk σ H1 ε S (t.trans t1), fun σ H1 ε S t1 => h.ct σ H1 ε S (t.trans t1), fun v H1 d S t1 => h.rt v H1 d S (t.trans t1)⟩
structure DS (X : Cx) (st : Stmt) (t : DTS) : Prop where
  ex : ∃ ts, PS X st ts ∧ ∀ σ H ε S Dd D, Ep (Cxmd X) H σ ε → Rp (Cxmd X) H S → EndsOk (Cxmd X) H Dd D → t Dd ε S → ts D σ H
structure DSs (X : Cx) (st : List Stmt) (t : DTS) : Prop where
  ex : ∃ ts, PSs X st ts ∧ ∀ σ H ε S Dd D, Ep (Cxmd X) H σ ε → Rp (Cxmd X) H S → EndsOk (Cxmd X) H Dd D → t Dd ε S → ts D σ H
end DL
end
section
/-! The D-layer, part 3: rules for expressions. -/
namespace DL
open PySem PySem.Spec PyProof.Rows L2
section
variable {X : Cx} {e a b : Expr} {es : List Expr} {pos : Pos}
/-! ### names, constants, tuples, lists -/
theorem dv (i : Nat) {x : Str} {pos : Pos} (hN : X.N[i]? = some x := by rfl) (hv : Vis X.env.scope x := by first | exact Or.inl rfl | exact Or.inr (Or.inl rfl) | exact Or.inr (Or.inr rfl)) (hd : (x == ("__debug__" : Str)) = false := by decide)
    (hcd : (x == ("__classdict__" : Str)) = false := by decide) : DE X (.Name x pos) (dVar i) :=
  ⟨_, pe_var hN hv hd hcd, fun σ H ε S Q he hr ⟨d, e, q⟩ Q2 k => let ⟨v, a, b⟩ := he.2 i d e; ⟨v, a, k v H d S (TLe.refl H) b hr q⟩⟩
theorem de_int {i j pos} : DE X (.Constant (.int i) j pos) (dC (.int i)) := ⟨_, pe_int, fun σ H ε S Q he hr q Q2 k => k _ H _ S (TLe.refl H) Is.i hr q⟩
theorem de_bl {i j pos} : DE X (.Constant (.bool i) j pos) (dC (.bl i)) := ⟨_, pe_bl, fun σ H ε S Q he hr q Q2 k => k _ H _ S (TLe.refl H) Is.b hr q⟩
theorem de_non {j pos} : DE X (.Constant .none j pos) (dC .non) := ⟨_, pe_non, fun σ H ε S Q he hr q Q2 k => k _ H _ S (TLe.refl H) Is.n hr q⟩
theorem de_str {x j pos} : DE X (.Constant (.str x) j pos) (dC (.str x)) := ⟨_, pe_str, fun σ H ε S Q he hr q Q2 k => k _ H _ S (TLe.refl H) Is.s hr q⟩
/-- a module's name: its value d -/
structure GD (M : Md) (mg : Str → Option Value) (x : Str) (d : D) : Prop where
  ex : ∃ u v, mg x = some u ∧ RelV v u ∧ ∀ H, Is M H v d
theorem de_glob {x : Str} {d : D} (g : GD (Cxmd X) X.mg x d) (hg : Gl X x) (hd : (x == ("__debug__" : Str)) = false := by decide) : DE X (.Name x pos) (dC d) := by
  obtain ⟨u, v, hm, r, h⟩ := g.ex
  exact ⟨_, pe_glob hg hm r hd, fun σ H ε S Q he hr q Q2 k => k _ H _ S (TLe.refl H) (h H) hr q⟩
theorem de_bltn {x : Str} {n : String} (hg : Gl X x) (hm : X.mg x = none) (hv : bootBuiltins x = some (.type n)) (hn : x ≠ "__name__" := by decide) (hd : (x == ("__debug__" : Str)) = false := by decide) : DE X (.Name x pos) (dC (.ty n)) :=
  ⟨_, pe_bltn (v := .ty n) hg hm hv rfl hn hd, fun σ H ε S Q he hr q Q2 k => k _ H _ S (TLe.refl H) Is.y hr q⟩
theorem da_nil : DA X [] dNil := ⟨_, pa_nil, fun σ H ε S Q he hr q Q2 k => k _ H _ S (TLe.refl H) IsL.nil hr q⟩
theorem da_cons {t : DTE} {r : DTA} (h : DE X e t) (g : DA X es r) (hs : starEach (e :: es) X.env = (false, eval e X.env) :: starEach es X.env := by rfl) : DA X (e :: es) (dCons t r) := by
  obtain ⟨te, h1, h2⟩ := h.ex
  obtain ⟨tr, g1, g2⟩ := g.ex
  refine ⟨_, pa_cons h1 g1 hs, fun σ H ε S Q he hr q Q2 k => ?_⟩
  refine h2 σ H ε S _ he hr q _ fun v H1 d S1 t1 r1 p1 q1 => ?_
  refine g2 σ H1 ε S1 _ (he.mono t1) p1 q1 _ fun vs H2 ds S2 t2 r2 p2 q2 => ?_
  exact k _ H2 _ S2 (t1.trans t2) (IsL.cons (Is.mono t2 r1) r2) p2 q2
theorem de_tup {x1} {t : DTA} (h : DA X es t) : DE X (.Tuple es x1 pos) (dTup t) := by
  obtain ⟨te, h1, h2⟩ := h.ex
  refine ⟨_, pe_tup h1, fun σ H ε S Q he hr q Q2 k => ?_⟩
  refine h2 σ H ε S _ he hr q _ fun vs H1 ds S1 t1 r1 p1 ⟨z, q1⟩ => ⟨by rw [r1.length]; exact z, fun p n => ?_⟩
  have t2 : TLe H1 (upd H1 p (.tup vs)) := TLe.new n
  exact k _ _ _ S1 (t1.trans t2) (Is.tn (IsL.mono t2 r1)) (p1.new n) q1
theorem de_lst {t : DTA} (h : DA X es t) : DE X (.List es pos) (dLst t) := by
  obtain ⟨te, h1, h2⟩ := h.ex
  refine ⟨_, pe_lst h1, fun σ H ε S Q he hr q Q2 k => ?_⟩
  refine h2 σ H ε S _ he hr q _ fun vs H1 ds S1 t1 r1 p1 ⟨z, q1⟩ => ⟨by rw [r1.length]; exact z, fun p n => ?_⟩
  have t2 : TLe H1 (upd H1 p (.lst vs)) := TLe.new n
  exact k _ _ _ _ (t1.trans t2) Is.r (p1.put t2 (CellIs.ln (IsL.mono t2 r1))) (q1 p (p1.free n))
/-! ### operators by values -/
structure DOp (X : Cx) (f : Value → Value → Sem Value) (o : DR2) : Prop where
  ex : ∃ r, OpR X f r ∧ ∀ x y dx dy H S Q, Is (Cxmd X) H x dx → Is (Cxmd X) H y dy → Rp (Cxmd X) H S → o dx dy S Q → ∀ Q2 : VK, (∀ v H' d S', TLe H H' → Is (Cxmd X) H' v d → Rp (Cxmd X) H' S' → Q d S' → Q2 v H') → r x y H Q2
theorem DOp.or {f : Value → Value → Sem Value} {o o' : DR2} (h : DOp X f o) (g : DOp X f o') : DOp X f (fun x y S Q => o x y S Q ∨ o' x y S Q) := by
  obtain ⟨r, h1, h2⟩ := h.ex
  obtain ⟨r', g1, g2⟩ := g.ex
  exact ⟨_, h1.or g1, fun x y dx dy H S Q ix iy hr q Q2 k => q.imp (fun z => h2 x y dx dy H S Q ix iy hr z Q2 k) (fun z => g2 x y dx dy H S Q ix iy hr z Q2 k)⟩
theorem DOp.imp {f : Value → Value → Sem Value} {o o' : DR2} (h : DOp X f o) (i : ∀ x y S Q, o' x y S Q → o x y S Q) : DOp X f o' := by
  obtain ⟨r, h1, h2⟩ := h.ex
  exact ⟨_, h1, fun x y dx dy H S Q ix iy hr q Q2 k => h2 x y dx dy H S Q ix iy hr (i _ _ _ _ q) Q2 k⟩
theorem de_op {op : Operator} {o : DR2} {ta tb : DTE} (h : DOp X (binaryOp op) o) (ha : DE X a ta) (hb : DE X b tb) : DE X (.BinOp a op b pos) (dOp o ta tb) := by
  obtain ⟨r, h1, h2⟩ := h.ex
  obtain ⟨te, a1, a2⟩ := ha.ex
  obtain ⟨tr, b1, b2⟩ := hb.ex
  refine ⟨_, pe_op h1 a1 b1, fun σ H ε S Q he hr q Q2 k => ?_⟩
  refine a2 σ H ε S _ he hr q _ fun v H1 d S1 t1 r1 p1 q1 => ?_
  refine b2 σ H1 ε S1 _ (he.mono t1) p1 q1 _ fun u H2 d2 S2 t2 r2 p2 q2 => ?_
  exact h2 v u d d2 H2 S2 _ (Is.mono t2 r1) r2 p2 q2 _ fun z H3 d3 S3 t3 r3 p3 q3 => k z H3 d3 S3 ((t1.trans t2).trans t3) r3 p3 q3
theorem de_cmp {op : CmpOp} {o : DR2} {ta tb : DTE} (h : DOp X (compareOp op) o) (ha : DE X a ta) (hb : DE X b tb) (hm : behindInMarks op b = false) : DE X (.Compare a [op] [b] pos) (dOp o ta tb) := by
  obtain ⟨r, h1, h2⟩ := h.ex
  obtain ⟨te, a1, a2⟩ := ha.ex
  obtain ⟨tr, b1, b2⟩ := hb.ex
  refine ⟨_, pe_cmpR h1 a1 b1 hm, fun σ H ε S Q he hr q Q2 k => ?_⟩
  refine a2 σ H ε S _ he hr q _ fun v H1 d S1 t1 r1 p1 q1 => ?_
  refine b2 σ H1 ε S1 _ (he.mono t1) p1 q1 _ fun u H2 d2 S2 t2 r2 p2 q2 => ?_
  exact h2 v u d d2 H2 S2 _ (Is.mono t2 r1) r2 p2 q2 _ fun z H3 d3 S3 t3 r3 p3 q3 => k z H3 d3 S3 ((t1.trans t2).trans t3) r3 p3 q3
/-- ints in, a value out -/
theorem dop_I0 {f : Value → Value → Sem Value} {g : Int → Int → V} {g' : Int → Int → D} (h : OpR X f (rI0 g)) (hg : ∀ i j H, Is (Cxmd X) H (g i j) (g' i j)) :
    DOp X f (fun x y S Q => ∃ i j, x = .int i ∧ y = .int j ∧ Q (g' i j) S) :=
  ⟨_, h, fun x y dx dy H S Q ix iy hr ⟨i, j, e1, e2, q⟩ Q2 k => by
    subst e1 e2
    exact ⟨i, j, ix, iy, k _ H _ S (TLe.refl H) (hg i j H) hr q⟩⟩
theorem dop_I {f : Value → Value → Sem Value} {C : Int → Int → Prop} {g : Int → Int → V} {g' : Int → Int → D} (h : OpR X f (rI C g)) (hg : ∀ i j H, Is (Cxmd X) H (g i j) (g' i j)) :
    DOp X f (fun x y S Q => ∃ i j, x = .int i ∧ y = .int j ∧ C i j ∧ Q (g' i j) S) :=
  ⟨_, h, fun x y dx dy H S Q ix iy hr ⟨i, j, e1, e2, c, q⟩ Q2 k => by
    subst e1 e2
    exact ⟨i, j, ix, iy, c, k _ H _ S (TLe.refl H) (hg i j H) hr q⟩⟩
end
def oAdd : DR2
  | .int i, .int j, S, Q => Q (.int (i + j)) S
  | .str x, .str y, S, Q => x.length + y.length ≤ sizeLine ∧ Q (.str (x ++ y)) S
  | .tup xs, .tup ys, S, Q => xs.length + ys.length ≤ sizeLine ∧ Q (.tup (xs ++ ys)) S
  | .ref a, .ref b, S, Q => ∃ xs ys, S a = some (.lst xs) ∧ S b = some (.lst ys) ∧ xs.length + ys.length ≤ sizeLine ∧ ∀ p, S p = none → Q (.ref p) (put S p (.lst (xs ++ ys)))
  | _, _, _, _ => False
def oInt (g : Int → Int → D) : DR2
  | .int i, .int j, S, Q => Q (g i j) S
  | _, _, _, _ => False
def oIntC (C : Int → Int → Prop) (g : Int → Int → D) : DR2
  | .int i, .int j, S, Q => C i j ∧ Q (g i j) S
  | _, _, _, _ => False
section
variable {X : Cx}
theorem IsL.nil_iff {M : Md} {H : Hp} {vs : List V} {ds : List D} (h : IsL M H vs ds) : vs = [] ↔ ds = [] := by
  have := h.length
  cases vs <;> cases ds <;> simp_all
theorem dop_catT : DOp X (binaryOp .Add) (fun x y S Q => ∃ xs ys, x = .tup xs ∧ y = .tup ys ∧ xs.length + ys.length ≤ sizeLine ∧ Q (.tup (xs ++ ys)) S) := by
  refine ⟨_, op_catA, fun x y dx dy H S Q ix iy hr ⟨xs, ys, e1, e2, z, q⟩ Q2 k => ?_⟩
  subst e1 e2
  obtain ⟨a, vs, rfl, sa, la⟩ := ix
  obtain ⟨b, us, rfl, sb, lb⟩ := iy
  refine ⟨a, b, vs, us, rfl, rfl, sa.sq, sb.sq, by rw [la.length, lb.length]; exact z, fun n => ?_, fun n m => ?_, fun n m p np => ?_⟩
  · have e : xs = [] := la.nil_iff.mp n
    subst e
    exact k _ H _ S (TLe.refl H) (Is.t sb lb) hr q
  · have e : ys = [] := lb.nil_iff.mp m
    subst e
    rw [List.append_nil] at q
    exact k _ H _ S (TLe.refl H) (Is.t sa la) hr q
  · have t : TLe H (upd H p (.tup (vs ++ us))) := TLe.new np
    exact k _ _ _ S t (Is.tn (IsL.mono t (la.append lb))) (hr.new np) q
theorem dop_catS : DOp X (binaryOp .Add) (fun x y S Q => ∃ xs ys : Str, x = .str xs ∧ y = .str ys ∧ xs.length + ys.length ≤ sizeLine ∧ Q (.str (xs ++ ys)) S) :=
  ⟨_, op_add_str, fun x y dx dy H S Q ix iy hr ⟨xs, ys, e1, e2, z, q⟩ Q2 k => by
    subst e1 e2
    exact ⟨xs, ys, ix, iy, z, k _ H _ S (TLe.refl H) Is.s hr q⟩⟩
theorem dop_catL : DOp X (binaryOp .Add) (fun x y S Q => ∃ a b xs ys, x = .ref a ∧ y = .ref b ∧ S a = some (.lst xs) ∧ S b = some (.lst ys) ∧ xs.length + ys.length ≤ sizeLine ∧ ∀ p, S p = none → Q (.ref p) (put S p (.lst (xs ++ ys)))) := by
  refine ⟨_, op_cat, fun x y dx dy H S Q ix iy hr ⟨a, b, xs, ys, e1, e2, sa, sb, z, q⟩ Q2 k => ?_⟩
  subst e1 e2
  obtain ⟨vs, ha, la⟩ := hr a _ sa
  obtain ⟨us, hb, lb⟩ := hr b _ sb
  refine ⟨a, b, vs, us, ix, iy, ha, hb, by rw [la.length, lb.length]; exact z, fun p np => ?_⟩
  have t : TLe H (upd H p (.lst (vs ++ us))) := TLe.new np
  exact k _ _ _ _ t Is.r (hr.put t (CellIs.ln (IsL.mono t (la.append lb)))) (q p (hr.free np))
theorem dop_add : DOp X (binaryOp .Add) oAdd := by
  refine ((dop_I0 (g' := fun i j => .int (i + j)) op_add fun i j H => rfl).or (dop_catS.or (dop_catT.or dop_catL))).imp fun x y S Q q => ?_
  unfold oAdd at q
  split at q
  · exact .inl ⟨_, _, rfl, rfl, q⟩
  · exact .inr (.inl ⟨_, _, rfl, rfl, q⟩)
  · exact .inr (.inr (.inl ⟨_, _, rfl, rfl, q⟩))
  · obtain ⟨xs, ys, q⟩ := q
    exact .inr (.inr (.inr ⟨_, _, xs, ys, rfl, rfl, q⟩))
  · exact q.elim
theorem oInt_ex {g : Int → Int → D} {x y : D} {S : Sto} {Q : DK} (q : oInt g x y S Q) : ∃ i j, x = .int i ∧ y = .int j ∧ Q (g i j) S := by
  unfold oInt at q; split at q
  · exact ⟨_, _, rfl, rfl, q⟩
  · exact q.elim
theorem oIntC_ex {C : Int → Int → Prop} {g : Int → Int → D} {x y : D} {S : Sto} {Q : DK} (q : oIntC C g x y S Q) : ∃ i j, x = .int i ∧ y = .int j ∧ C i j ∧ Q (g i j) S := by
  unfold oIntC at q; split at q
  · exact ⟨_, _, rfl, rfl, q⟩
  · exact q.elim
theorem dop_int {f : Value → Value → Sem Value} {g : Int → Int → V} {g' : Int → Int → D} (h : OpR X f (rI0 g)) (hg : ∀ i j H, Is (Cxmd X) H (g i j) (g' i j)) : DOp X f (oInt g') := (dop_I0 h hg).imp fun _ _ _ _ q => oInt_ex q
theorem dop_intC {f : Value → Value → Sem Value} {C : Int → Int → Prop} {g : Int → Int → V} {g' : Int → Int → D} (h : OpR X f (rI C g)) (hg : ∀ i j H, Is (Cxmd X) H (g i j) (g' i j)) : DOp X f (oIntC C g') := (dop_I h hg).imp fun _ _ _ _ q => oIntC_ex q
end
abbrev oSub : DR2 := oInt fun i j => .int (i - j)
abbrev oMul : DR2 := oIntC CMulW fun i j => .int (i * j)
abbrev oMod : DR2 := oIntC (fun _ j => 0 < j) fun i j => .int (i % j)
abbrev oDiv : DR2 := oIntC CDivW fun i j => .int (i / j)
def CPowB (i j : Int) : Prop := 0 ≤ j ∧ (Builtin.Int.intBits i : Int) * j ≤ 2 ^ 27
abbrev oPow : DR2 := oIntC CPowB fun i j => .int (i ^ j.toNat)
abbrev oLt : DR2 := oInt fun i j => .bl (decide (i < j))
abbrev oLe : DR2 := oInt fun i j => .bl (decide (i ≤ j))
abbrev oGt : DR2 := oInt fun i j => .bl (decide (j < i))
abbrev oGe : DR2 := oInt fun i j => .bl (decide (j ≤ i))
section
variable {X : Cx}
theorem dop_sub : DOp X (binaryOp .Sub) oSub := dop_int op_sub fun i j H => rfl
theorem dop_mul : DOp X (binaryOp .Mult) oMul := dop_intC op_mulW fun i j H => rfl
theorem dop_mod : DOp X (binaryOp .Mod) oMod := dop_intC op_mod fun i j H => rfl
theorem dop_div : DOp X (binaryOp .FloorDiv) oDiv := dop_intC op_fdivW fun i j H => rfl
theorem op_powB : OpR X (binaryOp .Pow) (rI CPowB fun i j => .int (i ^ j.toNat)) := opI fun _ _ _ _ _ _ _ hc q => pow_int hc.1 hc.2 q
theorem dop_pow : DOp X (binaryOp .Pow) oPow := dop_intC op_powB fun i j H => rfl
theorem dop_lt : DOp X (compareOp .Lt) oLt := dop_int op_lt fun i j H => rfl
theorem dop_le : DOp X (compareOp .LtE) oLe := dop_int op_le fun i j H => rfl
theorem dop_gt : DOp X (compareOp .Gt) oGt := dop_int op_gt fun i j H => rfl
theorem dop_ge : DOp X (compareOp .GtE) oGe := dop_int op_ge fun i j H => rfl
end
/-! ### ==, !=, is None, in: flat values -/
def scV : D → Option V
  | .non => some .non
  | .bl b => some (.bl b)
  | .int i => some (.int i)
  | .str s => some (.str s)
  | _ => none
theorem scV_is {M : Md} {H : Hp} {d : D} {v x : V} (e : scV d = some x) (h : Is M H v d) : v = x := by
  cases d <;> first | (cases e; exact h) | cases e
def oEq : DR2 := fun x y S Q => ∃ v u, scV x = some v ∧ scV y = some u ∧ scal v u = true ∧ Q (.bl (decide (v = u))) S
def oNe : DR2 := fun x y S Q => ∃ v u, scV x = some v ∧ scV y = some u ∧ scal v u = true ∧ Q (.bl (!decide (v = u))) S
def isNon : D → Bool
  | .non => true
  | _ => false
def oIsN : DR2 := fun x y S Q => y = .non ∧ Q (.bl (isNon x)) S
def oNotN : DR2 := fun x y S Q => y = .non ∧ Q (.bl (!isNon x)) S
def flatL : List D → Option (List V)
  | [] => some []
  | d :: ds => match scV d, flatL ds with
    | some v, some vs => some (v :: vs)
    | _, _ => none
theorem flatL_is {M : Md} {H : Hp} : ∀ {ds : List D} {vs us : List V}, flatL ds = some us → IsL M H vs ds → vs = us
  | [], vs, us, e, h => by cases e; exact h
  | d :: ds, vs, us, e, h => by
    obtain ⟨v, r, e1, q, z⟩ := (show ∃ v r, vs = v :: r ∧ Is M H v d ∧ IsL M H r ds from h)
    unfold flatL at e
    split at e
    · rename_i v' vs' e2 e3
      cases e
      rw [e1, scV_is e2 q, flatL_is e3 z]
    · cases e
theorem scV_flat {d : D} {v : V} (e : scV d = some v) : flatV v = true := by
  cases d <;> first | (cases e; rfl) | cases e
theorem flatL_all : ∀ {ds : List D} {us : List V}, flatL ds = some us → us.all flatV = true
  | [], us, e => by cases e; rfl
  | d :: ds, us, e => by
    unfold flatL at e
    split at e
    · rename_i v' vs' e2 e3
      cases e
      rw [List.all_cons, scV_flat e2, flatL_all e3]; rfl
    · cases e
/-- the items of a list or tuple -/
def itemsD (d : D) (S : Sto) : Option (List D) := match d with
  | .tup xs => some xs
  | .cl xs => some xs
  | .ref a => match S a with
    | some (.lst xs) => some xs
    | _ => none
  | _ => none
def inD (neg : Bool) : DR2 := fun x y S Q => ∃ v xs us, scV x = some v ∧ itemsD y S = some xs ∧ flatL xs = some us ∧ Q (.bl (if neg then !inV v us else inV v us)) S
theorem items_is {M : Md} {H : Hp} {S : Sto} {v : V} {d : D} {xs : List D} (hr : Rp M H S) (h : Is M H v d) (e : itemsD d S = some xs) : ∃ a vs, v = .ref a ∧ (SqL M.K H a vs ∨ SqT M.K H a vs) ∧ IsL M H vs xs := by
  unfold itemsD at e
  split at e
  · cases e; obtain ⟨a, vs, e1, q, r⟩ := h; exact ⟨a, vs, e1, .inr q.sq, r⟩
  · cases e; obtain ⟨a, vs, e1, q, r⟩ := h; exact ⟨a, vs, e1, .inl q.sq, r⟩
  · split at e
    · rename_i xs' q
      cases e
      obtain ⟨vs, h1, h2⟩ := hr _ _ q
      exact ⟨_, vs, h, .inl (SqL.of h1), h2⟩
    · cases e
  · cases e
section
variable {X : Cx}
theorem dop_eq : DOp X (compareOp .Eq) oEq := ⟨_, op_eq, fun x y dx dy H S Q ix iy hr ⟨v, u, e1, e2, z, q⟩ Q2 k => by
  rw [scV_is e1 ix, scV_is e2 iy]
  exact ⟨z, k _ H _ S (TLe.refl H) Is.b hr q⟩⟩
theorem dop_ne : DOp X (compareOp .NotEq) oNe := ⟨_, op_ne, fun x y dx dy H S Q ix iy hr ⟨v, u, e1, e2, z, q⟩ Q2 k => by
  rw [scV_is e1 ix, scV_is e2 iy]
  exact ⟨z, k _ H _ S (TLe.refl H) Is.b hr q⟩⟩
theorem is_non {M : Md} {H : Hp} {v : V} {d : D} (h : Is M H v d) : decide (v = .non) = isNon d := by
  cases d with
  | non => rw [show v = .non from h]; rfl
  | bl _ => rw [show v = _ from h]; rfl
  | int _ => rw [show v = _ from h]; rfl
  | str _ => rw [show v = _ from h]; rfl
  | ref _ => rw [show v = _ from h]; rfl
  | ty _ => rw [show v = _ from h]; rfl
  | tup _ => obtain ⟨a, vs, e, _⟩ := h; rw [e]; rfl
  | cl _ => obtain ⟨a, vs, e, _⟩ := h; rw [e]; rfl
  | cd _ _ => obtain ⟨a, vs, e, _⟩ := h; rw [e]; rfl
theorem dop_isN : DOp X (compareOp .Is) oIsN := ⟨_, op_isN, fun x y dx dy H S Q ix iy hr ⟨e, q⟩ Q2 k => by
  subst e
  exact ⟨iy, k _ H _ S (TLe.refl H) (by rw [is_non ix]; exact Is.b) hr q⟩⟩
theorem dop_notN : DOp X (compareOp .IsNot) oNotN := ⟨_, op_notN, fun x y dx dy H S Q ix iy hr ⟨e, q⟩ Q2 k => by
  subst e
  exact ⟨iy, k _ H _ S (TLe.refl H) (by rw [is_non ix]; exact Is.b) hr q⟩⟩
theorem dop_in_seq : DOp X (compareOp .In) (inD false) := ⟨_, op_in_seq, fun x y dx dy H S Q ix iy hr ⟨v, xs, us, e1, e2, e3, q⟩ Q2 k => by
  obtain ⟨a, vs, e, s, l⟩ := items_is hr iy e2
  rw [scV_is e1 ix]
  rw [flatL_is e3 l] at s
  exact ⟨a, us, e, s, scV_flat e1, flatL_all e3, k _ H _ S (TLe.refl H) Is.b hr q⟩⟩
theorem dop_notin_seq : DOp X (compareOp .NotIn) (inD true) := ⟨_, op_notIn_seq, fun x y dx dy H S Q ix iy hr ⟨v, xs, us, e1, e2, e3, q⟩ Q2 k => by
  obtain ⟨a, vs, e, s, l⟩ := items_is hr iy e2
  rw [scV_is e1 ix]
  rw [flatL_is e3 l] at s
  exact ⟨a, us, e, s, scV_flat e1, flatL_all e3, k _ H _ S (TLe.refl H) Is.b hr q⟩⟩
end
end DL
end
section
/-! The D-layer, part 4: tests, truth, subscripts, slices, built-in calls, list methods. -/
namespace DL
open PySem PySem.Spec PyProof.Rows L2
/-- a value's truth -/
def Tru : D → Sto → Bool → Prop
  | .non, _, k => k = false
  | .bl b, _, k => k = b
  | .int i, _, k => k = (i != 0)
  | .str s, _, k => s.length ≤ sizeLine ∧ k = ((s.length : Int) != 0)
  | .tup xs, _, k => k = !xs.isEmpty
  | .cl xs, _, k => k = !xs.isEmpty
  | .ref a, S, k => (∃ xs, S a = some (.lst xs) ∧ k = !xs.isEmpty) ∨ ∃ ks vs, S a = some (.dic ks vs) ∧ k = !ks.isEmpty
  | _, _, _ => False
def dTB (t : DTE) : DTT := fun ε S Q => t ε S fun x S1 => ∃ k, x = .bl k ∧ Q k S1
def dTru (t : DTE) : DTT := fun ε S Q => t ε S fun x S1 => ∃ k, Tru x S1 k ∧ Q k S1
def dAnd (t u : DTT) : DTT := fun ε S Q => t ε S fun c S1 => if c = true then u ε S1 Q else Q false S1
def dOr (t u : DTT) : DTT := fun ε S Q => t ε S fun c S1 => if c = true then Q true S1 else u ε S1 Q
def dNot (t : DTT) : DTT := fun ε S Q => t ε S fun c S1 => Q (!c) S1
def dAndV (t u : DTE) : DTE := fun ε S Q => t ε S fun x S1 => ∃ k, Tru x S1 k ∧ if k = true then u ε S1 Q else Q x S1
def dOrV (t u : DTE) : DTE := fun ε S Q => t ε S fun x S1 => ∃ k, Tru x S1 k ∧ if k = true then Q x S1 else u ε S1 Q
def dNotV (t : DTE) : DTE := fun ε S Q => t ε S fun x S1 => ∃ k, Tru x S1 k ∧ Q (.bl (!k)) S1
def dIfE (c : DTT) (t u : DTE) : DTE := fun ε S Q => c ε S fun b S1 => if b = true then t ε S1 Q else u ε S1 Q
theorem isEmpty_of {M : Md} {H : Hp} {vs : List V} {ds : List D} (h : IsL M H vs ds) : vs.isEmpty = ds.isEmpty := by
  have := h.length
  cases vs <;> cases ds <;> simp_all
theorem tru_is {M : Md} {H : Hp} {S : Sto} {v : V} {d : D} {k : Bool} (hr : Rp M H S) (h : Is M H v d) (t : Tru d S k) : TruV M.K v H k := by
  cases d with
  | non => rw [show v = .non from h]; exact t
  | bl _ => rw [show v = _ from h]; exact t
  | int _ => rw [show v = _ from h]; exact t
  | str _ => rw [show v = _ from h]; exact t
  | tup xs => obtain ⟨a, vs, e, q, r⟩ := h; rw [e]; exact .inr (.inl ⟨vs, q.sq, by rw [isEmpty_of r]; exact t⟩)
  | cl xs => obtain ⟨a, vs, e, q, r⟩ := h; rw [e]; exact .inl ⟨vs, q.sq, by rw [isEmpty_of r]; exact t⟩
  | ref a =>
    rw [show v = _ from h]
    rcases t with ⟨xs, e, z⟩ | ⟨ks, vs, e, z⟩
    · obtain ⟨us, h1, h2⟩ := hr _ _ e
      exact .inl ⟨us, SqL.of h1, by rw [isEmpty_of h2]; exact z⟩
    · obtain ⟨kvs, h1, h2, h3⟩ := hr _ _ e
      refine .inr (.inr ⟨kvs, h1, ?_⟩)
      rw [z, h2]
      cases kvs <;> rfl
  | ty _ => exact t.elim
  | cd _ _ => exact t.elim
section
variable {X : Cx} {e a b c : Expr} {es rest : List Expr} {pos : Pos} {ta tb : DTE} {t u : DTT}
theorem dt_cmp {op : CmpOp} {o : DR2} (h : DOp X (compareOp op) o) (ha : DE X a ta) (hb : DE X b tb) (hm : behindInMarks op b = false) : DT X (.Compare a [op] [b] pos) (dTB (dOp o ta tb)) := by
  obtain ⟨r, h1, h2⟩ := h.ex
  obtain ⟨te, a1, a2⟩ := ha.ex
  obtain ⟨tr, b1, b2⟩ := hb.ex
  refine ⟨_, pt_cmpR h1 a1 b1 hm, fun σ H ε S Q he hr q Q2 k => ?_⟩
  refine a2 σ H ε S _ he hr q _ fun v H1 d S1 t1 r1 p1 q1 => ?_
  refine b2 σ H1 ε S1 _ (he.mono t1) p1 q1 _ fun u H2 d2 S2 t2 r2 p2 q2 => ?_
  refine h2 v u d d2 H2 S2 _ (Is.mono t2 r1) r2 p2 q2 _ fun z H3 d3 S3 t3 r3 p3 ⟨b, e, q3⟩ => ?_
  subst e
  exact ⟨b, r3, k b H3 S3 ((t1.trans t2).trans t3) p3 q3⟩
theorem dt_tru (ha : DE X a ta) (he : ∀ whole, isTrue a X.env whole = (do let v ← whole; standAt a.pos; holding [v] (truthy v)) := by intro _; rfl) : DT X a (dTru ta) := by
  obtain ⟨te, a1, a2⟩ := ha.ex
  refine ⟨_, pt_truth a1 he, fun σ H ε S Q he hr q Q2 k => ?_⟩
  refine a2 σ H ε S _ he hr q _ fun v H1 d S1 t1 r1 p1 ⟨b, z, q1⟩ => ⟨b, tru_is p1 r1 z, k b H1 S1 t1 p1 q1⟩
theorem dt_not (h : DT X a t) : DT X (.UnaryOp .Not a pos) (dNot t) := by
  obtain ⟨te, a1, a2⟩ := h.ex
  exact ⟨_, pt_not a1, fun σ H ε S Q he hr q Q2 k => a2 σ H ε S _ he hr q _ fun b H1 S1 t1 p1 q1 => k _ H1 S1 t1 p1 q1⟩
theorem DW.dt (h : DW X a t) : DT X a t := by
  obtain ⟨te, a1, a2⟩ := h.ex
  exact ⟨_, a1.pt, a2⟩
theorem dw_and1 (h : DT X a t) : DW X (.BoolOp .And [a] pos) t := by
  obtain ⟨te, a1, a2⟩ := h.ex
  exact ⟨_, pw_and1 a1, a2⟩
theorem dw_or1 (h : DT X a t) : DW X (.BoolOp .Or [a] pos) t := by
  obtain ⟨te, a1, a2⟩ := h.ex
  exact ⟨_, pw_or1 a1, a2⟩
theorem dw_and (h : DT X a t) (g : DW X (.BoolOp .And (b :: rest) pos) u) : DW X (.BoolOp .And (a :: b :: rest) pos) (dAnd t u) := by
  obtain ⟨te, a1, a2⟩ := h.ex
  obtain ⟨tf, b1, b2⟩ := g.ex
  refine ⟨_, pw_and a1 b1, fun σ H ε S Q he hr q Q2 k => ?_⟩
  refine a2 σ H ε S _ he hr q _ fun c H1 S1 t1 p1 q1 => ?_
  cases c with
  | true => exact iteT (b2 σ H1 ε S1 _ (he.mono t1) p1 q1 _ fun c H2 S2 t2 p2 q2 => k c H2 S2 (t1.trans t2) p2 q2)
  | false => exact iteF (k _ H1 S1 t1 p1 q1)
theorem dw_or (h : DT X a t) (g : DW X (.BoolOp .Or (b :: rest) pos) u) : DW X (.BoolOp .Or (a :: b :: rest) pos) (dOr t u) := by
  obtain ⟨te, a1, a2⟩ := h.ex
  obtain ⟨tf, b1, b2⟩ := g.ex
  refine ⟨_, pw_or a1 b1, fun σ H ε S Q he hr q Q2 k => ?_⟩
  refine a2 σ H ε S _ he hr q _ fun c H1 S1 t1 p1 q1 => ?_
  cases c with
  | false => exact iteF (b2 σ H1 ε S1 _ (he.mono t1) p1 q1 _ fun c H2 S2 t2 p2 q2 => k c H2 S2 (t1.trans t2) p2 q2)
  | true => exact iteT (k _ H1 S1 t1 p1 q1)
theorem de_one {op} (h : DE X a ta) : DE X (.BoolOp op [a] pos) ta := by
  obtain ⟨te, a1, a2⟩ := h.ex
  exact ⟨_, pe_one a1, a2⟩
theorem de_and (h : DE X a ta) (g : DE X (.BoolOp .And (b :: rest) pos) tb) : DE X (.BoolOp .And (a :: b :: rest) pos) (dAndV ta tb) := by
  obtain ⟨te, a1, a2⟩ := h.ex
  obtain ⟨tf, b1, b2⟩ := g.ex
  refine ⟨_, pe_andT a1 b1, fun σ H ε S Q he hr q Q2 k => ?_⟩
  refine a2 σ H ε S _ he hr q _ fun v H1 d S1 t1 r1 p1 ⟨c, z, q1⟩ => ⟨c, tru_is p1 r1 z, ?_⟩
  cases c with
  | true => exact iteT (b2 σ H1 ε S1 _ (he.mono t1) p1 q1 _ fun v H2 d S2 t2 r2 p2 q2 => k v H2 d S2 (t1.trans t2) r2 p2 q2)
  | false => exact iteF (k _ H1 d S1 t1 r1 p1 q1)
theorem de_or (h : DE X a ta) (g : DE X (.BoolOp .Or (b :: rest) pos) tb) : DE X (.BoolOp .Or (a :: b :: rest) pos) (dOrV ta tb) := by
  obtain ⟨te, a1, a2⟩ := h.ex
  obtain ⟨tf, b1, b2⟩ := g.ex
  refine ⟨_, pe_orT a1 b1, fun σ H ε S Q he hr q Q2 k => ?_⟩
  refine a2 σ H ε S _ he hr q _ fun v H1 d S1 t1 r1 p1 ⟨c, z, q1⟩ => ⟨c, tru_is p1 r1 z, ?_⟩
  cases c with
  | false => exact iteF (b2 σ H1 ε S1 _ (he.mono t1) p1 q1 _ fun v H2 d S2 t2 r2 p2 q2 => k v H2 d S2 (t1.trans t2) r2 p2 q2)
  | true => exact iteT (k _ H1 d S1 t1 r1 p1 q1)
theorem de_not (h : DE X a ta) : DE X (.UnaryOp .Not a pos) (dNotV ta) := by
  obtain ⟨te, a1, a2⟩ := h.ex
  exact ⟨_, pe_notT a1, fun σ H ε S Q he hr q Q2 k => a2 σ H ε S _ he hr q _ fun v H1 d S1 t1 r1 p1 ⟨c, z, q1⟩ => ⟨c, tru_is p1 r1 z, k _ H1 _ S1 t1 Is.b p1 q1⟩⟩
theorem de_ifE (h : DT X c t) (ha : DE X a ta) (hb : DE X b tb) : DE X (.IfExp c a b pos) (dIfE t ta tb) := by
  obtain ⟨tt, c1, c2⟩ := h.ex
  obtain ⟨te, a1, a2⟩ := ha.ex
  obtain ⟨tf, b1, b2⟩ := hb.ex
  refine ⟨_, pe_ifExp c1 a1 b1, fun σ H ε S Q he hr q Q2 k => ?_⟩
  refine c2 σ H ε S _ he hr q _ fun c H1 S1 t1 p1 q1 => ?_
  cases c with
  | true => exact iteT (a2 σ H1 ε S1 _ (he.mono t1) p1 q1 _ fun v H2 d S2 t2 r2 p2 q2 => k v H2 d S2 (t1.trans t2) r2 p2 q2)
  | false => exact iteF (b2 σ H1 ε S1 _ (he.mono t1) p1 q1 _ fun v H2 d S2 t2 r2 p2 q2 => k v H2 d S2 (t1.trans t2) r2 p2 q2)
end
/-! ### -a -/
def dNeg (t : DTE) : DTE := fun ε S Q => t ε S fun x S1 => ∃ i, x = .int i ∧ Q (.int (-i)) S1
theorem de_neg {X : Cx} {a : Expr} {pos : Pos} {ta : DTE} (h : DE X a ta) : DE X (.UnaryOp .USub a pos) (dNeg ta) := by
  obtain ⟨te, a1, a2⟩ := h.ex
  refine ⟨_, pe_un un_neg a1, fun σ H ε S Q he hr q Q2 k => a2 σ H ε S _ he hr q _ fun v H1 d S1 t1 r1 p1 ⟨i, e, q1⟩ => ?_⟩
  subst e
  exact ⟨i, r1, k _ H1 _ S1 t1 Is.i p1 q1⟩
/-! ### subscripts by ints -/
def ixD : DR2 := fun x y S Q => ∃ i, y = .int i ∧ match x with
  | .str s => s.length ≤ sizeLine ∧ ∃ c, atI s.cps.toList i = some c ∧ Q (.str ⟨#[c]⟩) S
  | _ => ∃ xs d, itemsD x S = some xs ∧ atI xs i = some d ∧ Q d S
theorem IsL.atI {M : Md} {H : Hp} {ds : List D} {vs : List V} {i : Int} {d : D} (h : IsL M H vs ds) (e : atI ds i = some d) : ∃ v, L2.atI vs i = some v ∧ Is M H v d := by
  unfold L2.atI at e ⊢
  rw [h.length]
  cases q : ixN ds.length i with
  | none => rw [q] at e; cases e
  | some j => rw [q] at e; exact h.get (i := j) e
section
variable {X : Cx} {e a b c : Expr} {es rest : List Expr} {pos p2 : Pos} {ta tb : DTE}
theorem ixD_is {K0 : Md} {v u : V} {d d2 : D} {H : Hp} {S : Sto} {Q : DK} {Q2 : VK} (p2 : Rp K0 H S) (r1' : Is K0 H v d) (r2 : Is K0 H u d2) (q2 : ixD d d2 S Q) (k : ∀ v H' d S', TLe H H' → Is K0 H' v d → Rp K0 H' S' → Q d S' → Q2 v H') : rIx K0.K v u H Q2 := by
  obtain ⟨i, e, q2⟩ := q2
  subst e
  have fin : ∀ xs d', itemsD d S = some xs → atI xs i = some d' → Q d' S → rIx K0.K v u H Q2 := fun xs d' e1 e2 q3 => by
    obtain ⟨p, vs, e3, sq, l⟩ := items_is p2 r1' e1
    obtain ⟨w', e4, r4⟩ := l.atI e2
    rcases sq with sq | sq
    · exact .inl ⟨p, vs, i, w', e3, r2, sq, e4, k w' H d' S (TLe.refl H) r4 p2 q3⟩
    · exact .inr (.inl ⟨p, vs, i, w', e3, r2, sq, e4, k w' H d' S (TLe.refl H) r4 p2 q3⟩)
  cases d with
  | str s =>
    obtain ⟨z, c, e1, q3⟩ := q2
    exact .inr (.inr ⟨s, i, c, r1', r2, z, e1, k _ H _ S (TLe.refl H) Is.s p2 q3⟩)
  | non => obtain ⟨xs, d', e1, e2, q3⟩ := q2; exact fin xs d' e1 e2 q3
  | bl _ => obtain ⟨xs, d', e1, e2, q3⟩ := q2; exact fin xs d' e1 e2 q3
  | int _ => obtain ⟨xs, d', e1, e2, q3⟩ := q2; exact fin xs d' e1 e2 q3
  | tup _ => obtain ⟨xs, d', e1, e2, q3⟩ := q2; exact fin xs d' e1 e2 q3
  | ref _ => obtain ⟨xs, d', e1, e2, q3⟩ := q2; exact fin xs d' e1 e2 q3
  | ty _ => obtain ⟨xs, d', e1, e2, q3⟩ := q2; exact fin xs d' e1 e2 q3
  | cl _ => obtain ⟨xs, d', e1, e2, q3⟩ := q2; exact fin xs d' e1 e2 q3
  | cd _ _ => obtain ⟨xs, d', e1, e2, q3⟩ := q2; exact fin xs d' e1 e2 q3
end
/-! ### slices -/
abbrev DTO := Env → Sto → (Option Int → Sto → Prop) → Prop
structure DO (X : Cx) (e : Option Expr) (t : DTO) : Prop where
  ex : ∃ te, PO X e te ∧ ∀ σ H ε S Q, Ep (Cxmd X) H σ ε → Rp (Cxmd X) H S → t ε S Q → ∀ Q2 : Option Int → Hp → Prop, (∀ o H' S', TLe H H' → Rp (Cxmd X) H' S' → Q o S' → Q2 o H') → te σ H Q2
def dNoP : DTO := fun _ S Q => Q none S
def dSomeP (t : DTE) : DTO := fun ε S Q => t ε S fun x S1 => ∃ i, x = .int i ∧ Q (some i) S1
def cutD (xs : List D) (lo hi : Option Int) : List D := (xs.drop (HT.sIx xs.length 0 lo)).take (HT.sIx xs.length xs.length hi - HT.sIx xs.length 0 lo)
theorem IsL.cut {M : Md} {H : Hp} {ds : List D} {vs : List V} (lo hi : Option Int) (h : IsL M H vs ds) : IsL M H (cutV vs lo hi) (cutD ds lo hi) := by
  unfold cutV cutD
  rw [h.length]
  exact (h.drop _).take _
def slD (x : D) (lo hi : Option Int) (S : Sto) (Q : DK) : Prop := match x with
  | .str s => s.length ≤ sizeLine ∧ Q (.str (cutS s lo hi)) S
  | .tup xs => Q (.tup (cutD xs lo hi)) S
  | .cl xs => ∀ p, S p = none → Q (.ref p) (put S p (.lst (cutD xs lo hi)))
  | .ref a => ∃ xs, S a = some (.lst xs) ∧ ∀ p, S p = none → Q (.ref p) (put S p (.lst (cutD xs lo hi)))
  | _ => False
def dSl (t : DTE) (l u : DTO) : DTE := fun ε S Q => t ε S fun x S1 => l ε S1 fun lo S2 => u ε S2 fun hi S3 => slD x lo hi S3 Q
section
variable {X : Cx} {e a b c : Expr} {lo hi : Option Expr} {pos p2 : Pos} {ta tb : DTE} {tl th : DTO}
theorem do_none : DO X none dNoP := ⟨_, po_none, fun σ H ε S Q he hr q Q2 k => k _ H S (TLe.refl H) hr q⟩
theorem do_some (h : DE X e ta) : DO X (some e) (dSomeP ta) := by
  obtain ⟨te, a1, a2⟩ := h.ex
  refine ⟨_, po_some a1, fun σ H ε S Q he hr q Q2 k => a2 σ H ε S _ he hr q _ fun v H1 d S1 t1 r1 p1 ⟨i, e, q1⟩ => ?_⟩
  subst e
  exact ⟨i, r1, k _ H1 S1 t1 p1 q1⟩
theorem de_sl (h : DE X e ta) (hl : DO X lo tl) (hh : DO X hi th) : DE X (.Subscript e (.Slice lo hi none p2) pos) (dSl ta tl th) := by
  obtain ⟨te, a1, a2⟩ := h.ex
  obtain ⟨tr, b1, b2⟩ := hl.ex
  obtain ⟨tq, c1, c2⟩ := hh.ex
  refine ⟨_, pe_slice (sl_list.or (sl_tupA.or sl_str)) a1 b1 c1, fun σ H ε S Q he hr q Q2 k => ?_⟩
  refine a2 σ H ε S _ he hr q _ fun v H1 d S1 t1 r1 p1 q1 => ?_
  refine b2 σ H1 ε S1 _ (he.mono t1) p1 q1 _ fun o1 H2 S2 t2 p2 q2 => ?_
  refine c2 σ H2 ε S2 _ ((he.mono t1).mono t2) p2 q2 _ fun o2 H3 S3 t3 p3 q3 => ?_
  have tt := (t1.trans t2).trans t3
  have r3 := Is.mono t3 (Is.mono t2 r1)
  cases d with
  | str s =>
    obtain ⟨z, q3⟩ := q3
    exact .inr (.inr ⟨s, r3, z, k _ H3 _ S3 tt Is.s p3 q3⟩)
  | tup xs =>
    obtain ⟨p, vs, e, sq, l⟩ := r3
    have q3' : Q (.tup (cutD xs o1 o2)) S3 := q3
    refine .inr (.inl ⟨p, vs, e, sq.sq, fun ⟨w1, w2⟩ => ?_, fun _ n hn => ?_⟩)
    · have w3 : cutD xs o1 o2 = xs := by
        rw [l.length] at w1 w2
        unfold cutD
        rw [w1, w2]; simp
      rw [w3] at q3'
      exact k _ H3 _ S3 tt (Is.t sq l) p3 q3'
    · have t4 : TLe H3 (upd H3 n (.tup (cutV vs o1 o2))) := TLe.new hn
      exact k _ _ _ S3 (tt.trans t4) (Is.tn (IsL.mono t4 (l.cut o1 o2))) (p3.new hn) q3'
  | cl xs =>
    obtain ⟨p, vs, e, sq, l⟩ := r3
    refine .inl ⟨p, vs, e, sq.sq, fun n hn => ?_⟩
    have t4 : TLe H3 (upd H3 n (.lst (cutV vs o1 o2))) := TLe.new hn
    exact k _ _ _ _ (tt.trans t4) Is.r (p3.put t4 (CellIs.ln (IsL.mono t4 (l.cut o1 o2)))) (q3 n (p3.free hn))
  | ref a =>
    obtain ⟨xs, e, q3⟩ := q3
    obtain ⟨vs, h1, l⟩ := p3 _ _ e
    refine .inl ⟨a, vs, r3, SqL.of h1, fun n hn => ?_⟩
    have t4 : TLe H3 (upd H3 n (.lst (cutV vs o1 o2))) := TLe.new hn
    exact k _ _ _ _ (tt.trans t4) Is.r (p3.put t4 (CellIs.ln (IsL.mono t4 (l.cut o1 o2)))) (q3 n (p3.free hn))
  | non => exact q3.elim
  | bl _ => exact q3.elim
  | int _ => exact q3.elim
  | ty _ => exact q3.elim
  | cd _ _ => exact q3.elim
end
theorem itemsN_is {M : Md} {H : Hp} {S : Sto} {v : V} {d : D} {xs : List D} (hr : Rp M H S) (h : Is M H v d) (e : itemsD d S = some xs) (n : ¬ ∃ ys, d = .tup ys) : ∃ a vs, v = .ref a ∧ SqL M.K H a vs ∧ IsL M H vs xs := by
  unfold itemsD at e
  split at e
  · exact (n ⟨_, rfl⟩).elim
  · cases e; obtain ⟨a, vs, e1, q, r⟩ := h; exact ⟨a, vs, e1, q.sq, r⟩
  · split at e
    · rename_i xs' q
      cases e
      obtain ⟨vs, h1, h2⟩ := hr _ _ q
      exact ⟨_, vs, h, SqL.of h1, h2⟩
    · cases e
  · cases e
/-! ### built-in calls -/
abbrev DR := List D → Sto → DK → Prop
structure DCl (X : Cx) (f : Value) (o : DR) : Prop where
  ex : ∃ r, CallR X f r ∧ ∀ vs ds H S Q, IsL (Cxmd X) H vs ds → Rp (Cxmd X) H S → o ds S Q → ∀ Q2 : VK, (∀ v H' d S', TLe H H' → Is (Cxmd X) H' v d → Rp (Cxmd X) H' S' → Q d S' → Q2 v H') → r vs H Q2
theorem DCl.or {X : Cx} {f : Value} {o o' : DR} (h : DCl X f o) (g : DCl X f o') : DCl X f (fun x S Q => o x S Q ∨ o' x S Q) := by
  obtain ⟨r, h1, h2⟩ := h.ex
  obtain ⟨r', g1, g2⟩ := g.ex
  exact ⟨_, h1.or g1, fun x dx H S Q ix hr q Q2 k => q.imp (fun z => h2 x dx H S Q ix hr z Q2 k) (fun z => g2 x dx H S Q ix hr z Q2 k)⟩
theorem DCl.imp {X : Cx} {f : Value} {o o' : DR} (h : DCl X f o) (i : ∀ x S Q, o' x S Q → o x S Q) : DCl X f o' := by
  obtain ⟨r, h1, h2⟩ := h.ex
  exact ⟨_, h1, fun x dx H S Q ix hr q Q2 k => h2 x dx H S Q ix hr (i _ _ _ q) Q2 k⟩
def dCB (o : DR) (t : DTA) : DTE := fun ε S Q => t ε S fun ds S1 => o ds S1 Q
section
variable {X : Cx} {x : Str} {e : Expr} {es : List Expr} {p pos : Pos} {id T : String} {o : DR} {t : DTA}
theorem de_callB (hc : DCl X (.builtin id) o) (hg : Gl X x) (hm : X.mg x = none) (hv : bootBuiltins x = some (.builtin id)) (ha : DA X (e :: es) t) (hn : x ≠ "__name__" := by decide) (hd : (x == ("__debug__" : Str)) = false := by decide)
    (hst : starEach (e :: es) X.env = (false, eval e X.env) :: starEach es X.env := by rfl) (hpl : (backTo pos (starEach es X.env)).any (·.1) = false := by rfl) : DE X (.Call (.Name x p) (e :: es) [] pos) (dCB o t) := by
  obtain ⟨r, h1, h2⟩ := hc.ex
  obtain ⟨ta, a1, a2⟩ := ha.ex
  refine ⟨_, pe_callB h1 hg hm hv a1 hn hd hst hpl, fun σ H ε S Q he hr q Q2 k => ?_⟩
  refine a2 σ H ε S _ he hr q _ fun vs H1 ds S1 t1 r1 p1 q1 => ?_
  exact h2 vs ds H1 S1 Q r1 p1 q1 _ fun v H2 d S2 t2 r2 p2 q2 => k v H2 d S2 (t1.trans t2) r2 p2 q2
theorem de_callTy (hc : DCl X (.type T) o) (hg : Gl X x) (hm : X.mg x = none) (hv : bootBuiltins x = some (.type T)) (ha : DA X (e :: es) t) (hn : x ≠ "__name__" := by decide) (hd : (x == ("__debug__" : Str)) = false := by decide)
    (hst : starEach (e :: es) X.env = (false, eval e X.env) :: starEach es X.env := by rfl) (hpl : (backTo pos (starEach es X.env)).any (·.1) = false := by rfl) : DE X (.Call (.Name x p) (e :: es) [] pos) (dCB o t) := by
  obtain ⟨r, h1, h2⟩ := hc.ex
  obtain ⟨ta, a1, a2⟩ := ha.ex
  refine ⟨_, pe_callTy h1 hg hm hv a1 hn hd hst hpl, fun σ H ε S Q he hr q Q2 k => ?_⟩
  refine a2 σ H ε S _ he hr q _ fun vs H1 ds S1 t1 r1 p1 q1 => ?_
  exact h2 vs ds H1 S1 Q r1 p1 q1 _ fun v H2 d S2 t2 r2 p2 q2 => k v H2 d S2 (t1.trans t2) r2 p2 q2
end
theorem IsL.one {M : Md} {H : Hp} {vs : List V} {d : D} (h : IsL M H vs [d]) : ∃ v, vs = [v] ∧ Is M H v d := by
  obtain ⟨v, r, e, q, z⟩ := h
  have e2 : r = [] := z
  exact ⟨v, by rw [e, e2], q⟩
theorem IsL.two {M : Md} {H : Hp} {vs : List V} {d d' : D} (h : IsL M H vs [d, d']) : ∃ v u, vs = [v, u] ∧ Is M H v d ∧ Is M H u d' := by
  obtain ⟨v, r, e, q, z⟩ := h
  obtain ⟨u, e2, q2⟩ := IsL.one z
  exact ⟨v, u, by rw [e, e2], q, q2⟩
def oLen : DR := fun ds S Q => ∃ d, ds = [d] ∧ match d with
  | .str s => s.length ≤ sizeLine ∧ Q (.int s.length) S
  | .cd ks _ => False
  | d => ∃ xs, itemsD d S = some xs ∧ Q (.int xs.length) S
def oInt1 : DR := fun ds S Q => (∃ i, ds = [.int i] ∧ Q (.int i) S) ∨ ∃ b, ds = [.bl b] ∧ Q (.int (if b then 1 else 0)) S
def oStrI : DR := fun ds S Q => ∃ i : Int, ds = [.int i] ∧ i.natAbs.log2 < 1920 ∧ Q (.str (toString i)) S
def oTuple : DR := fun ds S Q => ∃ d xs, ds = [d] ∧ itemsD d S = some xs ∧ Q (.tup xs) S
def oList : DR := fun ds S Q => ∃ d xs, ds = [d] ∧ itemsD d S = some xs ∧ ∀ p, S p = none → Q (.ref p) (put S p (.lst xs))
section
variable {X : Cx}
theorem dcl_len : DCl X (.builtin "len") oLen := by
  refine ⟨_, call_len, fun vs ds H S Q ix hr ⟨d, e, q⟩ Q2 k => ?_⟩
  subst e
  obtain ⟨v, e, i⟩ := ix.one
  subst e
  have fin : ∀ xs, itemsD d S = some xs → Q (.int xs.length) S → ∃ x n, [v] = [x] ∧ LenV X.K x H n ∧ Q2 (.int n) H := fun xs e1 q1 => by
    obtain ⟨p, us, e3, sq, l⟩ := items_is hr i e1
    refine ⟨v, xs.length, rfl, ?_, k _ H _ S (TLe.refl H) Is.i hr q1⟩
    rw [e3]
    exact sq.imp (fun z => ⟨us, z, l.length.symm⟩) (fun z => ⟨us, z, l.length.symm⟩)
  cases d with
  | str s =>
    obtain ⟨z, q⟩ := q
    refine ⟨v, s.length, rfl, ?_, k _ H _ S (TLe.refl H) Is.i hr q⟩
    rw [show v = _ from i]
    exact ⟨z, rfl⟩
  | cd _ _ => exact q.elim
  | non => obtain ⟨xs, e1, q1⟩ := q; exact fin xs e1 q1
  | bl _ => obtain ⟨xs, e1, q1⟩ := q; exact fin xs e1 q1
  | int _ => obtain ⟨xs, e1, q1⟩ := q; exact fin xs e1 q1
  | tup _ => obtain ⟨xs, e1, q1⟩ := q; exact fin xs e1 q1
  | ref _ => obtain ⟨xs, e1, q1⟩ := q; exact fin xs e1 q1
  | ty _ => obtain ⟨xs, e1, q1⟩ := q; exact fin xs e1 q1
  | cl _ => obtain ⟨xs, e1, q1⟩ := q; exact fin xs e1 q1
theorem dcl_int1 : DCl X (.type "int") oInt1 := by
  refine ⟨_, call_int1, fun vs ds H S Q ix hr q Q2 k => ?_⟩
  rcases q with ⟨i, e, q⟩ | ⟨b, e, q⟩
  · subst e
    obtain ⟨v, e, r⟩ := ix.one
    rw [e, show v = _ from r]
    exact .inl ⟨i, rfl, k _ H _ S (TLe.refl H) Is.i hr q⟩
  · subst e
    obtain ⟨v, e, r⟩ := ix.one
    rw [e, show v = _ from r]
    exact .inr ⟨b, rfl, k _ H _ S (TLe.refl H) Is.i hr q⟩
theorem dcl_strI : DCl X (.type "str") oStrI := by
  refine ⟨_, call_str_int, fun vs ds H S Q ix hr ⟨i, e, z, q⟩ Q2 k => ?_⟩
  subst e
  obtain ⟨v, e, r⟩ := ix.one
  rw [e, show v = _ from r]
  exact ⟨i, rfl, z, k _ H _ S (TLe.refl H) Is.s hr q⟩
theorem dcl_tuple : DCl X (.type "tuple") oTuple := by
  refine ⟨_, call_tuple_of, fun vs ds H S Q ix hr ⟨d, xs, e, e1, q⟩ Q2 k => ?_⟩
  subst e
  obtain ⟨v, e, r⟩ := ix.one
  subst e
  by_cases ht : ∃ ys, d = .tup ys
  · obtain ⟨ys, rfl⟩ := ht
    cases e1
    obtain ⟨p, us, rfl, sq, l⟩ := r
    exact ⟨p, us, rfl, .inr ⟨sq.sq, k _ H _ S (TLe.refl H) (Is.t sq l) hr q⟩⟩
  · obtain ⟨p, us, e3, sq, l⟩ := itemsN_is hr r e1 ht
    subst e3
    refine ⟨p, us, rfl, .inl ⟨sq, fun n hn => ?_⟩⟩
    have t4 : TLe H (upd H n (.tup us)) := TLe.new hn
    exact k _ _ _ S t4 (Is.tn (IsL.mono t4 l)) (hr.new hn) q
theorem dcl_list : DCl X (.type "list") oList := by
  refine ⟨_, call_list_of, fun vs ds H S Q ix hr ⟨d, xs, e, e1, q⟩ Q2 k => ?_⟩
  subst e
  obtain ⟨v, e, r⟩ := ix.one
  subst e
  obtain ⟨p, us, e3, sq, l⟩ := items_is hr r e1
  subst e3
  refine ⟨p, us, rfl, sq, fun n hn => ?_⟩
  have t4 : TLe H (upd H n (.lst us)) := TLe.new hn
  exact k _ _ _ _ t4 Is.r (hr.put t4 (CellIs.ln (IsL.mono t4 l))) (q n (hr.free hn))
end
/-! ### isinstance by built-in types -/
def tyD : D → Sto → Option String
  | .non, _ => some "NoneType"
  | .bl _, _ => some "bool"
  | .int _, _ => some "int"
  | .str _, _ => some "str"
  | .tup _, _ => some "tuple"
  | .cl _, _ => some "list"
  | .cd _ _, _ => some "dict"
  | .ref a, S => match S a with
    | some (.lst _) => some "list"
    | some (.dic _ _) => some "dict"
    | _ => none
  | .ty _, _ => none
theorem tyD_is {M : Md} {H : Hp} {S : Sto} {v : V} {d : D} {T : String} (hr : Rp M H S) (h : Is M H v d) (e : tyD d S = some T) : TyX M.K H v (.type T) := by
  cases d with
  | non => cases e; rw [show v = _ from h]; exact .base .non
  | bl _ => cases e; rw [show v = _ from h]; exact .base (.bl _)
  | int _ => cases e; rw [show v = _ from h]; exact .base (.int _)
  | str _ => cases e; rw [show v = _ from h]; exact .base (.str _)
  | tup xs =>
    cases e; obtain ⟨a, vs, e, q, r⟩ := h; rw [e]
    rcases q with q | ⟨o, its, n, q, c, _⟩
    · exact .base (.tup q)
    · exact .kTuple q c
  | cl xs =>
    cases e; obtain ⟨a, vs, e, q, r⟩ := h; rw [e]
    rcases q with ⟨o, q⟩ | ⟨o, its, n, q, c, _⟩
    · exact .base (.frz q)
    · exact .kList q c
  | cd ks xs =>
    cases e; obtain ⟨a, vs, e, ⟨q1, ⟨o, q2, q3, _⟩, q4⟩, r⟩ := h; rw [e]
    exact .kDict q2 q3
  | ref a =>
    rw [show v = _ from h]
    have e : (match S a with | some (.lst _) => some "list" | some (.dic _ _) => some "dict" | _ => none) = some T := e
    cases q : S a with
    | none => rw [q] at e; cases e
    | some c =>
      rw [q] at e
      cases c with
      | lst xs =>
        cases e
        obtain ⟨us, h1, h2⟩ := hr _ _ q
        exact .base (.lst h1)
      | dic ks xs =>
        cases e
        obtain ⟨kvs, h1, h2, h3⟩ := hr _ _ q
        exact .base (.dK h1)
      | set _ => cases e
      | ins _ _ => cases e
  | ty _ => cases e
def kitL (T : String) : List D → Option Bool
  | [] => some false
  | .ty n :: r => match kitB T n, kitL T r with
    | some b, some c => some (b || c)
    | _, _ => none
  | _ :: _ => none
def oIsi : DR := fun ds S Q => ∃ x c T b, ds = [x, c] ∧ tyD x S = some T ∧ (match c with | .ty n => kitB T n | .tup cs => kitL T cs | _ => none) = some b ∧ Q (.bl b) S
theorem kitL_is {M : Md} {H : Hp} {T : String} : ∀ {cs : List D} {vs : List V} {b : Bool}, kitL T cs = some b → IsL M H vs cs → ∃ us, Paired ClsV vs us ∧ PySem.W.kitAny M.K (.type T) us = some b
  | [], vs, b, e, h => by cases e; have e : vs = [] := h; subst e; exact ⟨[], .nil, kitAny_nil⟩
  | .ty n :: r, vs, b, e, h => by
    obtain ⟨v, rr, e1, q, z⟩ := (show ∃ v rr, vs = v :: rr ∧ Is M H v (.ty n) ∧ IsL M H rr r from h)
    unfold kitL at e
    split at e
    · rename_i b1 c1 h1 h2
      obtain ⟨us, p1, p2⟩ := kitL_is h2 z
      refine ⟨.type n :: us, ?_, kitAny_cons (b := b1) (kit_ty h1) (fun z => ?_) (fun z => ?_)⟩
      · rw [e1, show v = _ from q]; exact .cons (.ty n) p1
      · subst z; rw [p2]; cases e; rfl
      · subst z; cases e; rfl
    · cases e
  | .non :: r, vs, b, e, h => by cases e
  | .bl _ :: r, vs, b, e, h => by cases e
  | .int _ :: r, vs, b, e, h => by cases e
  | .str _ :: r, vs, b, e, h => by cases e
  | .tup _ :: r, vs, b, e, h => by cases e
  | .ref _ :: r, vs, b, e, h => by cases e
  | .cl _ :: r, vs, b, e, h => by cases e
  | .cd _ _ :: r, vs, b, e, h => by cases e
/-- isinstance(x, T), T a built-in type -/
theorem dcl_isi1 {X : Cx} : DCl X (.builtin "isinstance") (fun ds S Q => ∃ x n T b, ds = [x, .ty n] ∧ tyD x S = some T ∧ kitB T n = some b ∧ Q (.bl b) S) := by
  refine ⟨_, call_isi, fun vs ds H S Q ix hr ⟨x, n, T, b, e, e1, e2, q⟩ Q2 k => ?_⟩
  subst e
  obtain ⟨v, u, e, i1, i2⟩ := ix.two
  rw [e, show u = _ from i2]
  exact ⟨v, .ty n, _, _, b, rfl, .ty n, tyD_is hr i1 e1, kit_ty e2, k _ H _ S (TLe.refl H) Is.b hr q⟩
/-- isinstance(x, (T, ..)), the tuple just laid -/
theorem dcl_isiT {X : Cx} : DCl X (.builtin "isinstance") (fun ds S Q => ∃ x cs T b, ds = [x, .tup cs] ∧ tyD x S = some T ∧ kitL T cs = some b ∧ Q (.bl b) S) := by
  refine ⟨_, call_isiT.or call_isiK, fun vs ds H S Q ix hr ⟨x, cs, T, b, e, e1, e2, q⟩ Q2 k => ?_⟩
  subst e
  obtain ⟨v, u, e, i1, a, us, e3, sq, l⟩ := ix.two
  subst e e3
  obtain ⟨ws, p1, p2⟩ := kitL_is e2 l
  have fin : Q2 (.bl b) H := k _ H _ S (TLe.refl H) Is.b hr q
  rcases sq with sq | ⟨o, its, n, h1, h2, h3, h4, h5⟩
  · exact .inl ⟨v, a, us, _, ws, b, rfl, sq, p1, tyD_is hr i1 e1, p2, fin⟩
  · have e5 : its.toList = ws := ClsV.all p1 h5
    obtain ⟨oc, od, odt, osl⟩ := o
    simp only at h2 h3
    subst h2 h3
    refine .inr ⟨v, a, od, ws, n, osl, _, b, rfl, ?_, tyD_is hr i1 e1, p2, fin⟩
    rw [h1, ← e5]
end DL
end
section
/-! The D-layer, part 5: list methods, targets, statements, loops. -/
namespace DL
open PySem PySem.Spec PyProof.Rows L2
/-! ### methods of lists -/
def dAppend (to te : DTE) : DTE := fun ε S Q => to ε S fun o S1 => ∃ a xs, o = .ref a ∧ S1 a = some (.lst xs) ∧ te ε S1 fun y S2 => ∃ ys, S2 a = some (.lst ys) ∧ ys.length < sizeLine ∧ Q .non (put S2 a (.lst (ys ++ [y])))
def dExtend (to te : DTE) : DTE := fun ε S Q => to ε S fun o S1 => ∃ a xs, o = .ref a ∧ S1 a = some (.lst xs) ∧ te ε S1 fun y S2 => ∃ b ys zs, y = .ref b ∧ S2 a = some (.lst ys) ∧ S2 b = some (.lst zs) ∧ ys.length + zs.length ≤ sizeLine ∧ Q .non (put S2 a (.lst (ys ++ zs)))
def dPop (to : DTE) : DTE := fun ε S Q => to ε S fun o S1 => ∃ a xs y, o = .ref a ∧ S1 a = some (.lst xs) ∧ xs[xs.length - 1]? = some y ∧ Q y (put S1 a (.lst xs.dropLast))
def dPopAt (to te : DTE) : DTE := fun ε S Q => to ε S fun o S1 => ∃ a xs, o = .ref a ∧ S1 a = some (.lst xs) ∧ te ε S1 fun i S2 => ∃ j k ys y, i = .int j ∧ S2 a = some (.lst ys) ∧ -(2 ^ 63) ≤ j ∧ j < 2 ^ 63 ∧ seqIndex? j ys.length = some k ∧ ys[k]? = some y ∧ Q y (put S2 a (.lst (ys.eraseIdx k)))
def dReverse (to : DTE) : DTE := fun ε S Q => to ε S fun o S1 => ∃ a xs, o = .ref a ∧ S1 a = some (.lst xs) ∧ Q .non (put S1 a (.lst xs.reverse))
section
variable {X : Cx} {o e : Expr} {to te : DTE} {apos cpos : Pos}
theorem tl_mut {H : Hp} {a : Addr} {vs : List V} {o : HO} (h : H a = some (.lst vs)) : TLe H (upd H a o) := TLe.mut (by rw [h]; trivial)
theorem de_append (ho : DE X o to) (he : DE X e te) (hbase : attributeBase o "append" X.env (eval o X.env) = eval o X.env := by rfl) (hline : (apos.endLine == cpos.line) = true := by rfl)
    (hfew : ((backTo cpos (starEach [e] X.env)).all (fun x => !x.1) && (backToKw cpos (keywordEach [] X.env)).all (fun x => x.1.isSome)
      && decide ([e].length + ([] : List Keyword).length + (if ([] : List Keyword).isEmpty then 0 else 1) < 30)) = true := by rfl)
    (hst : starEach [e] X.env = (false, eval e X.env) :: starEach [] X.env := by rfl) (hpl : (backTo cpos (starEach [] X.env)).any (·.1) = false := by rfl) : DE X (.Call (.Attribute o "append" apos) [e] [] cpos) (dAppend to te) := by
  obtain ⟨t1, a1, a2⟩ := ho.ex
  obtain ⟨t2, b1, b2⟩ := he.ex
  refine ⟨_, pe_bm PySem.F.plainAttrs_list PySem.F.slot_list_append PySem.F.type_list_append mt_append a1 (pa_cons b1 pa_nil hst) hbase hfew hline hst hpl, fun σ H ε S Q he hr q Q2 k => ?_⟩
  refine a2 σ H ε S _ he hr q _ fun v H1 d S1 l1 r1 p1 ⟨a, xs, e, s1, q1⟩ => ?_
  subst e
  obtain ⟨vs, h1, i1⟩ := p1 _ _ s1
  rw [show v = _ from r1]
  refine ⟨.inl ⟨rfl, _, SqL.of h1⟩, ?_⟩
  refine b2 σ H1 ε S1 _ (he.mono l1) p1 q1 _ fun u H2 d2 S2 l2 r2 p2 ⟨ys, s2, z, q2⟩ => ?_
  obtain ⟨us, h2, i2⟩ := p2 _ _ s2
  have l3 : TLe H2 (upd H2 a (.lst (us ++ [u]))) := tl_mut h2
  exact ⟨a, us, u, rfl, rfl, h2, by rw [i2.length]; exact z, k _ _ _ _ ((l1.trans l2).trans l3) Is.n (p2.put l3 (CellIs.ln (IsL.mono l3 (i2.append (IsL.cons r2 IsL.nil))))) q2⟩
theorem de_extend (ho : DE X o to) (he : DE X e te) (hbase : attributeBase o "extend" X.env (eval o X.env) = eval o X.env := by rfl) (hline : (apos.endLine == cpos.line) = true := by rfl)
    (hfew : ((backTo cpos (starEach [e] X.env)).all (fun x => !x.1) && (backToKw cpos (keywordEach [] X.env)).all (fun x => x.1.isSome)
      && decide ([e].length + ([] : List Keyword).length + (if ([] : List Keyword).isEmpty then 0 else 1) < 30)) = true := by rfl)
    (hst : starEach [e] X.env = (false, eval e X.env) :: starEach [] X.env := by rfl) (hpl : (backTo cpos (starEach [] X.env)).any (·.1) = false := by rfl) : DE X (.Call (.Attribute o "extend" apos) [e] [] cpos) (dExtend to te) := by
  obtain ⟨t1, a1, a2⟩ := ho.ex
  obtain ⟨t2, b1, b2⟩ := he.ex
  refine ⟨_, pe_bm PySem.F.plainAttrs_list PySem.F.slot_list_extend PySem.F.type_list_extend mt_extend a1 (pa_cons b1 pa_nil hst) hbase hfew hline hst hpl, fun σ H ε S Q he hr q Q2 k => ?_⟩
  refine a2 σ H ε S _ he hr q _ fun v H1 d S1 l1 r1 p1 ⟨a, xs, e, s1, q1⟩ => ?_
  subst e
  obtain ⟨vs, h1, i1⟩ := p1 _ _ s1
  rw [show v = _ from r1]
  refine ⟨.inl ⟨rfl, _, SqL.of h1⟩, ?_⟩
  refine b2 σ H1 ε S1 _ (he.mono l1) p1 q1 _ fun u H2 d2 S2 l2 r2 p2 ⟨b, ys, zs, e2, s2, s3, z, q2⟩ => ?_
  subst e2
  obtain ⟨us, h2, i2⟩ := p2 _ _ s2
  obtain ⟨ws, h3, i3⟩ := p2 _ _ s3
  rw [show u = _ from r2]
  have l3 : TLe H2 (upd H2 a (.lst (us ++ ws))) := tl_mut h2
  exact ⟨a, b, us, ws, rfl, rfl, h2, h3, by rw [i2.length, i3.length]; exact z, k _ _ _ _ ((l1.trans l2).trans l3) Is.n (p2.put l3 (CellIs.ln (IsL.mono l3 (i2.append i3)))) q2⟩
theorem de_pop (ho : DE X o to) (hbase : attributeBase o "pop" X.env (eval o X.env) = eval o X.env := by rfl) (hline : (apos.endLine == cpos.line) = true := by rfl) : DE X (.Call (.Attribute o "pop" apos) [] [] cpos) (dPop to) := by
  obtain ⟨t1, a1, a2⟩ := ho.ex
  refine ⟨_, pe_bm0 PySem.F.plainAttrs_list PySem.F.slot_list_pop PySem.F.type_list_pop mt_pop a1 hbase hline, fun σ H ε S Q he hr q Q2 k => ?_⟩
  refine a2 σ H ε S _ he hr q _ fun v H1 d S1 l1 r1 p1 ⟨a, xs, y, e, s1, e2, q1⟩ => ?_
  subst e
  obtain ⟨vs, h1, i1⟩ := p1 _ _ s1
  obtain ⟨u, e3, r3⟩ := i1.get e2
  rw [show v = _ from r1]
  have l3 : TLe H1 (upd H1 a (.lst vs.dropLast)) := tl_mut h1
  exact ⟨.inl ⟨rfl, _, SqL.of h1⟩, a, vs, u, rfl, rfl, h1, by rw [i1.length]; exact e3, k _ _ _ _ (l1.trans l3) (Is.mono l3 r3) (p1.put l3 (CellIs.ln (IsL.mono l3 i1.dropLast))) q1⟩
theorem de_popAt (ho : DE X o to) (he : DE X e te) (hbase : attributeBase o "pop" X.env (eval o X.env) = eval o X.env := by rfl) (hline : (apos.endLine == cpos.line) = true := by rfl)
    (hfew : ((backTo cpos (starEach [e] X.env)).all (fun x => !x.1) && (backToKw cpos (keywordEach [] X.env)).all (fun x => x.1.isSome)
      && decide ([e].length + ([] : List Keyword).length + (if ([] : List Keyword).isEmpty then 0 else 1) < 30)) = true := by rfl)
    (hst : starEach [e] X.env = (false, eval e X.env) :: starEach [] X.env := by rfl) (hpl : (backTo cpos (starEach [] X.env)).any (·.1) = false := by rfl) : DE X (.Call (.Attribute o "pop" apos) [e] [] cpos) (dPopAt to te) := by
  obtain ⟨t1, a1, a2⟩ := ho.ex
  obtain ⟨t2, b1, b2⟩ := he.ex
  refine ⟨_, pe_bm PySem.F.plainAttrs_list PySem.F.slot_list_pop PySem.F.type_list_pop mt_popAt a1 (pa_cons b1 pa_nil hst) hbase hfew hline hst hpl, fun σ H ε S Q he hr q Q2 k => ?_⟩
  refine a2 σ H ε S _ he hr q _ fun v H1 d S1 l1 r1 p1 ⟨a, xs, e, s1, q1⟩ => ?_
  subst e
  obtain ⟨vs, h1, i1⟩ := p1 _ _ s1
  rw [show v = _ from r1]
  refine ⟨.inl ⟨rfl, _, SqL.of h1⟩, ?_⟩
  refine b2 σ H1 ε S1 _ (he.mono l1) p1 q1 _ fun u H2 d2 S2 l2 r2 p2 ⟨j, kk, ys, y, e3, s2, z1, z2, z3, z4, q2⟩ => ?_
  subst e3
  obtain ⟨us, h2, i2⟩ := p2 _ _ s2
  obtain ⟨w', e4, r4⟩ := i2.get z4
  rw [show u = _ from r2]
  have l3 : TLe H2 (upd H2 a (.lst (us.eraseIdx kk))) := tl_mut h2
  exact ⟨a, us, j, kk, w', rfl, rfl, h2, z1, z2, by rw [i2.length]; exact z3, e4, k _ _ _ _ ((l1.trans l2).trans l3) (Is.mono l3 r4) (p2.put l3 (CellIs.ln (IsL.mono l3 (i2.eraseIdx kk)))) q2⟩
theorem de_reverse (ho : DE X o to) (hbase : attributeBase o "reverse" X.env (eval o X.env) = eval o X.env := by rfl) (hline : (apos.endLine == cpos.line) = true := by rfl) : DE X (.Call (.Attribute o "reverse" apos) [] [] cpos) (dReverse to) := by
  obtain ⟨t1, a1, a2⟩ := ho.ex
  refine ⟨_, pe_bm0 PySem.F.plainAttrs_list PySem.F.slot_list_reverse PySem.F.type_list_reverse mt_reverse a1 hbase hline, fun σ H ε S Q he hr q Q2 k => ?_⟩
  refine a2 σ H ε S _ he hr q _ fun v H1 d S1 l1 r1 p1 ⟨a, xs, e, s1, q1⟩ => ?_
  subst e
  obtain ⟨vs, h1, i1⟩ := p1 _ _ s1
  rw [show v = _ from r1]
  have l3 : TLe H1 (upd H1 a (.lst vs.reverse)) := tl_mut h1
  exact ⟨.inl ⟨rfl, _, SqL.of h1⟩, a, vs, rfl, rfl, h1, k _ _ _ _ (l1.trans l3) Is.n (p1.put l3 (CellIs.ln (IsL.mono l3 i1.reverse))) q1⟩
end
/-! ### targets: only the slots in vs are stored -/
abbrev DTG := D → Env → Sto → (Env → Sto → Prop) → Prop
abbrev DTGs := List D → Env → Sto → (Env → Sto → Prop) → Prop
/-- but for the slots vs -/
def Onl (vs : List Nat) (σ σ' : L2.St) : Prop := σ'.length = σ.length ∧ ∀ i, i ∉ vs → σ'[i]? = σ[i]?
theorem Onl.refl {vs : List Nat} {σ : L2.St} : Onl vs σ σ := ⟨rfl, fun _ _ => rfl⟩
theorem Onl.trans {vs : List Nat} {a b c : L2.St} (h : Onl vs a b) (g : Onl vs b c) : Onl vs a c := ⟨g.1.trans h.1, fun i n => (g.2 i n).trans (h.2 i n)⟩
theorem Onl.set {vs : List Nat} {σ : L2.St} {i : Nat} {x : Option V} (h : i ∈ vs) : Onl vs σ (σ.set i x) := ⟨List.length_set, fun j n => by rw [List.getElem?_set_ne (fun e => n (by rw [← e]; exact h))]⟩
structure DG (X : Cx) (tg : Expr) (vs : List Nat) (t : DTG) : Prop where
  ex : ∃ tv, PG X tg tv ∧ ∀ v σ H d ε S Q, Is (Cxmd X) H v d → Ep (Cxmd X) H σ ε → Rp (Cxmd X) H S → t d ε S Q → ∀ Q2 : L2.St → Hp → Prop, (∀ σ' H' ε' S', TLe H H' → Onl vs σ σ' → Ep (Cxmd X) H' σ' ε' → Rp (Cxmd X) H' S' → Q ε' S' → Q2 σ' H') → tv v σ H Q2
structure DGs (X : Cx) (tg : List Expr) (vs : List Nat) (t : DTGs) : Prop where
  ex : ∃ tv, PGs X tg tv ∧ ∀ us σ H ds ε S Q, IsL (Cxmd X) H us ds → Ep (Cxmd X) H σ ε → Rp (Cxmd X) H S → t ds ε S Q → ∀ Q2 : L2.St → Hp → Prop, (∀ σ' H' ε' S', TLe H H' → Onl vs σ σ' → Ep (Cxmd X) H' σ' ε' → Rp (Cxmd X) H' S' → Q ε' S' → Q2 σ' H') → tv us σ H Q2
def gN (i : Nat) : DTG := fun d ε S Q => Q (ε.set i (some d)) S
def gTu (t : DTGs) : DTG := fun d ε S Q => ∃ xs, d = .tup xs ∧ t xs ε S Q
def gNi : DTGs := fun ds ε S Q => ds = [] ∧ Q ε S
def gCo (t : DTG) (u : DTGs) : DTGs := fun ds ε S Q => ∃ d r, ds = d :: r ∧ t d ε S fun ε' S' => u r ε' S' Q
def gLen : DTGs → Nat → Prop := fun t n => ∀ ds ε S Q, t ds ε S Q → ds.length = n
theorem gLen_nil : gLen gNi 0 := fun ds ε S Q h => by rw [h.1]; rfl
theorem gLen_cons {i : Nat} {t : DTGs} {n : Nat} (h : gLen t n) : gLen (gCo (gN i) t) (n + 1) := fun ds ε S Q ⟨d, r, e, q⟩ => by rw [e, List.length_cons, h r _ _ _ q]
section
variable {X : Cx} {e : Expr} {es : List Expr} {pos : Pos} {vs : List Nat}
theorem dg_name {i : Nat} {x : Str} (hN : X.N.Nodup) (hi : X.N[i]? = some x) (hx : Loc X.env.scope x) (hv : i ∈ vs) (hf : X.fn x = true ∨ X.env.scope.names.lookup x = some .local := by first | exact .inl rfl | exact .inr rfl | assumption) : DG X (.Name x pos) vs (gN i) :=
  ⟨_, pg_name hN hi hx hf, fun v σ H d ε S Q hi he hr q Q2 k => k _ H _ S (TLe.refl H) (Onl.set hv) (he.set hi) hr q⟩
theorem dgs_nil : DGs X [] vs gNi := ⟨_, pgs_nil, fun us σ H ds ε S Q hi he hr ⟨e, q⟩ Q2 k => by
  subst e
  exact ⟨hi, k _ H _ S (TLe.refl H) Onl.refl he hr q⟩⟩
theorem dgs_cons {t : DTG} {u : DTGs} (h1 : DG X e vs t) (h2 : DGs X es vs u) (hs : (assignEach (e :: es) X.env).map (·.2) = assign e X.env :: (assignEach es X.env).map (·.2) := by rfl) : DGs X (e :: es) vs (gCo t u) := by
  obtain ⟨t1, a1, a2⟩ := h1.ex
  obtain ⟨t2, b1, b2⟩ := h2.ex
  refine ⟨_, pgs_cons a1 b1 hs, fun us σ H ds ε S Q hi he hr ⟨d, r, e, q⟩ Q2 k => ?_⟩
  subst e
  obtain ⟨v, vr, e1, i1, i2⟩ := hi
  refine ⟨v, vr, e1, ?_⟩
  refine a2 v σ H d ε S _ i1 he hr q _ fun σ1 H1 ε1 S1 l1 o1 e1 p1 q1 => ?_
  exact b2 vr σ1 H1 r ε1 S1 _ (IsL.mono l1 i2) e1 p1 q1 _ fun σ2 H2 ε2 S2 l2 o2 e2 p2 q2 => k σ2 H2 ε2 S2 (l1.trans l2) (o1.trans o2) e2 p2 q2
theorem dg_tup {k : Nat} {t : DTGs} {n : Nat} (hc : X.calm = true) (h : DGs X es vs t) (hl : gLen t n)
    (hn : (assignEach es X.env).length = n := by rfl) (hst : (assignEach es X.env).findIdx? (·.1) = none := by rfl) : DG X (.Tuple es k pos) vs (gTu t) := by
  obtain ⟨t1, a1, a2⟩ := h.ex
  refine ⟨_, pg_tup hc a1 hn hst, fun v σ H d ε S Q hi he hr ⟨xs, e, q⟩ Q2 k => ?_⟩
  subst e
  obtain ⟨a, us, e1, sq, l⟩ := hi
  exact ⟨a, us, e1, sq.sq, by rw [l.length]; exact hl _ _ _ _ q, a2 us σ H xs ε S Q l he hr q Q2 k⟩
end
/-! ### o[i] = v -/
def dSetL (tv to ti : DTE) : DTS := fun D ε S => tv ε S fun v S1 => to ε S1 fun o S2 => ti ε S2 fun i S3 => ∃ a xs k j, o = .ref a ∧ i = .int k ∧ S3 a = some (.lst xs) ∧ ixN xs.length k = some j ∧ D.nx ε (put S3 a (.lst (xs.set j v)))
/-! ### statements -/
def dSkip : DTS := fun D ε S => D.nx ε S
def dSeq (t u : DTS) : DTS := fun D ε S => t { D with nx := u D } ε S
def dSet (i : Nat) (te : DTE) : DTS := fun D ε S => te ε S fun d S1 => D.nx (ε.set i (some d)) S1
def dAsg (te : DTE) (g : DTG) : DTS := fun D ε S => te ε S fun d S1 => g d ε S1 D.nx
def dDrop (te : DTE) : DTS := fun D ε S => te ε S fun _ S1 => D.nx ε S1
def dRet (te : DTE) : DTS := fun D ε S => te ε S D.rt
def dRetN : DTS := fun D _ S => D.rt .non S
def dIf (c : DTT) (t u : DTS) : DTS := fun D ε S => c ε S fun b S1 => if b = true then t D ε S1 else u D ε S1
def dBrk : DTS := fun D ε S => D.bk ε S
def dCnt : DTS := fun D ε S => D.ct ε S
def dNev : DTS := fun _ _ _ => False
def dAug (i : Nat) (te : DTE) (o : DR2) : DTS := fun D ε S => ∃ x, ε[i]? = some (some x) ∧ te ε S fun y S1 => o x y S1 fun z S2 => D.nx (ε.set i (some z)) S2
def dWhile (c : DTT) (tb : DTS) : DTS := fun D ε S => ∃ W : Nat → Env → Sto → Prop, (∃ m, W m ε S) ∧ ∀ m ε S, W m ε S →
  c ε S fun b S1 => if b = true then tb { D with nx := fun ε' S' => ∃ m', m' < m ∧ W m' ε' S', ct := fun ε' S' => ∃ m', m' < m ∧ W m' ε' S', bk := D.nx } ε S1 else D.nx ε S1
def dSet2 (i j : Nat) (te : DTE) : DTS := fun D ε S => te ε S fun d S1 => D.nx ((ε.set i (some d)).set j (some d)) S1
def dPar (i j : Nat) (ta : DTA) : DTS := fun D ε S => ta ε S fun ds S1 => ∃ d e, ds = [d, e] ∧ D.nx ((ε.set i (some d)).set j (some e)) S1
section
variable {X : Cx} {st : Stmt} {rest : List Stmt} {t u : DTS} {e c a b : Expr} {te : DTE} {pos : Pos}
theorem dss_nil : DSs X [] dSkip := ⟨_, pss_nil, fun σ H ε S Dd D he hr hd q => hd.nx σ H ε S (TLe.refl H) he hr q⟩
theorem dss_cons (h1 : DS X st t) (h2 : DSs X rest u) : DSs X (st :: rest) (dSeq t u) := by
  obtain ⟨t1, a1, a2⟩ := h1.ex
  obtain ⟨t2, b1, b2⟩ := h2.ex
  refine ⟨_, pss_cons a1 b1, fun σ H ε S Dd D he hr hd q => ?_⟩
  refine a2 σ H ε S { Dd with nx := u Dd } _ he hr ⟨fun σ' H' ε' S' l e' r' q' => ?_, hd.bk, hd.ct, hd.rt⟩ q
  exact b2 σ' H' ε' S' Dd D e' r' (hd.mono l) q'
theorem dss_one (h1 : DS X st t) : DSs X [st] t := by
  obtain ⟨t1, a1, a2⟩ := h1.ex
  exact ⟨_, pss_one a1, a2⟩
theorem ds_set {i : Nat} {x : Str} {pos' : Pos} (hN : X.N.Nodup) (hi : X.N[i]? = some x) (hx : Loc X.env.scope x) (he : DE X e te) (hs : swapsWith e (some (.Name x pos')) pos.line X.env = pure false := by rfl) (hf : X.fn x = true ∨ X.env.scope.names.lookup x = some .local := by first | exact .inl rfl | exact .inr rfl | assumption) :
    DS X (.Assign [.Name x pos'] e pos) (dSet i te) := by
  obtain ⟨t1, a1, a2⟩ := he.ex
  refine ⟨_, ps_set hN hi hx a1 hs hf, fun σ H ε S Dd D he hr hd q => ?_⟩
  exact a2 σ H ε S _ he hr q _ fun v H1 d S1 l1 r1 p1 q1 => hd.nx _ H1 _ S1 l1 ((he.mono l1).set r1) p1 q1
theorem ds_asg {tg : Expr} {vs : List Nat} {g : DTG} (he : DE X e te) (hg : DG X tg vs g) (hs : swapsWithSole [tg] e pos.line X.env = pure false := by rfl) (hw : swappedStores [tg] e X.env = pure none := by rfl)
    (h1 : (assignEach [tg] X.env).map (·.2) = [assign tg X.env] := by rfl) : DS X (.Assign [tg] e pos) (dAsg te g) := by
  obtain ⟨t1, a1, a2⟩ := he.ex
  obtain ⟨t2, b1, b2⟩ := hg.ex
  refine ⟨_, ps_asg a1 b1 hs hw h1, fun σ H ε S Dd D he hr hd q => ?_⟩
  refine a2 σ H ε S _ he hr q _ fun v H1 d S1 l1 r1 p1 q1 => ?_
  exact b2 v σ H1 d ε S1 _ r1 (he.mono l1) p1 q1 _ fun σ2 H2 ε2 S2 l2 o2 e2 p2 q2 => hd.nx _ H2 _ S2 (l1.trans l2) e2 p2 q2
theorem ds_set2 {i j : Nat} {x y : Str} {px py : Pos} (hN : X.N.Nodup) (hi : X.N[i]? = some x) (hj : X.N[j]? = some y) (hx : Loc X.env.scope x) (hy : Loc X.env.scope y) (he : DE X e te)
    (ha : (assignEach [.Name x px, .Name y py] X.env).map (·.2) = [assign (.Name x px) X.env, assign (.Name y py) X.env] := by rfl) (hw : swappedStores [.Name x px, .Name y py] e X.env = pure none := by rfl)
    (hf : X.fn x = true ∨ X.env.scope.names.lookup x = some .local := by first | exact .inl rfl | exact .inr rfl | assumption) (hf2 : X.fn y = true ∨ X.env.scope.names.lookup y = some .local := by first | exact .inl rfl | exact .inr rfl | assumption) :
    DS X (.Assign [.Name x px, .Name y py] e pos) (dSet2 i j te) := by
  obtain ⟨t1, a1, a2⟩ := he.ex
  refine ⟨_, ps_asg2 a1 (pg_name hN hi hx hf) (pg_name hN hj hy hf2) ha hw, fun σ H ε S Dd D he hr hd q => ?_⟩
  exact a2 σ H ε S _ he hr q _ fun v H1 d S1 l1 r1 p1 q1 => hd.nx _ H1 _ S1 l1 (((he.mono l1).set r1).set r1) p1 q1
theorem ds_par {i j : Nat} {x y : Str} {ta : DTA} {px py pt : Pos} {kt k2 pt2} (hc : X.calm = true) (hN : X.N.Nodup) (hi : X.N[i]? = some x) (hj : X.N[j]? = some y) (hij : i ≠ j)
    (hx : X.env.scope.names.lookup x = some .local) (hy : X.env.scope.names.lookup y = some .local) (ha : DA X [a, b] ta)
    (hw : swappedStores [.Tuple [.Name x px, .Name y py] kt pt] (.Tuple [a, b] k2 pt2) X.env = pure (some [x, y]))
    (hs : swapsWithSole [.Tuple [.Name x px, .Name y py] kt pt] (.Tuple [a, b] k2 pt2) pos.line X.env = pure false := by rfl) :
    DS X (.Assign [.Tuple [.Name x px, .Name y py] kt pt] (.Tuple [a, b] k2 pt2) pos) (dPar i j ta) := by
  obtain ⟨t1, a1, a2⟩ := ha.ex
  refine ⟨_, ps_par hc hN hi hj hij hx hy a1 hw hs, fun σ H ε S Dd D he hr hd q => ?_⟩
  refine a2 σ H ε S _ he hr q _ fun vs H1 ds S1 l1 r1 p1 ⟨d, e', e, q1⟩ => ?_
  subst e
  obtain ⟨v, u, e, i1, i2⟩ := r1.two
  exact ⟨v, u, e, hd.nx _ H1 _ S1 l1 (((he.mono l1).set i1).set i2) p1 q1⟩
theorem ds_expr (he : DE X e te) (hs : swapsWith e none pos.line X.env = pure false := by rfl) : DS X (.Expr e pos) (dDrop te) := by
  obtain ⟨t1, a1, a2⟩ := he.ex
  refine ⟨_, ps_expr a1 hs, fun σ H ε S Dd D he hr hd q => ?_⟩
  exact a2 σ H ε S _ he hr q _ fun v H1 d S1 l1 r1 p1 q1 => hd.nx _ H1 _ S1 l1 (he.mono l1) p1 q1
theorem ds_ret (he : DE X e te) : DS X (.Return (some e) pos) (dRet te) := by
  obtain ⟨t1, a1, a2⟩ := he.ex
  refine ⟨_, ps_ret a1, fun σ H ε S Dd D he hr hd q => ?_⟩
  exact a2 σ H ε S _ he hr q _ fun v H1 d S1 l1 r1 p1 q1 => hd.rt _ H1 _ S1 l1 r1 p1 q1
theorem ds_retN : DS X (.Return none pos) dRetN := ⟨_, ps_retN, fun σ H ε S Dd D he hr hd q => hd.rt _ H _ S (TLe.refl H) Is.n hr q⟩
theorem ds_pass : DS X (.Pass pos) dSkip := ⟨_, ps_pass, fun σ H ε S Dd D he hr hd q => hd.nx σ H ε S (TLe.refl H) he hr q⟩
theorem ds_brk : DS X (.Break pos) dBrk := ⟨_, ps_break, fun σ H ε S Dd D he hr hd q => hd.bk σ H ε S (TLe.refl H) he hr q⟩
theorem ds_cnt : DS X (.Continue pos) dCnt := ⟨_, ps_continue, fun σ H ε S Dd D he hr hd q => hd.ct σ H ε S (TLe.refl H) he hr q⟩
theorem ds_nev : DS X st dNev := ⟨_, ps_never, fun σ H ε S Dd D he hr hd q => q.elim⟩
theorem dss_nev {sts : List Stmt} : DSs X sts dNev := ⟨_, pss_never, fun σ H ε S Dd D he hr hd q => q.elim⟩
theorem ds_if {tc : DTT} {p q : List Stmt} (hc : DT X c tc) (ha : DSs X p t) (hb : DSs X q u) : DS X (.If c p q pos) (dIf tc t u) := by
  obtain ⟨t1, a1, a2⟩ := hc.ex
  obtain ⟨t2, b1, b2⟩ := ha.ex
  obtain ⟨t3, c1, c2⟩ := hb.ex
  refine ⟨_, ps_if a1 b1 c1, fun σ H ε S Dd D he hr hd q => ?_⟩
  refine a2 σ H ε S _ he hr q _ fun k H1 S1 l1 p1 q1 => ?_
  cases k with
  | true => exact iteT (b2 σ H1 ε S1 Dd D (he.mono l1) p1 (hd.mono l1) q1)
  | false => exact iteF (c2 σ H1 ε S1 Dd D (he.mono l1) p1 (hd.mono l1) q1)
theorem ds_aug {i : Nat} {x : Str} {op : Operator} {o : DR2} {pos' : Pos} (hN : X.N.Nodup) (hi : X.N[i]? = some x) (hx : Loc X.env.scope x) (he : DE X e te) (ho : DOp X (inplaceOp op) o) (hf : X.fn x = true ∨ X.env.scope.names.lookup x = some .local := by first | exact .inl rfl | exact .inr rfl | assumption) :
    DS X (.AugAssign (.Name x pos') op e pos) (dAug i te o) := by
  obtain ⟨t1, a1, a2⟩ := he.ex
  obtain ⟨r, b1, b2⟩ := ho.ex
  refine ⟨_, ps_aug hN hi hx a1 b1 hf, fun σ H ε S Dd D he hr hd ⟨d, e1, q⟩ => ?_⟩
  obtain ⟨v, e2, i2⟩ := he.2 i d e1
  refine ⟨v, e2, ?_⟩
  refine a2 σ H ε S _ he hr q _ fun u H1 d1 S1 l1 r1 p1 q1 => ?_
  exact b2 v u d d1 H1 S1 _ (Is.mono l1 i2) r1 p1 q1 _ fun z H2 d2 S2 l2 r2 p2 q2 => hd.nx _ H2 _ S2 (l1.trans l2) (((he.mono l1).mono l2).set r2) p2 q2
theorem ds_setL {o i v : Expr} {to ti tv : DTE} {spos : Pos} (hv : DE X v tv) (ho : DE X o to) (hi : DE X i ti) (ha : ∀ v, assign (.Subscript o i spos) X.env v = (do
      let ov ← holding [v] (eval o X.env)
      let iv ← holding [v, ov] (eval i X.env)
      standAt spos
      holding [v, ov, iv] (setItem ov iv v)
      release [v, ov, iv] []) := by intro _; rfl) (hs : swapsWithSole [.Subscript o i spos] v pos.line X.env = pure false := by rfl) (hw : swappedStores [.Subscript o i spos] v X.env = pure none := by rfl)
    (h1 : (assignEach [.Subscript o i spos] X.env).map (·.2) = [assign (.Subscript o i spos) X.env] := by rfl) : DS X (.Assign [.Subscript o i spos] v pos) (dSetL tv to ti) := by
  obtain ⟨t1, a1, a2⟩ := hv.ex
  obtain ⟨t2, b1, b2⟩ := ho.ex
  obtain ⟨t3, c1, c2⟩ := hi.ex
  refine ⟨_, ps_asg a1 (pg_sub b1 c1 set_list ha) hs hw h1, fun σ H ε S Dd D he hr hd q => ?_⟩
  refine a2 σ H ε S _ he hr q _ fun v H1 d S1 l1 r1 p1 q1 => ?_
  refine b2 σ H1 ε S1 _ (he.mono l1) p1 q1 _ fun u H2 d2 S2 l2 r2 p2 q2 => ?_
  refine c2 σ H2 ε S2 _ ((he.mono l1).mono l2) p2 q2 _ fun w H3 d3 S3 l3 r3 p3 ⟨a, xs, k, j, e1, e2, s3, z, q3⟩ => ?_
  subst e1 e2
  obtain ⟨us, h3, i3⟩ := p3 _ _ s3
  have l4 : TLe H3 (upd H3 a (.lst (us.set j v))) := tl_mut h3
  have ll := ((l1.trans l2).trans l3).trans l4
  refine ⟨a, us, k, j, Is.mono l3 r2, r3, h3, by rw [i3.length]; exact z, ?_⟩
  exact hd.nx _ _ _ _ ll (he.mono ll) (p3.put l4 (CellIs.ln (IsL.mono l4 (IsL.set (Is.mono (l2.trans l3) r1) j i3)))) q3
theorem ds_while {tc : DTT} {tb : DTS} {body : List Stmt} (hp : PassesOwn (model X.prog X.w) X.A X.env X.xe) (hc : DT X c tc) (hb : DSs X body tb) : DS X (.While c body [] pos) (dWhile tc tb) := by
  obtain ⟨t1, a1, a2⟩ := hc.ex
  obtain ⟨t2, b1, b2⟩ := hb.ex
  refine ⟨_, ps_while hp a1 b1, fun σ H ε S Dd D he hr hd ⟨W, ⟨m0, w0⟩, turn⟩ => ?_⟩
  refine ⟨fun m σ' H' => ∃ ε' S', TLe H H' ∧ Ep (Cxmd X) H' σ' ε' ∧ Rp (Cxmd X) H' S' ∧ W m ε' S', ⟨m0, ε, S, TLe.refl H, he, hr, w0⟩, ?_⟩
  rintro m σ1 H1 ⟨ε1, S1, l1, e1, p1, w1⟩
  refine a2 σ1 H1 ε1 S1 _ e1 p1 (turn m ε1 S1 w1) _ fun k H2 S2 l2 p2 q2 => ?_
  cases k with
  | false => exact iteF (hd.nx _ H2 _ S2 (l1.trans l2) (e1.mono l2) p2 q2)
  | true =>
    refine iteT ⟨fun σ' H' => ∃ m', m' < m ∧ ∃ ε' S', TLe H H' ∧ Ep (Cxmd X) H' σ' ε' ∧ Rp (Cxmd X) H' S' ∧ W m' ε' S', fun σ' H' ⟨m', lt, z⟩ => ⟨m', lt, z⟩, ?_⟩
    refine b2 σ1 H2 ε1 S2 _ _ (e1.mono l2) p2 ⟨?_, ?_, ?_, ?_⟩ q2
    · rintro σ3 H3 ε3 S3 l3 e3 p3 ⟨m', lt, w3⟩
      exact ⟨m', lt, ε3, S3, (l1.trans l2).trans l3, e3, p3, w3⟩
    · intro σ3 H3 ε3 S3 l3 e3 p3 q3
      exact hd.nx _ H3 _ S3 ((l1.trans l2).trans l3) e3 p3 q3
    · rintro σ3 H3 ε3 S3 l3 e3 p3 ⟨m', lt, w3⟩
      exact ⟨m', lt, ε3, S3, (l1.trans l2).trans l3, e3, p3, w3⟩
    · intro v H3 d S3 l3 r3 p3 q3
      exact hd.rt _ H3 _ S3 ((l1.trans l2).trans l3) r3 p3 q3
end
/-! ### what is walked -/
/-- the items; what must stay; the store -/
abbrev DTI := Env → Sto → (List D → (Sto → Prop) → Sto → Prop) → Prop
structure ItOk (M : Md) (J : It) (H0 : Hp) (xs : List D) (stb : Sto → Prop) : Prop where
  go : ∀ (i : Nat) H S, i < xs.length → TLe H0 H → Rp M H S → stb S → J.go i H
  stop : ∀ H S, TLe H0 H → Rp M H S → stb S → J.stop xs.length H
  yld : ∀ (i : Nat) H S x H', i < xs.length → TLe H0 H → Rp M H S → stb S → J.yld i H x H' → ∃ d, xs[i]? = some d ∧ TLe H H' ∧ Is M H' x d ∧ Rp M H' S
structure DI (X : Cx) (tg iter : Expr) (t : DTI) : Prop where
  ex : ∃ ti, PI X tg iter ti ∧ ∀ σ H ε S K, Ep (Cxmd X) H σ ε → Rp (Cxmd X) H S → t ε S K → ∀ R : It → Hp → Prop, (∀ J H' xs stb S', TLe H H' → Rp (Cxmd X) H' S' → ItOk (Cxmd X) J H' xs stb → K xs stb S' → R J H') → ti σ H R
/-- a tuple, a list -/
def stbD (d : D) (xs : List D) : Sto → Prop := match d with
  | .ref a => fun S => S a = some (.lst xs)
  | _ => fun _ => True
def iD (te : DTE) : DTI := fun ε S K => te ε S fun d S1 => ∃ xs, itemsD d S1 = some xs ∧ K xs (stbD d xs) S1
def iR1 (te : DTE) : DTI := fun ε S K => te ε S fun d S1 => ∃ n, d = .int n ∧ -(2 ^ 62) ≤ n ∧ n < 2 ^ 62 ∧ K ((List.range n.toNat).map fun (i : Nat) => .int (i : Int)) (fun _ => True) S1
def iR2 (ta : DTA) : DTI := fun ε S K => ta ε S fun ds S1 => ∃ m n, ds = [.int m, .int n] ∧ (-(2 ^ 62) ≤ m ∧ m < 2 ^ 62 ∧ -(2 ^ 62) ≤ n ∧ n < 2 ^ 62) ∧ K ((List.range (n - m).toNat).map fun (i : Nat) => .int (m + (i : Int))) (fun _ => True) S1
theorem PI.or {X : Cx} {tg iter : Expr} {w1 w2 : TI} (h : PI X tg iter w1) (g : PI X tg iter w2) : PI X tg iter (fun σ H R => w1 σ H R ∨ w2 σ H R) :=
  ⟨fun pins s σ H R I q => q.elim (fun z => h.run pins s σ H R I z) fun z => g.run pins s σ H R I z⟩
/-- what stands at a, a list, is one -/
theorem sq_uniq {H : Hp} {K : PySem.W.Frag} {a : Addr} {us : List V} (h : H a = some (.lst us)) (hk : K.lookup a = none) {ws : List V} (g : SqL K H a ws) : ws = us := by
  rcases g with (g | ⟨o, g⟩) | ⟨o, its, n, g, _⟩
  · rw [h] at g; cases g; rfl
  · rw [h] at g; cases g
  · rw [hk] at g; cases g
theorem itok_list {M : Md} {H0 : Hp} {a : Addr} {xs : List D} {stb : Sto → Prop} (st : ∀ H S, TLe H0 H → Rp M H S → stb S → ∃ us, SqL M.K H a us ∧ IsL M H us xs) : ItOk M (Itl M.K a) H0 xs stb where
  go := fun i H S lt l1 p s => by
    obtain ⟨us, h1, h2⟩ := st H S l1 p s
    obtain ⟨v, e, _⟩ := h2.get (i := i) (List.getElem?_eq_getElem lt)
    exact ⟨us, v, h1, e⟩
  stop := fun H S l1 p s => by
    obtain ⟨us, h1, h2⟩ := st H S l1 p s
    exact ⟨us, h1, by rw [h2.length]; exact Nat.le_refl _⟩
  yld := fun i H S x H' lt l1 p s ⟨e, y⟩ => by
    obtain ⟨us, h1, h2⟩ := st H S l1 p s
    obtain ⟨v, e2, r⟩ := h2.get (i := i) (List.getElem?_eq_getElem lt)
    have e3 := y us h1
    rw [e2] at e3
    cases e3
    subst e
    exact ⟨_, List.getElem?_eq_getElem lt, TLe.refl _, r, p⟩
theorem itok_tup {M : Md} {H0 : Hp} {a : Addr} {xs : List D} {vs : List V} {stb : Sto → Prop} (q : TpT M.K H0 a vs) (l : IsL M H0 vs xs) : ItOk M (Itt M.K a) H0 xs stb where
  go := fun i H S lt l1 p s => by
    obtain ⟨v, e, _⟩ := (IsL.mono l1 l).get (i := i) (List.getElem?_eq_getElem lt)
    exact ⟨vs, v, (l1.sqT q).sq, e⟩
  stop := fun H S l1 p s => ⟨vs, (l1.sqT q).sq, by rw [l.length]; exact Nat.le_refl _⟩
  yld := fun i H S x H' lt l1 p s ⟨e, y⟩ => by
    obtain ⟨v, e2, r⟩ := (IsL.mono l1 l).get (i := i) (List.getElem?_eq_getElem lt)
    have e3 := y vs (l1.sqT q).sq
    rw [e2] at e3
    cases e3
    subst e
    exact ⟨_, List.getElem?_eq_getElem lt, TLe.refl _, r, p⟩
theorem itok_range {M : Md} {H0 : Hp} {lo : Int} {n : Nat} {stb : Sto → Prop} : ItOk M (Itr lo n) H0 ((List.range n).map fun (i : Nat) => .int (lo + (i : Int))) stb where
  go := fun i H S lt l1 p s => by
    show i < n
    simpa using lt
  stop := fun H S l1 p s => by show n ≤ _; simp
  yld := fun i H S x H' lt l1 p s ⟨e, y⟩ => by
    subst e y
    have lt' : i < n := by simpa using lt
    exact ⟨.int (lo + i), by simp [lt'], TLe.refl _, Is.i, p⟩
theorem stbD_items {d : D} {xs : List D} {S : Sto} (e : itemsD d S = some xs) : stbD d xs S := by
  unfold itemsD at e
  split at e
  · trivial
  · trivial
  · split at e
    · rename_i ys q; cases e; exact q
    · cases e
  · cases e
section
variable {X : Cx} {tg e a b : Expr} {te : DTE} {p pos : Pos}
/-- a list or a tuple, as it comes -/
def iAny (K : PySem.W.Frag) (tl : TE) : TI := fun σ H R => tl σ H fun x H1 => ∃ a, x = .ref a ∧ (((∃ xs, SqL K H1 a xs) ∧ R (Itl K a) H1) ∨ ((∃ xs, SqT K H1 a xs) ∧ R (Itt K a) H1))
theorem pi_any {l : Expr} {tl : TE} (hl : PE X l tl) : PI X tg l (iAny X.K tl) := by
  refine ⟨fun pins s σ H R I h => ?_⟩
  refine thn (hl.run pins s σ H _ I h) fun v s1 ⟨x, H1, I1, r1, q1⟩ => ?_
  obtain ⟨a, e, q⟩ := q1
  subst e
  cases r1
  rcases q with ⟨⟨xs, hq⟩, q⟩ | ⟨⟨xs, hq⟩, q⟩
  · obtain ⟨its, rv, p, hz⟩ := I1.list hq
    refine wpAny_pyIter_list p.isList ?_
    refine ⟨s1.heap.objs.size, [s1.heap.objs.size], _, _, H1, rfl, I1.kept (t' := s1.toks) fun b o e => Heap.get?_push_of_some _ e, turn_list a _, ⟨_, Heap.get?_push_size _ rfl, rfl, rfl⟩, fun b hb => ?_, q⟩
    have e : b = s1.heap.objs.size := by simpa using hb
    subst e
    exact I1.fpOk (Nat.le_refl _) (I1.hok.fresh (Nat.le_refl _))
  · obtain ⟨its, rv, p, hz⟩ := I1.tuple hq
    refine wpAny_pyIter_tuple (show s1.heap.IsTuple a its.toArray from p) ?_
    refine ⟨s1.heap.objs.size, [s1.heap.objs.size], _, _, H1, rfl, I1.kept (t' := s1.toks) fun b o e => Heap.get?_push_of_some _ e, turn_tuple a _, ⟨_, Heap.get?_push_size _ rfl, rfl, rfl⟩, fun b hb => ?_, q⟩
    have e : b = s1.heap.objs.size := by simpa using hb
    subst e
    exact I1.fpOk (Nat.le_refl _) (I1.hok.fresh (Nat.le_refl _))
theorem di_d (h : DE X e te) : DI X tg e (iD te) := by
  obtain ⟨t1, a1, a2⟩ := h.ex
  refine ⟨_, pi_any a1, fun σ H ε S K he hr q R k => ?_⟩
  refine a2 σ H ε S _ he hr q _ fun v H1 d S1 l1 r1 p1 ⟨xs, e1, q1⟩ => ?_
  have sb := stbD_items e1
  by_cases ht : ∃ ys, d = .tup ys
  · obtain ⟨ys, rfl⟩ := ht
    cases e1
    obtain ⟨a, us, e2, sq, l⟩ := r1
    exact ⟨a, e2, .inr ⟨⟨us, sq.sq⟩, k _ H1 xs _ S1 l1 p1 (itok_tup sq l) q1⟩⟩
  · obtain ⟨a, us, e2, sq, l⟩ := itemsN_is p1 r1 e1 ht
    refine ⟨a, e2, .inl ⟨⟨us, sq⟩, k _ H1 xs _ S1 l1 p1 (itok_list fun H S l2 p s => ?_) q1⟩⟩
    subst e2
    cases d with
    | ref b =>
      have e3 : a = b := V.ref.inj r1
      subst e3
      obtain ⟨ws, h1, h2⟩ := p _ _ (show S a = some (.lst xs) from s)
      exact ⟨ws, SqL.of h1, h2⟩
    | cl ys =>
      cases e1
      obtain ⟨b, ws, e3, fz, l3⟩ := r1
      cases e3
      exact ⟨ws, (l2.fzL fz).sq, IsL.mono l2 l3⟩
    | tup ys => exact (ht ⟨_, rfl⟩).elim
    | non => cases e1
    | bl _ => cases e1
    | int _ => cases e1
    | str _ => cases e1
    | ty _ => cases e1
    | cd _ _ => cases e1
theorem di_r1 (hg : Gl X "range") (hm : X.mg "range" = none) (h : DE X a te) (hs : starEach [a] X.env = [(false, eval a X.env)] := by rfl) (hst : starEach [a] X.env = (false, eval a X.env) :: starEach [] X.env := by rfl) : DI X tg (.Call (.Name "range" p) [a] [] pos) (iR1 te) := by
  obtain ⟨t1, a1, a2⟩ := h.ex
  refine ⟨_, pi_range1 hg hm (pa_cons a1 pa_nil hst) hs, fun σ H ε S K he hr q R k => ?_⟩
  refine a2 σ H ε S _ he hr q _ fun v H1 d S1 l1 r1 p1 ⟨n, e1, z1, z2, q1⟩ => ?_
  subst e1
  refine ⟨n, by rw [show v = _ from r1], z1, z2, k _ H1 _ _ S1 l1 p1 ?_ q1⟩
  have := itok_range (M := Cxmd X) (H0 := H1) (lo := 0) (n := n.toNat) (stb := fun _ => True)
  simpa using this
theorem di_r2 {ta : DTA} (hg : Gl X "range") (hm : X.mg "range" = none) (h : DA X [a, b] ta) (hs : starEach [a, b] X.env = [(false, eval a X.env), (false, eval b X.env)] := by rfl) (hs2 : starEach [b] X.env = [(false, eval b X.env)] := by rfl) : DI X tg (.Call (.Name "range" p) [a, b] [] pos) (iR2 ta) := by
  obtain ⟨t1, a1, a2⟩ := h.ex
  refine ⟨_, pi_range2 hg hm a1 hs hs2, fun σ H ε S K he hr q R k => ?_⟩
  refine a2 σ H ε S _ he hr q _ fun vs H1 ds S1 l1 r1 p1 ⟨m, n, e1, z, q1⟩ => ?_
  subst e1
  obtain ⟨v, u, e, i1, i2⟩ := r1.two
  exact ⟨m, n, by rw [e, show v = _ from i1, show u = _ from i2], z, k _ H1 _ _ S1 l1 p1 itok_range q1⟩
end
/-! ### for -/
def dFor (src : DTI) (g : DTG) (tb : DTS) : DTS := fun D ε S => src ε S fun xs stb S1 => ∃ W : Nat → Env → Sto → Prop, W 0 ε S1 ∧ (∀ i ε S, i ≤ xs.length → W i ε S → stb S) ∧
  (∀ (i : Nat) x ε S, xs[i]? = some x → W i ε S → g x ε S fun ε' S' => tb { D with nx := W (i + 1), ct := W (i + 1), bk := D.nx } ε' S') ∧ ∀ ε S, W xs.length ε S → D.nx ε S
theorem ds_for {X : Cx} {tg iter : Expr} {body : List Stmt} {src : DTI} {g : DTG} {tb : DTS} {pos : Pos} {vs : List Nat} (hp : PassesOwn (model X.prog X.w) X.A X.env X.xe) (hc : X.calm = true) (hi : DI X tg iter src) (hg : DG X tg vs g) (hb : DSs X body tb)
    (hs : ∀ x, foldedSetIterable iter X.env x = pure x := by intro _; rfl) : DS X (.For tg iter body [] pos) (dFor src g tb) := by
  obtain ⟨t1, a1, a2⟩ := hi.ex
  obtain ⟨t2, b1, b2⟩ := hg.ex
  obtain ⟨t3, c1, c2⟩ := hb.ex
  refine ⟨_, ps_for hp hc a1 b1 c1 hs, fun σ H ε S Dd D he hr hd q => ?_⟩
  refine a2 σ H ε S _ he hr q _ fun J H1 xs stb S1 l1 p1 ok ⟨W, w0, ws, turn, fin⟩ => ?_
  refine ⟨fun i m σ' H' => m = xs.length - i ∧ i ≤ xs.length ∧ ∃ ε' S', TLe H1 H' ∧ Ep (Cxmd X) H' σ' ε' ∧ Rp (Cxmd X) H' S' ∧ W i ε' S', ⟨xs.length, by simp, Nat.zero_le _, ε, S1, TLe.refl _, he.mono l1, p1, w0⟩, ?_⟩
  rintro i m σ' H' ⟨rfl, le, ε', S', l2, e2, p2, w⟩
  have st := ws i ε' S' le w
  by_cases lt : i < xs.length
  · refine .inr ⟨ok.go i H' S' lt l2 p2 st, fun σ'' H'' => ∃ ε'' S'', TLe H1 H'' ∧ Ep (Cxmd X) H'' σ'' ε'' ∧ Rp (Cxmd X) H'' S'' ∧ W (i + 1) ε'' S'', fun σ'' H'' z => ⟨xs.length - (i + 1), by omega, rfl, lt, z⟩, fun x H3 y => ?_⟩
    obtain ⟨d, e3, l3, r3, p3⟩ := ok.yld i H' S' x H3 lt l2 p2 st y
    refine b2 x σ' H3 d ε' S' _ r3 (e2.mono l3) p3 (turn i d ε' S' e3 w) _ fun σ4 H4 ε4 S4 l4 _ e4 p4 q4 => ?_
    have ll := (l2.trans l3).trans l4
    refine c2 σ4 H4 ε4 S4 _ _ e4 p4 ⟨?_, ?_, ?_, ?_⟩ q4
    · intro σ5 H5 ε5 S5 l5 e5 p5 q5
      exact ⟨ε5, S5, ll.trans l5, e5, p5, q5⟩
    · intro σ5 H5 ε5 S5 l5 e5 p5 q5
      exact hd.nx _ H5 _ S5 (l1.trans (ll.trans l5)) e5 p5 q5
    · intro σ5 H5 ε5 S5 l5 e5 p5 q5
      exact ⟨ε5, S5, ll.trans l5, e5, p5, q5⟩
    · intro v H5 d5 S5 l5 r5 p5 q5
      exact hd.rt _ H5 _ S5 (l1.trans (ll.trans l5)) r5 p5 q5
  · have e : i = xs.length := by omega
    subst e
    exact .inl ⟨ok.stop H' S' l2 p2 st, hd.nx _ H' _ S' (l1.trans l2) e2 p2 (fin ε' S' w)⟩
end DL
end
section
/-! The D-layer, part 6: comprehensions, calls of own defs, a def's promise. -/
namespace DL
open PySem PySem.Spec PyProof.Rows L2
/-! ### one reading for all contexts of a block -/
def teOf (M : Md) (t : DTE) : TE := fun σ H Q2 => ∃ ε S Q, Ep M H σ ε ∧ Rp M H S ∧ t ε S Q ∧ ∀ v H' d S', TLe H H' → Is M H' v d → Rp M H' S' → Q d S' → Q2 v H'
def ttOf (M : Md) (t : DTT) : TT := fun σ H Q2 => ∃ ε S Q, Ep M H σ ε ∧ Rp M H S ∧ t ε S Q ∧ ∀ b H' S', TLe H H' → Rp M H' S' → Q b S' → Q2 b H'
def tgOf (M : Md) (vs : List Nat) (t : DTG) : TG := fun v σ H Q2 => ∃ d ε S Q, Is M H v d ∧ Ep M H σ ε ∧ Rp M H S ∧ t d ε S Q ∧ ∀ σ' H' ε' S', TLe H H' → Onl vs σ σ' → Ep M H' σ' ε' → Rp M H' S' → Q ε' S' → Q2 σ' H'
theorem DE.pe {X : Cx} {e : Expr} {t : DTE} (h : DE X e t) : PE X e (teOf (Cxmd X) t) := by
  obtain ⟨te, h1, h2⟩ := h.ex
  exact ⟨fun pins s σ H Q I ⟨ε, S, Q', a, b, c, d⟩ => h1.run pins s σ H Q I (h2 σ H ε S Q' a b c Q d)⟩
theorem DG.pg {X : Cx} {e : Expr} {vs : List Nat} {t : DTG} (h : DG X e vs t) : PG X e (tgOf (Cxmd X) vs t) := by
  obtain ⟨te, h1, h2⟩ := h.ex
  exact ⟨fun pins s σ H v u Q I r ⟨d, ε, S, Q', i, a, b, c, z⟩ => h1.run pins s σ H v u Q I r (h2 v σ H d ε S Q' i a b c Q z)⟩
structure DTs (X : Cx) (ifs : List Expr) (t : DTT) : Prop where
  ex : ∃ te, PTs X ifs te ∧ ∀ σ H ε S Q, Ep (Cxmd X) H σ ε → Rp (Cxmd X) H S → t ε S Q → ∀ Q2 : Bool → Hp → Prop, (∀ b H' S', TLe H H' → Rp (Cxmd X) H' S' → Q b S' → Q2 b H') → te σ H Q2
theorem DTs.pts {X : Cx} {e : List Expr} {t : DTT} (h : DTs X e t) : PTs X e (ttOf (Cxmd X) t) := by
  obtain ⟨te, h1, h2⟩ := h.ex
  exact ⟨fun pins s σ H Q I ⟨ε, S, Q', a, b, c, d⟩ => h1.run pins s σ H Q I (h2 σ H ε S Q' a b c Q d)⟩
def dYes : DTT := fun _ S Q => Q true S
theorem dts_nil {X : Cx} : DTs X [] dYes := ⟨_, pts_nil, fun σ H ε S Q he hr q Q2 k => k _ H S (TLe.refl H) hr q⟩
theorem dts_one {X : Cx} {c : Expr} {t : DTT} (h : DT X c t) : DTs X [c] t := by
  obtain ⟨te, h1, h2⟩ := h.ex
  exact ⟨_, pts_one h1, h2⟩
/-! ### the slots of a block -/
def dWipe (ε : Env) : List Nat → Env
  | [] => ε
  | v :: vs => (dWipe ε vs).set v none
theorem dWipe_length (ε : Env) : ∀ vs : List Nat, (dWipe ε vs).length = ε.length
  | [] => rfl
  | v :: vs => by unfold dWipe; rw [List.length_set, dWipe_length ε vs]
theorem Ep.wipe {M : Md} {H : Hp} {σ : L2.St} {ε : Env} (h : Ep M H σ ε) : ∀ vs : List Nat, Ep M H (wipe σ vs) (dWipe ε vs)
  | [] => h
  | v :: vs => by
    have ih := h.wipe vs
    refine ⟨by rw [wipe_length, dWipe_length]; exact h.1, fun i d e => ?_⟩
    unfold dWipe at e
    unfold L2.wipe
    by_cases q : v = i
    · subst q
      by_cases l : v < (dWipe ε vs).length
      · rw [List.getElem?_set_self l] at e; cases e
      · rw [List.getElem?_eq_none (by rw [List.length_set]; omega)] at e; cases e
    · rw [List.getElem?_set_ne q] at e ⊢
      exact ih.2 i d e
theorem wipe_get (σ : L2.St) (i : Nat) : ∀ vs : List Nat, i ∈ vs → i < σ.length → (wipe σ vs)[i]? = some none
  | [], h, _ => by cases h
  | v :: vs, h, l => by
    unfold L2.wipe
    by_cases q : v = i
    · subst q; exact List.getElem?_set_self (by rw [wipe_length]; exact l)
    · rw [List.getElem?_set_ne q]
      exact wipe_get σ i vs (by rcases List.mem_cons.mp h with z | z; exact (q z.symm).elim; exact z) l
theorem wipe_onl {σ σ' : L2.St} {vs : List Nat} (h : Onl vs (wipe σ vs) σ') : wipe σ' vs = wipe σ vs := by
  apply List.ext_getElem?
  intro i
  have hl : σ'.length = σ.length := by rw [h.1, wipe_length]
  by_cases m : i ∈ vs
  · by_cases l : i < σ.length
    · rw [wipe_get σ i vs m l, wipe_get σ' i vs m (by omega)]
    · rw [List.getElem?_eq_none (by rw [wipe_length]; omega), List.getElem?_eq_none (by rw [wipe_length]; omega)]
  · rw [wipe_out m]
    exact h.2 i m
/-! ### [e for t in xs if ..] -/
def dLc (src : DTI) (g : DTG) (tt : DTT) (te : DTE) (vs : List Nat) : DTE := fun ε S Q => src ε S fun xs stb S1 => ∀ p, S1 p = none → ∃ W : Nat → List D → Sto → Prop,
  W 0 [] (put S1 p (.lst [])) ∧ (∀ i acc S, i ≤ xs.length → W i acc S → stb S) ∧
  (∀ (i : Nat) x acc S, xs[i]? = some x → W i acc S → g x (dWipe ε vs) S fun ε2 S2 => tt ε2 S2 fun b S3 => if b = true then te ε2 S3 fun y S4 => S4 p = some (.lst acc) ∧ acc.length < sizeLine ∧ W (i + 1) (acc ++ [y]) (put S4 p (.lst (acc ++ [y]))) else W (i + 1) acc S3) ∧
  ∀ acc S, W xs.length acc S → Q (.ref p) S
theorem tLc_of {X : Cx} {src : DTI} {g : DTG} {tt : DTT} {te : DTE} {vs : List Nat} {ti : TI} {σ : L2.St} {H : Hp} {ε : Env} {S : Sto} {Q : DK} {Q2 : VK}
    (hi : ∀ σ H ε S K, Ep (Cxmd X) H σ ε → Rp (Cxmd X) H S → src ε S K → ∀ R : It → Hp → Prop, (∀ J H' xs stb S', TLe H H' → Rp (Cxmd X) H' S' → ItOk (Cxmd X) J H' xs stb → K xs stb S' → R J H') → ti σ H R)
    (he : Ep (Cxmd X) H σ ε) (hr : Rp (Cxmd X) H S) (q : dLc src g tt te vs ε S Q) (k : ∀ v H' d S', TLe H H' → Is (Cxmd X) H' v d → Rp (Cxmd X) H' S' → Q d S' → Q2 v H') :
    tLc ti (tgOf (Cxmd X) vs g) (ttOf (Cxmd X) tt) (teOf (Cxmd X) te) vs σ H Q2 := by
  refine hi σ H ε S _ he hr q _ fun J H1 xs stb S1 l1 p1 ok q1 p np => ?_
  obtain ⟨W, w0, ws, turn, fin⟩ := q1 p (p1.free np)
  have l0 : TLe H1 (upd H1 p (.lst [])) := TLe.new np
  refine ⟨fun i m H' => m = xs.length - i ∧ i ≤ xs.length ∧ ∃ acc S', TLe H1 H' ∧ Rp (Cxmd X) H' S' ∧ W i acc S', ⟨xs.length, by simp, Nat.zero_le _, [], _, l0, p1.put l0 (CellIs.ln IsL.nil), w0⟩, ?_⟩
  rintro i m H' ⟨rfl, le, acc, S', l2, p2, w⟩
  have st := ws i acc S' le w
  by_cases lt : i < xs.length
  · refine .inr ⟨ok.go i H' S' lt l2 p2 st, fun H'' => ∃ acc S'', TLe H1 H'' ∧ Rp (Cxmd X) H'' S'' ∧ W (i + 1) acc S'', fun H'' z => ⟨xs.length - (i + 1), by omega, rfl, lt, z⟩, fun x H3 y => ?_⟩
    obtain ⟨d, e3, l3, r3, p3⟩ := ok.yld i H' S' x H3 lt l2 p2 st y
    have ll := l2.trans l3
    refine ⟨d, dWipe ε vs, S', _, r3, ((he.mono l1).mono ll).wipe vs, p3, turn i d acc S' e3 w, fun σ4 H4 ε4 S4 l4 o4 e4 p4 q4 => ⟨wipe_onl o4, ?_⟩⟩
    refine ⟨ε4, S4, _, e4, p4, q4, fun b H5 S5 l5 p5 q5 => ?_⟩
    cases b with
    | false => exact iteF ⟨acc, S5, (ll.trans l4).trans l5, p5, q5⟩
    | true =>
      refine iteT ⟨ε4, S5, _, e4.mono l5, p5, q5, fun v H6 d6 S6 l6 r6 p6 ⟨h6, z6, w6⟩ => ?_⟩
      obtain ⟨us, h7, i7⟩ := p6 _ _ h6
      have l7 : TLe H6 (upd H6 p (.lst (us ++ [v]))) := tl_mut h7
      refine ⟨us, h7, by rw [i7.length]; exact z6, acc ++ [d6], _, (((ll.trans l4).trans l5).trans l6).trans l7, p6.put l7 (CellIs.ln (IsL.mono l7 (i7.append (IsL.cons r6 IsL.nil)))), w6⟩
  · have e : i = xs.length := by omega
    subst e
    exact .inl ⟨ok.stop H' S' l2 p2 st, k _ H' _ S' (l1.trans l2) Is.r p2 (fin acc S' w)⟩
section
variable {X : Cx} {elt tg iter : Expr} {ifs : List Expr} {scope : Scope} {own : List (Str × Nat)} {pos : Pos} {src : DTI} {g : DTG} {tt : DTT} {te : DTE}
theorem de_lc (hc : X.calm = true) (hN : X.N.Nodup) (hi : DI X tg iter src) (ok : BlkOk X.N X.env.scope scope own)
    (hg : ∀ (s : Shared) (H : Hp) (C : Addr) (cl : List (Str × Addr)) (fp : List Addr), DG (X.blk s H scope (compEnvC scope cl C X.env) fp) tg (own.map (·.2)) g) (ht : ∀ (s : Shared) (H : Hp) (C : Addr) (cl : List (Str × Addr)) (fp : List Addr), DTs (X.blk s H scope (compEnvC scope cl C X.env) fp) ifs tt)
    (he : ∀ (s : Shared) (H : Hp) (C : Addr) (cl : List (Str × Addr)) (fp : List Addr), DE (X.blk s H scope (compEnvC scope cl C X.env) fp) elt te) (hs : ∀ x, foldedSetIterable iter X.env x = pure x := by intro _; rfl) :
    DE X (.ListComp elt [⟨tg, iter, ifs, 0⟩] scope pos) (dLc src g tt te (own.map (·.2))) := by
  obtain ⟨ti, a1, a2⟩ := hi.ex
  exact ⟨_, pe_lc hc hN a1 ok (fun s H C cl fp => (show PG (X.blk s H scope (compEnvC scope cl C X.env) fp) tg (tgOf (Cxmd X) (own.map (·.2)) g) from (hg s H C cl fp).pg)) (fun s H C cl fp => (show PTs (X.blk s H scope (compEnvC scope cl C X.env) fp) ifs (ttOf (Cxmd X) tt) from (ht s H C cl fp).pts)) (fun s H C cl fp => (show PE (X.blk s H scope (compEnvC scope cl C X.env) fp) elt (teOf (Cxmd X) te) from (he s H C cl fp).pe)) hs, fun σ H ε S Q he hr q Q2 k => tLc_of (X := X) a2 he hr q k⟩
theorem ds_setLc {i : Nat} {y : Str} {py spos : Pos} (hc : X.calm = true) (hN : X.N.Nodup) (hy : X.N[i]? = some y) (hyl : X.env.scope.names.lookup y = some .local)
    (hsw : swapsWith (.ListComp elt [⟨tg, iter, ifs, 0⟩] scope pos) (some (.Name y py)) spos.line X.env = pure true) (hi : DI X tg iter src) (ok : BlkOk X.N X.env.scope scope own)
    (hg : ∀ (s : Shared) (H : Hp) (C : Addr) (cl : List (Str × Addr)) (fp : List Addr), DG (X.blk s H scope (compEnvC scope cl C X.env) fp) tg (own.map (·.2)) g) (ht : ∀ (s : Shared) (H : Hp) (C : Addr) (cl : List (Str × Addr)) (fp : List Addr), DTs (X.blk s H scope (compEnvC scope cl C X.env) fp) ifs tt)
    (he : ∀ (s : Shared) (H : Hp) (C : Addr) (cl : List (Str × Addr)) (fp : List Addr), DE (X.blk s H scope (compEnvC scope cl C X.env) fp) elt te) (hs : ∀ x, foldedSetIterable iter X.env x = pure x := by intro _; rfl) :
    DS X (.Assign [.Name y py] (.ListComp elt [⟨tg, iter, ifs, 0⟩] scope pos) spos) (dSet i (dLc src g tt te (own.map (·.2)))) := by
  obtain ⟨ti, a1, a2⟩ := hi.ex
  refine ⟨_, ps_setLc hc hN hy hyl hsw a1 ok (fun s H C cl fp => (show PG (X.blk s H scope (compEnvC scope cl C X.env) fp) tg (tgOf (Cxmd X) (own.map (·.2)) g) from (hg s H C cl fp).pg)) (fun s H C cl fp => (show PTs (X.blk s H scope (compEnvC scope cl C X.env) fp) ifs (ttOf (Cxmd X) tt) from (ht s H C cl fp).pts)) (fun s H C cl fp => (show PE (X.blk s H scope (compEnvC scope cl C X.env) fp) elt (teOf (Cxmd X) te) from (he s H C cl fp).pe)) hs, fun σ H ε S Dd D he hr hd q => ?_⟩
  exact tLc_of (X := X) a2 he hr q fun v H1 d S1 l1 r1 p1 q1 => hd.nx _ H1 _ S1 l1 ((he.mono l1).set r1) p1 q1
end
/-! ### own defs -/
abbrev DX := Value → List (Str × D) → Sto → Prop
abbrev DSp := List D → Sto → DK → DX → Prop
def ExIs (M : Md) (H : Hp) (o : Option Addr) (gs : List (Str × D)) : Prop := (o = none ∧ gs = []) ∨ ∃ d fs, o = some d ∧ H d = some (.xd fs) ∧ IsF M H fs gs
def lift (M : Md) (f : DSp) : Sp := fun vs H Q E => ∃ ds S QD ED, IsL M H vs ds ∧ Rp M H S ∧ f ds S QD ED ∧ (∀ v H' d S', TLe H H' → Is M H' v d → Rp M H' S' → QD d S' → Q v H') ∧
  (∀ c o H' gs S', TLe H H' → ExIs M H' o gs → Rp M H' S' → ED c gs S' → E c o H')
def E0D : DX := fun _ _ _ => False
def dCall (f : DSp) (t : DTA) : DTE := fun ε S Q => t ε S fun ds S1 => f ds S1 Q E0D
section
variable {X : Cx} {k : Nat} {f : Addr} {fd : FuncData} {ps : List Str} {sp : DSp} {x : Str} {p pos : Pos} {e : Expr} {es : List Expr} {t : DTA}
theorem de_call (F : FnOk X.prog X.w X.K X.mg X.base (L2.CX X.prog X.w) k f fd ps (lift (Cxmd X) sp)) (hr : Room k X.A) (hg : Gl X x) (hm : X.mg x = some (.ref f)) (hk : PySem.W.keepIn X.K (.ref f) = true) (hb : Binds X.K fd ps [])
    (ha : DA X (e :: es) t) (hdb : (x == ("__debug__" : Str)) = false := by decide) (he : starEach (e :: es) X.env = (false, eval e X.env) :: starEach es X.env := by rfl) (hpl : (backTo pos (starEach es X.env)).any (·.1) = false := by rfl) :
    DE X (.Call (.Name x p) (e :: es) [] pos) (dCall sp t) := by
  obtain ⟨t1, a1, a2⟩ := ha.ex
  refine ⟨_, pe_call F hr hg hm hk hb .nil passL a1 hdb he hpl, fun σ H ε S Q he hr q Q2 k => ?_⟩
  refine a2 σ H ε S _ he hr q _ fun vs H1 ds S1 l1 r1 p1 q1 => ?_
  exact ⟨ds, S1, Q, E0D, by rw [List.append_nil]; exact r1, p1, q1, fun v H' d S' l2 r2 p2 q2 => k v H' d S' (l1.trans l2) r2 p2 q2, fun c o H' gs S' _ _ _ z => z.elim⟩
/-- less may be known at the end -/
def Dn (Q : DK) : DK := fun d S' => ∃ S'', Le S'' S' ∧ Q d S''
def startD (n : Nat) (ds : List D) : Env := ds.map some ++ List.replicate (n - ds.length) none
theorem IsL.start {M : Md} {H : Hp} {vs : List V} {ds : List D} {N : List Str} (h : IsL M H vs ds) : Ep M H (start N vs) (startD N.length ds) := by
  unfold L2.start startD
  refine ⟨by simp [h.length], fun i d e => ?_⟩
  have hl := h.length
  by_cases l : i < ds.length
  · rw [List.getElem?_append_left (by simpa using l)] at e
    rw [List.getElem?_append_left (by simpa [hl] using l)]
    have e2 : ds[i]? = some d := by simpa using e
    obtain ⟨v, e3, r⟩ := h.get e2
    exact ⟨v, by simpa using e3, r⟩
  · rw [List.getElem?_append_right (by simpa using l)] at e
    rw [List.getElem?_replicate] at e
    split at e <;> cases e
end
section
variable {P : Program} {w : World} {K : PySem.W.Frag} {mg : Str → Option Value} {base : Heap}
/-- THE RULE for a def that lets nothing out -/
theorem okD {x qual : Str} {params : Arguments} {body : List Stmt} {scope : Scope} {dvs : List V} {kws : List (Str × V)} {fa : Addr} {fd : FuncData} {N ps : List Str} {k : Nat} {sp : DSp} {t : DTS}
    (F : FunD K x qual params body scope dvs kws fa fd) (S : FnScope N ps scope) (len : ∀ ds S Q E, sp ds S Q E → ds.length = ps.length)
    (drv : ∀ (cdv : Value) (A : Around) (outer : List PySem.Env) (s : Shared) (H : Hp) (E : XK), Room k (A.deeper (envOfC qual scope s.heap.objs.size fa cdv)) → DSs (cxOf (L2.CX P w) P w K mg base N qual scope fa cdv A outer s H E).nox body t)
    (rd : ∀ ds S Q E, sp ds S Q E → t { nx := fun _ S' => Dn Q .non S', rt := Dn Q } (startD N.length ds) S) : FnOk P w K mg base (L2.CX P w) (k + 1) fa fd ps (lift ⟨P, w, K⟩ sp) := by
  refine F.ok S (fun vs H Q E ⟨ds, S, QD, ED, h1, h2, h3, _⟩ => by rw [h1.length]; exact len ds S QD ED h3) (fun cdv A outer s H vs Q E hr h => ?_)
  obtain ⟨ds, S', QD, ED, h1, h2, h3, h4, h5⟩ := h
  obtain ⟨ts, a1, a2⟩ := (drv cdv A outer s H E hr).ex
  refine ⟨ts, a1.nox, a2 _ _ _ S' _ _ h1.start h2 ⟨?_, ?_, ?_, ?_⟩ (rd ds S' QD ED h3)⟩
  · rintro σ H' ε S1 l e r ⟨S2, le, q⟩
    exact h4 _ H' _ S2 l Is.n (r.le le) q
  · rintro σ H' ε S1 l e r q
    exact q
  · rintro σ H' ε S1 l e r q
    exact q
  · rintro v H' d S1 l e r ⟨S2, le, q⟩
    exact h4 _ H' _ S2 l e (r.le le) q
end
end DL
end
section
/-! The D-layer, part 7: dicts (written and of the store), in, subscripts of any kind, calls by a record. -/
namespace DL
open PySem PySem.Spec PyProof.Rows L2
/-! ### keys -/
mutual
def keq : D → D → Bool
  | .int i, .int j => i == j
  | .str a, .str b => a == b
  | .tup xs, .tup ys => keqL xs ys
  | _, _ => false
def keqL : List D → List D → Bool
  | [], [] => true
  | x :: xs, y :: ys => keq x y && keqL xs ys
  | _, _ => false
end
def cdLook : List D → List D → D → Option D
  | k :: ks, v :: vs, x => if keq k x = true then some v else cdLook ks vs x
  | _, _, _ => none
def isFlatK : D → Bool
  | .int _ => true
  | .str _ => true
  | _ => false
def isTupK : D → Bool
  | .tup xs => xs.all isFlatK
  | _ => false
/-- y may be looked up among ks -/
def okK (ks : List D) (y : D) : Bool := !ks.isEmpty && ((isFlatK y && ks.all isFlatK) || (isTupK y && ks.all isTupK))
theorem keq_kD (a b : Key) : keq (kD a) (kD b) = decide (a = b) := by
  cases a with
  | inl i => cases b with
    | inl j => show (i == j) = _; by_cases h : i = j <;> simp [h]
    | inr y => show false = _; simp
  | inr x => cases b with
    | inl j => show false = _; simp
    | inr y => show (x == y) = _; by_cases h : x = y <;> simp [h]
theorem keqL_kD : ∀ (a b : List Key), keqL (a.map kD) (b.map kD) = decide (a = b)
  | [], [] => by unfold keqL; simp
  | [], y :: b => by unfold keqL; simp
  | x :: a, [] => by unfold keqL; simp
  | x :: a, y :: b => by
    show (keq (kD x) (kD y) && keqL (a.map kD) (b.map kD)) = _
    rw [keq_kD, keqL_kD a b]
    by_cases h : x = y <;> by_cases g : a = b <;> simp [h, g]
theorem flatK_kD {y : D} (h : isFlatK y = true) : ∃ k : Key, y = kD k := by
  cases y with
  | int i => exact ⟨.inl i, rfl⟩
  | str s => exact ⟨.inr s, rfl⟩
  | _ => cases h
theorem flatKL_kD : ∀ {ys : List D}, ys.all isFlatK = true → ∃ k : List Key, ys = k.map kD
  | [], _ => ⟨[], rfl⟩
  | y :: ys, h => by
    rw [List.all_cons, Bool.and_eq_true] at h
    obtain ⟨k, rfl⟩ := flatK_kD h.1
    obtain ⟨ks, rfl⟩ := flatKL_kD h.2
    exact ⟨k :: ks, rfl⟩
theorem kD_flat (k : Key) : isFlatK (kD k) = true := by cases k <;> rfl
theorem is_kD {M : Md} {H : Hp} {v : V} {k : Key} (h : Is M H v (kD k)) : v = kV k := by cases k <;> exact h
theorem isL_kD {M : Md} {H : Hp} : ∀ {ks : List Key} {vs : List V}, IsL M H vs (ks.map kD) → vs = ks.map kV
  | [], vs, h => h
  | k :: ks, vs, h => by
    obtain ⟨v, r, e, q, z⟩ := (show ∃ v r, vs = v :: r ∧ Is M H v (kD k) ∧ IsL M H r (ks.map kD) from h)
    rw [e, is_kD q, isL_kD z]; rfl
/-- what the table gives -/
def LookIs (M : Md) (H : Hp) (o : Option D) (u : Option Value) : Prop := match o with
  | some d => ∃ w v, u = some w ∧ RelV v w ∧ Is M H v d
  | none => u = none
theorem look_is {M : Md} {H : Hp} {κ : Type} [DecidableEq κ] {f : κ → D} (hf : ∀ a b, keq (f a) (f b) = decide (a = b)) : ∀ {kk : List κ} {ds : List D} {us : List V} {vs : List Value} (k : κ), kk.length = us.length → IsL M H us ds → Vals us vs →
    LookIs M H (cdLook (kk.map f) ds (f k)) (valueAt (kk.zip vs) k)
  | [], ds, us, vs, k, hl, h, r => by
    show valueAt [] k = none
    rfl
  | a :: kk, [], us, vs, k, hl, h, r => by
    have e : us = [] := h
    subst e
    cases hl
  | a :: kk, d :: ds, us, vs, k, hl, h, r => by
    obtain ⟨v, rr, e, q, z⟩ := (show ∃ v rr, us = v :: rr ∧ Is M H v d ∧ IsL M H rr ds from h)
    subst e
    cases r with
    | cons rv rs =>
      rename_i w ws
      have ih := look_is hf (kk := kk) k (by simpa using hl) z rs
      show LookIs M H (if keq (f a) (f k) = true then some d else cdLook (kk.map f) ds (f k)) (valueAt ((a, w) :: kk.zip ws) k)
      rw [hf]
      by_cases e : a = k
      · have e2 : valueAt ((a, w) :: kk.zip ws) k = some w := by unfold valueAt; simp [e]
        rw [e2, if_pos (by simpa using e)]
        exact ⟨w, v, rfl, rv, q⟩
      · have e2 : valueAt ((a, w) :: kk.zip ws) k = valueAt (kk.zip ws) k := by unfold valueAt; simp [e]
        rw [e2, if_neg (by simpa using e)]
        exact ih
/-! ### written dicts -/
section
variable {X : Cx} {pins : List (Addr × Obj)} {σ : L2.St} {H : Hp} {s : Shared} {a : Addr} {y : V} {u : Value} {A : Around} {E : Value → Shared → Prop}
theorem tup_key (I : Inv X pins σ H s) {b : Addr} {k : List Key} (h : TpT X.K H b (k.map kV)) : (tupleKind (mixKind X.prog X.w)).is s.heap k b := by
  obtain ⟨its, r, ⟨o, ho, hc, n, hd⟩, _⟩ := I.tuple h.sq
  exact ⟨o, its.toArray, n, ho, hc, hd, items_are r⟩
/-- a table that may be asked: one of the two kinds -/
structure Asks (X : Cx) (H : Hp) (s : Shared) (a : Addr) (y : V) (u : Value) (o : Option D) : Prop where
  ex : (a == sysModules) = false ∧ ((∃ (kk : List Key) (vs : List Value) (k : Key), s.heap.DictOf (mixKind X.prog X.w) a (kk.zip vs) ∧ (mixKind X.prog X.w).is k u = true ∧ LookIs (Cxmd X) H o (valueAt (kk.zip vs) k)) ∨
    ∃ (kk : List (List Key)) (vs : List Value) (k : List Key) (b : Addr), s.heap.DictKeyed (tupleKind (mixKind X.prog X.w)) a (kk.zip vs) ∧ u = .ref b ∧ (tupleKind (mixKind X.prog X.w)).is s.heap k b ∧ LookIs (Cxmd X) H o (valueAt (kk.zip vs) k))
theorem asks_cd (I : Inv X pins σ H s) {ks ds : List D} {us : List V} {d : D} (h : CdA (Cxmd X) a ks us) (l : IsL (Cxmd X) H us ds) (ry : RelV y u) (iy : Is (Cxmd X) H y d) (ok : okK ks d = true) : Asks X H s a y u (cdLook ks ds d) := by
  obtain ⟨h0, _, h1⟩ := h
  unfold okK at ok
  rw [Bool.and_eq_true, Bool.or_eq_true, Bool.and_eq_true, Bool.and_eq_true] at ok
  obtain ⟨ne, ok⟩ := ok
  refine ⟨h0, ?_⟩
  rcases h1 with ⟨kk, e, hl, h2⟩ | ⟨kk, e, hl, h2⟩
  · subst e
    rcases ok with ⟨f1, f2⟩ | ⟨f1, f2⟩
    · obtain ⟨k, rfl⟩ := flatK_kD f1
      obtain ⟨vs, r, dd⟩ := h2 s.heap I.kIn
      rw [is_kD iy] at ry
      exact .inl ⟨kk, vs, k, dd, kV_is ry, look_is keq_kD k hl l r⟩
    · cases kk with
      | nil => cases ne
      | cons k kk =>
        rw [List.map_cons, List.all_cons, Bool.and_eq_true] at f2
        cases k <;> cases f2.1
  · subst e
    rcases ok with ⟨f1, f2⟩ | ⟨f1, f2⟩
    · cases kk with
      | nil => cases ne
      | cons k kk =>
        rw [List.map_cons, List.all_cons, Bool.and_eq_true] at f2
        cases f2.1
    · cases d with
      | tup xs =>
        obtain ⟨k, rfl⟩ := flatKL_kD f1
        obtain ⟨b, ws, e, sq, l2⟩ := iy
        subst e
        cases ry
        obtain ⟨vs, r, dd⟩ := h2 s.heap I.kIn
        rw [isL_kD l2] at sq
        exact .inr ⟨kk, vs, k, b, dd, rfl, tup_key I sq, look_is (f := fun l : List Key => D.tup (l.map kD)) (fun a b => by show keqL _ _ = _; exact keqL_kD a b) k hl l r⟩
      | _ => cases f1
theorem asks_in {o : Option D} {Q : Value → Shared → Prop} (hu : A.units + 1 < cLine) (g : Asks X H s a y u o) (h : ∀ tk, Q (.bool o.isSome) { s with toks := tk }) : wpAny (model X.prog X.w) A (compareOp .In u (.ref a)) Q E s := by
  obtain ⟨hd, ⟨kk, vs, k, dd, hk, l⟩ | ⟨kk, vs, k, b, dd, e, hk, l⟩⟩ := g
  · refine wpAny_in_of hk hd dd.mapOf ?_
    have e : (valueAt (kk.zip vs) k).isSome = o.isSome := by
      cases o with
      | none => rw [show valueAt (kk.zip vs) k = none from l]; rfl
      | some d => obtain ⟨w, v, e, _⟩ := l; rw [e]; rfl
    rw [e]
    exact h _
  · subst e
    refine in_keyed (tupleKind_room_in1 hu) hk hd dd ?_
    have e : (valueAt (kk.zip vs) k).isSome = o.isSome := by
      cases o with
      | none => rw [show valueAt (kk.zip vs) k = none from l]; rfl
      | some d => obtain ⟨w, v, e, _⟩ := l; rw [e]; rfl
    rw [e]
    exact h _
theorem asks_notIn {o : Option D} {Q : Value → Shared → Prop} (hu : A.units + 1 < cLine) (g : Asks X H s a y u o) (h : ∀ tk, Q (.bool (!o.isSome)) { s with toks := tk }) : wpAny (model X.prog X.w) A (compareOp .NotIn u (.ref a)) Q E s := by
  obtain ⟨hd, ⟨kk, vs, k, dd, hk, l⟩ | ⟨kk, vs, k, b, dd, e, hk, l⟩⟩ := g
  · refine wpAny_notIn_of hk hd dd.mapOf ?_
    have e : (valueAt (kk.zip vs) k).isSome = o.isSome := by
      cases o with
      | none => rw [show valueAt (kk.zip vs) k = none from l]; rfl
      | some d => obtain ⟨w, v, e, _⟩ := l; rw [e]; rfl
    rw [e]
    exact h _
  · subst e
    refine notIn_keyed (tupleKind_room_in1 hu) hk hd dd ?_
    have e : (valueAt (kk.zip vs) k).isSome = o.isSome := by
      cases o with
      | none => rw [show valueAt (kk.zip vs) k = none from l]; rfl
      | some d => obtain ⟨w, v, e, _⟩ := l; rw [e]; rfl
    rw [e]
    exact h _
theorem asks_item {d : D} {Q : Value → Shared → Prop} (hu : A.units + 1 < cLine) (g : Asks X H s a y u (some d)) (h : ∀ tk w v, RelV v w → Is (Cxmd X) H v d → Q w { s with toks := tk }) : wpAny (model X.prog X.w) A (getItem (.ref a) u) Q E s := by
  obtain ⟨hd, ⟨kk, vs, k, dd, hk, w, v, e, rv, iv⟩ | ⟨kk, vs, k, b, dd, e, hk, w, v, e2, rv, iv⟩⟩ := g
  · exact wpAny_getItem_of hk dd.mapOf e (h _ w v rv iv)
  · subst e
    exact getItem_keyed (tupleKind_room_in1 hu) hk dd e2 (h _ w v rv iv)
theorem asks_get {o : Option D} {Q : Value → Shared → Prop} (hu : A.units + 1 < cLine) (g : Asks X H s a y u o) (h : ∀ tk w v, RelV v w → Is (Cxmd X) H v (o.getD .non) → Q w { s with toks := tk }) : wpAny (model X.prog X.w) A (call (.builtin "dict.get") [.ref a, u]) Q E s := by
  obtain ⟨hd, ⟨kk, vs, k, dd, hk, l⟩ | ⟨kk, vs, k, b, dd, e, hk, l⟩⟩ := g
  · refine call_meetsIn PySem.F.slot_dict_get dd.typeIs PySem.F.entry_dict_get (PySem.F.args_dict_get_2 _ _) (meets_dict_get (mixKind X.prog X.w) a hk hd) ⟨_, dd.mapOf, ?_⟩
    cases o with
    | none =>
      rw [show valueAt (kk.zip vs) k = none from l]
      exact h _ _ .non rfl Is.n
    | some d => obtain ⟨w, v, e, rv, iv⟩ := l; rw [e]; exact h _ w v rv iv
  · subst e
    refine get_keyed (tupleKind_room_in1 hu) hk hd dd ?_
    cases o with
    | none =>
      rw [show valueAt (kk.zip vs) k = none from l]
      exact h _ _ .non rfl Is.n
    | some d => obtain ⟨w, v, e, rv, iv⟩ := l; rw [e]; exact h _ w v rv iv
theorem asks_type {o : Option D} (g : Asks X H s a y u o) : s.TypeIs (.ref a) "dict" := by
  obtain ⟨hd, ⟨kk, vs, k, dd, _⟩ | ⟨kk, vs, k, b, dd, _⟩⟩ := g
  · exact dd.typeIs
  · exact dd.typeIs
end
/-! ### in, subscripts, get -/
def oIn : DR2 := fun x y S Q => match y with
  | .str t => ∃ c, x = .str ⟨#[c]⟩ ∧ Q (.bl (decide (c ∈ t.cps.toList))) S
  | .cd ks vs => okK ks x = true ∧ Q (.bl (cdLook ks vs x).isSome) S
  | _ => inD false x y S Q
def oNotIn : DR2 := fun x y S Q => match y with
  | .str t => ∃ c, x = .str ⟨#[c]⟩ ∧ Q (.bl (!decide (c ∈ t.cps.toList))) S
  | .cd ks vs => okK ks x = true ∧ Q (.bl (!(cdLook ks vs x).isSome)) S
  | _ => inD true x y S Q
section
variable {X : Cx}
def rCdIn (M : Md) (neg : Bool) : R2 := fun x y H Q => ∃ a us ks ds d, y = .ref a ∧ CdA M a ks us ∧ IsL M H us ds ∧ Is M H x d ∧ okK ks d = true ∧ Q (.bl (if neg then !(cdLook ks ds d).isSome else (cdLook ks ds d).isSome)) H
theorem op_cdIn (hu : X.A.units + 1 < cLine) : OpR X (compareOp .In) (rCdIn (Cxmd X) false) := by
  intro pins s σ H x y v u Q I rx ry ⟨a, us, ks, ds, d, e, h1, h2, h3, h4, q⟩
  subst e
  cases ry
  exact asks_in hu (asks_cd I h1 h2 rx h3 h4) fun tk => ⟨.bl _, H, I.tok tk, rfl, q⟩
theorem op_cdNotIn (hu : X.A.units + 1 < cLine) : OpR X (compareOp .NotIn) (rCdIn (Cxmd X) true) := by
  intro pins s σ H x y v u Q I rx ry ⟨a, us, ks, ds, d, e, h1, h2, h3, h4, q⟩
  subst e
  cases ry
  exact asks_notIn hu (asks_cd I h1 h2 rx h3 h4) fun tk => ⟨.bl _, H, I.tok tk, rfl, q⟩
theorem dop_cdIn (hu : X.A.units + 1 < cLine) : DOp X (compareOp .In) (fun x y S Q => ∃ ks vs, y = .cd ks vs ∧ okK ks x = true ∧ Q (.bl (cdLook ks vs x).isSome) S) :=
  ⟨_, op_cdIn hu, fun x y dx dy H S Q ix iy hr ⟨ks, vs, e, ok, q⟩ Q2 k => by
    subst e
    obtain ⟨a, us, e, h1, h2⟩ := iy
    exact ⟨a, us, ks, vs, dx, e, h1, h2, ix, ok, k _ H _ S (TLe.refl H) Is.b hr q⟩⟩
theorem dop_cdNotIn (hu : X.A.units + 1 < cLine) : DOp X (compareOp .NotIn) (fun x y S Q => ∃ ks vs, y = .cd ks vs ∧ okK ks x = true ∧ Q (.bl (!(cdLook ks vs x).isSome)) S) :=
  ⟨_, op_cdNotIn hu, fun x y dx dy H S Q ix iy hr ⟨ks, vs, e, ok, q⟩ Q2 k => by
    subst e
    obtain ⟨a, us, e, h1, h2⟩ := iy
    exact ⟨a, us, ks, vs, dx, e, h1, h2, ix, ok, k _ H _ S (TLe.refl H) Is.b hr q⟩⟩
theorem dop_signIn : DOp X (compareOp .In) (fun x y S Q => ∃ c t, x = .str ⟨#[c]⟩ ∧ y = .str t ∧ Q (.bl (decide (c ∈ t.cps.toList))) S) :=
  ⟨_, op_in_sign, fun x y dx dy H S Q ix iy hr ⟨c, t, e1, e2, q⟩ Q2 k => by
    subst e1 e2
    exact ⟨c, t, ix, iy, k _ H _ S (TLe.refl H) Is.b hr q⟩⟩
theorem dop_signNotIn : DOp X (compareOp .NotIn) (fun x y S Q => ∃ c t, x = .str ⟨#[c]⟩ ∧ y = .str t ∧ Q (.bl (!decide (c ∈ t.cps.toList))) S) :=
  ⟨_, op_notIn_sign, fun x y dx dy H S Q ix iy hr ⟨c, t, e1, e2, q⟩ Q2 k => by
    subst e1 e2
    exact ⟨c, t, ix, iy, k _ H _ S (TLe.refl H) Is.b hr q⟩⟩
theorem dop_in (hu : X.A.units + 1 < cLine) : DOp X (compareOp .In) oIn := by
  refine (dop_signIn.or ((dop_cdIn hu).or dop_in_seq)).imp fun x y S Q q => ?_
  unfold oIn at q
  split at q
  · obtain ⟨c, e, q⟩ := q; exact .inl ⟨c, _, e, rfl, q⟩
  · exact .inr (.inl ⟨_, _, rfl, q⟩)
  · exact .inr (.inr q)
theorem dop_notin (hu : X.A.units + 1 < cLine) : DOp X (compareOp .NotIn) oNotIn := by
  refine (dop_signNotIn.or ((dop_cdNotIn hu).or dop_notin_seq)).imp fun x y S Q q => ?_
  unfold oNotIn at q
  split at q
  · obtain ⟨c, e, q⟩ := q; exact .inl ⟨c, _, e, rfl, q⟩
  · exact .inr (.inl ⟨_, _, rfl, q⟩)
  · exact .inr (.inr q)
def rCdIx (M : Md) : R2 := fun x y H Q => ∃ a us ks ds d d', x = .ref a ∧ CdA M a ks us ∧ IsL M H us ds ∧ Is M H y d ∧ okK ks d = true ∧ cdLook ks ds d = some d' ∧ ∀ v, Is M H v d' → Q v H
theorem ix_cd (hu : X.A.units + 1 < cLine) : IxR X (rCdIx (Cxmd X)) := by
  intro value slice pins s σ H x y v u Q I rx ry ⟨a, us, ks, ds, d, d', e, h1, h2, h3, h4, h5, q⟩ hs
  subst e
  cases rx
  have g := asks_cd I h1 h2 ry h3 h4
  rw [h5] at g
  exact tail_any (asks_type g) PySem.F.slot_dict_getitem.lookup (asks_item hu g fun tk w v rv iv => ⟨v, H, I.tok tk, rv, q v iv⟩) hs
/-- a subscript of any kind -/
def ixA : DR2 := fun x y S Q => match x with
  | .cd ks vs => okK ks y = true ∧ ∃ d, cdLook ks vs y = some d ∧ Q d S
  | _ => ixD x y S Q
theorem de_ixA {a b : Expr} {pos : Pos} {ta tb : DTE} (hu : X.A.units + 1 < cLine) (ha : DE X a ta) (hb : DE X b tb) (hs : PlainIx b) : DE X (.Subscript a b pos) (dOp ixA ta tb) := by
  obtain ⟨te, a1, a2⟩ := ha.ex
  obtain ⟨tr, b1, b2⟩ := hb.ex
  refine ⟨_, pe_ix ((ix_cd hu).or ix_seq) a1 b1 hs, fun σ H ε S Q he hr q Q2 k => ?_⟩
  refine a2 σ H ε S _ he hr q _ fun v H1 d S1 t1 r1 p1 q1 => ?_
  refine b2 σ H1 ε S1 _ (he.mono t1) p1 q1 _ fun u H2 d2 S2 t2 r2 p2 q2 => ?_
  have r1' := Is.mono t2 r1
  by_cases hc : ∃ ks vs, d = .cd ks vs
  · obtain ⟨ks, vs, rfl⟩ := hc
    obtain ⟨ok, d', e, q3⟩ := q2
    obtain ⟨a, us, e1, h1, h2⟩ := r1'
    exact .inl ⟨a, us, ks, vs, d2, d', e1, h1, h2, r2, ok, e, fun v iv => k v H2 d' S2 (t1.trans t2) iv p2 q3⟩
  · have q3 : ixD d d2 S2 Q := by
      unfold ixA at q2
      split at q2
      · exact (hc ⟨_, _, rfl⟩).elim
      · exact q2
    exact .inr (ixD_is p2 r1' r2 q3 fun v H' d' S' t r p q => k v H' d' S' ((t1.trans t2).trans t) r p q)
/-- d.get(k) of a written dict -/
def dCdGet (td ty : DTE) : DTE := fun ε S Q => td ε S fun x S1 => ∃ ks vs, x = .cd ks vs ∧ ty ε S1 fun y S2 => okK ks y = true ∧ Q ((cdLook ks vs y).getD .non) S2
theorem de_cdget {o e : Expr} {apos cpos : Pos} {td ty : DTE} (hu : X.A.units + 1 < cLine) (ho : DE X o td) (he : DE X e ty) (m : M1 X o "get" apos e cpos := by exact ⟨rfl, rfl, rfl, rfl⟩) : DE X (.Call (.Attribute o "get" apos) [e] [] cpos) (dCdGet td ty) := by
  obtain ⟨te, a1, a2⟩ := ho.ex
  obtain ⟨tr, b1, b2⟩ := he.ex
  let tv : TE := fun σ H Q2 => te σ H fun x H1 => ∃ a us ks ds, x = .ref a ∧ CdA (Cxmd X) a ks us ∧ IsL (Cxmd X) H1 us ds ∧ tr σ H1 fun y H2 => ∃ d, TLe H1 H2 ∧ Is (Cxmd X) H2 y d ∧ okK ks d = true ∧ ∀ v, Is (Cxmd X) H2 v ((cdLook ks ds d).getD .non) → Q2 v H2
  refine ⟨tv, ⟨fun pins s σ H Q I h => ?_⟩, fun σ H ε S Q he hr q Q2 k => ?_⟩
  · refine wpAny_Call_method m.base m.few m.line PySem.F.plainAttrs_dict PySem.F.slot_dict_get PySem.F.type_dict_get (thn (a1.run pins s σ H _ I h) fun u s1 ⟨x, H1, I1, rx, a, us, ks, ds, ex, h1, h2, q1⟩ => ?_)
    subst ex
    obtain rfl : u = Value.ref a := rx
    obtain ⟨o, ho1, ho2, ho3⟩ := h1.2.1
    have hT : s1.TypeIs (.ref a) "dict" := ⟨o, I1.kIn a o ho1, ho2⟩
    refine ⟨hT, ?_, ?_⟩
    · intro b eb
      cases eb
      exact ⟨o, I1.kIn a o ho1, ho3⟩
    rw [m.trees]
    refine Calls.callWith_builtin rfl (Calls.evalArgs_plain (Calls.spliced_cons (thn (b1.run pins s1 σ H1 _ I1 q1) fun iv s2 ⟨y, H2, I2, ry, d, t2, iy, ok, q2⟩ => Calls.spliced_nil ?_)))
    exact asks_get hu (asks_cd I2 h1 (IsL.mono t2 h2) ry iy ok) fun tk w v rv iv => ⟨v, H2, I2.tok tk, rv, q2 v iv⟩
  · refine a2 σ H ε S _ he hr q _ fun v H1 d S1 t1 r1 p1 ⟨ks, vs, e, q1⟩ => ?_
    subst e
    obtain ⟨a, us, e, h1, h2⟩ := r1
    refine ⟨a, us, ks, vs, e, h1, h2, ?_⟩
    refine b2 σ H1 ε S1 _ (he.mono t1) p1 q1 _ fun u H2 d2 S2 t2 r2 p2 ⟨ok, q2⟩ => ⟨d2, t2, r2, ok, fun v iv => k v H2 _ S2 (t1.trans t2) iv p2 q2⟩
end
/-! ### calls by a record -/
structure Wd where
  P : Program
  w : World
  K : PySem.W.Frag
  mg : Str → Option Value
  base : Heap
/-- the def x of the module keeps the promise sp -/
structure Okf (C : Wd) (x : Str) (ps : List Str) (k : Nat) (sp : DSp) : Prop where
  ex : ∃ fa fd, C.mg x = some (.ref fa) ∧ PySem.W.keepIn C.K (.ref fa) = true ∧ Binds C.K fd ps [] ∧ (∀ (s : Shared) (us : List Value), us.length = ps.length → BindsTo s fd ⟨us, []⟩ (ps.zip us)) ∧ FnOk C.P C.w C.K C.mg C.base (L2.CX C.P C.w) k fa fd ps (lift ⟨C.P, C.w, C.K⟩ sp)
theorem Okf.mono {C : Wd} {x : Str} {ps : List Str} {j k : Nat} {sp : DSp} (h : Okf C x ps j sp) (le : j ≤ k) : Okf C x ps k sp := by
  obtain ⟨fa, fd, a, b, c, d, e⟩ := h.ex
  exact ⟨fa, fd, a, b, c, d, e.mono le⟩
theorem lift_imp {M : Md} {f g : DSp} (h : ∀ ds S Q E, f ds S Q E → g ds S Q E) : ∀ vs H Q E, lift M f vs H Q E → lift M g vs H Q E := fun vs H Q E ⟨ds, S, QD, ED, a, b, c, d⟩ => ⟨ds, S, QD, ED, a, b, h _ _ _ _ c, d⟩
theorem Okf.imp {C : Wd} {x : Str} {ps : List Str} {k : Nat} {f g : DSp} (h : Okf C x ps k g) (i : ∀ ds S Q E, f ds S Q E → g ds S Q E) : Okf C x ps k f := by
  obtain ⟨fa, fd, a, b, c, d, e⟩ := h.ex
  exact ⟨fa, fd, a, b, c, d, e.imp (lift_imp i)⟩
abbrev XC (C : Wd) (N : List Str) (qual : Str) (st : Stmt) (fa : Addr) (cdv : Value) (A : Around) (outer : List PySem.Env) (s : Shared) (H : Hp) (E : XK) : Cx :=
  (cxOf (L2.CX C.P C.w) C.P C.w C.K C.mg C.base N qual (defScope st) fa cdv A outer s H E).nox
/-- what the top has of a def -/
structure Def (C : Wd) (x : Str) (st : Stmt) : Prop where
  ex : ∃ fa fd, FunD C.K x x (defArgs st) (defBody st) (defScope st) [] [] fa fd ∧ C.mg x = some (.ref fa)
theorem okF {C : Wd} {x : Str} {st : Stmt} {N ps : List Str} {k : Nat} {sp : DSp} {t : DTS} (T : Def C x st) (S : FnScope N ps (defScope st))
    (bnd : ∀ (kV doc pm : Value) (an : Option Addr) (cdv ct : Value) (us : List Value), us.length = ps.length → bindArgs (PySem.W.fnOf x x (defArgs st) (defBody st) (defScope st) .none kV doc pm an cdv ct) ⟨us, []⟩ = pure (ps.zip us))
    (len : ∀ ds S Q E, sp ds S Q E → ds.length = ps.length)
    (drv : ∀ (fa : Addr) (cdv : Value) (A : Around) (outer : List PySem.Env) (s : Shared) (H : Hp) (E : XK), Room k (A.deeper (envOfC x (defScope st) s.heap.objs.size fa cdv)) → DSs (XC C N x st fa cdv A outer s H E) (defBody st) t)
    (rd : ∀ ds S Q E, sp ds S Q E → t { nx := fun _ S' => Dn Q .non S', rt := Dn Q } (startD N.length ds) S) : Okf C x ps (k + 1) sp := by
  obtain ⟨fa, fd, F, hm⟩ := T.ex
  exact ⟨fa, fd, hm, F.kp, F.bindsN bnd, F.bindsA bnd, okD F S len (fun cdv A outer s H E hr => drv fa cdv A outer s H E hr) rd⟩
section
variable {X : Cx} {k : Nat} {ps : List Str} {sp : DSp} {x : Str} {p pos : Pos} {e : Expr} {es : List Expr} {t : DTA}
theorem de_callO (h : Okf ⟨X.prog, X.w, X.K, X.mg, X.base⟩ x ps k sp) (hr : Room k X.A) (hg : Gl X x)
    (ha : DA X (e :: es) t) (hdb : (x == ("__debug__" : Str)) = false := by decide) (he : starEach (e :: es) X.env = (false, eval e X.env) :: starEach es X.env := by rfl) (hpl : (backTo pos (starEach es X.env)).any (·.1) = false := by rfl) :
    DE X (.Call (.Name x p) (e :: es) [] pos) (dCall sp t) := by
  obtain ⟨fa, fd, a, b, c, _, d⟩ := h.ex
  exact de_call d hr hg a b c ha hdb he hpl
end
end DL
end
section
/-! The D-layer, part 8: isinstance in one, += , further built-ins. -/
namespace DL
open PySem PySem.Spec PyProof.Rows L2
def oAddI : DR2
  | .int i, .int j, S, Q => Q (.int (i + j)) S
  | .str x, .str y, S, Q => x.length + y.length ≤ sizeLine ∧ Q (.str (x ++ y)) S
  | _, _, _, _ => False
section
variable {X : Cx}
theorem dcl_isi : DCl X (.builtin "isinstance") oIsi := by
  refine (dcl_isi1.or dcl_isiT).imp fun ds S Q q => ?_
  obtain ⟨x, c, T, b, e, h1, h2, q⟩ := q
  cases c with
  | ty n => exact .inl ⟨x, n, T, b, e, h1, h2, q⟩
  | tup cs => exact .inr ⟨x, cs, T, b, e, h1, h2, q⟩
  | _ => cases h2
theorem dop_iaddS : DOp X (inplaceOp .Add) (fun x y S Q => ∃ xs ys : Str, x = .str xs ∧ y = .str ys ∧ xs.length + ys.length ≤ sizeLine ∧ Q (.str (xs ++ ys)) S) :=
  ⟨_, iop_add_str, fun x y dx dy H S Q ix iy hr ⟨xs, ys, e1, e2, z, q⟩ Q2 k => by
    subst e1 e2
    exact ⟨xs, ys, ix, iy, z, k _ H _ S (TLe.refl H) Is.s hr q⟩⟩
theorem dop_iadd : DOp X (inplaceOp .Add) oAddI := by
  refine ((dop_I0 (g' := fun i j => .int (i + j)) iop_add fun i j H => rfl).or dop_iaddS).imp fun x y S Q q => ?_
  unfold oAddI at q
  split at q
  · exact .inl ⟨_, _, rfl, rfl, q⟩
  · exact .inr ⟨_, _, rfl, rfl, q⟩
  · exact q.elim
theorem dop_isub : DOp X (inplaceOp .Sub) oSub := dop_int iop_sub fun i j H => rfl
end
end DL
end
section
/-! The D-layer, part 9: steps through a reading. -/
namespace DL
open PySem PySem.Spec PyProof.Rows L2
section
variable {i j : Nat} {te ta tb to ti tv : DTE} {tt tu : DTT} {t u : DTS} {r : DTA} {EE : DEnds} {ε : Env} {S : Sto} {Q : DK} {QB : Bool → Sto → Prop} {QA : List D → Sto → Prop} {d x y : D}
theorem i_seq (h : t { EE with nx := u EE } ε S) : dSeq t u EE ε S := h
theorem i_set (h : te ε S fun d S1 => EE.nx (ε.set i (some d)) S1) : dSet i te EE ε S := h
theorem i_set2 (h : te ε S fun d S1 => EE.nx ((ε.set i (some d)).set j (some d)) S1) : dSet2 i j te EE ε S := h
theorem i_asg {g : DTG} (h : te ε S fun d S1 => g d ε S1 EE.nx) : dAsg te g EE ε S := h
theorem i_drop (h : te ε S fun _ S1 => EE.nx ε S1) : dDrop te EE ε S := h
theorem i_ret (h : te ε S EE.rt) : dRet te EE ε S := h
theorem i_retN (h : EE.rt .non S) : dRetN EE ε S := h
theorem i_if (h : tt ε S fun b S1 => if b = true then t EE ε S1 else u EE ε S1) : dIf tt t u EE ε S := h
theorem i_skip (h : EE.nx ε S) : dSkip EE ε S := h
theorem i_brk (h : EE.bk ε S) : dBrk EE ε S := h
theorem i_cnt (h : EE.ct ε S) : dCnt EE ε S := h
theorem i_setL (h : tv ε S fun v S1 => to ε S1 fun o S2 => ti ε S2 fun i S3 => ∃ a xs k j, o = .ref a ∧ i = .int k ∧ S3 a = some (.lst xs) ∧ ixN xs.length k = some j ∧ EE.nx ε (put S3 a (.lst (xs.set j v)))) : dSetL tv to ti EE ε S := h
theorem i_aug {o : DR2} (e : ε[i]? = some (some x)) (h : te ε S fun y S1 => o x y S1 fun z S2 => EE.nx (ε.set i (some z)) S2) : dAug i te o EE ε S := ⟨x, e, h⟩
theorem i_par (h : r ε S fun ds S1 => ∃ d e, ds = [d, e] ∧ EE.nx ((ε.set i (some d)).set j (some e)) S1) : dPar i j r EE ε S := h
theorem i_par2 {e f : D} {P : D → D → Prop} (h : P e f) : ∃ d' e', [e, f] = [d', e'] ∧ P d' e' := ⟨e, f, rfl, h⟩
theorem i_var (e : ε[i]? = some (some d)) (h : Q d S) : dVar i ε S Q := ⟨d, e, h⟩
theorem i_c (h : Q d S) : dC d ε S Q := h
theorem i_op {o : DR2} (h : ta ε S fun x S1 => tb ε S1 fun y S2 => o x y S2 Q) : dOp o ta tb ε S Q := h
theorem i_tup (h : r ε S fun xs S1 => xs.length ≤ sizeLine ∧ Q (.tup xs) S1) : dTup r ε S Q := h
theorem i_lst (h : r ε S fun xs S1 => xs.length ≤ sizeLine ∧ ∀ p, S1 p = none → Q (.ref p) (put S1 p (.lst xs))) : dLst r ε S Q := h
theorem i_nil (h : QA [] S) : dNil ε S QA := h
theorem i_cons (h : te ε S fun x S1 => r ε S1 fun xs S2 => QA (x :: xs) S2) : dCons te r ε S QA := h
theorem i_tb (h : te ε S fun x S1 => ∃ k, x = .bl k ∧ QB k S1) : dTB te ε S QB := h
theorem i_bl {b : Bool} {Qb : Bool → Prop} (h : Qb b) : ∃ k, D.bl b = .bl k ∧ Qb k := ⟨b, rfl, h⟩
theorem i_tru (h : te ε S fun x S1 => ∃ k, Tru x S1 k ∧ QB k S1) : dTru te ε S QB := h
theorem i_and (h : tt ε S fun c S1 => if c = true then tu ε S1 QB else QB false S1) : dAnd tt tu ε S QB := h
theorem i_or (h : tt ε S fun c S1 => if c = true then QB true S1 else tu ε S1 QB) : dOr tt tu ε S QB := h
theorem i_not (h : tt ε S fun c S1 => QB (!c) S1) : dNot tt ε S QB := h
theorem i_andV (h : ta ε S fun x S1 => ∃ k, Tru x S1 k ∧ if k = true then tb ε S1 Q else Q x S1) : dAndV ta tb ε S Q := h
theorem i_orV (h : ta ε S fun x S1 => ∃ k, Tru x S1 k ∧ if k = true then Q x S1 else tb ε S1 Q) : dOrV ta tb ε S Q := h
theorem i_notV (h : te ε S fun x S1 => ∃ k, Tru x S1 k ∧ Q (.bl (!k)) S1) : dNotV te ε S Q := h
theorem i_ifE (h : tt ε S fun b S1 => if b = true then ta ε S1 Q else tb ε S1 Q) : dIfE tt ta tb ε S Q := h
theorem i_neg (h : te ε S fun x S1 => ∃ i, x = .int i ∧ Q (.int (-i)) S1) : dNeg te ε S Q := h
theorem i_neg1 {i : Int} {QI : Int → Prop} (h : QI i) : ∃ k, D.int i = .int k ∧ QI k := ⟨i, rfl, h⟩
theorem i_cb {o : DR} (h : r ε S fun ds S1 => o ds S1 Q) : dCB o r ε S Q := h
theorem i_call {f : DSp} (h : r ε S fun ds S1 => f ds S1 Q E0D) : dCall f r ε S Q := h
theorem i_sl {tl th : DTO} (h : te ε S fun x S1 => tl ε S1 fun lo S2 => th ε S2 fun hi S3 => slD x lo hi S3 Q) : dSl te tl th ε S Q := h
theorem i_noP {QO : Option Int → Sto → Prop} (h : QO none S) : dNoP ε S QO := h
theorem i_someP {QO : Option Int → Sto → Prop} (h : te ε S fun x S1 => ∃ i, x = .int i ∧ QO (some i) S1) : dSomeP te ε S QO := h
theorem i_append (h : to ε S fun o S1 => ∃ a xs, o = .ref a ∧ S1 a = some (.lst xs) ∧ te ε S1 fun y S2 => ∃ ys, S2 a = some (.lst ys) ∧ ys.length < sizeLine ∧ Q .non (put S2 a (.lst (ys ++ [y])))) : dAppend to te ε S Q := h
theorem i_extend (h : to ε S fun o S1 => ∃ a xs, o = .ref a ∧ S1 a = some (.lst xs) ∧ te ε S1 fun y S2 => ∃ b ys zs, y = .ref b ∧ S2 a = some (.lst ys) ∧ S2 b = some (.lst zs) ∧ ys.length + zs.length ≤ sizeLine ∧ Q .non (put S2 a (.lst (ys ++ zs)))) : dExtend to te ε S Q := h
theorem i_pop (h : to ε S fun o S1 => ∃ a xs y, o = .ref a ∧ S1 a = some (.lst xs) ∧ xs[xs.length - 1]? = some y ∧ Q y (put S1 a (.lst xs.dropLast))) : dPop to ε S Q := h
theorem i_reverse (h : to ε S fun o S1 => ∃ a xs, o = .ref a ∧ S1 a = some (.lst xs) ∧ Q .non (put S1 a (.lst xs.reverse))) : dReverse to ε S Q := h
theorem i_cdget (h : ta ε S fun x S1 => ∃ ks vs, x = .cd ks vs ∧ tb ε S1 fun y S2 => okK ks y = true ∧ Q ((cdLook ks vs y).getD .non) S2) : dCdGet ta tb ε S Q := h
theorem i_iD {K : List D → (Sto → Prop) → Sto → Prop} (h : te ε S fun d S1 => ∃ xs, itemsD d S1 = some xs ∧ K xs (stbD d xs) S1) : iD te ε S K := h
theorem i_iR1 {K : List D → (Sto → Prop) → Sto → Prop} (h : te ε S fun d S1 => ∃ n, d = .int n ∧ -(2 ^ 62) ≤ n ∧ n < 2 ^ 62 ∧ K ((List.range n.toNat).map fun (i : Nat) => .int (i : Int)) (fun _ => True) S1) : iR1 te ε S K := h
theorem i_gN {QE : DL.Env → Sto → Prop} (h : QE (ε.set i (some d)) S) : gN i d ε S QE := h
theorem i_gTu {g : DTGs} {xs : List D} {QE : DL.Env → Sto → Prop} (h : g xs ε S QE) : gTu g (.tup xs) ε S QE := ⟨xs, rfl, h⟩
theorem i_gCo {g : DTG} {gs : DTGs} {xs : List D} {QE : DL.Env → Sto → Prop} (h : g d ε S fun ε' S' => gs xs ε' S' QE) : gCo g gs (d :: xs) ε S QE := ⟨d, xs, rfl, h⟩
theorem i_gNi {QE : DL.Env → Sto → Prop} (h : QE ε S) : gNi [] ε S QE := ⟨rfl, h⟩
theorem i_yes (h : QB true S) : dYes ε S QB := h
/-! values -/
theorem i_ixT {xs : List D} {i : Int} (e : atI xs i = some d) (h : Q d S) : ixA (.tup xs) (.int i) S Q := ⟨i, rfl, xs, d, rfl, e, h⟩
theorem i_ixC {xs : List D} {i : Int} (e : atI xs i = some d) (h : Q d S) : ixA (.cl xs) (.int i) S Q := ⟨i, rfl, xs, d, rfl, e, h⟩
theorem i_ixR {a : Addr} {xs : List D} {i : Int} (es : S a = some (.lst xs)) (e : atI xs i = some d) (h : Q d S) : ixA (.ref a) (.int i) S Q := ⟨i, rfl, xs, d, by show (match S a with | some (.lst xs) => some xs | _ => none) = some xs; rw [es], e, h⟩
theorem i_ixS {s : Str} {i : Int} {c : Nat} (z : s.length ≤ sizeLine) (e : atI s.cps.toList i = some c) (h : Q (.str ⟨#[c]⟩) S) : ixA (.str s) (.int i) S Q := ⟨i, rfl, z, c, e, h⟩
theorem i_ixD {ks vs : List D} {y : D} (ok : okK ks y = true) (e : cdLook ks vs y = some d) (h : Q d S) : ixA (.cd ks vs) y S Q := ⟨ok, d, e, h⟩
theorem i_inT {xs : List D} {v : V} {us : List V} (e1 : scV x = some v) (e2 : flatL xs = some us) (h : Q (.bl (inV v us)) S) : oIn x (.tup xs) S Q := ⟨v, xs, us, e1, rfl, e2, h⟩
theorem i_niT {xs : List D} {v : V} {us : List V} (e1 : scV x = some v) (e2 : flatL xs = some us) (h : Q (.bl (!inV v us)) S) : oNotIn x (.tup xs) S Q := ⟨v, xs, us, e1, rfl, e2, h⟩
theorem i_inR {a : Addr} {xs : List D} {v : V} {us : List V} (es : S a = some (.lst xs)) (e1 : scV x = some v) (e2 : flatL xs = some us) (h : Q (.bl (inV v us)) S) : oIn x (.ref a) S Q := ⟨v, xs, us, e1, by show (match S a with | some (.lst xs) => some xs | _ => none) = some xs; rw [es], e2, h⟩
theorem i_niR {a : Addr} {xs : List D} {v : V} {us : List V} (es : S a = some (.lst xs)) (e1 : scV x = some v) (e2 : flatL xs = some us) (h : Q (.bl (!inV v us)) S) : oNotIn x (.ref a) S Q := ⟨v, xs, us, e1, by show (match S a with | some (.lst xs) => some xs | _ => none) = some xs; rw [es], e2, h⟩
theorem i_inD {ks vs : List D} (ok : okK ks x = true) (h : Q (.bl (cdLook ks vs x).isSome) S) : oIn x (.cd ks vs) S Q := ⟨ok, h⟩
theorem i_niD {ks vs : List D} (ok : okK ks x = true) (h : Q (.bl (!(cdLook ks vs x).isSome)) S) : oNotIn x (.cd ks vs) S Q := ⟨ok, h⟩
theorem i_eq {v w : V} (e1 : scV x = some v) (e2 : scV y = some w) (s : scal v w = true) (h : Q (.bl (decide (v = w))) S) : oEq x y S Q := ⟨v, w, e1, e2, s, h⟩
theorem i_ne {v w : V} (e1 : scV x = some v) (e2 : scV y = some w) (s : scal v w = true) (h : Q (.bl (!decide (v = w))) S) : oNe x y S Q := ⟨v, w, e1, e2, s, h⟩
theorem decI {a b : Int} : decide (V.int a = V.int b) = decide (a = b) := by
  by_cases h : a = b <;> simp [h]
theorem decS {a b : Str} : decide (V.str a = V.str b) = decide (a = b) := by
  by_cases h : a = b <;> simp [h]
theorem decB {a b : Bool} : decide (V.bl a = V.bl b) = decide (a = b) := by
  by_cases h : a = b <;> simp [h]
theorem i_eqI {a b : Int} (h : Q (.bl (decide (a = b))) S) : oEq (.int a) (.int b) S Q := i_eq rfl rfl rfl (by rw [decI]; exact h)
theorem i_eqS {a b : Str} (h : Q (.bl (decide (a = b))) S) : oEq (.str a) (.str b) S Q := i_eq rfl rfl rfl (by rw [decS]; exact h)
theorem i_eqB {a b : Bool} (h : Q (.bl (decide (a = b))) S) : oEq (.bl a) (.bl b) S Q := i_eq rfl rfl rfl (by rw [decB]; exact h)
theorem i_neI {a b : Int} (h : Q (.bl (!decide (a = b))) S) : oNe (.int a) (.int b) S Q := i_ne rfl rfl rfl (by rw [decI]; exact h)
theorem i_neS {a b : Str} (h : Q (.bl (!decide (a = b))) S) : oNe (.str a) (.str b) S Q := i_ne rfl rfl rfl (by rw [decS]; exact h)
theorem i_isN (h : Q (.bl (isNon x)) S) : oIsN x .non S Q := ⟨rfl, h⟩
theorem i_noN (h : Q (.bl (!isNon x)) S) : oNotN x .non S Q := ⟨rfl, h⟩
theorem i_addI {a b : Int} (h : Q (.int (a + b)) S) : oAdd (.int a) (.int b) S Q := h
theorem i_addS {a b : Str} (z : a.length + b.length ≤ sizeLine) (h : Q (.str (a ++ b)) S) : oAdd (.str a) (.str b) S Q := ⟨z, h⟩
theorem i_addT {a b : List D} (z : a.length + b.length ≤ sizeLine) (h : Q (.tup (a ++ b)) S) : oAdd (.tup a) (.tup b) S Q := ⟨z, h⟩
theorem i_addII {a b : Int} (h : Q (.int (a + b)) S) : oAddI (.int a) (.int b) S Q := h
theorem i_int {g : Int → Int → D} {a b : Int} (h : Q (g a b) S) : oInt g (.int a) (.int b) S Q := h
theorem i_intC {C : Int → Int → Prop} {g : Int → Int → D} {a b : Int} (c : C a b) (h : Q (g a b) S) : oIntC C g (.int a) (.int b) S Q := ⟨c, h⟩
theorem i_int1 {a : Int} (h : Q (.int a) S) : oInt1 [.int a] S Q := .inl ⟨a, rfl, h⟩
theorem i_lenT {xs : List D} (h : Q (.int xs.length) S) : oLen [.tup xs] S Q := ⟨_, rfl, xs, rfl, h⟩
theorem i_lenC {xs : List D} (h : Q (.int xs.length) S) : oLen [.cl xs] S Q := ⟨_, rfl, xs, rfl, h⟩
theorem i_lenR {a : Addr} {xs : List D} (es : S a = some (.lst xs)) (h : Q (.int xs.length) S) : oLen [.ref a] S Q := ⟨_, rfl, xs, by show (match S a with | some (.lst xs) => some xs | _ => none) = some xs; rw [es], h⟩
theorem i_lenS {s : Str} (z : s.length ≤ sizeLine) (h : Q (.int s.length) S) : oLen [.str s] S Q := ⟨_, rfl, z, h⟩
theorem i_isi {n T : String} {b : Bool} (e : tyD x S = some T) (k : kitB T n = some b) (h : Q (.bl b) S) : oIsi [x, .ty n] S Q := ⟨x, _, T, b, rfl, e, k, h⟩
theorem i_isiT {cs : List D} {T : String} {b : Bool} (e : tyD x S = some T) (k : kitL T cs = some b) (h : Q (.bl b) S) : oIsi [x, .tup cs] S Q := ⟨x, _, T, b, rfl, e, k, h⟩
theorem i_isiR {a : Addr} {xs : List D} {n : String} {b : Bool} (es : S a = some (.lst xs)) (k : kitB "list" n = some b) (h : Q (.bl b) S) : oIsi [.ref a, .ty n] S Q := i_isi (by show (match S a with | some (.lst _) => some "list" | some (.dic _ _) => some "dict" | _ => none) = some "list"; rw [es]) k h
theorem i_isiRT {a : Addr} {xs : List D} {cs : List D} {b : Bool} (es : S a = some (.lst xs)) (k : kitL "list" cs = some b) (h : Q (.bl b) S) : oIsi [.ref a, .tup cs] S Q := i_isiT (by show (match S a with | some (.lst _) => some "list" | some (.dic _ _) => some "dict" | _ => none) = some "list"; rw [es]) k h
theorem i_slT {xs : List D} {lo hi : Option Int} (h : Q (.tup (cutD xs lo hi)) S) : slD (.tup xs) lo hi S Q := h
theorem i_tupT {xs : List D} (h : Q (.tup xs) S) : oTuple [.tup xs] S Q := ⟨_, xs, rfl, rfl, h⟩
theorem i_tupR {a : Addr} {xs : List D} (es : S a = some (.lst xs)) (h : Q (.tup xs) S) : oTuple [.ref a] S Q := ⟨_, xs, rfl, by show (match S a with | some (.lst xs) => some xs | _ => none) = some xs; rw [es], h⟩
theorem i_truR {a : Addr} {xs : List D} {Qb : Bool → Prop} (es : S a = some (.lst xs)) (h : Qb (!xs.isEmpty)) : ∃ k, Tru (.ref a) S k ∧ Qb k := ⟨_, .inl ⟨xs, es, rfl⟩, h⟩
theorem i_truB {b : Bool} {Qb : Bool → Prop} (h : Qb b) : ∃ k, Tru (.bl b) S k ∧ Qb k := ⟨_, rfl, h⟩
theorem i_truI {i : Int} {Qb : Bool → Prop} (h : Qb (i != 0)) : ∃ k, Tru (.int i) S k ∧ Qb k := ⟨_, rfl, h⟩
theorem i_truT {xs : List D} {Qb : Bool → Prop} (h : Qb (!xs.isEmpty)) : ∃ k, Tru (.tup xs) S k ∧ Qb k := ⟨_, rfl, h⟩
theorem i_truN {Qb : Bool → Prop} (h : Qb false) : ∃ k, Tru .non S k ∧ Qb k := ⟨_, rfl, h⟩
theorem i_len {xs : List D} {P : Prop} (e : Nat.ble xs.length 1000 = true) (h : P) : xs.length ≤ sizeLine ∧ P := ⟨Nat.le_trans (Nat.le_of_ble_eq_true e) (by decide), h⟩
theorem i_dn (h : Q d S) : Dn Q d S := ⟨S, Le.refl S, h⟩
theorem i_dnL {S' : Sto} (l : Le S' S) (h : Q d S') : Dn Q d S := ⟨S', l, h⟩
end
theorem ifT {b : Bool} {A B : Prop} (e : b = true) (h : A) : if b = true then A else B := by rw [if_pos e]; exact h
theorem ifF {b : Bool} {A B : Prop} (e : b = false) (h : B) : if b = true then A else B := by rw [if_neg (by rw [e]; decide)]; exact h
theorem if2 {b : Bool} {A B : Prop} (h1 : b = true → A) (h2 : b = false → B) : if b = true then A else B := by
  cases b with
  | true => exact ifT rfl (h1 rfl)
  | false => exact ifF rfl (h2 rfl)
theorem ifD {c : Prop} [Decidable c] {A B : Prop} (h1 : c → A) (h2 : ¬ c → B) : if decide c = true then A else B := if2 (fun e => h1 (of_decide_eq_true e)) (fun e => h2 (of_decide_eq_false e))
theorem ifN {c : Prop} [Decidable c] {A B : Prop} (h1 : ¬ c → A) (h2 : c → B) : if (!decide c) = true then A else B := if2 (fun e => h1 (by simpa using e)) (fun e => h2 (by simpa using e))
end DL
end
section
/-! The head run, part 1: runs of a piece of the top, told without the machine's steps. -/
namespace HR
open PySem PySem.W PySem.Calls PyProof.Rows HandSHeadRun
/-- where a run stands; ks: the keys put so far, m: the steps at most -/
structure At where
  s : SharedT
  c : Code
  p : Pos
  ks : List (Addr × Obj)
  m : Nat
section
variable (tb : String → Option Builtin) (P : Program) (w : World) (n0 : Nat) (ann : Option Value) (q : Pos)
/-- t, run from x, gives a and leaves y, in at most X steps -/
def Go {α : Type} (gd : Bool → Bool) (lv : List Value → List Value) (X : Nat) (t : Sem α) (x : At) (a : α) (y : At) : Prop :=
  ∀ (K : α → Sem Fin) (H : Value → Sem Fin) (N : Nat) (r : Shared), topRun tb P w n0 ann N y.s.abs ⟨K a, y.c, y.p, [topFrame q]⟩ = some r →
    topRun tb P w n0 ann (X + N) x.s.abs ⟨t.wrap K H gd lv, x.c, x.p, [topFrame q]⟩ = some r
end
section
variable {tb : String → Option Builtin} {P : Program} {w : World} {n0 : Nat} {ann : Option Value} {q : Pos} {α β : Type} {gd : Bool → Bool} {lv : List Value → List Value}
theorem Go.mono {X X' : Nat} {t : Sem α} {x y : At} {a : α} (h : Go tb P w n0 ann q gd lv X t x a y) (le : X ≤ X') : Go tb P w n0 ann q gd lv X' t x a y := fun K H N r k => by
  have e := topRun_mono (X' - X) _ _ _ _ (h K H N r k)
  rw [show X + N + (X' - X) = X' + N by omega] at e
  exact e
theorem go_pure {a : α} {x : At} : Go tb P w n0 ann q gd lv 0 (pure a) x a x := fun K H N r k => by
  rw [Nat.zero_add]; exact k
theorem go_bind {X Y : Nat} {t : Sem α} {f : α → Sem β} {x y z : At} {a : α} {b : β} (h : Go tb P w n0 ann q gd lv X t x a y) (g : Go tb P w n0 ann q gd lv Y (f a) y b z) : Go tb P w n0 ann q gd lv (X + Y) (t >>= f) x b z := fun K H N r k => by
  rw [Sem.bind_eq_wrap', Sem.wrap_wrap, Nat.add_assoc]
  exact h (fun a => (f a).wrap K H gd lv) _ (Y + N) r (g K H N r k)
theorem go_keep {X : Nat} {vs : List Value} {t : Sem α} {x y : At} {a : α} (h : Go tb P w n0 ann q gd (fun l => lv (vs ++ l)) X t x a y) : Go tb P w n0 ann q gd lv X (t.keep vs) x a y := fun K H N r k => by
  rw [Sem.keep_eq_wrap, Sem.wrap_wrap]
  exact h K _ N r k
def isRefV : Value → Bool
  | .ref _ => true
  | _ => false
/-- what is held besides -/
def hl (vs : List Value) (lv : List Value → List Value) : List Value → List Value := match vs.filter isRefV with
  | [] => lv
  | r :: rs => fun l => lv ((r :: rs) ++ l)
theorem holding_eq (vs : List Value) (t : Sem α) : holding vs t = match vs.filter isRefV with
  | [] => t
  | r :: rs => t.keep (r :: rs) := by
  unfold holding
  split
  · rename_i e
    rw [show vs.filter isRefV = [] from (List.filter_congr fun v _ => by cases v <;> rfl).trans e]
  · rename_i e
    cases h : vs.filter isRefV with
    | nil => exact (e ((List.filter_congr fun v _ => by cases v <;> rfl).trans h)).elim
    | cons r rs =>
      show t.keep _ = t.keep (r :: rs)
      congr 1
theorem go_holding {X : Nat} {vs : List Value} {t : Sem α} {x y : At} {a : α} (h : Go tb P w n0 ann q gd (hl vs lv) X t x a y) : Go tb P w n0 ann q gd lv X (holding vs t) x a y := by
  rw [holding_eq]
  unfold hl at h
  cases e : vs.filter isRefV with
  | nil => rw [e] at h; exact h
  | cons r rs => rw [e] at h; exact go_keep h
theorem go_onRaise {X : Nat} {t : Sem α} {k : Value → Sem Unit} {x y : At} {a : α} (h : Go tb P w n0 ann q gd lv X t x a y) : Go tb P w n0 ann q gd lv X (t.onRaise k) x a y := fun K H N r k' => by
  rw [Sem.onRaise_eq_wrap, Sem.wrap_wrap]
  exact h K _ N r k'
/-- one step -/
theorem top_step {N : Nat} {s s' r : Shared} {t t' : Thread} (ht : through t = false) (hk : stepOk n0 ann t = true) (hs : step (denote tb) P w s t = .go s' t') (k : topRun tb P w n0 ann N s' t' = some r) : topRun tb P w n0 ann (1 + N) s t = some r := by
  rw [Nat.add_comm]
  unfold topRun
  rw [ht, hk, hs]
  exact k
theorem go_rule {tag : String} {x : At} : Go tb P w n0 ann q gd lv 1 (rule tag) x () x := fun K H N r k => top_step rfl rfl rfl k
theorem go_loadPart {a : Addr} {part : Option Value} {o : Obj} {x : At} (h : x.s.abs.heap.get? a = some o) : Go tb P w n0 ann q gd lv 1 (loadPart a part) x o x := fun K H N r k => by
  obtain ⟨⟨T, n, life, gens, drawn, toks, os⟩, c, p, ks, m⟩ := x
  refine top_step (t' := ⟨K o, c, p, [topFrame q]⟩) rfl rfl ?_ k
  have h2 : (absHeap T n life).get? a = some o := h
  show (match (absHeap T n life).get? a with
    | some o => Step.go ⟨absHeap T n life, gens, drawn, toks, os⟩ ⟨K o, c, p, [topFrame q]⟩
    | none => _) = _
  rw [h2]
  rfl
theorem go_updatePart {a : Addr} {part : Option Value} {f : Obj → Obj} {o : Obj} {x y : At} (h : x.s.abs.heap.get? a = some o) (ha : Nat.ble n0 a = true) (ec : y.c = x.c) (ep : y.p = x.p) (e : y.s.abs = { x.s.abs with heap := x.s.abs.heap.update a f }) :
    Go tb P w n0 ann q gd lv 1 (updatePart a part f) x () y := fun K H N r k => by
  rw [ec, ep, e] at k
  obtain ⟨⟨T, n, life, gens, drawn, toks, os⟩, c, p, ks, m⟩ := x
  refine top_step (t' := ⟨K (), c, p, [topFrame q]⟩) rfl ?_ ?_ k
  · show (true && (((Nat.ble n0 a || _) || _) || _)) = true
    rw [ha]; rfl
  · have h2 : (absHeap T n life).get? a = some o := h
    show (if ((absHeap T n life).get? a).isSome then Step.go ⟨(absHeap T n life).update a f, gens, drawn, toks, os⟩ ⟨K (), c, p, [topFrame q]⟩ else _) = _
    rw [if_pos (by rw [h2]; rfl)]
    rfl
end
/-! ### runs by the machine -/
section
variable (st : SharedT → Thread → Option (SharedT × Thread)) (n0 : Nat) (ann : Option Value)
def segT : Nat → SharedT → Thread → Option (Flow × SharedT × Code × Pos)
  | 0, _, _ => none
  | m + 1, s, t => match endAt 1 t with
    | some f => some (f, s, t.code, t.pos)
    | none => match stepOk n0 ann t with
      | false => none
      | true => match st s t with
        | some (s', t') => frS s' fun s' => segT m s' t'
        | none => none
theorem segT_ok {tb : String → Option Builtin} {p : Program} {w : World} : ∀ {m : Nat} {s : SharedT} {t : Thread} {f : Flow} {s1 : SharedT} {c1 : Code} {p1 : Pos}, segT (stepT (denote tb) p w) n0 ann m s t = some (f, s1, c1, p1) → segRun tb p w n0 ann 1 m s.abs t = some (f, s1.abs, c1, p1)
  | 0, _, _, _, _, _, _, h => by cases h
  | m + 1, s, t, f, s1, c1, p1, h => by
    unfold segT at h
    unfold segRun
    cases he : endAt 1 t with
    | some g => rw [he] at h; cases h; rfl
    | none =>
      rw [he] at h
      cases hk : stepOk n0 ann t with
      | false => rw [hk] at h; cases h
      | true =>
        rw [hk] at h
        cases hs : stepT (denote tb) p w s t with
        | none => rw [hs] at h; cases h
        | some r =>
          obtain ⟨s2, t2⟩ := r
          rw [hs] at h
          have h3 : (frS s2 fun s' => segT (stepT (denote tb) p w) n0 ann m s' t2) = some (f, s1, c1, p1) := h
          rw [frS_eq] at h3
          show (match step (denote tb) p w s.abs t with
            | .go s' t' => segRun tb p w n0 ann 1 m s' t'
            | .halt _ _ => none) = _
          rw [stepT_spec hs]
          exact segT_ok h3
end
/-- results that a run may give -/
structure Enc (α : Type) where
  res : α → Flow
  dec : Flow → Option α
  ok : ∀ f a, dec f = some a → ∀ b, res b = f → b = a
def eV : Enc Value := ⟨.ret, fun f => match f with | .ret v => some v | _ => none, fun f a h b e => by subst e; exact Option.some.inj h⟩
def eU : Enc Unit := ⟨fun _ => .next, fun f => match f with | .next => some () | _ => none, fun f a h b e => rfl⟩
def eF : Enc Flow := ⟨id, some, fun f a h b e => by subst e; exact Option.some.inj h⟩
def eB : Enc Bool := ⟨fun b => .ret (.bool b), fun f => match f with | .ret (.bool b) => some b | _ => none, fun f a h b e => by subst e; exact Option.some.inj h⟩
def eOV : Enc (Option Value) := ⟨fun o => match o with | some v => .ret v | none => .next, fun f => match f with | .ret v => some (some v) | _ => none, fun f a h b e => by
  subst e
  cases b with
  | none => cases h
  | some v => exact Option.some.inj h⟩
section
variable {α : Type}
/-- a sum of numbers, told at once -/
def addN {α : Type} (n k : Nat) (f : Nat → α) : α := frNat n fun m => frNat (m + k) f
theorem addN_eq {α : Type} (n k : Nat) (f : Nat → α) : addN n k f = f (n + k) := by
  unfold addN
  rw [frNat_eq, frNat_eq]
/-- a small number, told at once -/
def frUn {α : Type} : Nat → (Nat → α) → α
  | 0, k => k 0
  | n + 1, k => frUn n fun m => k (m + 1)
theorem frUn_eq {α : Type} : ∀ (n : Nat) (k : Nat → α), frUn n k = k n
  | 0, _ => rfl
  | n + 1, k => by unfold frUn; exact frUn_eq n _
def leaf (st : SharedT → Thread → Option (SharedT × Thread)) (n0 : Nat) (ann : Option Value) (q : Pos) (gd : Bool → Bool) (lv : List Value → List Value) (F : Nat) (E : Enc α) (t : Sem α) (x : At) : Option (α × At) :=
  match segT st n0 ann F x.s ⟨t.wrap (fun a => .pure (.done (E.res a))) deadEnd gd lv, x.c, x.p, [topFrame q]⟩ with
  | some (f, s', c', p') => match E.dec f with
    | some a => addN x.m F fun m => some (a, ⟨s', c', p', x.ks, m⟩)
    | none => none
  | none => none
theorem leaf_ok {tb : String → Option Builtin} {P : Program} {w : World} {n0 : Nat} {ann : Option Value} {q : Pos} {gd : Bool → Bool} {lv : List Value → List Value} {F : Nat} {E : Enc α} {t : Sem α} {x y : At} {a : α}
    (h : leaf (stepT (denote tb) P w) n0 ann q gd lv F E t x = some (a, y)) : Go tb P w n0 ann q gd lv F t x a y ∧ y.ks = x.ks ∧ y.m = x.m + F := by
  unfold leaf at h
  cases e : segT (stepT (denote tb) P w) n0 ann F x.s ⟨t.wrap (fun a => .pure (.done (E.res a))) deadEnd gd lv, x.c, x.p, [topFrame q]⟩ with
  | none => rw [e] at h; cases h
  | some r1 =>
    obtain ⟨f, s1, c1, p1⟩ := r1
    rw [e] at h
    dsimp only at h
    cases d : E.dec f with
    | none => rw [d] at h; cases h
    | some a1 =>
      rw [d] at h
      dsimp only at h
      rw [addN_eq] at h
      cases h
      refine ⟨fun K H N r k => ?_, rfl, rfl⟩
      obtain ⟨b, hb, hN⟩ := seg_top (res := E.res) (K' := K) (H' := H) (B := [topFrame q]) rfl F x.s.abs ⟨t.wrap (fun a => .pure (.done (E.res a))) deadEnd gd lv, x.c, x.p, [topFrame q]⟩ ⟨t.wrap K H gd lv, x.c, x.p, [topFrame q]⟩ f s1.abs c1 p1 ⟨rfl, rfl, .inl ⟨rfl, rfl, t, rfl, rfl⟩⟩ (segT_ok _ _ e)
      have eb := E.ok _ _ d b hb
      subst eb
      exact hN N r k
end
end HR
end
section
/-! The head run, part 2: runs that only read. -/
namespace HR
open PySem PySem.W PySem.Calls PyProof.Rows HandSHeadRun
/-- a step that touches nothing -/
def quietT (t : Thread) : Bool := match t.cur with
  | .pure _ => (match t.stack with
    | .ret .. :: _ => true
    | _ => false)
  | .rule .. | .at .. | .point .. | .ask .. | .call .. | .handled .. | .stack .. | .thread .. => true
  | _ => false
theorem quiet_step {tb : String → Option Builtin} {P : Program} {w : World} {s s1 s2 : Shared} {t t' : Thread} (h : quietT t = true) (e : step (denote tb) P w s1 t = .go s2 t') : step (denote tb) P w s t = .go s t' := by
  obtain ⟨heap, gens, drawn, toks, os⟩ := s
  obtain ⟨heap1, gens1, drawn1, toks1, os1⟩ := s1
  obtain ⟨cur, code, pos, stack⟩ := t
  cases cur with
  | pure f =>
    cases stack with
    | nil => cases h
    | cons fr rest =>
      cases fr with
      | gen => cases h
      | ret k hd g l cd p kept =>
        cases f with
        | done f => simp only [step, Step.go.injEq] at e ⊢; exact ⟨trivial, e.2⟩
        | again c => rw [W.step_again] at e ⊢; simp only [Step.go.injEq] at e ⊢; exact ⟨trivial, e.2⟩
  | rule | «at» | point | ask | call | handled | stack | thread => simp only [step, Step.go.injEq] at e ⊢; exact ⟨trivial, e.2⟩
  | _ => cases h
def loadOf : Sem Fin → Option (Addr × (Obj → Sem Fin))
  | .load a _ k => some (a, k)
  | _ => none
/-- a run that only reads, off g -/
def roT (st : SharedT → Thread → Option (SharedT × Thread)) (sd : SharedT) (n0 : Nat) (ann : Option Value) (g : Addr → Option Obj) : Nat → Thread → Option (Flow × Code × Pos)
  | 0, _ => none
  | m + 1, t => match endAt 1 t with
    | some f => some (f, t.code, t.pos)
    | none => match stepOk n0 ann t with
      | false => none
      | true => match loadOf t.cur with
        | some (a, k) => match g a with
          | some o => roT st sd n0 ann g m ⟨k o, t.code, t.pos, t.stack⟩
          | none => none
        | none => match quietT t with
          | false => none
          | true => match st sd t with
            | some (_, t') => roT st sd n0 ann g m t'
            | none => none
theorem loadOf_some {x : Sem Fin} {a : Addr} {k : Obj → Sem Fin} (h : loadOf x = some (a, k)) : ∃ p, x = .load a p k := by
  cases x <;> first | (cases h; exact ⟨_, rfl⟩) | cases h
theorem roT_ok {tb : String → Option Builtin} {p : Program} {w : World} {sd : SharedT} {n0 : Nat} {ann : Option Value} {g : Addr → Option Obj} {s : Shared} (hg : ∀ a o, g a = some o → s.heap.get? a = some o) :
    ∀ {m : Nat} {t : Thread} {f : Flow} {c : Code} {pos : Pos}, roT (stepT (denote tb) p w) sd n0 ann g m t = some (f, c, pos) → segRun tb p w n0 ann 1 m s t = some (f, s, c, pos)
  | 0, _, _, _, _, h => by cases h
  | m + 1, t, f, c, pos, h => by
    unfold roT at h
    unfold segRun
    cases he : endAt 1 t with
    | some u => rw [he] at h; cases h; rfl
    | none =>
      rw [he] at h
      cases hk : stepOk n0 ann t with
      | false => rw [hk] at h; cases h
      | true =>
        rw [hk] at h
        dsimp only at h ⊢
        cases hl : loadOf t.cur with
        | some ak =>
          obtain ⟨a, k⟩ := ak
          rw [hl] at h
          dsimp only at h
          obtain ⟨pt, hc⟩ := loadOf_some hl
          cases ho : g a with
          | none => rw [ho] at h; cases h
          | some o =>
            rw [ho] at h
            have e : step (denote tb) p w s t = .go s ⟨k o, t.code, t.pos, t.stack⟩ := by
              obtain ⟨heap, gens, drawn, toks, os⟩ := s
              obtain ⟨cur, code, pos, stack⟩ := t
              have hc2 : cur = .load a pt k := hc
              subst hc2
              have h2 : heap.get? a = some o := hg a o ho
              show (match heap.get? a with
                | some o => Step.go ⟨heap, gens, drawn, toks, os⟩ ⟨k o, code, pos, stack⟩
                | none => _) = _
              rw [h2]
            rw [e]
            exact roT_ok hg h
        | none =>
          rw [hl] at h
          dsimp only at h
          cases hq : quietT t with
          | false => rw [hq] at h; cases h
          | true =>
            rw [hq] at h
            dsimp only at h
            cases hs : stepT (denote tb) p w sd t with
            | none => rw [hs] at h; cases h
            | some r =>
              obtain ⟨s2, t2⟩ := r
              rw [hs] at h
              rw [quiet_step (s := s) hq (stepT_spec hs)]
              exact roT_ok hg h
/-- what is read, told for all places -/
def RoIs {α : Type} (st : SharedT → Thread → Option (SharedT × Thread)) (sd : SharedT) (n0 : Nat) (ann : Option Value) (q : Pos) (b : List Stmt) (env : Env) (g : Addr → Option Obj) (F : Nat) (E : Enc α) (t : Sem α) (a : α) : Prop :=
  ∀ (gd : Bool → Bool) (lv : List Value → List Value) (pos : Pos), roT st sd n0 ann g F ⟨t.wrap (fun a => .pure (.done (E.res a))) deadEnd gd lv, .body b env, pos, [topFrame q]⟩ = some (E.res a, .body b env, pos)
theorem roIs_go {α : Type} {tb : String → Option Builtin} {P : Program} {w : World} {sd : SharedT} {n0 : Nat} {ann : Option Value} {q : Pos} {b : List Stmt} {env : Env} {g : Addr → Option Obj} {F : Nat} {E : Enc α} {t : Sem α} {a : α} {x : At} {gd : Bool → Bool} {lv : List Value → List Value}
    (h : RoIs (stepT (denote tb) P w) sd n0 ann q b env g F E t a) (hd : E.dec (E.res a) = some a) (hc : x.c = .body b env) (hg : ∀ a o, g a = some o → x.s.abs.heap.get? a = some o) : Go tb P w n0 ann q gd lv F t x a x := fun K H N r k => by
  have e := roT_ok (s := x.s.abs) hg (h gd lv x.p)
  rw [← hc] at e
  obtain ⟨b', hb, hN⟩ := seg_top (res := E.res) (K' := K) (H' := H) (B := [topFrame q]) rfl F x.s.abs ⟨t.wrap (fun a => .pure (.done (E.res a))) deadEnd gd lv, x.c, x.p, [topFrame q]⟩ ⟨t.wrap K H gd lv, x.c, x.p, [topFrame q]⟩ (E.res a) x.s.abs x.c x.p ⟨rfl, rfl, .inl ⟨rfl, rfl, t, rfl, rfl⟩⟩ e
  have eb := E.ok _ _ hd b' hb
  subst eb
  exact hN N r k
end HR
end
section
/-! The head run, part 3: a key of one hash or another. -/
namespace HR
open PySem PySem.W PySem.Calls PyProof.Rows HandSHeadRun
section
variable {tb : String → Option Builtin} {P : Program} {w : World} {n0 : Nat} {ann : Option Value} {q : Pos} {gd : Bool → Bool} {lv : List Value → List Value}
theorem go_forIn {α σ : Type} {f : α → σ → Sem (ForInStep σ)} {Y : Nat} {x : At} {b : σ} : ∀ (l : List α), (∀ i ∈ l, Go tb P w n0 ann q gd lv Y (f i b) x (.yield b) x) → Go tb P w n0 ann q gd lv (l.length * Y) (forIn l b f) x b x
  | [], h => by
    rw [List.forIn_nil]
    exact go_pure.mono (Nat.zero_le _)
  | i :: l, h => by
    rw [List.forIn_cons]
    refine (go_bind (h i List.mem_cons_self) (show Go tb P w n0 ann q gd lv (l.length * Y) (forIn l b f) x b x from go_forIn l fun j hj => h j (List.mem_cons_of_mem _ hj))).mono ?_
    rw [List.length_cons, Nat.add_mul, Nat.one_mul, Nat.add_comm]
    exact Nat.le_refl _
variable {x : At} {d a : Addr} {od : Obj} {es : Array DictEntry} {ep : Nat}
theorem go_entries {pt : Option Value} (hd : x.s.abs.heap.get? d = some od) (hdat : od.data = .dict es ep) : Go tb P w n0 ann q gd lv 1 (dictEntries d pt) x es x := by
  unfold dictEntries
  refine go_bind (Y := 0) (go_loadPart hd) ?_
  rw [hdat]
  exact go_pure
theorem go_epoch {pt : Option Value} (hd : x.s.abs.heap.get? d = some od) (hdat : od.data = .dict es ep) : Go tb P w n0 ann q gd lv 1 (dictEpoch d pt) x ep x := by
  unfold dictEpoch
  refine go_bind (Y := 0) (go_loadPart hd) ?_
  rw [hdat]
  exact go_pure
theorem go_tell {F : Nat} {v : Value} {l : List Value} (hq : Go tb P w n0 ann q gd lv F (eqIsQuiet 8 v) x true x) (hs : ∀ u ∈ l, Go tb P w n0 ann q gd lv F (eqIsQuiet 8 u) x true x) : Go tb P w n0 ann q gd lv (F + l.length * F) (tableMayTell v l) x false x := by
  unfold tableMayTell
  by_cases e : l.isEmpty = true
  · rw [if_pos e]
    exact go_pure.mono (Nat.zero_le _)
  · rw [if_neg e]
    refine go_bind hq ?_
    simp only [Bool.not_true, Bool.false_eq_true, if_false]
    refine go_bind (X := l.length * F) (Y := 0) (a := (none, ())) (go_forIn l fun u hu => ?_) ?_
    · refine go_bind (Y := 0) (hs u hu) ?_
      simp only [Bool.not_true, Bool.false_eq_true, if_false]
      exact go_pure
    · exact go_pure
/-- no such key -/
theorem go_find {F : Nat} {h : Int} (hd : x.s.abs.heap.get? d = some od) (hdat : od.data = .dict es ep) (hno : ∀ e ∈ es, ∃ b, e.key = .ref b ∧ b ≠ a)
    (hq : ∀ gd lv, Go tb P w n0 ann q gd lv F (eqIsQuiet 8 (.ref a)) x true x) (hqs : ∀ e ∈ es, ∀ gd lv, Go tb P w n0 ann q gd lv F (eqIsQuiet 8 e.key) x true x)
    (hne : ∀ e ∈ es, ∀ gd lv, Go tb P w n0 ann q gd lv F (eqBool e.key (.ref a)) x false x) :
    Go tb P w n0 ann q gd lv (1 + (F + es.size * F) + es.size * (F + 4)) (dictFind d (.ref a) h) x none x := by
  have hin : ∀ i e, es[i]? = some e → e ∈ es := fun i e hi => Array.mem_of_getElem? hi
  have hany : ¬ (es.any fun e => e.key == Value.ref a && e.hash != h) = true := by
    rw [← Array.any_toList, List.any_eq_true]
    rintro ⟨e, hie, hc⟩
    obtain ⟨b, hb, hba⟩ := hno e (Array.mem_toList_iff.mp hie)
    rw [Bool.and_eq_true, hb, beq_iff_eq] at hc
    exact hba (Value.ref.inj hc.1)
  unfold dictFind
  refine go_holding ?_
  generalize hl [Value.ref a] lv = lw
  refine (go_bind (Y := (F + es.size * F) + es.size * (F + 4)) (go_entries hd hdat) ?_).mono (by omega)
  dsimp only
  generalize hpl : placesWithHash es.size (fun i => es[i]?.map (·.hash)) h = pl
  have hlen : pl.length ≤ es.size := by
    rw [← hpl]
    unfold placesWithHash
    exact Nat.le_trans (List.length_filter_le _ _) (by rw [List.length_range]; exact Nat.le_refl _)
  have hst : ∀ v ∈ pl.filterMap (fun i => es[i]?.map (·.key)), ∃ e ∈ es, v = e.key := fun v hv => by
    obtain ⟨i, _, hi⟩ := List.mem_filterMap.mp hv
    cases hei : es[i]? with
    | none => rw [hei] at hi; cases hi
    | some e =>
      rw [hei] at hi
      exact ⟨e, hin i e hei, (Option.some.inj hi).symm⟩
  have hone : ¬ ((pl.filterMap (fun i => es[i]?.map (·.key))) == [Value.ref a]) = true := fun z => by
    have z2 := eq_of_beq z
    obtain ⟨e, he, hk⟩ := hst (.ref a) (by rw [z2]; exact List.mem_cons_self)
    obtain ⟨b, hb, hba⟩ := hno e he
    rw [hb] at hk
    exact hba (Value.ref.inj hk).symm
  have hsl : (pl.filterMap (fun i => es[i]?.map (·.key))).length ≤ es.size := Nat.le_trans (List.length_filterMap_le _ _) hlen
  rw [if_neg (show ¬ ((Value.ref a :: pl.filterMap (fun i => es[i]?.map (·.key))).all carriedByValue) = true by simp [carriedByValue]), if_neg hany, if_neg hone]
  refine go_bind (a := false) (X := F + es.size * F) ((go_tell (hq _ _) fun u hu => ?_).mono ?_) ?_
  · obtain ⟨e, he, hk⟩ := hst u hu
    rw [hk]
    exact hqs e he _ _
  · exact Nat.add_le_add_left (Nat.mul_le_mul_right F hsl) F
  rw [if_neg (by simp)]
  refine (go_bind (X := pl.length * (F + 4)) (Y := 0) (a := (none, none)) (go_forIn pl fun i hi => ?_) ?_).mono (Nat.mul_le_mul_right _ hlen)
  rotate_left
  · exact go_pure
  cases hei : es[i]? with
  | none => exact go_pure.mono (Nat.zero_le _)
  | some e =>
    dsimp only
    by_cases hh : (e.hash == h) = true
    · rw [if_pos hh]
      refine (go_bind (Y := F + 3) (go_epoch hd hdat) (go_bind (Y := 3) (hne e (hin i e hei) _ _) (go_bind (Y := 2) (go_epoch hd hdat) ?_))).mono (by omega)
      rw [if_neg (by simp)]
      simp only [Bool.false_eq_true, if_false]
      refine (go_bind (Y := 0) go_rule ?_).mono (by omega)
      simp only [Bool.false_and, Bool.false_eq_true, if_false]
      exact go_pure
    · rw [if_neg hh]
      exact go_pure.mono (Nat.zero_le _)
end
end HR
end
section
/-! The head run, part 4: a dict display whose keys are tuples, run with its stores told. -/
namespace HR
open PySem PySem.W PySem.Calls PyProof.Rows HandSHeadRun
/-! ### objects told apart -/
def sameO : Obj → Obj → Bool
  | ⟨.type c, none, .seq is n, sl⟩, ⟨.type c', none, .seq is' n', sl'⟩ => decide (c = c') && (decide (is.toList = is'.toList) && (decide (n = n') && (sl.isEmpty && sl'.isEmpty)))
  | _, _ => false
theorem sameO_ok {o o' : Obj} (h : sameO o o' = true) : o = o' := by
  obtain ⟨oc, od, dt, sl⟩ := o
  obtain ⟨oc', od', dt', sl'⟩ := o'
  unfold sameO at h
  split at h
  · rename_i e1 e2
    cases e1; cases e2
    rw [Bool.and_eq_true, Bool.and_eq_true, Bool.and_eq_true, Bool.and_eq_true] at h
    obtain ⟨h1, h2, h3, h4, h5⟩ := h
    have e1 := of_decide_eq_true h1
    have e2 := Array.toList_inj.mp (of_decide_eq_true h2)
    have e3 := of_decide_eq_true h3
    have e4 := Array.isEmpty_iff.mp h4
    have e5 := Array.isEmpty_iff.mp h5
    rw [e1, e2, e3, e4, e5]
  · cases h
abbrev Ks := List (Addr × Obj)
def g1 (a : Addr) (o : Obj) : Addr → Option Obj := fun c => match Nat.beq c a with
  | true => some o
  | false => none
def g2 (b : Addr) (ob : Obj) (a : Addr) (o : Obj) : Addr → Option Obj := fun c => match Nat.beq c b with
  | true => some ob
  | false => match Nat.beq c a with
    | true => some o
    | false => none
/-- b is put ahead of a -/
def ahead : Ks → Addr → Addr → Bool
  | [], _, _ => false
  | (c, _) :: r, b, a => match Nat.beq c b with
    | true => (match Nat.beq c a with
      | true => false
      | false => (r.lookup a).isSome)
    | false => match Nat.beq c a with
      | true => false
      | false => ahead r b a
section
variable (tb : String → Option Builtin) (P : Program) (w : World) (sd : SharedT) (n0 : Nat) (ann : Option Value) (q : Pos) (F : Nat)
def RoQ (p : Addr × Obj) : Prop := ∀ (b : List Stmt) (env : Env), RoIs (stepT (denote tb) P w) sd n0 ann q b env (g1 p.1 p.2) F eB (eqIsQuiet 8 (.ref p.1)) true
def RoN (p p' : Addr × Obj) : Prop := ∀ (b : List Stmt) (env : Env), RoIs (stepT (denote tb) P w) sd n0 ann q b env (g2 p.1 p.2 p'.1 p'.2) F eB (eqBool (.ref p.1) (.ref p'.1)) false
/-- the keys put are told apart by reading alone -/
def KtOk (ks : Ks) : Prop := (∀ p ∈ ks, RoQ tb P w sd n0 ann q F p) ∧ ks.Pairwise (RoN tb P w sd n0 ann q F)
theorem KtOk.pre {ks ks' : Ks} (h : ks <+: ks') (k : KtOk tb P w sd n0 ann q F ks') : KtOk tb P w sd n0 ann q F ks :=
  ⟨fun p hp => k.1 p (h.subset hp), k.2.sublist h.sublist⟩
end
theorem lookup_some {a : Addr} {o : Obj} : ∀ {r : Ks}, r.lookup a = some o → (a, o) ∈ r
  | [], h => by cases h
  | (c, u) :: r, h => by
    have h2 : (match a == c with | true => some u | false => r.lookup a) = some o := h
    cases q : (a == c) with
    | true => rw [q] at h2; rw [beq_iff_eq.mp q, Option.some.inj h2]; exact List.mem_cons_self
    | false => rw [q] at h2; exact List.mem_cons_of_mem _ (lookup_some h2)
theorem ahead_ok {R : Addr × Obj → Addr × Obj → Prop} {b a : Addr} : ∀ {ks : Ks}, ks.Pairwise R → ahead ks b a = true → ∃ ob oa, ks.lookup b = some ob ∧ ks.lookup a = some oa ∧ R (b, ob) (a, oa) ∧ b ≠ a
  | [], _, h => by cases h
  | (c, u) :: r, p, h => by
    rw [List.pairwise_cons] at p
    unfold ahead at h
    cases hb : Nat.beq c b with
    | true =>
      rw [hb] at h
      have eb := Nat.eq_of_beq_eq_true hb
      subst eb
      cases ha : Nat.beq c a with
      | true => rw [ha] at h; cases h
      | false =>
        rw [ha] at h
        obtain ⟨oa, e⟩ := Option.isSome_iff_exists.mp (show (r.lookup a).isSome = true from h)
        have ne : c ≠ a := fun z => by subst z; rw [Nat.beq_refl] at ha; cases ha
        have nb : (a == c) = false := beq_false_of_ne fun z => ne z.symm
        refine ⟨u, oa, ?_, ?_, p.1 _ (lookup_some e), ne⟩
        · show (match c == c with | true => some u | false => r.lookup c) = some u
          rw [beq_self_eq_true]
        · show (match a == c with | true => some u | false => r.lookup a) = some oa
          rw [nb]; exact e
    | false =>
      rw [hb] at h
      cases ha : Nat.beq c a with
      | true => rw [ha] at h; cases h
      | false =>
        rw [ha] at h
        obtain ⟨ob, oa, h1, h2, h3, h4⟩ := ahead_ok p.2 h
        have na : (a == c) = false := beq_false_of_ne fun z => by rw [z, Nat.beq_refl] at ha; cases ha
        have nb : (b == c) = false := beq_false_of_ne fun z => by rw [z, Nat.beq_refl] at hb; cases hb
        refine ⟨ob, oa, ?_, ?_, h3, h4⟩
        · show (match b == c with | true => some u | false => r.lookup b) = some ob
          rw [nb]; exact h1
        · show (match a == c with | true => some u | false => r.lookup a) = some oa
          rw [na]; exact h2
/-! ### runs that are sound -/
section
variable (tb : String → Option Builtin) (P : Program) (w : World) (sd : SharedT) (n0 : Nat) (ann : Option Value) (q : Pos) (F : Nat)
def G {α : Type} (gd : Bool → Bool) (lv : List Value → List Value) (t : Sem α) (x : At) (a : α) (y : At) : Prop := ∃ X, X + x.m ≤ y.m ∧ Go tb P w n0 ann q gd lv X t x a y
def Snd {α : Type} (gd : Bool → Bool) (lv : List Value → List Value) (t : Sem α) (r : At → Option (α × At)) : Prop :=
  ∀ x a y, r x = some (a, y) → x.ks <+: y.ks ∧ (KtOk tb P w sd n0 ann q F y.ks → G tb P w n0 ann q gd lv t x a y)
end
def bindR {α β : Type} (r : Option (α × At)) (f : α → At → Option (β × At)) : Option (β × At) := match r with
  | some (a, y) => f a y
  | none => none
section
variable {tb : String → Option Builtin} {P : Program} {w : World} {sd : SharedT} {n0 : Nat} {ann : Option Value} {q : Pos} {F : Nat} {gd : Bool → Bool} {lv : List Value → List Value} {α β : Type}
theorem Snd.pure {a : α} : Snd tb P w sd n0 ann q F gd lv (pure a) fun x => some (a, x) := fun x b y h => by
  cases h
  exact ⟨List.prefix_refl _, fun _ => ⟨0, by omega, go_pure⟩⟩
theorem Snd.bind {t : Sem α} {f : α → Sem β} {r : At → Option (α × At)} {g : α → At → Option (β × At)} (h : Snd tb P w sd n0 ann q F gd lv t r) (k : ∀ a, Snd tb P w sd n0 ann q F gd lv (f a) (g a)) : Snd tb P w sd n0 ann q F gd lv (t >>= f) fun x => bindR (r x) g := fun x b z e => by
  dsimp only [bindR] at e
  cases e1 : r x with
  | none => rw [e1] at e; cases e
  | some u =>
    obtain ⟨a, y⟩ := u
    rw [e1] at e
    obtain ⟨p1, g1⟩ := h x a y e1
    obtain ⟨p2, g2⟩ := k a y b z e
    refine ⟨p1.trans p2, fun kt => ?_⟩
    obtain ⟨X, l1, o1⟩ := g1 (KtOk.pre _ _ _ _ _ _ _ _ p2 kt)
    obtain ⟨Y, l2, o2⟩ := g2 kt
    exact ⟨X + Y, by omega, go_bind o1 o2⟩
theorem Snd.holding {vs : List Value} {t : Sem α} {r : At → Option (α × At)} (h : Snd tb P w sd n0 ann q F gd (hl vs lv) t r) : Snd tb P w sd n0 ann q F gd lv (holding vs t) r := fun x a y e =>
  let ⟨p, g⟩ := h x a y e
  ⟨p, fun kt => let ⟨X, l, o⟩ := g kt; ⟨X, l, go_holding o⟩⟩
theorem Snd.onRaise {t : Sem α} {k : Value → Sem Unit} {r : At → Option (α × At)} (h : Snd tb P w sd n0 ann q F gd lv t r) : Snd tb P w sd n0 ann q F gd lv (t.onRaise k) r := fun x a y e =>
  let ⟨p, g⟩ := h x a y e
  ⟨p, fun kt => let ⟨X, l, o⟩ := g kt; ⟨X, l, go_onRaise o⟩⟩
theorem Snd.leaf {E : Enc α} {t : Sem α} {M : Nat} : Snd tb P w sd n0 ann q F gd lv t (leaf (stepT (denote tb) P w) n0 ann q gd lv M E t) := fun x a y e => by
  obtain ⟨g, e1, e2⟩ := leaf_ok e
  exact ⟨by rw [e1]; exact List.prefix_refl _, fun _ => ⟨M, by omega, g⟩⟩
/-- of a known result -/
theorem Snd.with {t : Sem α} {r r' : At → Option (α × At)} (h : Snd tb P w sd n0 ann q F gd lv t r) (k : ∀ x a y, r' x = some (a, y) → r x = some (a, y)) : Snd tb P w sd n0 ann q F gd lv t r' := fun x a y e => h x a y (k x a y e)
theorem Snd.go {t : Sem α} {X : Nat} {a : α} {f : At → At} (h : ∀ x, Go tb P w n0 ann q gd lv X t x a (f x)) (hk : ∀ x, (f x).ks = x.ks) (hm : ∀ x, (f x).m = x.m + X) : Snd tb P w sd n0 ann q F gd lv t fun x => some (a, f x) := fun x b y e => by
  cases e
  exact ⟨by rw [hk]; exact List.prefix_refl _, fun _ => ⟨X, by rw [hm]; omega, h x⟩⟩
end
def At.tick (x : At) (k : Nat) : At := addN x.m k fun m => { x with m := m }
theorem At.tick_eq (x : At) (k : Nat) : x.tick k = { x with m := x.m + k } := addN_eq ..
section
variable {tb : String → Option Builtin} {P : Program} {w : World} {sd : SharedT} {n0 : Nat} {ann : Option Value} {q : Pos} {F : Nat} {gd : Bool → Bool} {lv : List Value → List Value} {α β : Type}
theorem Go.tick {X : Nat} {t : Sem α} {x y : At} {a : α} {k : Nat} (h : Go tb P w n0 ann q gd lv X t x a y) : Go tb P w n0 ann q gd lv X t x a (y.tick k) := by rw [At.tick_eq]; exact h
theorem Snd.rule {tag : String} : Snd tb P w sd n0 ann q F gd lv (rule tag) fun x => some ((), x.tick 1) := Snd.go (X := 1) (fun x => go_rule.tick) (fun _ => by rw [At.tick_eq]) fun _ => by rw [At.tick_eq]
theorem Snd.of {t : Sem α} {r : At → Option (α × At)} (h : ∀ x a y, r x = some (a, y) → x.ks <+: y.ks ∧ (KtOk tb P w sd n0 ann q F y.ks → ∃ X, X + x.m ≤ y.m ∧ Go tb P w n0 ann q gd lv X t x a y)) : Snd tb P w sd n0 ann q F gd lv t r := h
end
/-! ### a hash -/
section
variable (st : SharedT → Thread → Option (SharedT × Thread)) (n0 : Nat) (ann : Option Value) (q : Pos) (M : Nat)
def exHash (gd : Bool → Bool) (lv : List Value → List Value) (a : Addr) (x : At) : Option (Int × At) :=
  bindR (leaf st n0 ann q gd lv M eU (cRoomFor "hash" [.ref a]) x) fun _ x1 =>
  bindR (leaf st n0 ann q gd lv M eOV (specialOf (.ref a) "__hash__") x1) fun o x2 => match o with
    | some (.builtin _) => bindR (leaf st n0 ann q gd lv M eOV (specialOf (.ref a) "__hash__") x2) fun o2 x3 => match o2 with
      | some (.builtin _) => bindR (leaf st n0 ann q gd lv M eOV (callSpecialIfBoundUnlessNone? (.ref a) "__hash__" (do rule "hash.unhashable"; raiseError "TypeError" s!"unhashable type: '{← typeNameOf (.ref a)}'")) x3) fun o3 x4 => match o3 with
        | some (.int i _) => some (reduceHash i, x4.tick 1)
        | _ => none
      | _ => none
    | _ => none
end
section
variable {tb : String → Option Builtin} {P : Program} {w : World} {sd : SharedT} {n0 : Nat} {ann : Option Value} {q : Pos} {F M : Nat} {gd : Bool → Bool} {lv : List Value → List Value}
theorem go_reduced {i : Int} {x : At} : Go tb P w n0 ann q gd lv 1 (pyHashByItsType.reduced i) x (reduceHash i) (x.tick 1) := by
  unfold pyHashByItsType.reduced reduceHash
  by_cases h : (decide (-(2 ^ 63 : Int) ≤ i) && decide (i < 2 ^ 63)) = true
  · rw [if_pos h, if_pos h]
    exact (go_pure.mono (Nat.zero_le _)).tick
  · rw [if_neg h, if_neg h]
    refine Go.tick (go_bind (X := 1) (Y := 0) go_rule ?_)
    exact go_pure
theorem snd_none {α : Type} {t : Sem α} : Snd tb P w sd n0 ann q F gd lv t fun _ => none := fun x a y e => by cases e
theorem snd_hash {a : Addr} : Snd tb P w sd n0 ann q F gd lv (pyHash (.ref a)) (exHash (stepT (denote tb) P w) n0 ann q M gd lv a) := by
  unfold pyHash pyHashByItsType exHash
  refine Snd.bind Snd.leaf fun _ => Snd.bind Snd.leaf fun o => ?_
  cases o with
  | none => exact snd_none
  | some v =>
    cases v with
    | builtin id =>
      rw [if_neg (by simp)]
      refine Snd.bind Snd.leaf fun o2 => ?_
      cases o2 with
      | none => exact snd_none
      | some v2 =>
        cases v2 with
        | builtin id2 =>
          rw [if_neg (by simp)]
          refine Snd.bind Snd.leaf fun o3 => ?_
          cases o3 with
          | none => exact snd_none
          | some v3 =>
            cases v3 with
            | int i t => exact Snd.go (X := 1) (fun x => go_reduced) (fun _ => by rw [At.tick_eq]) fun _ => by rw [At.tick_eq]
            | _ => exact snd_none
        | _ => exact snd_none
    | _ => exact snd_none
end
end HR
end
section
/-! The head run, part 5: the display. -/
namespace HR
open PySem PySem.W PySem.Calls PyProof.Rows HandSHeadRun
def isBody : Code → Bool
  | .body _ _ => true
  | _ => false
theorem isBody_ok {c : Code} (h : isBody c = true) : ∃ b env, c = .body b env := by
  cases c <;> first | exact ⟨_, _, rfl⟩ | cases h
def chk (ks : Ks) (x : At) (b : Addr) : Bool := match ks.lookup b with
  | some o => (match getT x.s b with
    | some o' => sameO o o'
    | none => false)
  | none => false
theorem chk_ok {ks : Ks} {x : At} {b : Addr} (h : chk ks x b = true) : ∃ o, ks.lookup b = some o ∧ x.s.abs.heap.get? b = some o := by
  unfold chk at h
  cases e : ks.lookup b with
  | none => rw [e] at h; cases h
  | some o =>
    rw [e] at h
    dsimp only at h
    cases e2 : getT x.s b with
    | none => rw [e2] at h; cases h
    | some o' =>
      rw [e2] at h
      exact ⟨o, rfl, by rw [← getT_eq, e2, sameO_ok h]⟩
def keyOk (ks : Ks) (x : At) (a : Addr) (e : DictEntry) : Bool := match e.key with
  | .ref b => chk ks x b && ahead ks b a
  | _ => false
def withKey (ks : Ks) (a : Addr) (o : Obj) : Ks := match (ks.lookup a).isSome with
  | true => ks
  | false => ks ++ [(a, o)]
theorem withKey_pre {ks : Ks} {a : Addr} {o : Obj} : ks <+: withKey ks a o := by
  unfold withKey
  split
  · exact List.prefix_refl _
  · exact List.prefix_append _ _
section
variable (F : Nat)
def exFind (d a : Addr) (x : At) : Option (Option Nat × At) := match getT x.s d with
  | some od => (match od.data with
    | .dict es ep => (match getT x.s a with
      | some oa => (match isBody x.c && (chk (withKey x.ks a oa) x a && es.toList.all (keyOk (withKey x.ks a oa) x a)) with
        | true => frUn es.size fun z => addN x.m (1 + (F + z * F) + z * (F + 4)) fun m => some (none, { x with ks := withKey x.ks a oa, m := m })
        | false => none)
      | none => none)
    | _ => none)
  | none => none
end
section
variable {tb : String → Option Builtin} {P : Program} {w : World} {sd : SharedT} {n0 : Nat} {ann : Option Value} {q : Pos} {F M : Nat} {gd : Bool → Bool} {lv : List Value → List Value}
theorem snd_find {d a : Addr} {h : Int} : Snd tb P w sd n0 ann q F gd lv (dictFind d (.ref a) h) (exFind F d a) := fun x r y e => by
  unfold exFind at e
  cases e1 : getT x.s d with
  | none => rw [e1] at e; cases e
  | some od =>
    rw [e1] at e
    dsimp only at e
    split at e
    · rename_i es ep hdat
      cases e2 : getT x.s a with
      | none => rw [e2] at e; cases e
      | some oa =>
        rw [e2] at e
        dsimp only at e
        split at e
        · rename_i c
          rw [frUn_eq, addN_eq] at e
          cases e
          rw [Bool.and_eq_true, Bool.and_eq_true] at c
          obtain ⟨c1, c2, c3⟩ := c
          obtain ⟨b, env, hc⟩ := isBody_ok c1
          obtain ⟨o, h1, h2⟩ := chk_ok c2
          refine ⟨withKey_pre, fun kt => ⟨_, Nat.le_of_eq (Nat.add_comm _ _), ?_⟩⟩
          have hk : ∀ e ∈ es, ∃ b, e.key = .ref b ∧ chk (withKey x.ks a oa) x b = true ∧ ahead (withKey x.ks a oa) b a = true := fun e he => by
            have c4 := List.all_eq_true.mp c3 e (Array.mem_toList_iff.mpr he)
            unfold keyOk at c4
            split at c4
            · rename_i b hb
              rw [Bool.and_eq_true] at c4
              exact ⟨b, hb, c4.1, c4.2⟩
            · cases c4
          have quiet : ∀ {b : Addr} {o : Obj}, (withKey x.ks a oa).lookup b = some o → x.s.abs.heap.get? b = some o → ∀ gd lv, Go tb P w n0 ann q gd lv F (eqIsQuiet 8 (.ref b)) x true x := fun {b' o'} l1 l2 gd lv => by
            refine roIs_go (kt.1 (b', o') (lookup_some l1) b env) rfl hc fun z u hz => ?_
            unfold g1 at hz
            split at hz
            · rename_i hz2
              cases hz
              rw [Nat.eq_of_beq_eq_true hz2]; exact l2
            · cases hz
          have key : Go tb P w n0 ann q gd lv (1 + (F + es.size * F) + es.size * (F + 4)) (dictFind d (.ref a) h) x none x := by
            refine go_find (od := od) (ep := ep) (by rw [← getT_eq]; exact e1) hdat (fun e he => ?_) (quiet h1 h2) (fun e he gd lv => ?_) (fun e he gd lv => ?_)
            · obtain ⟨b', hb, _, hd⟩ := hk e he
              obtain ⟨ob, oa', _, _, _, ne⟩ := ahead_ok kt.2 hd
              exact ⟨b', hb, ne⟩
            · obtain ⟨b', hb, hx, _⟩ := hk e he
              obtain ⟨ob, l1, l2⟩ := chk_ok hx
              rw [hb]
              exact quiet l1 l2 gd lv
            · obtain ⟨b', hb, hx, hd⟩ := hk e he
              obtain ⟨ob, oa', l1, l2, rn, ne⟩ := ahead_ok kt.2 hd
              obtain ⟨ob', l3, l4⟩ := chk_ok hx
              rw [l1] at l3
              rw [h1] at l2
              cases l3
              cases l2
              rw [hb]
              refine roIs_go (rn b env) rfl hc fun z u hz => ?_
              unfold g2 at hz
              split at hz
              · rename_i hz2
                cases hz
                rw [Nat.eq_of_beq_eq_true hz2]; exact l4
              · split at hz
                · rename_i hz2
                  cases hz
                  rw [Nat.eq_of_beq_eq_true hz2]; exact h2
                · cases hz
          exact key
        · cases e
    · cases e
end
/-! ### stores -/
section
variable (st : SharedT → Thread → Option (SharedT × Thread)) (n0 : Nat) (ann : Option Value) (q : Pos) (F M : Nat) (gd : Bool → Bool)
def exSetH (lv : List Value → List Value) (d a : Addr) (h : Int) (v : Value) (x : At) : Option (Unit × At) :=
  bindR (exFind F d a x) fun o x1 => match o with
    | some _ => none
    | none => bindR (some ((), x1.tick 1)) fun _ x2 => leaf st n0 ann q gd (hl [.ref a, v] lv) M eU (updateDictKeys d (·.push ⟨h, .ref a, v⟩) (keyPart (.ref a))) x2
def exSet (lv : List Value → List Value) (d : Addr) (key v : Value) (x : At) : Option (Unit × At) := match key with
  | .ref a => bindR (exHash st n0 ann q M gd (hl [.ref a, v] lv) a x) fun h x1 => exSetH st n0 ann q F M gd (hl [.ref a, v] lv) d a h v x1
  | _ => none
def exPut (lv : List Value → List Value) (d : Addr) (h : Int) (key v : Value) (x : At) : Option (Unit × At) := match key with
  | .ref a => bindR (exFind F d a x) fun o x1 => match o with
    | some _ => none
    | none => leaf st n0 ann q gd lv M eU (updateDictKeys d (·.push ⟨h, .ref a, v⟩)) x1
  | _ => none
def exLong (lv : List Value → List Value) (d : Addr) : List (Sem Value × Sem Value) → At → Option (Unit × At)
  | [], x => some ((), x)
  | (k, v) :: r, x => bindR (leaf st n0 ann q gd lv M eV k x) fun kv x1 => bindR (leaf st n0 ann q gd (hl [kv] lv) M eV v x1) fun vv x2 =>
      bindR (exSet st n0 ann q F M gd (hl [kv, vv] lv) d kv vv x2) fun _ x3 => exLong lv d r x3
def exPairs (lv : List Value → List Value) : List (Sem Value × Sem Value) → At → Option (List (Value × Value) × At)
  | [], x => some ([], x)
  | (k, v) :: r, x => bindR (leaf st n0 ann q gd lv M eV k x) fun kv x1 => bindR (leaf st n0 ann q gd (hl [kv] lv) M eV v x1) fun vv x2 =>
      bindR (exPairs (hl [kv, vv] lv) r x2) fun l x3 => some ((kv, vv) :: l, x3)
def exAll (lv : List Value → List Value) (d : Addr) : List (Value × Value) → At → Option (Unit × At)
  | [], x => some ((), x)
  | (k, v) :: r, x => bindR (exSet st n0 ann q F M gd lv d k v x) fun _ x1 => exAll lv d r x1
def eA : Enc Addr := ⟨fun a => .ret (.ref a), fun f => match f with | .ret (.ref a) => some a | _ => none, fun f a h b e => by subst e; exact Option.some.inj h⟩
def exSub (lv : List Value → List Value) (pairs : List (Sem Value × Sem Value)) (x : At) : Option (Addr × At) :=
  bindR (leaf st n0 ann q gd lv M eA (alloc { cls := .type "dict", data := .dict #[] }) x) fun d x1 =>
  bindR (match Nat.ble pairs.length 15 with
    | true => bindR (exPairs st n0 ann q M gd (hl [.ref d] lv) pairs x1) fun vs x2 => exAll st n0 ann q F M gd (hl (vs.flatMap fun (k, v) => [k, v]) (hl [.ref d] lv)) d vs x2
    | false => bindR (some ((), x1.tick 1)) fun _ x2 => exLong st n0 ann q F M gd (hl [.ref d] lv) d pairs x2) fun _ x3 => some (d, x3)
end
section
variable {tb : String → Option Builtin} {P : Program} {w : World} {sd : SharedT} {n0 : Nat} {ann : Option Value} {q : Pos} {F M : Nat} {gd : Bool → Bool} {lv : List Value → List Value}
theorem snd_setH {d a : Addr} {h : Int} {v : Value} : Snd tb P w sd n0 ann q F gd lv (dictSetHashed d (.ref a) h v) (exSetH (stepT (denote tb) P w) n0 ann q F M gd lv d a h v) := by
  unfold dictSetHashed exSetH
  refine Snd.holding (Snd.bind snd_find fun o => ?_)
  cases o with
  | some i => exact snd_none
  | none => exact Snd.bind Snd.rule fun _ => Snd.leaf
theorem snd_set {d : Addr} {key v : Value} : Snd tb P w sd n0 ann q F gd lv (dictSet d key v) (exSet (stepT (denote tb) P w) n0 ann q F M gd lv d key v) := by
  unfold exSet
  cases key with
  | ref a =>
    unfold dictSet
    exact Snd.holding (Snd.bind snd_hash fun h => snd_setH)
  | _ => exact snd_none
theorem snd_put {d : Addr} {h : Int} {key v : Value} : Snd tb P w sd n0 ann q F gd lv (dictPut d h key v) (exPut (stepT (denote tb) P w) n0 ann q F M gd lv d h key v) := by
  unfold exPut
  cases key with
  | ref a =>
    unfold dictPut
    refine Snd.bind snd_find fun o => ?_
    cases o with
    | some i => exact snd_none
    | none => exact Snd.leaf
  | _ => exact snd_none
theorem Snd.congr {α : Type} {t t' : Sem α} {r : At → Option (α × At)} (e : t = t') (h : Snd tb P w sd n0 ann q F gd lv t' r) : Snd tb P w sd n0 ann q F gd lv t r := by rw [e]; exact h
def longB (d : Addr) : Sem Value × Sem Value → PUnit → Sem (ForInStep PUnit) := fun x _ => match x with
  | (k, v) => do
    let kv ← k
    let vv ← holding [kv] v
    holding [kv, vv] (dictSet d kv vv)
    pure (ForInStep.yield PUnit.unit)
def allB (d : Addr) : Value × Value → PUnit → Sem (ForInStep PUnit) := fun x _ => match x with
  | (k, v) => do
    dictSet d k v
    pure (ForInStep.yield PUnit.unit)
theorem snd_unit {t : Sem PUnit} {r : At → Option (PUnit × At)} (h : Snd tb P w sd n0 ann q F gd lv t r) : Snd tb P w sd n0 ann q F gd lv (t >>= fun _ => pure PUnit.unit) r := by
  rw [show (t >>= fun _ => pure PUnit.unit) = t from bind_pure t]
  exact h
theorem snd_long {d : Addr} : ∀ {l : List (Sem Value × Sem Value)}, Snd tb P w sd n0 ann q F gd lv (forIn l PUnit.unit (longB d)) (exLong (stepT (denote tb) P w) n0 ann q F M gd lv d l)
  | [] => by
    rw [List.forIn_nil]
    exact Snd.pure
  | (k, v) :: r => by
    rw [List.forIn_cons]
    refine Snd.congr (t' := k >>= fun kv => holding [kv] v >>= fun vv => holding [kv, vv] (dictSet d kv vv) >>= fun _ => forIn r PUnit.unit (longB d)) (by simp only [longB, bind_assoc, pure_bind]) ?_
    exact Snd.bind Snd.leaf fun kv => Snd.bind (Snd.holding Snd.leaf) fun vv => Snd.bind (Snd.holding snd_set) fun _ => snd_long
theorem snd_pairs : ∀ {l : List (Sem Value × Sem Value)} {lv : List Value → List Value}, Snd tb P w sd n0 ann q F gd lv (evalPairs l) (exPairs (stepT (denote tb) P w) n0 ann q M gd lv l)
  | [], lv => Snd.pure
  | (k, v) :: r, lv => by
    unfold evalPairs
    exact Snd.bind Snd.leaf fun kv => Snd.bind (Snd.holding Snd.leaf) fun vv => Snd.bind (Snd.holding snd_pairs) fun l => Snd.pure
theorem snd_all {d : Addr} : ∀ {l : List (Value × Value)}, Snd tb P w sd n0 ann q F gd lv (forIn l PUnit.unit (allB d)) (exAll (stepT (denote tb) P w) n0 ann q F M gd lv d l)
  | [] => by
    rw [List.forIn_nil]
    exact Snd.pure
  | (k, v) :: r => by
    rw [List.forIn_cons]
    refine Snd.congr (t' := dictSet d k v >>= fun _ => forIn r PUnit.unit (allB d)) (by simp only [allB, bind_assoc, pure_bind]) ?_
    exact Snd.bind snd_set fun _ => snd_all
theorem snd_sub {l : List (Sem Value × Sem Value)} : Snd tb P w sd n0 ann q F gd lv (subDict l) (exSub (stepT (denote tb) P w) n0 ann q F M gd lv l) := by
  unfold subDict exSub
  refine Snd.bind Snd.leaf fun d => Snd.bind (Snd.holding ?_) fun _ => Snd.pure
  by_cases h : l.length ≤ 15
  · rw [if_pos h, show Nat.ble l.length 15 = true from Nat.ble_eq_true_of_le h]
    refine Snd.bind snd_pairs fun vs => Snd.holding ?_
    exact snd_unit (snd_all (l := vs))
  · rw [if_neg h, show Nat.ble l.length 15 = false from by cases q : Nat.ble l.length 15 with | false => rfl | true => exact absurd (Nat.le_of_ble_eq_true q) h]
    refine Snd.bind Snd.rule fun _ => ?_
    exact snd_unit (snd_long (l := l))
end
end HR
end
section
/-! The head run, part 6: a display of many, the statement. -/
namespace HR
open PySem PySem.W PySem.Calls PyProof.Rows HandSHeadRun
def exEnt (d : Addr) (x : At) : Option (Array DictEntry × At) := match getT x.s d with
  | some od => (match od.data with
    | .dict es _ => some (es, x.tick 1)
    | _ => none)
  | none => none
def exEp (d : Addr) (x : At) : Option (Nat × At) := match getT x.s d with
  | some od => (match od.data with
    | .dict _ ep => some (ep, x.tick 1)
    | _ => none)
  | none => none
section
variable (st : SharedT → Thread → Option (SharedT × Thread)) (n0 : Nat) (ann : Option Value) (q : Pos) (F M : Nat) (gd : Bool → Bool)
def exTurns (lv : List Value → List Value) (d sub epoch : Nat) : List Nat → At → Option (Unit × At)
  | [], x => some ((), x)
  | i :: r, x => bindR (exEnt sub x) fun es x1 => match es[i]? with
    | none => none
    | some e => bindR (exPut st n0 ann q F M gd (hl [e.key, e.val] lv) d e.hash e.key e.val x1) fun _ x2 => bindR (exEp sub x2) fun ep x3 => match Nat.beq ep epoch with
      | true => exTurns lv d sub epoch r x3
      | false => none
def exMerge (lv : List Value → List Value) (d sub : Addr) (x : At) : Option (Unit × At) :=
  bindR (leaf st n0 ann q gd lv M eB (isInstance (.ref sub) (.type "dict")) x) fun b x1 => match b with
    | true => bindR (leaf st n0 ann q gd lv M eOV (specialOf (.ref sub) "__iter__") x1) fun o x2 => match o == some (.builtin "dict.__iter__") with
      | true => (match sub == sysModules with
        | false => bindR (exEnt d x2) fun es x3 => (match es.isEmpty with
          | false => bindR (exEnt sub x3) fun es2 x4 => bindR (exEp sub x4) fun ep x5 => exTurns st n0 ann q F M gd lv d sub ep (List.range es2.size) x5
          | true => none)
        | true => none)
      | false => none
    | false => none
end
section
variable {tb : String → Option Builtin} {P : Program} {w : World} {sd : SharedT} {n0 : Nat} {ann : Option Value} {q : Pos} {F M : Nat} {gd : Bool → Bool} {lv : List Value → List Value}
theorem snd_ent {d : Addr} {pt : Option Value} : Snd tb P w sd n0 ann q F gd lv (dictEntries d pt) (exEnt d) := fun x a y e => by
  unfold exEnt at e
  split at e
  · rename_i od e1
    split at e
    · rename_i es ep e2
      cases e
      exact ⟨by rw [At.tick_eq]; exact List.prefix_refl _, fun _ => ⟨1, by rw [At.tick_eq]; show 1 + x.m ≤ x.m + 1; omega, (go_entries (by rw [← getT_eq]; exact e1) e2).tick⟩⟩
    · cases e
  · cases e
theorem snd_ep {d : Addr} {pt : Option Value} : Snd tb P w sd n0 ann q F gd lv (dictEpoch d pt) (exEp d) := fun x a y e => by
  unfold exEp at e
  split at e
  · rename_i od e1
    split at e
    · rename_i es ep e2
      cases e
      exact ⟨by rw [At.tick_eq]; exact List.prefix_refl _, fun _ => ⟨1, by rw [At.tick_eq]; show 1 + x.m ≤ x.m + 1; omega, (go_epoch (by rw [← getT_eq]; exact e1) e2).tick⟩⟩
    · cases e
  · cases e
def turnB (d sub epoch : Nat) : Nat → PUnit → Sem (ForInStep PUnit) := fun i _ => do
  let es ← dictEntries sub
  match es[i]? with
  | some e => do
    holding [e.key, e.val] (dictPut d e.hash e.key e.val)
    let ep ← dictEpoch sub
    if (ep != epoch) = true then do
      unsupported "dict.changed-during-merge"
      pure (ForInStep.yield PUnit.unit)
    else pure (ForInStep.yield PUnit.unit)
  | _ => do
    unsupported "dict.changed-during-merge"
    pure (ForInStep.yield PUnit.unit)
theorem Snd.assoc {α β γ : Type} {t : Sem α} {f : α → Sem β} {g : β → Sem γ} {r : At → Option (γ × At)} (h : Snd tb P w sd n0 ann q F gd lv (t >>= fun a => f a >>= g) r) : Snd tb P w sd n0 ann q F gd lv ((t >>= f) >>= g) r := by
  rw [bind_assoc]; exact h
theorem snd_turns {d sub epoch : Nat} : ∀ {l : List Nat}, Snd tb P w sd n0 ann q F gd lv (forIn l PUnit.unit (turnB d sub epoch)) (exTurns (stepT (denote tb) P w) n0 ann q F M gd lv d sub epoch l)
  | [] => by
    rw [List.forIn_nil]
    exact Snd.pure
  | i :: r => by
    rw [List.forIn_cons]
    unfold turnB
    refine Snd.assoc (Snd.bind snd_ent fun es => ?_)
    cases hi : es[i]? with
    | none => exact snd_none
    | some e =>
      refine Snd.assoc (Snd.bind (Snd.holding snd_put) fun _ => Snd.assoc (Snd.bind snd_ep fun ep => ?_))
      cases hb : Nat.beq ep epoch with
      | false => exact snd_none
      | true =>
        have e2 := Nat.eq_of_beq_eq_true hb
        subst e2
        rw [if_neg (by simp), pure_bind]
        exact snd_turns
theorem snd_merge {d sub : Addr} : Snd tb P w sd n0 ann q F gd lv (mergeMapping d (.ref sub) false) (exMerge (stepT (denote tb) P w) n0 ann q F M gd lv d sub) := by
  unfold mergeMapping exMerge
  refine Snd.congr (by simp only [bind_assoc]; rfl) (Snd.bind Snd.leaf fun b => ?_)
  cases b with
  | false => exact snd_none
  | true =>
    rw [if_pos rfl]
    refine Snd.bind Snd.leaf fun o => ?_
    cases ho : (o == some (.builtin "dict.__iter__")) with
    | false => exact snd_none
    | true =>
      rw [pure_bind]
      dsimp only
      cases hs : (sub == sysModules) with
      | true => exact snd_none
      | false =>
        rw [if_neg (by decide)]
        refine Snd.bind snd_ent fun es => ?_
        cases he : es.isEmpty with
        | true => exact snd_none
        | false =>
          rw [if_neg (by decide)]
          refine Snd.bind snd_ent fun es2 => Snd.bind snd_ep fun ep => ?_
          simp only [Bool.false_eq_true, if_false]
          exact snd_unit (snd_turns (l := List.range es2.size))
section
variable (st : SharedT → Thread → Option (SharedT × Thread)) (n0 : Nat) (ann : Option Value) (q : Pos) (F M : Nat) (gd : Bool → Bool)
def exFlush (lv : List Value → List Value) (run : List (Sem Value × Sem Value)) (main : Option Addr) (x : At) : Option (Option Addr × At) := match run with
  | [] => some (main, x)
  | _ :: _ => match main with
    | none => bindR (exSub st n0 ann q F M gd lv run x) fun d x1 => some (some d, x1)
    | some d => bindR (exSub st n0 ann q F M gd (hl [.ref d] lv) run x) fun sub x1 => bindR (exMerge st n0 ann q F M gd (hl [.ref d, .ref sub] lv) d sub x1) fun _ x2 => some (some d, x2)
def exRuns (lv : List Value → List Value) : List (Option (Sem Value) × Sem Value) → Option Addr → List (Sem Value × Sem Value) → At → Option ((Option Addr × List (Sem Value × Sem Value)) × At)
  | [], main, run, x => some ((main, run), x)
  | (none, _) :: _, _, _, _ => none
  | (some k, v) :: r, main, run, x => match Nat.beq (run ++ [(k, v)]).length 17 with
    | true => bindR (exFlush st n0 ann q F M gd lv (run ++ [(k, v)]) main x) fun m x1 => exRuns lv r m [] x1
    | false => exRuns lv r main (run ++ [(k, v)]) x
def exDisp (lv : List Value → List Value) (items : List (Option (Sem Value) × Sem Value)) (x : At) : Option (Value × At) :=
  bindR (exRuns st n0 ann q F M gd lv items none [] x) fun u x1 => bindR (exFlush st n0 ann q F M gd lv u.2 u.1 x1) fun o x2 => match o with
    | some d => some (.ref d, x2)
    | none => none
end
def flushS (run : List (Sem Value × Sem Value)) (main : Option Addr) : Sem (Option Addr) := do
  if run.isEmpty then return main
  match main with
  | none => return some (← subDict run)
  | some d =>
    let sub ← holding [.ref d] (subDict run)
    (holding [.ref d, .ref sub] (mergeMapping d (.ref sub) false)).onRaise fun x => do let _ ← holding [.ref d, x] (runValue (.builtin "proto.let_go" {}))
    return some d
theorem snd_flush {run : List (Sem Value × Sem Value)} {main : Option Addr} : Snd tb P w sd n0 ann q F gd lv (flushS run main) (exFlush (stepT (denote tb) P w) n0 ann q F M gd lv run main) := by
  unfold flushS
  cases run with
  | nil => exact Snd.pure
  | cons p r =>
    rw [if_neg (by simp)]
    cases main with
    | none => exact Snd.bind snd_sub fun d => Snd.pure
    | some d => exact Snd.bind (Snd.holding snd_sub) fun sub => Snd.bind (Snd.onRaise (Snd.holding snd_merge)) fun _ => Snd.pure
def dispB (x : Option (Sem Value) × Sem Value) (s : Option Addr × List (Sem Value × Sem Value)) : Sem (ForInStep (Option Addr × List (Sem Value × Sem Value))) := match x with
  | (some k, v) => if ((s.2 ++ [(k, v)]).length == 17) = true then flushS (s.2 ++ [(k, v)]) s.1 >>= fun m => pure (.yield (m, [])) else pure (.yield (s.1, s.2 ++ [(k, v)]))
  | (none, v) => unsupported ""
theorem snd_runs (f : Option (Sem Value) × Sem Value → Option Addr × List (Sem Value × Sem Value) → Sem (ForInStep (Option Addr × List (Sem Value × Sem Value))))
    (hf : ∀ k v s, f (some k, v) s = dispB (some k, v) s) : ∀ {items : List (Option (Sem Value) × Sem Value)} {main : Option Addr} {run : List (Sem Value × Sem Value)},
    Snd tb P w sd n0 ann q F gd lv (forIn items (main, run) f) (exRuns (stepT (denote tb) P w) n0 ann q F M gd lv items main run)
  | [], main, run => by
    rw [List.forIn_nil]
    exact Snd.pure
  | (none, v) :: r, main, run => snd_none
  | (some k, v) :: r, main, run => by
    rw [List.forIn_cons, hf]
    unfold dispB
    cases hb : Nat.beq (run ++ [(k, v)]).length 17 with
    | true =>
      have e := Nat.eq_of_beq_eq_true hb
      have hr : (exRuns (stepT (denote tb) P w) n0 ann q F M gd lv ((some k, v) :: r) main run) = fun x => bindR (exFlush (stepT (denote tb) P w) n0 ann q F M gd lv (run ++ [(k, v)]) main x) fun m x1 => exRuns (stepT (denote tb) P w) n0 ann q F M gd lv r m [] x1 := by
        funext x
        show (match Nat.beq (run ++ [(k, v)]).length 17 with | true => _ | false => _) = _
        rw [hb]
      rw [hr]
      dsimp only
      rw [if_pos (by rw [e]; rfl)]
      refine Snd.congr (t' := flushS (run ++ [(k, v)]) main >>= fun m => forIn r (m, []) f) (by simp only [bind_assoc, pure_bind]) ?_
      exact Snd.bind snd_flush fun m => snd_runs f hf
    | false =>
      have hr : (exRuns (stepT (denote tb) P w) n0 ann q F M gd lv ((some k, v) :: r) main run) = fun x => exRuns (stepT (denote tb) P w) n0 ann q F M gd lv r main (run ++ [(k, v)]) x := by
        funext x
        show (match Nat.beq (run ++ [(k, v)]).length 17 with | true => _ | false => _) = _
        rw [hb]
      rw [hr]
      dsimp only
      rw [if_neg (by intro z; have z2 := eq_of_beq z; rw [z2] at hb; cases hb)]
      rw [pure_bind]
      exact snd_runs f hf
theorem snd_disp {items : List (Option (Sem Value) × Sem Value)} : Snd tb P w sd n0 ann q F gd lv (dictDisplay items) (exDisp (stepT (denote tb) P w) n0 ann q F M gd lv items) := by
  unfold dictDisplay exDisp
  refine Snd.bind (snd_runs _ ?_) fun u => Snd.bind snd_flush fun o => ?_
  · intro k v s
    rfl
  cases o with
  | none => exact snd_none
  | some d => exact Snd.pure
/-! ### the statement x = {..} -/
section
variable (st : SharedT → Thread → Option (SharedT × Thread)) (n0 : Nat) (ann : Option Value) (q : Pos) (F M : Nat)
def exDict (env : PySem.Env) (keys : List (Option Expr)) (values : List Expr) (targets : List Expr) (pd pos : Pos) (x : At) : Option (Flow × At) :=
  bindR (leaf st n0 ann q id id M eU (standAt pos) x) fun _ x1 => bindR (leaf st n0 ann q id id M eU (standAt pd) x1) fun _ x2 =>
  bindR (exDisp st n0 ann q F M id id ((evalEachOpt keys env).zip ((evalEach values env).map fun v => do let x ← v; standAt pd; pure x)) x2) fun v x3 =>
  leaf st n0 ann q id id M eF (do assignStores env v (← swappedStores targets (.Dict keys values pd) env) ((assignEach targets env).map (·.2))) x3
end
theorem snd_stmt {env : PySem.Env} {keys : List (Option Expr)} {values : List Expr} {targets : List Expr} {pd pos : Pos} (hs : swapsWithSole targets (.Dict keys values pd) pos.line env = pure false) :
    Snd tb P w sd n0 ann q F id id (exec (.Assign targets (.Dict keys values pd) pos) env) (exDict (stepT (denote tb) P w) n0 ann q F M env keys values targets pd pos) := by
  unfold exDict
  refine Snd.congr (t' := standAt pos >>= fun _ => standAt pd >>= fun _ => dictDisplay ((evalEachOpt keys env).zip ((evalEach values env).map fun v => do let x ← v; standAt pd; pure x)) >>= fun v => (do assignStores env v (← swappedStores targets (.Dict keys values pd) env) ((assignEach targets env).map (·.2)))) ?_ ?_
  · show (standAt pos >>= fun _ => swapsWithSole targets (.Dict keys values pd) pos.line env >>= fun b => _) = _
    rw [hs]
    simp only [pure_bind, Bool.false_eq_true, if_false]
    show (standAt pos >>= fun _ => (standAt pd >>= fun _ => dictDisplay _) >>= fun v => _) = _
    simp only [bind_assoc]
  · exact Snd.bind Snd.leaf fun _ => Snd.bind Snd.leaf fun _ => Snd.bind snd_disp fun v => Snd.leaf
end
end HR
end
noncomputable section
/-! The head run, part 7: the whole top; the head by it. -/
namespace HR
open PySem PySem.W PySem.Calls PyProof.Rows HandSHeadRun
def goT (st : SharedT → Thread → Option (SharedT × Thread)) (n0 : Nat) (ann : Option Value) : Nat → SharedT → Thread → Option (SharedT × Thread)
  | 0, s, t => some (s, t)
  | m + 1, s, t => match through t with
    | true => none
    | false => match stepOk n0 ann t with
      | false => none
      | true => match st s t with
        | some (s', t') => frS s' fun s' => goT st n0 ann m s' t'
        | none => none
theorem goT_ok {tb : String → Option Builtin} {p : Program} {w : World} {n0 : Nat} {ann : Option Value} : ∀ {m N : Nat} {s s' : SharedT} {t t' : Thread} {r : Shared}, goT (stepT (denote tb) p w) n0 ann m s t = some (s', t') → topRun tb p w n0 ann N s'.abs t' = some r → topRun tb p w n0 ann (m + N) s.abs t = some r
  | 0, N, s, s', t, t', r, h, k => by
    cases h
    rw [Nat.zero_add]; exact k
  | m + 1, N, s, s', t, t', r, h, k => by
    unfold goT at h
    cases ht : through t with
    | true => rw [ht] at h; cases h
    | false =>
      rw [ht] at h
      cases hk : stepOk n0 ann t with
      | false => rw [hk] at h; cases h
      | true =>
        rw [hk] at h
        dsimp only at h
        cases hs : stepT (denote tb) p w s t with
        | none => rw [hs] at h; cases h
        | some u =>
          obtain ⟨s2, t2⟩ := u
          rw [hs] at h
          dsimp only at h
          rw [frS_eq] at h
          have e := top_step ht hk (stepT_spec hs) (goT_ok h k)
          rw [show m + 1 + N = 1 + (m + N) by omega]
          exact e
/-- the statement x = {..} of a list -/
structure Mid where
  i : Nat
  targets : List Expr
  keys : List (Option Expr)
  values : List Expr
  pd : Pos
  pos : Pos
def midOf (b : List Stmt) (i : Nat) : Mid := match b[i]? with
  | some (.Assign ts (.Dict ks vs pd) pos) => ⟨i, ts, ks, vs, pd, pos⟩
  | _ => ⟨i, [], [], [], default, default⟩
abbrev Mid.st (m : Mid) : Stmt := .Assign m.targets (.Dict m.keys m.values m.pd) m.pos
section
variable (st : SharedT → Thread → Option (SharedT × Thread)) (n0 : Nat) (ann : Option Value) (q : Pos) (p : Program) (F M k0 Mr : Nat) (env : PySem.Env) (b : List Stmt) (d : Mid)
def midX (x : At) : Option (Unit × At) :=
  bindR (leaf st n0 ann q id id M eU (blockStart b env) x) fun _ x2 =>
  bindR (leaf st n0 ann q id id M eF (execs (b.take d.i) env) x2) fun f x3 => match f with
    | .next => bindR (exDict st n0 ann q F M env d.keys d.values d.targets d.pd d.pos x3) fun f x4 => (match f with
      | .next => some ((), x4)
      | _ => none)
    | _ => none
def topX (s0 : SharedT) : Option (SharedT × Ks × Nat) := match goT st n0 ann k0 s0 (topStub p) with
  | none => none
  | some (s1, t1) => match midX st n0 ann q F M env b d ⟨s1, t1.code, t1.pos, [], 0⟩ with
    | none => none
    | some (_, x4) => match goF st n0 ann Mr x4.s (restOf (b.drop (d.i + 1)) env x4.c x4.p [topFrame q]) with
      | some s5 => some (s5, x4.ks, x4.m)
      | none => none
end
section
variable {tb : String → Option Builtin} {p : Program} {w : World} {sd : SharedT} {n0 : Nat} {ann : Option Value} {q : Pos} {F M k0 Mr : Nat} {env : PySem.Env} {b : List Stmt} {d : Mid}
theorem topX_ok {s0 s5 : SharedT} {ks : Ks} {m : Nat} {pos : Pos} (hb : b = b.take d.i ++ d.st :: b.drop (d.i + 1)) (hs : swapsWithSole d.targets (.Dict d.keys d.values d.pd) d.pos.line env = pure false)
    (ht : (goT (stepT (denote tb) p w) n0 ann k0 s0 (topStub p)).map (·.2) = some ⟨denote tb (.body b env), .body b env, pos, [topFrame q]⟩)
    (h : topX (stepT (denote tb) p w) n0 ann q p F M k0 Mr env b d s0 = some (s5, ks, m)) (kt : KtOk tb p w sd n0 ann q F ks) :
    topRun tb p w n0 ann (k0 + (m + Mr)) s0.abs (topStub p) = some s5.abs := by
  unfold topX at h
  cases e1 : goT (stepT (denote tb) p w) n0 ann k0 s0 (topStub p) with
  | none => rw [e1] at h; cases h
  | some u =>
    obtain ⟨s1, t1⟩ := u
    rw [e1] at h ht
    have et : t1 = ⟨denote tb (.body b env), .body b env, pos, [topFrame q]⟩ := Option.some.inj ht
    subst et
    dsimp only at h
    unfold midX at h
    cases e2 : leaf (stepT (denote tb) p w) n0 ann q id id M eU (blockStart b env) ⟨s1, .body b env, pos, [], 0⟩ with
    | none => rw [e2] at h; cases h
    | some u2 =>
      obtain ⟨_, x2⟩ := u2
      rw [e2] at h
      dsimp only [bindR] at h
      cases e3 : leaf (stepT (denote tb) p w) n0 ann q id id M eF (execs (b.take d.i) env) x2 with
      | none => rw [e3] at h; cases h
      | some u3 =>
        obtain ⟨f, x3⟩ := u3
        rw [e3] at h
        cases f with
        | next =>
          dsimp only at h
          cases e4 : exDict (stepT (denote tb) p w) n0 ann q F M env d.keys d.values d.targets d.pd d.pos x3 with
          | none => rw [e4] at h; cases h
          | some u4 =>
            obtain ⟨f4, x4⟩ := u4
            rw [e4] at h
            cases f4 with
            | next =>
              dsimp only at h
              cases e5 : goF (stepT (denote tb) p w) n0 ann Mr x4.s (restOf (b.drop (d.i + 1)) env x4.c x4.p [topFrame q]) with
              | none => rw [e5] at h; cases h
              | some s6 =>
                rw [e5] at h
                cases h
                have r5 := goF_ok e5
                obtain ⟨o2, k2, m2⟩ := leaf_ok e2
                obtain ⟨o3, k3, m3⟩ := leaf_ok e3
                obtain ⟨p4, g4⟩ := snd_stmt (sd := sd) (F := F) (M := M) hs x3 .next x4 e4
                obtain ⟨X, l4, o4⟩ := g4 kt
                have r4 := o4 (fun f => match f with | .next => (execs (b.drop (d.i + 1)) env).wrap doneF (leaveH env) id id | f => doneF f) (leaveH env) Mr s5.abs r5
                have r4' : topRun tb p w n0 ann (X + Mr) x3.s.abs ⟨(execs (d.st :: b.drop (d.i + 1)) env).wrap doneF (leaveH env) id id, x3.c, x3.p, [topFrame q]⟩ = some s5.abs := by
                  rw [execs_cons_wrap]; exact r4
                have r3 := o3 (fun f => match f with | .next => (execs (d.st :: b.drop (d.i + 1)) env).wrap doneF (leaveH env) id id | f => doneF f) (leaveH env) (X + Mr) s5.abs r4'
                have r3' : topRun tb p w n0 ann (M + (X + Mr)) x2.s.abs ⟨(execs b env).wrap doneF (leaveH env) id id, x2.c, x2.p, [topFrame q]⟩ = some s5.abs := by
                  rw [hb, execs_app_wrap]; exact r3
                have r2 := o2 (fun _ => (execs b env).wrap doneF (leaveH env) id id) .raise (M + (X + Mr)) s5.abs r3'
                have r1 := goT_ok e1 (show topRun tb p w n0 ann (M + (M + (X + Mr))) s1.abs ⟨denote tb (.body b env), .body b env, pos, [topFrame q]⟩ = some s5.abs by rw [body_wrap]; exact r2)
                have m3' : x3.m = x2.m + M := m3
                have m2' : x2.m = 0 + M := m2
                have e := topRun_mono (x4.m + Mr - (M + (M + (X + Mr)))) _ _ _ _ r1
                rw [show k0 + (M + (M + (X + Mr))) + (x4.m + Mr - (M + (M + (X + Mr)))) = k0 + (x4.m + Mr) by omega] at e
                exact e
            | _ => cases h
        | _ => cases h
end
/-! ### the boot -/
/-- the state behind the top, the keys that were put, the steps -/
def endX (st : SharedT → Thread → Option (SharedT × Thread)) (F M k0 Mr : Nat) (p : Program) (env : Nat → PySem.Env) (b : List Stmt) (d : Mid) (w : World) (os : OsState) : Option (SharedT × Ks × Nat) := match putAll (boot_heap w.params).objs.toList .nil 0 with
  | some (t, n) => frNat n fun n0 => topX st n0 (bootAnn w) default p F M k0 Mr (env n0) b d (bootT w os (t, n0))
  | none => none
def preX (st : SharedT → Thread → Option (SharedT × Thread)) (k0 : Nat) (p : Program) (w : World) (os : OsState) : Option Thread := match putAll (boot_heap w.params).objs.toList .nil 0 with
  | some (t, n) => frNat n fun n0 => (goT st n0 (bootAnn w) k0 (bootT w os (t, n0)) (topStub p)).map (·.2)
  | none => none
theorem endX_ok {F M k0 Mr : Nat} {p : Program} {env : Nat → PySem.Env} {b : List Stmt} {d : Mid} {w : World} {os : OsState} {sd : SharedT} {s5 : SharedT} {ks : Ks} {m : Nat} {pos : Pos} (hb : b = b.take d.i ++ d.st :: b.drop (d.i + 1))
    (hs : ∀ n, swapsWithSole d.targets (.Dict d.keys d.values d.pd) d.pos.line (env n) = pure false)
    (ht : preX (stepT (denote treeTable) p w) k0 p w os = some ⟨denote treeTable (.body b (env (boot_heap w.params).objs.size)), .body b (env (boot_heap w.params).objs.size), pos, [topFrame default]⟩)
    (h : endX (stepT (denote treeTable) p w) F M k0 Mr p env b d w os = some (s5, ks, m)) (kt : KtOk treeTable p w sd (boot_heap w.params).objs.size (bootAnn w) default F ks) :
    topRun treeTable p w (boot_heap w.params).objs.size (bootAnn w) (k0 + (m + Mr)) ⟨boot_heap w.params, #[], boot_drawn, boot_toks, os⟩ (topStub p) = some s5.abs := by
  unfold endX at h
  unfold preX at ht
  cases e : putAll (boot_heap w.params).objs.toList .nil 0 with
  | none => rw [e] at h; cases h
  | some r =>
    obtain ⟨t, n⟩ := r
    rw [e] at h ht
    dsimp only at h ht
    rw [frNat_eq] at h ht
    have eh := putAll_heap e
    have en : (boot_heap w.params).objs.size = n := by
      rw [← eh]
      exact absHeap_size t n _
    rw [en] at ht kt ⊢
    have eb : (bootT w os (t, n)).abs = ⟨boot_heap w.params, #[], boot_drawn, boot_toks, os⟩ := by
      show (⟨absHeap t n (boot_heap w.params).life, #[], boot_drawn, boot_toks, os⟩ : Shared) = _
      rw [eh]
    rw [← eb]
    exact topX_ok hb (hs n) ht h kt
end HR
end
noncomputable section
/-! The head run, part 8: what the top leaves, told of a part of the heap. -/
namespace HR
open PySem PySem.W PySem.Calls PyProof.Rows HandSHeadRun L2 DL
/-! ### constants -/
mutual
def isB (K : PySem.W.Frag) (u : Value) : D → Bool
  | .non => (match u with
    | .none => true
    | _ => false)
  | .bl b => (match u with
    | .bool c => b == c
    | _ => false)
  | .int i => (match u with
    | .int j _ => decide (i = j)
    | _ => false)
  | .str s => (match u with
    | .str t _ => decide (s = t)
    | _ => false)
  | .ty n => (match u with
    | .type m => decide (n = m)
    | _ => false)
  | .tup ds => (match u with
    | .ref a => (match K.lookup a with
      | some ⟨.type c, _, .seq its _, _⟩ => decide (c = "tuple") && (Nat.ble its.size 1000 && isBL K its.toList ds)
      | _ => false)
    | _ => false)
  | .cl ds => (match u with
    | .ref a => (match K.lookup a with
      | some ⟨.type c, none, .seq its _, _⟩ => decide (c = "list") && (Nat.ble its.size 1000 && isBL K its.toList ds)
      | _ => false)
    | _ => false)
  | .ref _ => false
  | .cd _ _ => false
def isBL (K : PySem.W.Frag) : List Value → List D → Bool
  | [], [] => true
  | u :: us, d :: ds => isB K u d && isBL K us ds
  | _, _ => false
end
theorem size_ok {n : Nat} (h : Nat.ble n 1000 = true) : n ≤ sizeLine := Nat.le_trans (Nat.le_of_ble_eq_true h) (by decide)
mutual
theorem isB_ok {M : Md} : ∀ {d : D} {u : Value}, isB M.K u d = true → ∃ v, RelV v u ∧ ∀ H, Is M H v d
  | .non, u, h => by
    unfold isB at h
    split at h
    · exact ⟨.non, rfl, fun _ => rfl⟩
    · cases h
  | .bl b, u, h => by
    unfold isB at h
    split at h
    · exact ⟨.bl b, by rw [eq_of_beq h]; rfl, fun _ => rfl⟩
    · cases h
  | .int i, u, h => by
    unfold isB at h
    split at h
    · exact ⟨.int i, ⟨_, by rw [of_decide_eq_true h]⟩, fun _ => rfl⟩
    · cases h
  | .str s, u, h => by
    unfold isB at h
    split at h
    · exact ⟨.str s, ⟨_, by rw [of_decide_eq_true h]⟩, fun _ => rfl⟩
    · cases h
  | .ty n, u, h => by
    unfold isB at h
    split at h
    · exact ⟨.ty n, by rw [of_decide_eq_true h]; rfl, fun _ => rfl⟩
    · cases h
  | .tup ds, u, h => by
    unfold isB at h
    split at h
    · rename_i a
      split at h
      · rename_i c od its n sl hk
        rw [Bool.and_eq_true, Bool.and_eq_true] at h
        obtain ⟨vs, r, l⟩ := isBL_ok (M := M) h.2.2
        exact ⟨.ref a, rfl, fun H => ⟨a, vs, rfl, .inr ⟨_, its, n, hk, congrArg Value.type (of_decide_eq_true h.1), rfl, size_ok h.2.1, r⟩, l H⟩⟩
      · cases h
    · cases h
  | .cl ds, u, h => by
    unfold isB at h
    split at h
    · rename_i a
      split at h
      · rename_i c its n sl hk
        rw [Bool.and_eq_true, Bool.and_eq_true] at h
        obtain ⟨vs, r, l⟩ := isBL_ok (M := M) h.2.2
        exact ⟨.ref a, rfl, fun H => ⟨a, vs, rfl, .inr ⟨_, its, n, hk, congrArg Value.type (of_decide_eq_true h.1), rfl, rfl, size_ok h.2.1, r⟩, l H⟩⟩
      · cases h
    · cases h
  | .ref _, u, h => by unfold isB at h; cases h
  | .cd _ _, u, h => by unfold isB at h; cases h
theorem isBL_ok {M : Md} : ∀ {ds : List D} {us : List Value}, isBL M.K us ds = true → ∃ vs, Vals vs us ∧ ∀ H, IsL M H vs ds
  | [], [], h => ⟨[], .nil, fun _ => rfl⟩
  | [], _ :: _, h => by unfold isBL at h; cases h
  | _ :: _, [], h => by unfold isBL at h; cases h
  | d :: ds, u :: us, h => by
    unfold isBL at h
    rw [Bool.and_eq_true] at h
    obtain ⟨v, r, l⟩ := isB_ok (M := M) h.1
    obtain ⟨vs, rs, ls⟩ := isBL_ok (M := M) h.2
    exact ⟨v :: vs, .cons r rs, fun H => IsL.cons (l H) (ls H)⟩
end
/-! ### dicts -/
def entB (K : PySem.W.Frag) : List DictEntry → List Key → List D → Bool
  | [], [], [] => true
  | e :: es, k :: kk, d :: ds => keyIs k e.key && (isB K e.val d && entB K es kk ds)
  | _, _, _ => false
def keysB : List Value → List Key → Bool
  | [], [] => true
  | u :: us, k :: kk => keyIs k u && keysB us kk
  | _, _ => false
def entTB (K : PySem.W.Frag) : List DictEntry → List (List Key) → List D → Bool
  | [], [], [] => true
  | e :: es, k :: kk, d :: ds => (match e.key with
    | .ref b => (match K.lookup b with
      | some ⟨.type c, _, .seq its _, _⟩ => decide (c = "tuple") && keysB its.toList k
      | _ => false)
    | _ => false) && (isB K e.val d && entTB K es kk ds)
  | _, _, _ => false
inductive Cn where
  | val (x : Str) (d : D)
  | dic (x : Str) (kk : List Key) (ds : List D)
  | dict (x : Str) (kk : List (List Key)) (ds : List D)
def Cn.x : Cn → Str
  | .val x _ => x
  | .dic x _ _ => x
  | .dict x _ _ => x
def Cn.d : Cn → D
  | .val _ d => d
  | .dic _ kk ds => .cd (kk.map kD) ds
  | .dict _ kk ds => .cd (kk.map fun l => .tup (l.map kD)) ds
def dictAt (K : PySem.W.Frag) (x : Str) : Option (Addr × Array DictEntry) := match PySem.W.nsIn K mainGlobals x with
  | some (some (.ref a)) => (match K.lookup a with
    | some ⟨.type c, none, .dict es _, sl⟩ => (match decide (c = "dict") && (sl.isEmpty && !(a == sysModules)) with
      | true => some (a, es)
      | false => none)
    | _ => none)
  | _ => none
def Cn.ok (K : PySem.W.Frag) : Cn → Bool
  | .val x d => (match PySem.W.nsIn K mainGlobals x with
    | some (some u) => isB K u d
    | _ => false)
  | .dic x kk ds => (match dictAt K x with
    | some (_, es) => entB K es.toList kk ds && decide kk.Nodup
    | none => false)
  | .dict x kk ds => (match dictAt K x with
    | some (_, es) => entTB K es.toList kk ds && decide kk.Nodup
    | none => false)
def hashes (K : PySem.W.Frag) (x : Str) : List Int := match dictAt K x with
  | some (_, es) => es.toList.map (·.hash)
  | none => []
def Cn.hs (K : PySem.W.Frag) : Cn → List Int
  | .val _ _ => []
  | .dic x _ _ => hashes K x
  | .dict x _ _ => hashes K x
def Cn.hv (P : Program) (w : World) : Cn → List Int
  | .val _ _ => []
  | .dic _ kk _ => kk.map (keyH w)
  | .dict _ kk _ => kk.map (tupleKeyHash (mixKind P w))
theorem dictAt_ok {K : PySem.W.Frag} {x : Str} {a : Addr} {es : Array DictEntry} (h : dictAt K x = some (a, es)) : PySem.W.nsIn K mainGlobals x = some (some (.ref a)) ∧ (∃ ep, K.lookup a = some { cls := .type "dict", dict := none, data := .dict es ep, slots := #[] }) ∧ (a == sysModules) = false := by
  unfold dictAt at h
  split at h
  · rename_i b hn
    split at h
    · rename_i c es' n sl hk
      split at h
      · rename_i hc
        cases h
        rw [Bool.and_eq_true, Bool.and_eq_true] at hc
        refine ⟨hn, ⟨n, ?_⟩, ?_⟩
        · rw [hk, of_decide_eq_true hc.1, Array.isEmpty_iff.mp hc.2.1]
        · cases q : a == sysModules with
          | false => rfl
          | true => rw [q] at hc; cases hc.2.2
      · cases h
    · cases h
  · cases h
theorem entB_ok {M : Md} : ∀ {es : List DictEntry} {kk : List Key} {ds : List D}, entB M.K es kk ds = true → es.map (·.hash) = kk.map (keyH M.w) →
    ∃ us vs, Vals us vs ∧ (∀ H, IsL M H us ds) ∧ kk.length = us.length ∧ Pairs (mixKind M.P M.w) es (kk.zip vs) ∧ ∀ e ∈ es, ∃ k, (mixKind M.P M.w).is k e.key = true ∧ e.hash = (mixKind M.P M.w).hash k
  | [], [], [], _, _ => ⟨[], [], .nil, fun _ => rfl, rfl, .nil, fun e he => by cases he⟩
  | e :: es, k :: kk, d :: ds, h, g => by
    unfold entB at h
    rw [Bool.and_eq_true, Bool.and_eq_true] at h
    rw [List.map_cons, List.map_cons] at g
    injection g with g1 g2
    obtain ⟨v, r, l⟩ := isB_ok (M := M) h.2.1
    obtain ⟨us, vs, rs, ls, len, ps, ke⟩ := entB_ok (M := M) h.2.2 g2
    refine ⟨v :: us, e.val :: vs, .cons r rs, fun H => IsL.cons (l H) (ls H), by rw [List.length_cons, List.length_cons, len], Pairs.cons h.1 rfl ps, fun e' he => ?_⟩
    rcases List.mem_cons.mp he with z | z
    · subst z; exact ⟨k, h.1, g1⟩
    · exact ke e' z
  | [], [], _ :: _, h, _ => by cases h
  | [], _ :: _, [], h, _ => by cases h
  | [], _ :: _, _ :: _, h, _ => by cases h
  | _ :: _, [], [], h, _ => by cases h
  | _ :: _, [], _ :: _, h, _ => by cases h
  | _ :: _, _ :: _, [], h, _ => by cases h
theorem zip_fst {α β : Type} : ∀ {l : List α} {m : List β}, l.length = m.length → (l.zip m).map (·.1) = l
  | [], [], _ => rfl
  | [], _ :: _, h => by cases h
  | _ :: _, [], h => by cases h
  | a :: l, b :: m, h => by
    rw [List.zip_cons_cons, List.map_cons, zip_fst (by simpa using h)]
theorem keysB_ok {P : Program} {w : World} : ∀ {us : List Value} {k : List Key}, keysB us k = true → PySem.ItemsAre (mixKind P w) k us
  | [], [], _ => .nil
  | u :: us, k :: kk, h => by
    unfold keysB at h
    rw [Bool.and_eq_true] at h
    exact .cons h.1 (keysB_ok h.2)
  | [], _ :: _, h => by cases h
  | _ :: _, [], h => by cases h
theorem entTB_ok {M : Md} : ∀ {es : List DictEntry} {kk : List (List Key)} {ds : List D}, entTB M.K es kk ds = true → es.map (·.hash) = kk.map (tupleKeyHash (mixKind M.P M.w)) →
    ∃ us vs, Vals us vs ∧ (∀ H, IsL M H us ds) ∧ kk.length = us.length ∧ ∃ xs : List (List Key × Addr × Value), es = xs.map (entryOfKey (tupleKind (mixKind M.P M.w))) ∧ pairsH xs = kk.zip vs ∧ xs.map (·.1) = kk ∧ ∀ h : Heap, M.K.In h → ∀ x ∈ xs, (tupleKind (mixKind M.P M.w)).is h x.1 x.2.1
  | [], [], [], _, _ => ⟨[], [], .nil, fun _ => rfl, rfl, [], rfl, rfl, rfl, fun _ _ x hx => by cases hx⟩
  | e :: es, k :: kk, d :: ds, h, g => by
    unfold entTB at h
    rw [Bool.and_eq_true, Bool.and_eq_true] at h
    rw [List.map_cons, List.map_cons] at g
    injection g with g1 g2
    obtain ⟨v, r, l⟩ := isB_ok (M := M) h.2.1
    obtain ⟨us, vs, rs, ls, len, xs, ex, ep, ek, ei⟩ := entTB_ok (M := M) h.2.2 g2
    have h1 := h.1
    split at h1
    · rename_i b hb
      split at h1
      · rename_i c od its n sl hk
        rw [Bool.and_eq_true] at h1
        refine ⟨v :: us, e.val :: vs, .cons r rs, fun H => IsL.cons (l H) (ls H), by rw [List.length_cons, List.length_cons, len], (k, b, e.val) :: xs, ?_, ?_, ?_, fun h' hK x hx => ?_⟩
        · rw [List.map_cons, ← ex]
          congr 1
          obtain ⟨eh, ek', ev⟩ := e
          have h1' : eh = tupleKeyHash (mixKind M.P M.w) k := g1
          have h2' : ek' = .ref b := hb
          subst h1' h2'
          rfl
        · show (k, e.val) :: pairsH xs = (k, e.val) :: kk.zip vs
          rw [ep]
        · rw [List.map_cons, ek]
        · rcases List.mem_cons.mp hx with z | z
          · subst z
            exact ⟨_, its, n, hK _ _ hk, congrArg Value.type (of_decide_eq_true h1.1), rfl, keysB_ok h1.2⟩
          · exact ei h' hK x z
      · cases h1
    · cases h1
  | [], [], _ :: _, h, _ => by cases h
  | [], _ :: _, [], h, _ => by cases h
  | [], _ :: _, _ :: _, h, _ => by cases h
  | _ :: _, [], [], h, _ => by cases h
  | _ :: _, [], _ :: _, h, _ => by cases h
  | _ :: _, _ :: _, [], h, _ => by cases h
theorem Cn.gd {M : Md} {h : Heap} {mg : Str → Option Value} (X : M.K.In h) (Gn : h.Ns mainGlobals mg) {c : Cn} (ho : c.ok M.K = true) (hh : c.hs M.K = c.hv M.P M.w) : GD M mg c.x c.d := by
  cases c with
  | val x d =>
    dsimp only [Cn.ok] at ho
    split at ho
    · rename_i u hu
      obtain ⟨v, r, l⟩ := isB_ok (M := M) ho
      exact ⟨u, v, PySem.W.mg_of X Gn hu, r, l⟩
    · cases ho
  | dic x kk ds =>
    dsimp only [Cn.ok] at ho
    split at ho
    · rename_i a es hd
      rw [Bool.and_eq_true] at ho
      obtain ⟨hn, ⟨ep, hk⟩, hs⟩ := dictAt_ok hd
      have hh2 : es.toList.map (·.hash) = kk.map (keyH M.w) := by
        have z : hashes M.K x = kk.map (keyH M.w) := hh
        unfold hashes at z
        rw [hd] at z
        exact z
      obtain ⟨us, vs, r, l, len, ps, ke⟩ := entB_ok (M := M) ho.1 hh2
      refine ⟨.ref a, .ref a, PySem.W.mg_of X Gn hn, rfl, fun H => ⟨a, us, rfl, ⟨hs, ⟨_, hk, rfl, rfl⟩, .inl ⟨kk, rfl, len, fun h' hK => ⟨vs, r, ?_⟩⟩⟩, l H⟩⟩
      exact ⟨_, es, ep, hK _ _ hk, ⟨rfl, rfl, rfl⟩, rfl, fun e he => ke e (Array.mem_toList_iff.mpr he), ps, by rw [zip_fst (len.trans r.length)]; exact of_decide_eq_true ho.2⟩
    · cases ho
  | dict x kk ds =>
    dsimp only [Cn.ok] at ho
    split at ho
    · rename_i a es hd
      rw [Bool.and_eq_true] at ho
      obtain ⟨hn, ⟨ep, hk⟩, hs⟩ := dictAt_ok hd
      have hh2 : es.toList.map (·.hash) = kk.map (tupleKeyHash (mixKind M.P M.w)) := by
        have z : hashes M.K x = kk.map (tupleKeyHash (mixKind M.P M.w)) := hh
        unfold hashes at z
        rw [hd] at z
        exact z
      obtain ⟨us, vs, r, l, len, xs, ex, epz, ek, ei⟩ := entTB_ok (M := M) ho.1 hh2
      refine ⟨.ref a, .ref a, PySem.W.mg_of X Gn hn, rfl, fun H => ⟨a, us, rfl, ⟨hs, ⟨_, hk, rfl, rfl⟩, .inr ⟨kk, rfl, len, fun h' hK => ⟨vs, r, xs, ?_, epz⟩⟩⟩, l H⟩⟩
      exact ⟨_, es, ep, hK _ _ hk, ⟨rfl, rfl, rfl⟩, rfl, ex, ei h' hK, by rw [ek]; exact of_decide_eq_true ho.2⟩
    · cases ho
end HR
end
noncomputable section
/-! The head run, part 9: the Hook, the head, the end. -/
namespace HR
open PySem PySem.W PySem.Calls PyProof.Rows HandSHeadRun L2 DL
/-! ### the Hook -/
def refsX (o : Obj) : List Addr := He.refsD o ++ match o.data with
  | .dict es _ => es.toList.flatMap fun e => He.refV e.key
  | _ => []
def growX (g : Addr → Option Obj) (as : List Addr) : List Addr := (as ++ as.flatMap fun a => match g a with
  | some o => refsX o
  | none => []).eraseDups
def asX (g : Addr → Option Obj) : Nat → List Addr
  | 0 => [mainGlobals]
  | n + 1 => growX g (asX g n)
abbrev AlC : Type := He.AlD × Bool × List (List Int)
def obsC (fa : List He.Fa) (fn : List He.DefD) (cn : List Cn) (K : PySem.W.Frag) : AlC := (He.obsD fa fn K, cn.all (fun c => c.ok K), cn.map fun c => c.hs K)
def valC (P : Program) (fn : List He.DefD) (cn : List Cn) (w : World) : AlC := (He.valD fn, true, cn.map fun c => c.hv P w)
def obsCG (n : Nat) (fa : List He.Fa) (fn : List He.DefD) (cn : List Cn) (g : Addr → Option Obj) : AlC := obsC fa fn cn (He.frG g (asX g n))
/-- what the end leans on -/
structure SaysC (P : Program) (fa : List He.Fa) (fn : List He.DefD) (cn : List Cn) (w : World) (K : PySem.W.Frag) : Prop where
  d : He.SaysD fa fn K
  ok : ∀ c ∈ cn, c.ok K = true
  hs : ∀ c ∈ cn, c.hs K = c.hv P w
theorem map_eq_mem {α β : Type} {f g : α → β} : ∀ {l : List α}, l.map f = l.map g → ∀ a ∈ l, f a = g a
  | [], _, a, h => by cases h
  | b :: l, e, a, h => by
    rw [List.map_cons, List.map_cons] at e
    injection e with e1 e2
    rcases List.mem_cons.mp h with z | z
    · subst z; exact e1
    · exact map_eq_mem e2 a z
theorem saysC_of {P : Program} {fa : List He.Fa} {fn : List He.DefD} {cn : List Cn} {w : World} {K : PySem.W.Frag} (e : obsC fa fn cn K = valC P fn cn w) : SaysC P fa fn cn w K :=
  ⟨congrArg (fun z : AlC => z.1) e, fun c hc => List.all_eq_true.mp (congrArg (fun z : AlC => z.2.1) e) c hc, map_eq_mem (congrArg (fun z : AlC => z.2.2) e)⟩
def hookC (P : Program) (n : Nat) (fa : List He.Fa) (fn : List He.DefD) (cn : List Cn) : PySem.W.Hook where
  α := AlC
  obs := fun s => obsCG n fa fn cn s.heap.get?
  val := fun w => valC P fn cn w
  says := fun w h => ∃ K : PySem.W.Frag, K.In h ∧ SaysC P fa fn cn w K
  of := fun _ _ e => ⟨_, He.frG_in, saysC_of e⟩
  keeps := fun _ _ _ ⟨K, hK, c⟩ k => ⟨K, PySem.W.Frag.In.keeps hK k, c⟩
/-- what is looked at, off the tree -/
def obT (n : Nat) (fa : List He.Fa) (fn : List He.DefD) (cn : List Cn) (s : SharedT) : AlC := obsCG n fa fn cn (getT s)
theorem obT_eq {P : Program} {n : Nat} {fa : List He.Fa} {fn : List He.DefD} {cn : List Cn} (s : SharedT) : obT n fa fn cn s = (hookC P n fa fn cn).obs s.abs := by
  unfold obT
  rw [show getT s = s.abs.heap.get? from funext (getT_eq s)]
  rfl
/-! ### the head -/
/-- behind the top, by any road -/
def TopX (p q : Program) (loose : List Str) {α : Type} (Xt : Shared → Bool) (Yf : Shared → α) (Ya : World → α) (M : Nat) (w : World) (os : OsState) : Prop :=
  ∃ s : Shared, topRun treeTable p w (boot_heap w.params).objs.size (bootAnn w) M ⟨boot_heap w.params, #[], boot_drawn, boot_toks, os⟩ (topStub p) = some s ∧
    looksF p (boot_heap w.params) s = true ∧ openSeen q loose (importedModules p.main.body) Xt true s = openGood q loose ∧ Yf s = Ya w
theorem left_x {p q : Program} {loose : List Str} {Xt : Shared → Bool} {α : Type} {Yf : Shared → α} {Ya : World → α} {M : Nat} (e : opening p = plainProg p.main.scope.names) (f : ∀ s, fenceModules? p s = some s)
    (top : ∀ w os, TopX p q loose Xt Yf Ya M w os) : LeftO p q loose Xt Yf Ya (M + 600) true := by
  intro w
  have hb := boot_open e (N := M + 600) (Nat.ble_eq_true_of_le (Nat.le_add_left _ _)) f w
  rw [Option.map_eq_some_iff] at hb
  obtain ⟨⟨hp, gs, dr, tk, os⟩, ho, hv⟩ := hb
  have hq : hp = boot_heap w.params ∧ gs = Array.mk [] ∧ dr = boot_drawn ∧ tk = boot_toks := by simpa using hv
  obtain ⟨h1, h2, h3, h4⟩ := hq
  subst h1 h2 h3 h4
  obtain ⟨s, run, lk, sn, yy⟩ := top w os
  have run' := topRun_mono 600 _ _ _ _ run
  have ft : topFrom treeTable p w (M + 600) ⟨boot_heap w.params, Array.mk [], boot_drawn, boot_toks, os⟩ = some s := by
    unfold topFrom
    show (match (boot_heap w.params).isNs mainGlobals && true with | true => _ | false => none) = _
    rw [boot_ns]
    show Option.bind (topRun treeTable p w (boot_heap w.params).objs.size (bootAnn w) (M + 600) ⟨boot_heap w.params, #[], boot_drawn, boot_toks, os⟩ (topStub p)) _ = _
    rw [run']
    show (match looksF p (boot_heap w.params) s with | true => some s | false => none) = some s
    rw [lk]
  show ((fencedOpening treeTable p w (M + 600)).bind (topFrom treeTable p w (M + 600))).map _ = _
  rw [ho]
  show (topFrom treeTable p w (M + 600) _).map _ = _
  rw [ft, Option.map_some, sn, yy]
theorem head_x {r : OpenRow} {q : Program} {H : Hook} {M : Nat} {loose : List PySem.Str} {d : DefRec} {kwd : List (PySem.Str × PySem.Expr)}
    (e : opening r.prog = plainProg r.prog.main.scope.names) (f : ∀ s, fenceModules? r.prog s = some s) (top : ∀ w os, TopX r.prog q loose (fun s => xlAt q [] s && recOk r.toRowW.records s) H.obs H.val M w os)
    (hdef : defOf q r.name = some (d, kwd)) (hp : r.prog.theDef r.name = some (d.params, d.body, d.scope)) (hk : kwWritten? d.params.kwonlyargs d.params.kw_defaults = some kwd)
    (hwr : (!r.writes || r.records.isEmpty) = true) (k1 : r.wellSaid = true) (ok : (chainsOk q && opensWell r.prog && (frees r.toRowW && r.within.isEmpty)) = true) (hb : r.prog.bare) (hw : r.toRowW.promised)
    (call : WalkO q loose (XL q []) H.says r.toRowW d kwd fun f vs => PySem.call f vs) : r.Holds :=
  holds_open (XP := XL q []) (YP := H.says) (left_x e f top) H.of H.keeps (fun s z => xl_of s (ba2 z).1) XL.keeps hdef hp hk (fun s z => recFacts_of (ba2 z).2) hwr k1 ok hb hw call
where
  ba2 {a b : Bool} (z : (a && b) = true) : a = true ∧ b = true := Bool.and_eq_true_iff.mp z
/-! ### the keys are told apart -/
def pairsOf : Ks → List ((Addr × Obj) × (Addr × Obj))
  | [] => []
  | b :: r => r.map (fun p => (b, p)) ++ pairsOf r
theorem pairsOf_pw {R : Addr × Obj → Addr × Obj → Prop} : ∀ {ks : Ks}, (∀ x ∈ pairsOf ks, R x.1 x.2) → ks.Pairwise R
  | [], _ => .nil
  | b :: r, h => by
    refine List.pairwise_cons.mpr ⟨fun p hp => ?_, pairsOf_pw fun x hx => h x (List.mem_append_right _ hx)⟩
    exact h (b, p) (List.mem_append_left _ (List.mem_map_of_mem hp))
section
variable (st : SharedT → Thread → Option (SharedT × Thread)) (sd : SharedT) (n0 : Nat) (ann : Option Value) (q : Pos) (F : Nat) (b : List Stmt) (e : PySem.Env) (gd : Bool → Bool) (lv : List Value → List Value) (pos : Pos)
def lookQ (p : Addr × Obj) : Option (Flow × Code × Pos) := roT st sd n0 ann (g1 p.1 p.2) F ⟨(eqIsQuiet 8 (.ref p.1)).wrap (fun a => .pure (.done (eB.res a))) deadEnd gd lv, .body b e, pos, [topFrame q]⟩
def lookN (p : (Addr × Obj) × (Addr × Obj)) : Option (Flow × Code × Pos) := roT st sd n0 ann (g2 p.1.1 p.1.2 p.2.1 p.2.2) F ⟨(eqBool (.ref p.1.1) (.ref p.2.1)).wrap (fun a => .pure (.done (eB.res a))) deadEnd gd lv, .body b e, pos, [topFrame q]⟩
end
def LookQ (st : SharedT → Thread → Option (SharedT × Thread)) (sd : SharedT) (n0 : Nat) (ann : Option Value) (q : Pos) (F : Nat) (l : Ks) : Prop :=
  ∀ (b : List Stmt) (e : PySem.Env) (gd : Bool → Bool) (lv : List Value → List Value) (pos : Pos), l.map (lookQ st sd n0 ann q F b e gd lv pos) = l.map fun _ => some (eB.res true, .body b e, pos)
def LookN (st : SharedT → Thread → Option (SharedT × Thread)) (sd : SharedT) (n0 : Nat) (ann : Option Value) (q : Pos) (F : Nat) (l : List ((Addr × Obj) × (Addr × Obj))) : Prop :=
  ∀ (b : List Stmt) (e : PySem.Env) (gd : Bool → Bool) (lv : List Value → List Value) (pos : Pos), l.map (lookN st sd n0 ann q F b e gd lv pos) = l.map fun _ => some (eB.res false, .body b e, pos)
theorem LookN.split {st : SharedT → Thread → Option (SharedT × Thread)} {sd : SharedT} {n0 : Nat} {ann : Option Value} {q : Pos} {F : Nat} (k : Nat) {l : List ((Addr × Obj) × (Addr × Obj))} (h1 : LookN st sd n0 ann q F (l.take k)) (h2 : LookN st sd n0 ann q F (l.drop k)) : LookN st sd n0 ann q F l := fun b e gd lv pos => by
  rw [← List.take_append_drop k l, List.map_append, List.map_append, h1 b e gd lv pos, h2 b e gd lv pos]
theorem ktOk_of {tb : String → Option Builtin} {P : Program} {w : World} {sd : SharedT} {n0 : Nat} {ann : Option Value} {q : Pos} {F : Nat} {ks : Ks} (h1 : LookQ (stepT (denote tb) P w) sd n0 ann q F ks) (h2 : LookN (stepT (denote tb) P w) sd n0 ann q F (pairsOf ks)) :
    KtOk tb P w sd n0 ann q F ks :=
  ⟨fun p hp b e gd lv pos => map_eq_mem (h1 b e gd lv pos) p hp, pairsOf_pw fun x hx b e gd lv pos => map_eq_mem (h2 b e gd lv pos) x hx⟩
/-! ### the keys alone -/
def keysX (st : SharedT → Thread → Option (SharedT × Thread)) (F M k0 : Nat) (p : Program) (env : Nat → PySem.Env) (b : List Stmt) (d : Mid) (w : World) (os : OsState) : Ks := match putAll (boot_heap w.params).objs.toList .nil 0 with
  | some (t, n) => frNat n fun n0 => match goT st n0 (bootAnn w) k0 (bootT w os (t, n0)) (topStub p) with
    | some (s1, t1) => (match midX st n0 (bootAnn w) default F M (env n0) b d ⟨s1, t1.code, t1.pos, [], 0⟩ with
      | some (_, x4) => x4.ks
      | none => [])
    | none => []
  | none => []
theorem keysX_eq {st : SharedT → Thread → Option (SharedT × Thread)} {F M k0 Mr : Nat} {p : Program} {env : Nat → PySem.Env} {b : List Stmt} {d : Mid} {w : World} {os : OsState} {s5 : SharedT} {ks : Ks} {m : Nat} (h : endX st F M k0 Mr p env b d w os = some (s5, ks, m)) : keysX st F M k0 p env b d w os = ks := by
  unfold endX at h
  unfold keysX
  cases e : putAll (boot_heap w.params).objs.toList .nil 0 with
  | none => rw [e] at h; cases h
  | some r =>
    obtain ⟨t, n⟩ := r
    rw [e] at h
    dsimp only at h ⊢
    rw [frNat_eq] at h ⊢
    unfold topX at h
    cases e1 : goT st n (bootAnn w) k0 (bootT w os (t, n)) (topStub p) with
    | none => rw [e1] at h; cases h
    | some u =>
      obtain ⟨s1, t1⟩ := u
      rw [e1] at h
      dsimp only at h ⊢
      cases e2 : midX st n (bootAnn w) default F M (env n) b d ⟨s1, t1.code, t1.pos, [], 0⟩ with
      | none => rw [e2] at h; cases h
      | some u2 =>
        obtain ⟨_, x4⟩ := u2
        rw [e2] at h
        dsimp only at h ⊢
        cases e3 : goF st n (bootAnn w) Mr x4.s (restOf (b.drop (d.i + 1)) (env n) x4.c x4.p [topFrame default]) with
        | none => rw [e3] at h; cases h
        | some s6 => rw [e3] at h; cases h; rfl
/-- a dummy -/
def sdX (w : World) (os : OsState) : SharedT := ⟨.nil, 0, (boot_heap w.params).life, #[], boot_drawn, 0, os⟩
/-- the run told by the kernel -/
abbrev RunX (r : OpenRow) (q : Program) (H : Hook) (ob : SharedT → H.α) (st : SharedT → Thread → Option (SharedT × Thread)) (F M k0 Mr Mt : Nat) (loose : List PySem.Str) (env : Nat → PySem.Env) (b : List Stmt) (d : Mid) (w : World) (os : OsState) : Prop :=
  (endX st F M k0 Mr r.prog env b d w os).map (fun z => (looksF r.prog (boot_heap w.params) z.1.abs, seenQ q loose (importedModules r.prog.main.body) (fun s => xlAt q [] s && recOk r.toRowW.records s) z.1.abs, ob z.1, frNat z.2.2 fun m => Nat.ble m Mt)) = some (true, openGood q loose, H.val w, true)
/-- the run told by the kernel in two parts -/
abbrev RunA (r : OpenRow) (st : SharedT → Thread → Option (SharedT × Thread)) (F M k0 Mr Mt : Nat) (env : Nat → PySem.Env) (b : List Stmt) (d : Mid) (w : World) (os : OsState) : Prop :=
  (endX st F M k0 Mr r.prog env b d w os).map (fun z => (looksF r.prog (boot_heap w.params) z.1.abs, frNat z.2.2 fun m => Nat.ble m Mt)) = some (true, true)
abbrev RunB (r : OpenRow) (q : Program) (st : SharedT → Thread → Option (SharedT × Thread)) (F M k0 Mr : Nat) (loose : List PySem.Str) (env : Nat → PySem.Env) (b : List Stmt) (d : Mid) (w : World) (os : OsState) : Prop :=
  (endX st F M k0 Mr r.prog env b d w os).map (fun z => seenQ q loose (importedModules r.prog.main.body) (fun s => xlAt q [] s && recOk r.toRowW.records s) z.1.abs) = some (openGood q loose)
abbrev RunC (r : OpenRow) (H : Hook) (ob : SharedT → H.α) (st : SharedT → Thread → Option (SharedT × Thread)) (F M k0 Mr : Nat) (env : Nat → PySem.Env) (b : List Stmt) (d : Mid) (w : World) (os : OsState) : Prop :=
  (endX st F M k0 Mr r.prog env b d w os).map (fun z => ob z.1) = some (H.val w)
theorem runX_of {r : OpenRow} {q : Program} {H : Hook} {ob : SharedT → H.α} {st : SharedT → Thread → Option (SharedT × Thread)} {F M k0 Mr Mt : Nat} {loose : List PySem.Str} {env : Nat → PySem.Env} {b : List Stmt} {d : Mid} {w : World} {os : OsState}
    (h1 : RunA r st F M k0 Mr Mt env b d w os) (h2 : RunB r q st F M k0 Mr loose env b d w os) (h3 : RunC r H ob st F M k0 Mr env b d w os) : RunX r q H ob st F M k0 Mr Mt loose env b d w os := by
  unfold RunA at h1
  unfold RunB at h2
  unfold RunC at h3
  unfold RunX
  cases e : endX st F M k0 Mr r.prog env b d w os with
  | none => rw [e] at h1; cases h1
  | some z =>
    rw [e] at h1 h2 h3
    simp only [Option.map_some, Option.some.injEq, Prod.mk.injEq] at h1 h2 h3 ⊢
    exact ⟨h1.1, h2, h3, h1.2⟩
theorem top_of {r : OpenRow} {q : Program} {H : Hook} {ob : SharedT → H.α} {F M k0 Mr Mt : Nat} {loose : List PySem.Str} {env : Nat → PySem.Env} {b : List Stmt} {d : Mid} {w : World} {os : OsState} {pos : Pos} (ho : ∀ s : SharedT, ob s = H.obs s.abs)
    (hb : b = b.take d.i ++ d.st :: b.drop (d.i + 1)) (hs : ∀ n, swapsWithSole d.targets (.Dict d.keys d.values d.pd) d.pos.line (env n) = pure false)
    (ht : preX (stepQ (denQ tabQ) r.prog w) k0 r.prog w os = some ⟨denQ tabQ (.body b (env (boot_heap w.params).objs.size)), .body b (env (boot_heap w.params).objs.size), pos, [topFrame default]⟩)
    (run : RunX r q H ob (stepQ (denQ tabQ) r.prog w) F M k0 Mr Mt loose env b d w os)
    (kt1 : LookQ (stepQ (denQ tabQ) r.prog w) (sdX w os) (boot_heap w.params).objs.size (bootAnn w) default F (keysX (stepQ (denQ tabQ) r.prog w) F M k0 r.prog env b d w os))
    (kt2 : LookN (stepQ (denQ tabQ) r.prog w) (sdX w os) (boot_heap w.params).objs.size (bootAnn w) default F (pairsOf (keysX (stepQ (denQ tabQ) r.prog w) F M k0 r.prog env b d w os))) :
    TopX r.prog q loose (fun s => xlAt q [] s && recOk r.toRowW.records s) H.obs H.val (k0 + (Mt + Mr)) w os := by
  unfold RunX at run
  rw [← stepQ_eq, ← denQ_eq, ← tabQ_eq] at ht run kt1 kt2
  rw [Option.map_eq_some_iff] at run
  obtain ⟨⟨s5, ks, m⟩, hrun, hv⟩ := run
  have hv' : looksF r.prog (boot_heap w.params) s5.abs = true ∧ seenQ q loose (importedModules r.prog.main.body) (fun s => xlAt q [] s && recOk r.toRowW.records s) s5.abs = openGood q loose ∧ ob s5 = H.val w ∧ Nat.ble m Mt = true := by
    injection hv with a1 a2
    injection a2 with a2 a3
    injection a3 with a3 a4
    rw [frNat_eq] at a4
    exact ⟨a1, a2, a3, a4⟩
  obtain ⟨v1, v2, v3, v4⟩ := hv'
  rw [keysX_eq hrun] at kt1 kt2
  have tr := endX_ok hb hs ht hrun (ktOk_of kt1 kt2)
  have le := Nat.le_of_ble_eq_true v4
  have tr' := topRun_mono (Mt - m) _ _ _ _ tr
  rw [show k0 + (m + Mr) + (Mt - m) = k0 + (Mt + Mr) by omega] at tr'
  exact ⟨s5.abs, tr', v1, by rw [seenQ_eq]; exact v2, by rw [← ho]; exact v3⟩
end HR
end
noncomputable section
namespace LW
open PySem PySem.W PySem.Calls PyProof.Rows HandSHeadRun HR L2 DL
abbrev LR : OpenRow := OpenLaw.row PySem.Challenge.rw_sumwarden_k07_values_of_sums
abbrev P0 : Program := LR.prog
def topS (i : Nat) : Stmt := PySem.Challenge.pw_sumwarden_k07_values_of_sums.main.body.getD i (.Pass ⟨0, 0, 0, 0⟩)
def loose0 : List PySem.Str := ["WardenError", "BadSum", "BadAt", "WORDS", "SMALL", "DIGITS", "ROW_SIGNS", "MOST_NUMBER", "is_row", "is_name", "FIELDS", "LEAF_KINDS", "ROWS", "MAYBES", "MOST_TREES", "is_number", "is_whole", "is_leaf", "fields_of", "is_shaped", "is_sum", "COMPARISONS", "QUANTIFIERS", "LEAVES", "SECOND"]
def loose1 : List PySem.Str := ["FIRST", "parts_of", "ordered", "scoped", "free_names", "divided", "compared", "made_of_one", "made_of_two", "made_of", "worth", "check_sum", "check_at", "value", "_law_bag", "_law_take", "_law_kind_same", "_law_worth", "_law_number", "_law_name", "_law_sum_names", "_law_deep_sum", "_law_told", "_law_unfit"]
def loose : List PySem.Str := loose0 ++ loose1
abbrev qv : Program := view P0 [56]
def f_is_row : He.DefD := ⟨("is_row", none), "is_row", "is_row", defArgs (topS 10), defBody (topS 10), defScope (topS 10), [], []⟩
def f_is_name : He.DefD := ⟨("is_name", none), "is_name", "is_name", defArgs (topS 11), defBody (topS 11), defScope (topS 11), [], []⟩
def f_is_number : He.DefD := ⟨("is_number", none), "is_number", "is_number", defArgs (topS 18), defBody (topS 18), defScope (topS 18), [], []⟩
def f_is_whole : He.DefD := ⟨("is_whole", none), "is_whole", "is_whole", defArgs (topS 19), defBody (topS 19), defScope (topS 19), [], []⟩
def f_is_leaf : He.DefD := ⟨("is_leaf", none), "is_leaf", "is_leaf", defArgs (topS 20), defBody (topS 20), defScope (topS 20), [], []⟩
def f_fields_of : He.DefD := ⟨("fields_of", none), "fields_of", "fields_of", defArgs (topS 21), defBody (topS 21), defScope (topS 21), [], []⟩
def f_is_shaped : He.DefD := ⟨("is_shaped", none), "is_shaped", "is_shaped", defArgs (topS 22), defBody (topS 22), defScope (topS 22), [], []⟩
def f_is_sum : He.DefD := ⟨("is_sum", none), "is_sum", "is_sum", defArgs (topS 23), defBody (topS 23), defScope (topS 23), [], []⟩
def f_parts_of : He.DefD := ⟨("parts_of", none), "parts_of", "parts_of", defArgs (topS 30), defBody (topS 30), defScope (topS 30), [], []⟩
def f_ordered : He.DefD := ⟨("ordered", none), "ordered", "ordered", defArgs (topS 31), defBody (topS 31), defScope (topS 31), [], []⟩
def f_scoped : He.DefD := ⟨("scoped", none), "scoped", "scoped", defArgs (topS 32), defBody (topS 32), defScope (topS 32), [], []⟩
def f_free_names : He.DefD := ⟨("free_names", none), "free_names", "free_names", defArgs (topS 33), defBody (topS 33), defScope (topS 33), [], []⟩
def f_divided : He.DefD := ⟨("divided", none), "divided", "divided", defArgs (topS 35), defBody (topS 35), defScope (topS 35), [], []⟩
def f_compared : He.DefD := ⟨("compared", none), "compared", "compared", defArgs (topS 36), defBody (topS 36), defScope (topS 36), [], []⟩
def f_made_of_one : He.DefD := ⟨("made_of_one", none), "made_of_one", "made_of_one", defArgs (topS 37), defBody (topS 37), defScope (topS 37), [], []⟩
def f_made_of_two : He.DefD := ⟨("made_of_two", none), "made_of_two", "made_of_two", defArgs (topS 38), defBody (topS 38), defScope (topS 38), [], []⟩
def f_made_of : He.DefD := ⟨("made_of", none), "made_of", "made_of", defArgs (topS 39), defBody (topS 39), defScope (topS 39), [], []⟩
def f_worth : He.DefD := ⟨("worth", none), "worth", "worth", defArgs (topS 40), defBody (topS 40), defScope (topS 40), [], []⟩
def f_check_sum : He.DefD := ⟨("check_sum", none), "check_sum", "check_sum", defArgs (topS 42), defBody (topS 42), defScope (topS 42), [], []⟩
def f_check_at : He.DefD := ⟨("check_at", none), "check_at", "check_at", defArgs (topS 43), defBody (topS 43), defScope (topS 43), [], []⟩
def f_value : He.DefD := ⟨("value", none), "value", "value", defArgs (topS 44), defBody (topS 44), defScope (topS 44), [], []⟩
def f_law_bag : He.DefD := ⟨("_law_bag", none), "_law_bag", "_law_bag", defArgs (topS 46), defBody (topS 46), defScope (topS 46), [], []⟩
def f_law_take : He.DefD := ⟨("_law_take", none), "_law_take", "_law_take", defArgs (topS 47), defBody (topS 47), defScope (topS 47), [], []⟩
def f_law_kind_same : He.DefD := ⟨("_law_kind_same", none), "_law_kind_same", "_law_kind_same", defArgs (topS 48), defBody (topS 48), defScope (topS 48), [], []⟩
def f_law_worth : He.DefD := ⟨("_law_worth", none), "_law_worth", "_law_worth", defArgs (topS 49), defBody (topS 49), defScope (topS 49), [], []⟩
def f_law_number : He.DefD := ⟨("_law_number", none), "_law_number", "_law_number", defArgs (topS 50), defBody (topS 50), defScope (topS 50), [], []⟩
def f_law_name : He.DefD := ⟨("_law_name", none), "_law_name", "_law_name", defArgs (topS 51), defBody (topS 51), defScope (topS 51), [], []⟩
def f_law_sum_names : He.DefD := ⟨("_law_sum_names", none), "_law_sum_names", "_law_sum_names", defArgs (topS 52), defBody (topS 52), defScope (topS 52), [], []⟩
def f_law_deep_sum : He.DefD := ⟨("_law_deep_sum", none), "_law_deep_sum", "_law_deep_sum", defArgs (topS 53), defBody (topS 53), defScope (topS 53), [], []⟩
def f_law_told : He.DefD := ⟨("_law_told", none), "_law_told", "_law_told", defArgs (topS 54), defBody (topS 54), defScope (topS 54), [], []⟩
def f_law_unfit : He.DefD := ⟨("_law_unfit", none), "_law_unfit", "_law_unfit", defArgs (topS 55), defBody (topS 55), defScope (topS 55), [], []⟩
def f_law : He.DefD := ⟨("law", none), "law", "law", defArgs (topS 56), defBody (topS 56), defScope (topS 56), [], []⟩
def fn0 : List He.DefD := [f_is_row, f_is_name, f_is_number, f_is_whole, f_is_leaf, f_fields_of, f_is_shaped, f_is_sum, f_parts_of, f_ordered, f_scoped, f_free_names, f_divided, f_compared, f_made_of_one, f_made_of_two, f_made_of, f_worth, f_check_sum, f_check_at, f_value, f_law_bag, f_law_take, f_law_kind_same, f_law_worth]
def fn1 : List He.DefD := [f_law_number, f_law_name, f_law_sum_names, f_law_deep_sum, f_law_told, f_law_unfit, f_law]
def fn : List He.DefD := fn0 ++ fn1
def fa0 : List He.Fa := [.glo "is_row", .glo "is_name", .glo "is_number", .glo "is_whole", .glo "is_leaf", .glo "fields_of", .glo "is_shaped", .glo "is_sum", .glo "parts_of", .glo "ordered", .glo "scoped", .glo "free_names", .glo "divided", .glo "compared", .glo "made_of_one", .glo "made_of_two", .glo "made_of", .glo "worth", .glo "check_sum", .glo "check_at", .glo "value", .glo "_law_bag", .glo "_law_take", .glo "_law_kind_same", .glo "_law_worth"]
def fa1 : List He.Fa := [.glo "_law_number", .glo "_law_name", .glo "_law_sum_names", .glo "_law_deep_sum", .glo "_law_told", .glo "_law_unfit", .glo "law", .free "ValueError", .free "all", .free "bool", .free "dict", .free "int", .free "isinstance", .free "len", .free "list", .free "range", .free "sorted", .free "str", .free "tuple", .free "zip", .glo "BadAt", .glo "WardenError", .exc "BadAt", .exm "BadAt" "BadAt" true]
def fa : List He.Fa := fa0 ++ fa1
def cn_WORDS : Cn := .val "WORDS" (.tup [.str "all", .str "and", .str "any", .str "asks", .str "claim", .str "else", .str "end", .str "falls", .str "fun", .str "gives", .str "if", .str "keeps", .str "not", .str "or", .str "promises", .str "some", .str "while"])
def cn_SMALL : Cn := .val "SMALL" (.str "abcdefghijklmnopqrstuvwxyz")
def cn_DIGITS : Cn := .val "DIGITS" (.str "0123456789")
def cn_ROW_SIGNS : Cn := .val "ROW_SIGNS" (.str "abcdefghijklmnopqrstuvwxyzABCDEFGHIJKLMNOPQRSTUVWXYZ0123456789_")
def cn_MOST_NUMBER : Cn := .val "MOST_NUMBER" (.int 999999)
def cn_FIELDS : Cn := .dict "FIELDS" [[.inr "sum", .inr "number"], [.inr "sum", .inr "name"], [.inr "sum", .inr "plus"], [.inr "sum", .inr "minus"], [.inr "sum", .inr "times"], [.inr "sum", .inr "over"], [.inr "sum", .inr "rest"], [.inr "formula", .inr "="], [.inr "formula", .inr "!="], [.inr "formula", .inr "<"], [.inr "formula", .inr "<="], [.inr "formula", .inr ">"], [.inr "formula", .inr ">="], [.inr "formula", .inr "not"], [.inr "formula", .inr "and"], [.inr "formula", .inr "or"], [.inr "formula", .inr "some"], [.inr "formula", .inr "all"], [.inr "statement", .inr "set"], [.inr "statement", .inr "call"], [.inr "statement", .inr "any"], [.inr "statement", .inr "claim"], [.inr "statement", .inr "if"], [.inr "statement", .inr "while"], [.inr "function", .inr "fun"]] [.tup [.str "whole"], .tup [.str "word"], .tup [.str "sum", .str "sum"], .tup [.str "sum", .str "sum"], .tup [.str "whole", .str "sum"], .tup [.str "sum", .str "divisor"], .tup [.str "sum", .str "divisor"], .tup [.str "sum", .str "sum"], .tup [.str "sum", .str "sum"], .tup [.str "sum", .str "sum"], .tup [.str "sum", .str "sum"], .tup [.str "sum", .str "sum"], .tup [.str "sum", .str "sum"], .tup [.str "formula"], .tup [.str "formula", .str "formula"], .tup [.str "formula", .str "formula"], .tup [.str "word", .str "formula"], .tup [.str "word", .str "formula"], .tup [.str "word", .str "sum"], .tup [.str "word", .str "word", .str "sums"], .tup [.str "word"], .tup [.str "formula"], .tup [.str "formula", .str "body", .str "body"], .tup [.str "formula", .str "maybe formula", .str "maybe sum", .str "body"], .tup [.str "word", .str "words", .str "word", .str "maybe formula", .str "maybe formula", .str "body"]]
def cn_LEAF_KINDS : Cn := .val "LEAF_KINDS" (.tup [.str "whole", .str "word", .str "divisor"])
def cn_ROWS : Cn := .dic "ROWS" [.inr "sums", .inr "words", .inr "body"] [.str "sum", .str "word", .str "statement"]
def cn_MAYBES : Cn := .dic "MAYBES" [.inr "maybe formula", .inr "maybe sum"] [.str "formula", .str "sum"]
def cn_MOST_TREES : Cn := .val "MOST_TREES" (.int 400)
def cn_COMPARISONS : Cn := .val "COMPARISONS" (.tup [.str "=", .str "!=", .str "<", .str "<=", .str ">", .str ">="])
def cn_QUANTIFIERS : Cn := .val "QUANTIFIERS" (.tup [.str "some", .str "all"])
def cn_LEAVES : Cn := .val "LEAVES" (.tup [.str "number", .str "name"])
def cn_SECOND : Cn := .val "SECOND" (.tup [.str "times", .str "some", .str "all"])
def cn_FIRST : Cn := .val "FIRST" (.tup [.str "over", .str "rest", .str "not"])
def cn : List Cn := [cn_WORDS, cn_SMALL, cn_DIGITS, cn_ROW_SIGNS, cn_MOST_NUMBER, cn_FIELDS, cn_LEAF_KINDS, cn_ROWS, cn_MAYBES, cn_MOST_TREES, cn_COMPARISONS, cn_QUANTIFIERS, cn_LEAVES, cn_SECOND, cn_FIRST]
def hk : Hook := hookC P0 4 fa fn cn
def ob : SharedT → hk.α := obT 4 fa fn cn
def bd : List Stmt := behindTheImports P0
def env (n0 : Nat) : PySem.Env := { scope := P0.main.scope, locals := mainNs, globals := mainNs, cells := [], code := .ref (n0 + 2), frame := some (n0 + 3) }
def mid : Mid := midOf bd 13
abbrev stq (w : World) : SharedT → Thread → Option (SharedT × Thread) := stepQ (denQ tabQ) P0 w
abbrev wb (w : World) (b : Bool) : World := w.withFollow "special-get-raises" b
abbrev nb (w : World) : Nat := (boot_heap w.params).objs.size
theorem pre (w : World) (os : OsState) : preX (stq w) 12 P0 w os = some ⟨denQ tabQ (.body bd (env (nb w))), .body bd (env (nb w)), default, [topFrame default]⟩ := by kernel_rfl
theorem runa_t (w : World) (os : OsState) : RunA LR (stq (wb w true)) 300 1000 12 20000 100000000 env bd mid (wb w true) os := by kernel_rfl
theorem runb_t (w : World) (os : OsState) : RunB LR qv (stq (wb w true)) 300 1000 12 20000 loose env bd mid (wb w true) os := by kernel_rfl
theorem runc_t (w : World) (os : OsState) : RunC LR hk ob (stq (wb w true)) 300 1000 12 20000 env bd mid (wb w true) os := by kernel_rfl
theorem run_t (w : World) (os : OsState) : RunX LR qv hk ob (stq (wb w true)) 300 1000 12 20000 100000000 loose env bd mid (wb w true) os := runX_of (runa_t w os) (runb_t w os) (runc_t w os)
theorem runa_f (w : World) (os : OsState) : RunA LR (stq (wb w false)) 300 1000 12 20000 100000000 env bd mid (wb w false) os := by kernel_rfl
theorem runb_f (w : World) (os : OsState) : RunB LR qv (stq (wb w false)) 300 1000 12 20000 loose env bd mid (wb w false) os := by kernel_rfl
theorem runc_f (w : World) (os : OsState) : RunC LR hk ob (stq (wb w false)) 300 1000 12 20000 env bd mid (wb w false) os := by kernel_rfl
theorem run_f (w : World) (os : OsState) : RunX LR qv hk ob (stq (wb w false)) 300 1000 12 20000 100000000 loose env bd mid (wb w false) os := runX_of (runa_f w os) (runb_f w os) (runc_f w os)
abbrev kk (w : World) (b : Bool) (os : OsState) : Ks := keysX (stq (wb w b)) 300 1000 12 P0 env bd mid (wb w b) os
theorem kq_t (w : World) (os : OsState) : LookQ (stq (wb w true)) (sdX (wb w true) os) (nb (wb w true)) (bootAnn (wb w true)) default 300 (kk w true os) := by intro b e gd lv pos; kernel_rfl
theorem kn0_t (w : World) (os : OsState) : LookN (stq (wb w true)) (sdX (wb w true) os) (nb (wb w true)) (bootAnn (wb w true)) default 300 ((pairsOf (kk w true os)).take 100) := by intro b e gd lv pos; kernel_rfl
theorem kn1_t (w : World) (os : OsState) : LookN (stq (wb w true)) (sdX (wb w true) os) (nb (wb w true)) (bootAnn (wb w true)) default 300 (((pairsOf (kk w true os)).drop 100).take 100) := by intro b e gd lv pos; kernel_rfl
theorem kn2_t (w : World) (os : OsState) : LookN (stq (wb w true)) (sdX (wb w true) os) (nb (wb w true)) (bootAnn (wb w true)) default 300 (((pairsOf (kk w true os)).drop 100).drop 100) := by intro b e gd lv pos; kernel_rfl
theorem kq_f (w : World) (os : OsState) : LookQ (stq (wb w false)) (sdX (wb w false) os) (nb (wb w false)) (bootAnn (wb w false)) default 300 (kk w false os) := by intro b e gd lv pos; kernel_rfl
theorem kn0_f (w : World) (os : OsState) : LookN (stq (wb w false)) (sdX (wb w false) os) (nb (wb w false)) (bootAnn (wb w false)) default 300 ((pairsOf (kk w false os)).take 100) := by intro b e gd lv pos; kernel_rfl
theorem kn1_f (w : World) (os : OsState) : LookN (stq (wb w false)) (sdX (wb w false) os) (nb (wb w false)) (bootAnn (wb w false)) default 300 (((pairsOf (kk w false os)).drop 100).take 100) := by intro b e gd lv pos; kernel_rfl
theorem kn2_f (w : World) (os : OsState) : LookN (stq (wb w false)) (sdX (wb w false) os) (nb (wb w false)) (bootAnn (wb w false)) default 300 (((pairsOf (kk w false os)).drop 100).drop 100) := by intro b e gd lv pos; kernel_rfl
theorem hb : bd = bd.take mid.i ++ mid.st :: bd.drop (mid.i + 1) := by kernel_rfl
theorem hs (n : Nat) : swapsWithSole mid.targets (.Dict mid.keys mid.values mid.pd) mid.pos.line (env n) = pure false := by kernel_rfl
theorem top (w : World) (os : OsState) : TopX P0 qv loose (fun s => xlAt qv [] s && recOk LR.toRowW.records s) hk.obs hk.val (12 + (100000000 + 20000)) w os := by
  revert os
  refine byRow2 "special-get-raises" (P := fun w => ∀ os, TopX P0 qv loose (fun s => xlAt qv [] s && recOk LR.toRowW.records s) hk.obs hk.val (12 + (100000000 + 20000)) w os) (fun w os => ?_) (fun w os => ?_) w
  · exact top_of obT_eq hb hs (pre _ os) (run_f w os) (kq_f w os) (.split 100 (kn0_f w os) (.split 100 (kn1_f w os) (kn2_f w os)))
  · exact top_of obT_eq hb hs (pre _ os) (run_t w os) (kq_t w os) (.split 100 (kn0_t w os) (.split 100 (kn1_t w os) (kn2_t w os)))
end LW
end
section
/-! The D-layer, part 9: sets, zips, calls by names. -/
namespace DL
open PySem PySem.Spec PyProof.Rows L2
/-! ### sets -/
theorem CellIs.sn {M : Md} {H : Hp} {a : Addr} {ms : List Key} : CellIs M (upd H a (SetO2 M.w a ms)) a (.set (ms.map kD)) := ⟨ms, upd_same, rfl⟩
def putD (acc : List D) (y : D) : List D := if (acc.any fun x => keq x y) = true then acc else acc ++ [y]
theorem putD_kD (ms : List Key) (k : Key) : putD (ms.map kD) (kD k) = (putM ms k).map kD := by
  unfold putD putM
  have e : ((ms.map kD).any fun x => keq x (kD k)) = inM ms k := by
    unfold inM
    rw [List.any_map]
    congr 1
    funext j
    exact keq_kD j k
  rw [e]
  split
  · rfl
  · rw [List.map_append]; rfl
def dSc (src : DTI) (g : DTG) (tt : DTT) (te : DTE) (vs : List Nat) : DTE := fun ε S Q => src ε S fun xs stb S1 => ∀ p, S1 p = none → ∃ W : Nat → List D → Sto → Prop,
  W 0 [] (put S1 p (.set [])) ∧ (∀ i acc S, i ≤ xs.length → W i acc S → stb S) ∧
  (∀ (i : Nat) x acc S, xs[i]? = some x → W i acc S → g x (dWipe ε vs) S fun ε2 S2 => tt ε2 S2 fun b S3 => if b = true then te ε2 S3 fun y S4 => S4 p = some (.set acc) ∧ isFlatK y = true ∧ acc.length + 1 < scanBound ∧ W (i + 1) (putD acc y) (put S4 p (.set (putD acc y))) else W (i + 1) acc S3) ∧
  ∀ acc S, W xs.length acc S → Q (.ref p) S
theorem tSq_of {X : Cx} {src : DTI} {g : DTG} {tt : DTT} {te : DTE} {vs : List Nat} {ti : TI} {σ : L2.St} {H : Hp} {ε : Env} {S : Sto} {Q : DK} {Q2 : VK}
    (hi : ∀ σ H ε S K, Ep (Cxmd X) H σ ε → Rp (Cxmd X) H S → src ε S K → ∀ R : It → Hp → Prop, (∀ J H' xs stb S', TLe H H' → Rp (Cxmd X) H' S' → ItOk (Cxmd X) J H' xs stb → K xs stb S' → R J H') → ti σ H R)
    (he : Ep (Cxmd X) H σ ε) (hr : Rp (Cxmd X) H S) (q : dSc src g tt te vs ε S Q) (k : ∀ v H' d S', TLe H H' → Is (Cxmd X) H' v d → Rp (Cxmd X) H' S' → Q d S' → Q2 v H') :
    tSq X.w ti (tgOf (Cxmd X) vs g) (ttOf (Cxmd X) tt) (teOf (Cxmd X) te) vs σ H Q2 := by
  refine hi σ H ε S _ he hr q _ fun J H1 xs stb S1 l1 p1 ok q1 p np => ?_
  obtain ⟨W, w0, ws, turn, fin⟩ := q1 p (p1.free np)
  have l0 : TLe H1 (upd H1 p (SetO2 X.w p [])) := TLe.new np
  refine ⟨fun i m H' => m = xs.length - i ∧ i ≤ xs.length ∧ ∃ acc S', TLe H1 H' ∧ Rp (Cxmd X) H' S' ∧ W i acc S', ⟨xs.length, by simp, Nat.zero_le _, [], _, l0, p1.put l0 (CellIs.sn (ms := [])), w0⟩, ?_⟩
  rintro i m H' ⟨rfl, le, acc, S', l2, p2, w⟩
  have st := ws i acc S' le w
  by_cases lt : i < xs.length
  · refine .inr ⟨ok.go i H' S' lt l2 p2 st, fun H'' => ∃ acc S'', TLe H1 H'' ∧ Rp (Cxmd X) H'' S'' ∧ W (i + 1) acc S'', fun H'' z => ⟨xs.length - (i + 1), by omega, rfl, lt, z⟩, fun x H3 y => ?_⟩
    obtain ⟨d, e3, l3, r3, p3⟩ := ok.yld i H' S' x H3 lt l2 p2 st y
    have ll := l2.trans l3
    refine ⟨d, dWipe ε vs, S', _, r3, ((he.mono l1).mono ll).wipe vs, p3, turn i d acc S' e3 w, fun σ4 H4 ε4 S4 l4 o4 e4 p4 q4 => ⟨wipe_onl o4, ?_⟩⟩
    refine ⟨ε4, S4, _, e4, p4, q4, fun b H5 S5 l5 p5 q5 => ?_⟩
    cases b with
    | false => exact iteF ⟨acc, S5, (ll.trans l4).trans l5, p5, q5⟩
    | true =>
      refine iteT ⟨ε4, S5, _, e4.mono l5, p5, q5, fun v H6 d6 S6 l6 r6 p6 ⟨h6, f6, z6, w6⟩ => ?_⟩
      obtain ⟨ms, h7, e7⟩ := p6 _ _ h6
      obtain ⟨k6, rfl⟩ := flatK_kD f6
      subst e7
      rw [putD_kD] at w6
      have l7 : TLe H6 (upd H6 p (SetO2 X.w p (putM ms k6))) := TLe.mut (by rw [h7]; trivial)
      exact ⟨k6, ms, is_kD r6, h7, by rw [List.length_map] at z6; exact z6, (putM ms k6).map kD, _, (((ll.trans l4).trans l5).trans l6).trans l7, p6.put l7 (CellIs.sn (M := Cxmd X)), w6⟩
  · have e : i = xs.length := by omega
    subst e
    exact .inl ⟨ok.stop H' S' l2 p2 st, k _ H' _ S' (l1.trans l2) Is.r p2 (fin acc S' w)⟩
section
variable {X : Cx} {elt tg iter : Expr} {ifs : List Expr} {scope : Scope} {own : List (Str × Nat)} {pos : Pos} {src : DTI} {g : DTG} {tt : DTT} {te : DTE}
theorem de_sc (hc : X.calm = true) (hN : X.N.Nodup) (hi : DI X tg iter src) (ok : BlkOk X.N X.env.scope scope own)
    (hg : ∀ (s : Shared) (H : Hp) (C : Addr) (cl : List (Str × Addr)) (fp : List Addr), DG (X.blk s H scope (compEnvC scope cl C X.env) fp) tg (own.map (·.2)) g) (ht : ∀ (s : Shared) (H : Hp) (C : Addr) (cl : List (Str × Addr)) (fp : List Addr), DTs (X.blk s H scope (compEnvC scope cl C X.env) fp) ifs tt)
    (he : ∀ (s : Shared) (H : Hp) (C : Addr) (cl : List (Str × Addr)) (fp : List Addr), DE (X.blk s H scope (compEnvC scope cl C X.env) fp) elt te) (hs : ∀ x, foldedSetIterable iter X.env x = pure x := by intro _; rfl) :
    DE X (.SetComp elt [⟨tg, iter, ifs, 0⟩] scope pos) (dSc src g tt te (own.map (·.2))) := by
  obtain ⟨ti, a1, a2⟩ := hi.ex
  exact ⟨_, pe_sq hc hN a1 ok (fun s H C cl fp => (show PG (X.blk s H scope (compEnvC scope cl C X.env) fp) tg (tgOf (Cxmd X) (own.map (·.2)) g) from (hg s H C cl fp).pg)) (fun s H C cl fp => (show PTs (X.blk s H scope (compEnvC scope cl C X.env) fp) ifs (ttOf (Cxmd X) tt) from (ht s H C cl fp).pts)) (fun s H C cl fp => (show PE (X.blk s H scope (compEnvC scope cl C X.env) fp) elt (teOf (Cxmd X) te) from (he s H C cl fp).pe)) hs, fun σ H ε S Q he hr q Q2 k => tSq_of (X := X) a2 he hr q k⟩
end
/-- set(xs) of a list of ints and texts -/
def oSetOf : DR := fun ds S Q => ∃ d xs, ds = [d] ∧ (¬ ∃ ys, d = .tup ys) ∧ itemsD d S = some xs ∧ xs.all isFlatK = true ∧ xs.length < scanBound ∧ ∀ p, S p = none → Q (.ref p) (put S p (.set (xs.foldl putD [])))
theorem foldl_putM : ∀ (ks ms : List Key), (ks.map kD).foldl putD (ms.map kD) = (ks.foldl putM ms).map kD
  | [], ms => rfl
  | k :: ks, ms => by
    rw [List.map_cons, List.foldl_cons, List.foldl_cons, putD_kD]
    exact foldl_putM ks (putM ms k)
theorem dcl_setOf {X : Cx} (hc : X.calm = true) : DCl X (.type "set") oSetOf := by
  refine ⟨_, cr_setL hc, fun vs ds H S Q ix hr ⟨d, xs, e, nt, e1, hf, hb, q⟩ Q2 k => ?_⟩
  subst e
  obtain ⟨v, e, r⟩ := ix.one
  subst e
  obtain ⟨p, us, e3, sq, l⟩ := itemsN_is hr r e1 nt
  subst e3
  obtain ⟨ks, rfl⟩ := flatKL_kD hf
  rw [isL_kD l] at sq
  refine ⟨p, ks, rfl, sq, by rw [List.length_map] at hb; exact hb, fun n hn => ?_⟩
  have t4 : TLe H (upd H n (SetO2 X.w n (ks.foldl putM []))) := TLe.new hn
  exact k _ _ _ _ t4 Is.r (hr.put t4 (by rw [show (ks.map kD).foldl putD [] = (ks.foldl putM []).map kD from foldl_putM ks []]; exact CellIs.sn (M := Cxmd X))) (q n (hr.free hn))
def strD : D → Option Str
  | .str s => some s
  | _ => none
def strsD : List D → Option (List Str)
  | [] => some []
  | d :: ds => match strD d, strsD ds with
    | some x, some xs => some (x :: xs)
    | _, _ => none
theorem strsD_eq : ∀ {ds : List D} {xs : List Str}, strsD ds = some xs → ds = xs.map D.str
  | [], xs, h => by cases h; rfl
  | d :: ds, xs, h => by
    unfold strsD at h
    split at h
    · rename_i x ys h1 h2
      cases h
      rw [strsD_eq h2]
      cases d with
      | str s => cases h1; rfl
      | _ => cases h1
    · cases h
theorem strsD_map : ∀ xs : List Str, strsD (xs.map D.str) = some xs
  | [] => rfl
  | x :: xs => by
    show (match strD (.str x), strsD (xs.map D.str) with | some x, some xs => some (x :: xs) | _, _ => none) = _
    rw [strsD_map xs]
    rfl
theorem isL_strs {M : Md} {H : Hp} : ∀ {xs : List Str}, IsL M H (xs.map V.str) (xs.map D.str)
  | [] => IsL.nil
  | x :: xs => IsL.cons Is.s isL_strs
theorem isL_strs_eq {M : Md} {H : Hp} : ∀ {xs : List Str} {vs : List V}, IsL M H vs (xs.map D.str) → vs = xs.map V.str
  | [], vs, h => h
  | x :: xs, vs, h => by
    obtain ⟨v, r, e, q, z⟩ := (show ∃ v r, vs = v :: r ∧ Is M H v (.str x) ∧ IsL M H r (xs.map D.str) from h)
    rw [e, show v = _ from q, isL_strs_eq z]; rfl
/-- sorted of a set or a list of texts -/
def oSorted : DR := fun ds S Q => ∃ (a : Addr) (xs : List Str), ds = [.ref a] ∧ (S a = some (.set (xs.map D.str)) ∨ (S a = some (.lst (xs.map D.str)) ∧ xs.length ≤ sizeLine)) ∧ ∀ ys p, ys.Perm xs → sortedS ys = true → S p = none → Q (.ref p) (put S p (.lst (ys.map D.str)))
def rSortAny (K : PySem.W.Frag) : List V → Hp → VK → Prop := fun vs H Q => ∃ (a : Addr) (xs : List Str), vs = [V.ref a] ∧ SqL K H a (xs.map V.str) ∧ xs.length ≤ sizeLine ∧ ∀ (ys : List Str) (p : Addr), ys.Perm xs → sortedS ys = true → H p = none → Q (.ref p) (upd H p (.lst (ys.map V.str)))
theorem cr_sortAny {X : Cx} : CallR X (.builtin "sorted") (rSortAny X.K) := by
  intro pins s σ H vs us Q I r h
  obtain ⟨a, xs, rfl, hs, hn, q⟩ := h
  obtain ⟨its, rv, hl, _⟩ := I.list hs
  rw [Vals.ref1 r]
  have e0 := rv.length
  rw [List.length_map] at e0
  refine PyProof.Rows.sorted_strsAny hl.isList rv.strs (by rw [← e0]; exact hn) fun out ys h1 h2 h3 => ?_
  obtain ⟨ep, he⟩ := PyProof.Rows.sortedAll_at s.heap its out
  have hlen : (ys.map V.str).length ≤ sizeLine := by rw [List.length_map, h2.length_eq]; exact hn
  exact ⟨.ref _, upd H (s.heap.objs.size + 1) (.lst (ys.map V.str)), I.laid (t' := s.toks) (fun _ _ => PyProof.Rows.sortedAll_old) (Nat.le_succ _) ⟨hlen, out.toList, ep, vals_of_strs h1, he⟩, rfl, q ys _ h2 h3 (I.hok.fresh (Nat.le_succ _))⟩
theorem map_kD_str {xs : List Str} {ms : List Key} (h : xs.map D.str = ms.map kD) : ms = xs.map .inr := by
  induction xs generalizing ms with
  | nil => cases ms with
    | nil => rfl
    | cons m ms => cases h
  | cons x xs ih => cases ms with
    | nil => cases h
    | cons m ms =>
      rw [List.map_cons, List.map_cons] at h
      injection h with h1 h2
      rw [ih h2, List.map_cons]
      cases m with
      | inl i => cases h1
      | inr y => cases h1; rfl
theorem dcl_sorted {X : Cx} (hc : X.calm = true) : DCl X (.builtin "sorted") oSorted := by
  refine ⟨_, (cr_sortSet hc).or cr_sortAny, fun vs ds H S Q ix hr ⟨a, xs, e, e1, q⟩ Q2 k => ?_⟩
  subst e
  obtain ⟨v, e, r⟩ := ix.one
  subst e
  have r' : v = .ref a := r
  subst r'
  have fin : ∀ (ys : List Str) (p : Addr), ys.Perm xs → sortedS ys = true → H p = none → Q2 (.ref p) (upd H p (.lst (ys.map V.str))) := fun ys p h1 h2 h3 => by
    have t4 : TLe H (upd H p (.lst (ys.map V.str))) := TLe.new h3
    exact k _ _ _ _ t4 Is.r (hr.put t4 (CellIs.ln isL_strs)) (q ys p h1 h2 (hr.free h3))
  rcases e1 with e1 | ⟨e1, hn⟩
  · obtain ⟨ms, h1, h2⟩ := hr _ _ e1
    rw [map_kD_str h2] at h1
    exact .inl ⟨a, xs, rfl, h1, fin⟩
  · obtain ⟨us, h1, h2⟩ := hr _ _ e1
    rw [isL_strs_eq h2] at h1
    exact .inr ⟨a, xs, rfl, SqL.of h1, hn, fin⟩
/-! ### calls by names -/
structure OkfK (C : Wd) (x : Str) (ps : List Str) (k : Nat) (sp : DSp) : Prop where
  ex : ∃ fa fd, C.mg x = some (.ref fa) ∧ PySem.W.keepIn C.K (.ref fa) = true ∧ (∀ (s : Shared) (ws : List Value), ws.length = ps.length → BindsTo s fd ⟨[], ps.zip ws⟩ (ps.zip ws)) ∧ FnOk C.P C.w C.K C.mg C.base (L2.CX C.P C.w) k fa fd ps (lift ⟨C.P, C.w, C.K⟩ sp)
theorem OkfK.imp {C : Wd} {x : Str} {ps : List Str} {k : Nat} {f g : DSp} (h : OkfK C x ps k g) (i : ∀ ds S Q E, f ds S Q E → g ds S Q E) : OkfK C x ps k f := by
  obtain ⟨fa, fd, a, b, d, e⟩ := h.ex
  exact ⟨fa, fd, a, b, d, e.imp (lift_imp i)⟩
theorem okFK {C : Wd} {x : Str} {st : Stmt} {N ps : List Str} {k : Nat} {sp : DSp} {t : DTS} (T : Def C x st) (S : FnScope N ps (defScope st))
    (bnd : ∀ (kV doc pm : Value) (an : Option Addr) (cdv ct : Value) (ws : List Value), ws.length = ps.length → bindArgs (PySem.W.fnOf x x (defArgs st) (defBody st) (defScope st) .none kV doc pm an cdv ct) ⟨[], ps.zip ws⟩ = pure (ps.zip ws))
    (len : ∀ ds S Q E, sp ds S Q E → ds.length = ps.length)
    (drv : ∀ (fa : Addr) (cdv : Value) (A : Around) (outer : List PySem.Env) (s : Shared) (H : Hp) (E : XK), Room k (A.deeper (envOfC x (defScope st) s.heap.objs.size fa cdv)) → DSs (XC C N x st fa cdv A outer s H E) (defBody st) t)
    (rd : ∀ ds S Q E, sp ds S Q E → t { nx := fun _ S' => Dn Q .non S', rt := Dn Q } (startD N.length ds) S) : OkfK C x ps (k + 1) sp := by
  obtain ⟨fa, fd, F, hm⟩ := T.ex
  refine ⟨fa, fd, hm, F.kp, fun s ws hl => ?_, okD F S len (fun cdv A outer s H E hr => drv fa cdv A outer s H E hr) rd⟩
  obtain ⟨oc, od, dV, kV, doc, pm, an, cdv, ct, osl, e, lk, hcd, hD, hK⟩ := F.ex
  subst e
  rcases hD with ⟨_, e⟩ | ⟨e, _⟩
  · subst e
    exact .of_eq (bnd kV doc pm an cdv ct ws hl)
  · exact absurd rfl e
/-- the values of the keywords -/
structure DK2 (X : Cx) (kws : List Keyword) (t : DTA) : Prop where
  ex : ∃ te, PK X kws te ∧ ∀ σ H ε S Q, Ep (Cxmd X) H σ ε → Rp (Cxmd X) H S → t ε S Q → ∀ Q2 : List V → Hp → Prop, (∀ vs H' ds S', TLe H H' → IsL (Cxmd X) H' vs ds → Rp (Cxmd X) H' S' → Q ds S' → Q2 vs H') → te σ H Q2
section
variable {X : Cx} {k : Nat} {ps : List Str} {sp : DSp} {x : Str} {p pos kpos : Pos} {e : Expr} {kws : List Keyword} {nm : Option Str} {t : DTA} {te : DTE}
theorem dk_nil : DK2 X [] dNil := ⟨_, pk_nil, fun σ H ε S Q he hr q Q2 k => k _ H _ S (TLe.refl H) IsL.nil hr q⟩
theorem dk_cons (h : DE X e te) (g : DK2 X kws t) : DK2 X (⟨nm, e, kpos⟩ :: kws) (dCons te t) := by
  obtain ⟨t1, a1, a2⟩ := h.ex
  obtain ⟨t2, b1, b2⟩ := g.ex
  refine ⟨_, pk_cons a1 b1, fun σ H ε S Q he hr q Q2 k => ?_⟩
  refine a2 σ H ε S _ he hr q _ fun v H1 d S1 l1 r1 p1 q1 => ?_
  refine b2 σ H1 ε S1 _ (he.mono l1) p1 q1 _ fun vs H2 ds S2 l2 r2 p2 q2 => ?_
  exact k _ H2 _ S2 (l1.trans l2) (IsL.cons (Is.mono l2 r1) r2) p2 q2
/-- f(p = e, ..), the parameters all by name and in their order -/
theorem de_callKw (h : OkfK ⟨X.prog, X.w, X.K, X.mg, X.base⟩ x ps k sp) (hr : Room k X.A) (hg : Gl X x) (ha : DK2 X kws t)
    (hall : (backToKw pos (keywordEach kws X.env)).all (·.1.isSome) = true := by rfl) (hks : (backToKw pos (keywordEach kws X.env)).filterMap (·.1) = ps := by rfl)
    (hdb : (x == ("__debug__" : Str)) = false := by decide) (hpl : ((backTo pos (starEach [] X.env)).any (·.1) || (backToKw pos (keywordEach kws X.env)).any (·.1.isNone)) = false := by rfl) :
    DE X (.Call (.Name x p) [] kws pos) (dCall sp t) := by
  obtain ⟨fa, fd, hm, hk, hb, F⟩ := h.ex
  obtain ⟨t1, a1, a2⟩ := ha.ex
  refine ⟨fun σ H Q => t1 σ H fun vs H1 => lift (Cxmd X) sp vs H1 Q E0, ⟨fun pins s σ H Q I h => ?_⟩, fun σ H ε S Q he hr q Q2 k => ?_⟩
  · refine wpAny_Call_Name_kw (ld_glob I hg hm ?_ hdb)
    refine PySem.W.callWith_KW0 (h₀ := X.base) I.ok.mod.kin hk hall ?_ hpl
    refine thn (a1.run pos pins s σ H _ I h) fun ws s2 ⟨zs, H2, I2, rz, q2⟩ => ⟨I2.kIn, ?_⟩
    rw [hks]
    have hl : ws.length = ps.length := by rw [← rz.length]; exact F.len _ _ _ _ q2
    refine wpAny_call (codeAny_mono (F.run X.A X.stack s2 H2 ⟨[], ps.zip ws⟩ ws zs Q E0 hr I2.env0 (hb s2 ws hl) rz q2) fun r s' hq => ?_)
    cases r with
    | error e => exact (passL : Passes (L2.CX X.prog X.w) X E0) pins σ H2 s2 e s' I2 hq
    | ok fl =>
      cases fl with
      | ret u => exact I2.after hq
      | next => exact False.elim hq
      | brk => exact False.elim hq
      | cont => exact False.elim hq
  · refine a2 σ H ε S _ he hr q _ fun vs H1 ds S1 l1 r1 p1 q1 => ?_
    exact ⟨ds, S1, Q, E0D, r1, p1, q1, fun v H' d S' l2 r2 p2 q2 => k v H' d S' (l1.trans l2) r2 p2 q2, fun c o H' gs S' _ _ _ z => z.elim⟩
end
end DL
end
section
/-! The D-layer: list(zip(a, b)), a and b tuples. -/
namespace DLZ
open PySem PySem.Spec PyProof.Rows L2 DL
theorem zip_no_len : typeLookup (.type "zip") "__len__" = pure none := am_miss_of_fast (by decide +kernel)
theorem zip_no_hint : typeLookup (.type "zip") "__length_hint__" = pure none := am_miss_of_fast (by decide +kernel)
section
variable {prog : Program} {w : World} {A : Around} {E : Value → Shared → Prop} {s : Shared}
theorem hint_zip {z : Addr} {Q : Bool → Shared → Prop} (hT : s.TypeIs (.ref z) "zip") (h : Q true s) : wpAny (model prog w) A (Builtin.List.listLengthHint (.ref z)) Q E s := by
  unfold Builtin.List.listLengthHint
  refine wpAny_bind (wpAny_specialOf hT zip_no_len ?_)
  simp only [Option.isSome_none, Bool.false_eq_true, if_false]
  exact wpAny_bind (wpAny_specialOf hT zip_no_hint (wpAny_pure h))
variable {z TI TO T i1 i2 l1 l2 : Addr} {f : Bool} {oT : Obj} {k1 k2 : Nat} {xs ys : Array Value} {x y : Value}
theorem held_next {Q : Value → Shared → Prop} (D : ZipApart z TI TO i1 i2 l1 l2) (hz : IsZipHeld s.heap z TI TO T f) (hT : s.heap.get? T = some oT) (hTI : IsPair s.heap TI (.ref i1) (.ref i2))
    (h1 : s.heap.IsTupleIter i1 l1 k1) (h2 : s.heap.IsTupleIter i2 l2 k2) (hl1 : s.heap.IsTuple l1 xs) (hl2 : s.heap.IsTuple l2 ys) (hx : xs[k1]? = some x) (hy : ys[k2]? = some y)
    (hQ : ∀ h', IsZipHeld h' z TI TO T true → h'.IsTupleIter i1 l1 (k1 + 1) → h'.IsTupleIter i2 l2 (k2 + 1) → IsPair h' s.heap.objs.size x y → h'.objs.size = s.heap.objs.size + 1 →
      (∀ c o, c ≠ z → c ≠ i1 → c ≠ i2 → s.heap.get? c = some o → h'.get? c = some o) → Q (.ref s.heap.objs.size) { s with heap := h' }) :
    wpAny (model prog w) A (Builtin.«zip.__next__» ⟨[.ref z], []⟩) (fun fin s' => ∃ v, fin = .done (.ret v) ∧ Q v s') E s := by
  show wpAny _ _ (field (.ref z) 2 >>= _) _ _ _
  refine wpAny_bind (wpAny_field hz rfl (x := .bool false) rfl ?_)
  show wpAny _ _ (field (.ref z) 3 >>= _) _ _ _
  refine wpAny_bind (wpAny_field hz rfl (x := .ref TI) rfl (wpAny_bind (wpAny_seqItems hTI rfl ?_)))
  show wpAny _ _ (Builtin.SmallTypes.ownedTupleIsFree (.ref z) >>= _) _ _ _
  refine wpAny_bind (wpAny_tupleHeld_zip hz hT fun g1 z1 b1 => ?_)
  simp only [Bool.false_eq_true, if_false]
  refine wpAny_bind ?_
  rw [← Array.forIn_toList]
  simp only [List.forIn_cons, List.forIn_nil]
  refine wpAny_bind (wpAny_bind (wpAny_holding ?_))
  show wpAny _ _ (Builtin.SmallTypes.nextOf (.ref i1) >>= _) _ _ _
  refine wpAny_bind (RZ.nextOf_tuple_item (s := { s with heap := g1 }) (h1.extBut b1.extBut D.i1z) (hl1.extBut b1.extBut D.l1z) hx fun g2 p1 b2 => wpAny_pure ?_)
  refine wpAny_pure ?_
  refine wpAny_bind (wpAny_bind (wpAny_holding ?_))
  show wpAny _ _ (Builtin.SmallTypes.nextOf (.ref i2) >>= _) _ _ _
  refine wpAny_bind (RZ.nextOf_tuple_item (s := { s with heap := g2 }) ((h2.extBut b1.extBut D.i2z).extBut b2.extBut D.i12.symm) ((hl2.extBut b1.extBut D.l2z).extBut b2.extBut D.l2i1) hy fun g3 p2 b3 => wpAny_pure ?_)
  refine wpAny_pure (wpAny_pure ?_)
  show wpAny _ _ (newTuple [x, y] >>= _) _ _ _
  refine wpAny_bind (wpAny_newTuple ?_)
  refine wpAny_pure ⟨_, rfl, ?_⟩
  have sz : g3.objs.size = s.heap.objs.size := by rw [b3.1, b2.1, b1.1]
  have zz : IsZipHeld g3 z TI TO T true := b3.extBut _ _ D.i2z.symm (b2.extBut _ _ D.i1z.symm z1)
  have pr : IsPair (g3.push { cls := .type "tuple", data := .seq #[x, y] }) g3.objs.size x y := Heap.get?_push_size _ rfl
  have s4 : (g3.push { cls := .type "tuple", data := .seq #[x, y] }).objs.size = g3.objs.size + 1 := Heap.size_push ..
  show Q (.ref g3.objs.size) _
  rw [sz] at pr s4 ⊢
  exact hQ _ (Heap.get?_push_of_some _ zz) ((p1.extBut b3.extBut D.i12).at fun o e => Heap.get?_push_of_some _ e) (p2.at fun o e => Heap.get?_push_of_some _ e) pr s4 fun c o c1 c2 c3 e =>
    Heap.get?_push_of_some _ (b3.extBut _ _ c3 (b2.extBut _ _ c2 (b1.extBut _ _ c1 e)))
/-- the next pair, the last one still out -/
theorem held_item {Q : Option Value → Shared → Prop} (D : ZipApart z TI TO i1 i2 l1 l2) (hz : IsZipHeld s.heap z TI TO T f) (hT : s.heap.get? T = some oT) (hTI : IsPair s.heap TI (.ref i1) (.ref i2))
    (h1 : s.heap.IsTupleIter i1 l1 k1) (h2 : s.heap.IsTupleIter i2 l2 k2) (hl1 : s.heap.IsTuple l1 xs) (hl2 : s.heap.IsTuple l2 ys) (hx : xs[k1]? = some x) (hy : ys[k2]? = some y)
    (hQ : ∀ h', IsZipHeld h' z TI TO T true → h'.IsTupleIter i1 l1 (k1 + 1) → h'.IsTupleIter i2 l2 (k2 + 1) → IsPair h' s.heap.objs.size x y → h'.objs.size = s.heap.objs.size + 1 →
      (∀ c o, c ≠ z → c ≠ i1 → c ≠ i2 → s.heap.get? c = some o → h'.get? c = some o) → Q (some (.ref s.heap.objs.size)) { s with heap := h' }) : wpAny (model prog w) A (pyNext (.ref z)) Q E s := by
  have hTy : s.TypeIs (.ref z) "zip" := ⟨_, hz, rfl⟩
  unfold pyNext
  exact wpAny_bind (wpAny_attempt (wpAny_callSpecial?_slot (name := Str.ofString "__next__") hTy F.slot_zip_next (wpAny_call_entry F.slot_zip_next hTy F.entry_zip_next
    (held_next D hz hT hTI h1 h2 hl1 hl2 hx hy fun h' a1 a2 a3 a4 a5 a6 => wpAny_pure (hQ h' a1 a2 a3 a4 a5 a6)) (F.args_zip_next_1 _))))
theorem held_stop {Q : Fin → Shared → Prop} (hh : A.handled = none) (D : ZipApart z TI TO i1 i2 l1 l2) (hz : IsZipHeld s.heap z TI TO T f) (hT : s.heap.get? T = some oT) (hTI : IsPair s.heap TI (.ref i1) (.ref i2))
    (h1 : s.heap.IsTupleIter i1 l1 k1) (h2 : s.heap.IsTupleIter i2 l2 k2) (hl1 : s.heap.IsTuple l1 xs) (hl2 : s.heap.IsTuple l2 ys) (hend : xs[k1]? = none ∨ ys[k2]? = none)
    (hE : ∀ h' e, (∀ c o, c ≠ z → c ≠ i1 → c ≠ i2 → s.heap.get? c = some o → h'.get? c = some o) → (∃ o, h'.get? e = some o ∧ o.cls = .type "StopIteration") → E (.ref e) { s with heap := h' }) :
    wpAny (model prog w) A (Builtin.«zip.__next__» ⟨[.ref z], []⟩) Q E s := by
  show wpAny _ _ (field (.ref z) 2 >>= _) _ _ _
  refine wpAny_bind (wpAny_field hz rfl (x := .bool false) rfl ?_)
  show wpAny _ _ (field (.ref z) 3 >>= _) _ _ _
  refine wpAny_bind (wpAny_field hz rfl (x := .ref TI) rfl (wpAny_bind (wpAny_seqItems hTI rfl ?_)))
  show wpAny _ _ (Builtin.SmallTypes.ownedTupleIsFree (.ref z) >>= _) _ _ _
  refine wpAny_bind (wpAny_tupleHeld_zip hz hT fun g1 z1 b1 => ?_)
  simp only [Bool.false_eq_true, if_false]
  refine wpAny_bind ?_
  rw [← Array.forIn_toList]
  simp only [List.forIn_cons, List.forIn_nil]
  refine wpAny_bind (wpAny_bind (wpAny_holding ?_))
  show wpAny _ _ (Builtin.SmallTypes.nextOf (.ref i1) >>= _) _ _ _
  cases hx : xs[k1]? with
  | none =>
    refine wpAny_bind (RZ.nextOf_tuple_end (s := { s with heap := g1 }) hh (h1.extBut b1.extBut D.i1z) (hl1.extBut b1.extBut D.l1z) hx fun g2 e b2 he => ?_)
    exact hE g2 e (fun c o c1 c2 _ q => b2 _ _ c2 (b1.extBut _ _ c1 q)) he
  | some x =>
    have hy : ys[k2]? = none := hend.resolve_left fun q => by rw [hx] at q; cases q
    refine wpAny_bind (RZ.nextOf_tuple_item (s := { s with heap := g1 }) (h1.extBut b1.extBut D.i1z) (hl1.extBut b1.extBut D.l1z) hx fun g2 p1 b2 => wpAny_pure ?_)
    refine wpAny_pure ?_
    refine wpAny_bind (wpAny_bind (wpAny_holding ?_))
    show wpAny _ _ (Builtin.SmallTypes.nextOf (.ref i2) >>= _) _ _ _
    refine wpAny_bind (RZ.nextOf_tuple_end (s := { s with heap := g2 }) hh ((h2.extBut b1.extBut D.i2z).extBut b2.extBut D.i12.symm) ((hl2.extBut b1.extBut D.l2z).extBut b2.extBut D.l2i1) hy fun g3 e b3 he => ?_)
    exact hE g3 e (fun c o c1 c2 c3 q => b3 _ _ c3 (b2.extBut _ _ c2 (b1.extBut _ _ c1 q))) he
theorem held_end {Q : Option Value → Shared → Prop} (hh : A.handled = none) (D : ZipApart z TI TO i1 i2 l1 l2) (hz : IsZipHeld s.heap z TI TO T f) (hT : s.heap.get? T = some oT) (hTI : IsPair s.heap TI (.ref i1) (.ref i2))
    (h1 : s.heap.IsTupleIter i1 l1 k1) (h2 : s.heap.IsTupleIter i2 l2 k2) (hl1 : s.heap.IsTuple l1 xs) (hl2 : s.heap.IsTuple l2 ys) (hend : xs[k1]? = none ∨ ys[k2]? = none)
    (hQ : ∀ h', (∀ c o, c ≠ z → c ≠ i1 → c ≠ i2 → s.heap.get? c = some o → h'.get? c = some o) → Q none { s with heap := h' }) : wpAny (model prog w) A (pyNext (.ref z)) Q E s := by
  have hTy : s.TypeIs (.ref z) "zip" := ⟨_, hz, rfl⟩
  unfold pyNext
  refine wpAny_bind (wpAny_attempt (wpAny_callSpecial?_slot (name := Str.ofString "__next__") hTy F.slot_zip_next (wpAny_call_entry F.slot_zip_next hTy F.entry_zip_next (held_stop hh D hz hT hTI h1 h2 hl1 hl2 hend fun h' e hk he => ?_) (F.args_zip_next_1 _))))
  obtain ⟨o, ho, hc⟩ := he
  exact wpAny_bind (wpAny_isInstance (T := "StopIteration") (b := true) ⟨o, ho, hc⟩ isSubtype_stop (wpAny_pure (hQ _ hk)))
end
/-! ### the loop -/
/-- a zip that stands at i; S: no result is S -/
structure ZAt (h : Heap) (z TI TO i1 i2 l1 l2 S : Addr) (xs ys : Array Value) (i : Nat) : Prop where
  D : ZipApart z TI TO i1 i2 l1 l2
  pr : IsPair h TI (.ref i1) (.ref i2)
  p1 : h.IsTupleIter i1 l1 i
  p2 : h.IsTupleIter i2 l2 i
  t1 : h.IsTuple l1 xs
  t2 : h.IsTuple l2 ys
  at_ : (IsZip h z TI TO .none ∧ ∃ a b, IsPair h TO a b) ∨ ∃ T f oT, IsZipHeld h z TI TO T f ∧ h.get? T = some oT ∧ T ≠ z ∧ T ≠ i1 ∧ T ≠ i2 ∧ T ≠ S
structure ZOff (z TI TO i1 i2 l1 l2 S : Addr) : Prop where
  z : S ≠ z
  TI : S ≠ TI
  TO : S ≠ TO
  i1 : S ≠ i1
  i2 : S ≠ i2
  l1 : S ≠ l1
  l2 : S ≠ l2
theorem ZAt.keep {h h' : Heap} {z TI TO i1 i2 l1 l2 S : Addr} {xs ys : Array Value} {i : Nat} (Z : ZAt h z TI TO i1 i2 l1 l2 S xs ys i) (O : ZOff z TI TO i1 i2 l1 l2 S) (k : ∀ b o, b ≠ S → h.get? b = some o → h'.get? b = some o) : ZAt h' z TI TO i1 i2 l1 l2 S xs ys i :=
  ⟨Z.D, k _ _ O.TI.symm Z.pr, Z.p1.at fun o e => k _ _ O.i1.symm e, Z.p2.at fun o e => k _ _ O.i2.symm e, Z.t1.at fun o e => k _ _ O.l1.symm e, Z.t2.at fun o e => k _ _ O.l2.symm e, by
    rcases Z.at_ with ⟨a, u, v, b⟩ | ⟨T, f, oT, a, b, c, d, e, g⟩
    · exact .inl ⟨k _ _ O.z.symm a, u, v, k _ _ O.TO.symm b⟩
    · exact .inr ⟨T, f, oT, k _ _ O.z.symm a, k _ _ g b, c, d, e, g⟩⟩
section
variable {prog : Program} {w : World} {A : Around} {E : Value → Shared → Prop} {s : Shared} {z TI TO i1 i2 l1 l2 S : Addr} {xs ys : Array Value} {i : Nat}
/-- who turns -/
def Off (z TO i1 i2 c : Addr) : Prop := c ≠ z ∧ c ≠ TO ∧ c ≠ i1 ∧ c ≠ i2
theorem z_item {x y : Value} {Q : Option Value → Shared → Prop} (Z : ZAt s.heap z TI TO i1 i2 l1 l2 S xs ys i) (O : ZOff z TI TO i1 i2 l1 l2 S) (hS : S < s.heap.objs.size) (hx : xs[i]? = some x) (hy : ys[i]? = some y)
    (hQ : ∀ h', ZAt h' z TI TO i1 i2 l1 l2 S xs ys (i + 1) → IsPair h' s.heap.objs.size x y → h'.objs.size = s.heap.objs.size + 1 → (∀ c o, Off z TO i1 i2 c → s.heap.get? c = some o → h'.get? c = some o) → Q (some (.ref s.heap.objs.size)) { s with heap := h' }) :
    wpAny (model prog w) A (pyNext (.ref z)) Q E s := by
  have D := Z.D
  have nz : s.heap.objs.size ≠ z := fun q => by
    rcases Z.at_ with ⟨a, _⟩ | ⟨T, f, oT, a, _⟩ <;> exact absurd (Heap.lt_size a) (by rw [q]; exact Nat.lt_irrefl _)
  have n1 : s.heap.objs.size ≠ i1 := fun q => by
    obtain ⟨o, ho, _⟩ := Z.p1
    exact absurd (Heap.lt_size ho) (by rw [q]; exact Nat.lt_irrefl _)
  have n2 : s.heap.objs.size ≠ i2 := fun q => by
    obtain ⟨o, ho, _⟩ := Z.p2
    exact absurd (Heap.lt_size ho) (by rw [q]; exact Nat.lt_irrefl _)
  rcases Z.at_ with ⟨a, u, v, b⟩ | ⟨T, f, oT, a, b, c, d, e, g⟩
  · refine RZ.pyNext_zipT_item D a Z.pr b Z.p1 Z.p2 Z.t1 Z.t2 hx hy fun h' a1 a2 a3 a4 a5 a6 a7 => hQ h' ⟨D, a7 _ _ D.TIz D.TITO D.TIi1 D.TIi2 Z.pr, a3, a4, Z.t1.at fun o q => a7 _ _ D.l1z D.l1TO D.l1i1 D.l1i2 q, Z.t2.at fun o q => a7 _ _ D.l2z D.l2TO D.l2i1 D.l2i2 q, .inr ⟨s.heap.objs.size, false, _, a1, a5, nz, n1, n2, Nat.ne_of_gt hS⟩⟩ a5 a6 fun c o k q => a7 c o k.1 k.2.1 k.2.2.1 k.2.2.2 q
  · refine held_item D a b Z.pr Z.p1 Z.p2 Z.t1 Z.t2 hx hy fun h' a1 a2 a3 a4 a5 a6 => hQ h' ⟨D, a6 _ _ D.TIz D.TIi1 D.TIi2 Z.pr, a2, a3, Z.t1.at fun o q => a6 _ _ D.l1z D.l1i1 D.l1i2 q, Z.t2.at fun o q => a6 _ _ D.l2z D.l2i1 D.l2i2 q, .inr ⟨T, true, oT, a1, a6 _ _ c d e b, c, d, e, g⟩⟩ a4 a5 fun c o k q => a6 c o k.1 k.2.2.1 k.2.2.2 q
theorem z_done {Q : Option Value → Shared → Prop} (hh : A.handled = none) (Z : ZAt s.heap z TI TO i1 i2 l1 l2 S xs ys i) (hend : xs[i]? = none ∨ ys[i]? = none)
    (hQ : ∀ h', (∀ c o, Off z TO i1 i2 c → s.heap.get? c = some o → h'.get? c = some o) → Q none { s with heap := h' }) : wpAny (model prog w) A (pyNext (.ref z)) Q E s := by
  rcases Z.at_ with ⟨a, u, v, b⟩ | ⟨T, f, oT, a, b, c, d, e, g⟩
  · exact RZ.pyNext_zipT_end hh Z.D a Z.pr b Z.p1 Z.p2 Z.t1 Z.t2 hend fun h' k => hQ h' fun c o q => k c o q.1 q.2.1 q.2.2.1 q.2.2.2
  · exact held_end hh Z.D a b Z.pr Z.p1 Z.p2 Z.t1 Z.t2 hend fun h' k => hQ h' fun c o q => k c o q.1 q.2.2.1 q.2.2.2
/-- the pairs that are gathered -/
structure Prs (xs ys : Array Value) (lo : Addr) (h : Heap) (as : List Addr) : Prop where
  rise : as.Pairwise (· < ·)
  above : ∀ a ∈ as, lo ≤ a
  pairs : ∀ (j : Nat) (a : Addr), as[j]? = some a → ∃ x y, xs[j]? = some x ∧ ys[j]? = some y ∧ IsPair h a x y
theorem Prs.there {lo : Addr} {h : Heap} {as : List Addr} (g : Prs xs ys lo h as) {a : Addr} (ha : a ∈ as) : a < h.objs.size := by
  obtain ⟨j, hj⟩ := List.mem_iff_getElem?.mp ha
  obtain ⟨_, _, _, _, e⟩ := g.pairs j a hj
  exact Heap.lt_size e
theorem Prs.move {lo : Addr} {h h' : Heap} {as : List Addr} (g : Prs xs ys lo h as) (k : ∀ a ∈ as, ∀ o, h.get? a = some o → h'.get? a = some o) : Prs xs ys lo h' as :=
  ⟨g.rise, g.above, fun j a hj => let ⟨x, y, e1, e2, e3⟩ := g.pairs j a hj; ⟨x, y, e1, e2, k a (List.mem_of_getElem? hj) _ e3⟩⟩
theorem z_loop {R : Result → Shared → Prop} {n : Nat} (hh : A.handled = none) (O : ZOff z TI TO i1 i2 l1 l2 S) (hnx : xs.size = n) (hny : ys.size = n) (hn : n ≤ sizeLine) (res : Value) {h0 : Heap} (lo : Addr) (hl : S < lo ∧ z < lo ∧ TO < lo ∧ i1 < lo ∧ i2 < lo)
    (hR : ∀ h' tk acc c as, (∀ b o, b ≠ S → Off z TO i1 i2 b → h0.get? b = some o → h'.get? b = some o) → h'.get? S = some { cls := .type "list", dict := none, data := .seq acc c, slots := #[] } → as.length = n → Prs xs ys lo h' as →
      acc.toList = as.map Value.ref → R (.ok (.ret res)) { s with heap := h', toks := tk }) :
    ∀ (m i : Nat) (h : Heap) (tk c : Nat) (acc : Array Value) (as : List Addr), n - i = m → i ≤ n → ZAt h z TI TO i1 i2 l1 l2 S xs ys i → (∀ b o, b ≠ S → Off z TO i1 i2 b → h0.get? b = some o → h.get? b = some o) →
      h.get? S = some { cls := .type "list", dict := none, data := .seq acc c, slots := #[] } → acc.toList = as.map Value.ref → as.length = i → Prs xs ys lo h as → lo ≤ h.objs.size →
      codeAny (model prog w) A (.builtin "list.extend.loop" ⟨[.ref S, .ref z, res], []⟩) R { s with heap := h, toks := tk } := by
  have off : ∀ a, lo ≤ a → Off z TO i1 i2 a ∧ a ≠ S := fun a ha => ⟨⟨Nat.ne_of_gt (Nat.lt_of_lt_of_le hl.2.1 ha), Nat.ne_of_gt (Nat.lt_of_lt_of_le hl.2.2.1 ha), Nat.ne_of_gt (Nat.lt_of_lt_of_le hl.2.2.2.1 ha), Nat.ne_of_gt (Nat.lt_of_lt_of_le hl.2.2.2.2 ha)⟩, Nat.ne_of_gt (Nat.lt_of_lt_of_le hl.1 ha)⟩
  have offS : Off z TO i1 i2 S := ⟨O.z, O.TO, O.i1, O.i2⟩
  intro m
  induction m with
  | zero =>
    intro i h tk c acc as hm hi Z hk hS ha hal G hlo
    have e : i = n := by omega
    refine codeAny_builtin PySem.F.entry_extend_loop ?_
    rw [Around.under_plainId PySem.F.plain_extend_loop _]
    show wpAny _ A.in1 (pyNext (.ref z) >>= _) _ _ _
    refine wpAny_bind (z_done (s := { s with heap := h, toks := tk }) (A := A.in1) hh Z (.inl (Array.getElem?_eq_none (by omega))) fun h' k => ?_)
    exact wpAny_pure (hR h' tk acc c as (fun b o b1 b2 q => k b o b2 (hk b o b1 b2 q)) (k S _ offS hS) (by omega) (G.move fun a ha' o q => k a o (off a (G.above a ha')).1 q) ha)
  | succ m ih =>
    intro i h tk c acc as hm hi Z hk hS ha hal G hlo
    have lt : i < n := by omega
    have sz : acc.size = i := by rw [← Array.length_toList, ha, List.length_map, hal]
    obtain ⟨x, hx⟩ : ∃ x, xs[i]? = some x := ⟨_, Array.getElem?_eq_getElem (by omega)⟩
    obtain ⟨y, hy⟩ : ∃ y, ys[i]? = some y := ⟨_, Array.getElem?_eq_getElem (by omega)⟩
    refine codeAny_builtin PySem.F.entry_extend_loop ?_
    rw [Around.under_plainId PySem.F.plain_extend_loop _]
    show wpAny _ A.in1 (pyNext (.ref z) >>= _) _ _ _
    refine wpAny_bind (z_item (s := { s with heap := h, toks := tk }) Z O (Heap.lt_size hS) hx hy fun h' Z' pr hz k => ?_)
    dsimp only at pr hz k ⊢
    have hS' := k S _ offS hS
    have up : ∀ b o, b ≠ S → h'.get? b = some o → (h'.update S (Obj.mapSeq (·.push (Value.ref h.objs.size)))).get? b = some o := fun b o hb q => (Heap.get?_update_other _ _ (Ne.symm hb)).trans q
    have new := off h.objs.size hlo
    show wpAny _ A.in1 (updateSeq S (·.push (Value.ref h.objs.size)) >>= _) _ _ _
    refine wpAny_bind ?_
    refine wpAny_updateSeq hS' rfl (wpAny_pure ⟨plainId_quiet PySem.F.plain_extend_loop _, ih (i + 1) _ tk _ (acc.push (Value.ref h.objs.size)) (as ++ [h.objs.size]) (by omega) lt (Z'.keep O fun b o hb q => up b o hb q)
      (fun b o b1 b2 q => up b o b1 (k b o b2 (hk b o b1 b2 q))) (Heap.get?_update_self _ hS' rfl) (by rw [Array.toList_push, ha, List.map_append]; rfl) (by rw [List.length_append, hal]; rfl) ⟨?_, ?_, ?_⟩ ?_⟩) (by rw [sz]; omega) (by show (acc.push (Value.ref h.objs.size)).size ≤ sizeLine + 1; rw [Array.size_push, sz]; omega)
    · refine List.pairwise_append.mpr ⟨G.rise, List.pairwise_singleton _ _, fun a ha' b hb => ?_⟩
      rw [List.mem_singleton.mp hb]
      exact G.there ha'
    · intro a ha'
      rcases List.mem_append.mp ha' with q | q
      · exact G.above a q
      · rw [List.mem_singleton.mp q]; exact hlo
    · intro j a hj
      rcases Nat.lt_trichotomy j as.length with q | q | q
      · rw [List.getElem?_append_left q] at hj
        obtain ⟨x', y', e1, e2, e3⟩ := G.pairs j a hj
        have o := off a (G.above a (List.mem_of_getElem? hj))
        exact ⟨x', y', e1, e2, up a _ o.2 (k a _ o.1 e3)⟩
      · subst q
        have e : h.objs.size = a := by simpa using hj
        subst e
        exact ⟨x, y, by rw [hal]; exact hx, by rw [hal]; exact hy, up _ _ new.2 pr⟩
      · rw [List.getElem?_eq_none (by rw [List.length_append, List.length_singleton]; omega)] at hj
        cases hj
    · have q : (h'.update S (Obj.mapSeq (·.push (Value.ref h.objs.size)))).get? h.objs.size = _ := up _ _ new.2 pr
      exact Nat.le_trans hlo (Nat.le_of_lt (Heap.lt_size q))
end
/-! ### list(z) -/
theorem ZAt.zip {h : Heap} {z TI TO i1 i2 l1 l2 S : Addr} {xs ys : Array Value} {i : Nat} (Z : ZAt h z TI TO i1 i2 l1 l2 S xs ys i) : ∃ f0, (IsZip h z TI TO f0) ∨ ∃ T f, IsZipHeld h z TI TO T f := by
  rcases Z.at_ with ⟨a, _⟩ | ⟨T, f, oT, a, _⟩
  · exact ⟨_, .inl a⟩
  · exact ⟨.none, .inr ⟨T, f, a⟩⟩
section
variable {prog : Program} {w : World} {A : Around} {E : Value → Shared → Prop} {s : Shared} {z TI TO i1 i2 l1 l2 S : Addr} {xs ys : Array Value} {n : Nat}
theorem z_extend {R : Result → Shared → Prop} (hh : A.handled = none) (hz : IsZip s.heap z TI TO .none) (Z : ZAt s.heap z TI TO i1 i2 l1 l2 S xs ys 0) (O : ZOff z TI TO i1 i2 l1 l2 S) (lz : z < s.heap.objs.size ∧ TO < s.heap.objs.size ∧ i1 < s.heap.objs.size ∧ i2 < s.heap.objs.size)
    (hnx : xs.size = n) (hny : ys.size = n) (hn : n ≤ sizeLine) (res : Value) (c0 : Nat) (hS : s.heap.get? S = some { cls := .type "list", data := .seq #[] c0 })
    (hR : ∀ h' tk acc c as, (∀ b o, b ≠ S → Off z TO i1 i2 b → s.heap.get? b = some o → h'.get? b = some o) → h'.get? S = some { cls := .type "list", dict := none, data := .seq acc c, slots := #[] } → as.length = n → Prs xs ys s.heap.objs.size h' as →
      acc.toList = as.map Value.ref → R (.ok (.ret res)) { s with heap := h', toks := tk }) :
    wpAny (model prog w) A.in1 (Builtin.List.listExtendWith (.ref S) (.ref z) res)
      (fun fin s' => match fin with | .done f => R (.ok f) s' | .again c' => c'.quiet = true ∧ codeAny (model prog w) A c' R s') (fun e s' => R (.error e) s') s := by
  have hSl : S < s.heap.objs.size := Heap.lt_size hS
  have hT : s.TypeIs (.ref z) "zip" := ⟨_, hz, rfl⟩
  have key : ∀ (h : Heap) (c1 tk : Nat), (∀ b o, b ≠ S → s.heap.get? b = some o → h.get? b = some o) → h.get? S = some { cls := .type "list", data := .seq #[] c1 } → s.heap.objs.size ≤ h.objs.size →
      codeAny (model prog w) A (.builtin "list.extend.loop" ⟨[.ref S, .ref z, res], []⟩) R { s with heap := h, toks := tk } := fun h c1 tk hk h1 hle =>
    z_loop (s := s) (h0 := s.heap) hh O hnx hny hn res s.heap.objs.size ⟨hSl, lz⟩ hR n 0 h tk c1 #[] [] (Nat.sub_zero _) (Nat.zero_le _) (Z.keep O hk) (fun b o b1 _ q => hk b o b1 q) h1 rfl rfl
      ⟨List.Pairwise.nil, (fun _ ha => nomatch ha), (fun j a hj => by simp at hj)⟩ hle
  unfold Builtin.List.listExtendWith
  refine wpAny_bind (wpAny_typeOf (T := "zip") hT ?_)
  have e1 : Builtin.List.listSameRef (.ref S) (.ref z) = false := by simp [Builtin.List.listSameRef, O.z]
  have e2 : (Value.type "zip" == Value.type "list") = false := by decide
  have e3 : (Value.type "zip" == Value.type "tuple") = false := by decide
  simp only [e1, e2, e3, Bool.or_false, Bool.false_eq_true, if_false]
  refine wpAny_bind (wpAny_pyIter_zip hz ?_)
  refine wpAny_bind (wpAny_holding (hint_zip hT ?_))
  refine wpAny_ite_split (fun _ => ?_) (fun _ => wpAny_pure ⟨plainId_quiet PySem.F.plain_extend_loop _, key _ c0 _ (fun b o _ q => q) hS (Nat.le_refl _)⟩)
  refine wpAny_bind (wpAny_rule (wpAny_bind ?_))
  show wpAny _ _ (updateSeq S (·.push .none) >>= fun _ => updateSeq S (·.pop)) _ _ _
  refine wpAny_bind (wpAny_updateSeq hS rfl ?_)
  have h2 := Heap.get?_update_self (Obj.mapSeq (·.push Value.none)) hS rfl
  refine wpAny_updateSeq (hz := by seq_fits) h2 rfl ?_
  have h3 := Heap.get?_update_self (Obj.mapSeq (·.pop)) h2 rfl
  refine wpAny_pure ⟨plainId_quiet PySem.F.plain_extend_loop _, key _ _ _ (fun b o hb q => ?_) h3 ?_⟩
  · exact (Heap.get?_update_other _ _ (Ne.symm hb)).trans ((Heap.get?_update_other _ _ (Ne.symm hb)).trans q)
  · rw [Heap.size_update, Heap.size_update]; exact Nat.le_refl _
theorem z_init {R : Result → Shared → Prop} (hh : A.handled = none) (hz : IsZip s.heap z TI TO .none) (Z : ZAt s.heap z TI TO i1 i2 l1 l2 S xs ys 0) (O : ZOff z TI TO i1 i2 l1 l2 S) (lz : z < s.heap.objs.size ∧ TO < s.heap.objs.size ∧ i1 < s.heap.objs.size ∧ i2 < s.heap.objs.size)
    (hnx : xs.size = n) (hny : ys.size = n) (hn : n ≤ sizeLine) (hS : s.heap.get? S = some { cls := .type "list", data := .seq #[] })
    (hR : ∀ h' tk acc c as, (∀ b o, b ≠ S → Off z TO i1 i2 b → s.heap.get? b = some o → h'.get? b = some o) → h'.get? S = some { cls := .type "list", dict := none, data := .seq acc c, slots := #[] } → as.length = n → Prs xs ys s.heap.objs.size h' as →
      acc.toList = as.map Value.ref → R (.ok (.ret .none)) { s with heap := h', toks := tk }) :
    wpAny (model prog w) A.in1 (Builtin.«list.__init__» ⟨[.ref S, .ref z], []⟩)
      (fun fin s' => match fin with | .done f => R (.ok f) s' | .again c' => c'.quiet = true ∧ codeAny (model prog w) A c' R s') (fun e s' => R (.error e) s') s := by
  show wpAny _ _ (Builtin.List.listItems (.ref S) >>= fun old => Builtin.List.listUpdate (.ref S) (fun _ => #[]) >>= fun _ => letGo old.toList.reverse >>= fun _ => Builtin.List.listExtendWith (.ref S) (.ref z) .none) _ _ s
  refine wpAny_bind ?_
  unfold Builtin.List.listItems
  refine wpAny_bind (wpAny_seqItems hS rfl (wpAny_pure ?_))
  show wpAny _ _ (updateSeq S (fun _ => #[]) >>= fun _ => letGo (#[] : Array Value).toList.reverse >>= fun _ => Builtin.List.listExtendWith (.ref S) (.ref z) .none) _ _ s
  refine wpAny_bind (wpAny_updateSeq hS rfl ?_)
  have h2 := Heap.get?_update_self (Obj.mapSeq (fun _ => (#[] : Array Value))) hS rfl
  have oth : ∀ b o, b ≠ S → s.heap.get? b = some o → (s.heap.update S (Obj.mapSeq (fun _ => (#[] : Array Value)))).get? b = some o := fun b o hb q => (Heap.get?_update_other _ _ (Ne.symm hb)).trans q
  have sz : (s.heap.update S (Obj.mapSeq (fun _ => (#[] : Array Value)))).objs.size = s.heap.objs.size := Heap.size_update _ _ _
  refine wpAny_bind (wpAny_letGo ?_)
  refine z_extend (n := n) hh (oth _ _ O.z.symm hz) (Z.keep O oth) O (by show _ ∧ _; rw [sz]; exact lz) hnx hny hn .none _ h2 fun h' tk acc c as hk hS' hl hG ha => ?_
  dsimp only at hk hG
  rw [sz] at hG
  exact hR h' tk acc c as (fun b o b1 b2 q => hk b o b1 b2 (oth b o b1 q)) hS' hl hG ha
theorem z_call {Q : Value → Shared → Prop} (hh : A.handled = none) (hz : IsZip s.heap z TI TO .none) (Z : ∀ S, s.heap.objs.size ≤ S → ZAt s.heap z TI TO i1 i2 l1 l2 S xs ys 0) (lz : z < s.heap.objs.size ∧ TI < s.heap.objs.size ∧ TO < s.heap.objs.size ∧ i1 < s.heap.objs.size ∧ i2 < s.heap.objs.size ∧ l1 < s.heap.objs.size ∧ l2 < s.heap.objs.size)
    (hnx : xs.size = n) (hny : ys.size = n) (hn : n ≤ sizeLine)
    (hQ : ∀ h' tk acc c as, (∀ b o, Off z TO i1 i2 b → s.heap.get? b = some o → h'.get? b = some o) → h'.get? s.heap.objs.size = some { cls := .type "list", dict := none, data := .seq acc c, slots := #[] } → as.length = n → Prs xs ys (s.heap.objs.size + 1) h' as →
      acc.toList = as.map Value.ref → Q (.ref s.heap.objs.size) { s with heap := h', toks := tk }) :
    wpAny (model prog w) A (call (.type "list") [.ref z]) Q E s := by
  refine callType_codes (Q₁ := fun obj s1 => obj = .ref s.heap.objs.size ∧ s1 = { s with heap := s.heap.push { cls := .type "list", data := .seq #[] } }) PySem.F.called_list (PySem.F.typeCall_list_1 _) PySem.F.entry_list_init
    (code_list_new _ ⟨rfl, rfl⟩) fun obj s1 h1 => ?_
  obtain ⟨rfl, rfl⟩ := h1
  have hS : (s.heap.push { cls := .type "list", data := .seq #[] }).get? s.heap.objs.size = some { cls := .type "list", data := .seq #[] } := Heap.get?_push_size _ rfl
  have O : ZOff z TI TO i1 i2 l1 l2 s.heap.objs.size := ⟨Nat.ne_of_gt lz.1, Nat.ne_of_gt lz.2.1, Nat.ne_of_gt lz.2.2.1, Nat.ne_of_gt lz.2.2.2.1, Nat.ne_of_gt lz.2.2.2.2.1, Nat.ne_of_gt lz.2.2.2.2.2.1, Nat.ne_of_gt lz.2.2.2.2.2.2⟩
  have ps : (s.heap.push { cls := .type "list", data := .seq #[] }).objs.size = s.heap.objs.size + 1 := Heap.size_push _ _
  refine ⟨⟨_, hS, rfl⟩, PySem.F.args_list_init_2 _ _, z_init (n := n) (A := A.in1) hh (Heap.get?_push_of_some _ hz) ((Z _ (Nat.le_refl _)).keep O fun b o _ q => Heap.get?_push_of_some _ q) O ?_ hnx hny hn hS (fun h' tk acc c as hk hS' hl hG ha => ?_)⟩
  · show _ ∧ _
    rw [ps]
    exact ⟨Nat.lt_succ_of_lt lz.1, Nat.lt_succ_of_lt lz.2.2.1, Nat.lt_succ_of_lt lz.2.2.2.1, Nat.lt_succ_of_lt lz.2.2.2.2.1⟩
  · dsimp only at hG
    rw [ps] at hG
    exact ⟨rfl, hQ h' tk acc c as (fun b o b2 q => hk b o (Nat.ne_of_lt (Heap.lt_size q)) b2 (Heap.get?_push_of_some _ q)) hS' hl hG ha⟩
end
end DLZ
end
section
/-! The D-layer: list(zip(a, b)) in the layer. -/
namespace DLZ
open PySem PySem.Spec PyProof.Rows L2 DL
/-- pairs at addresses -/
def putP : Hp → List Addr → List (V × V) → Hp
  | H, a :: as, p :: ps => putP (upd H a (.tup [p.1, p.2])) as ps
  | H, _, _ => H
theorem putP_off {b : Addr} : ∀ (as : List Addr) (ps : List (V × V)) (H : Hp), b ∉ as → putP H as ps b = H b
  | [], _, _, _ => rfl
  | _ :: _, [], _, _ => rfl
  | a :: as, p :: ps, H, h => by
    have n1 : b ≠ a := fun z => h (z ▸ List.mem_cons_self)
    exact (putP_off as ps (upd H a (.tup [p.1, p.2])) fun z => h (List.mem_cons_of_mem _ z)).trans (upd_ne n1)
theorem putP_at : ∀ (as : List Addr) (ps : List (V × V)) (H : Hp), as.Nodup → ∀ (j : Nat) (a : Addr) (p : V × V), as[j]? = some a → ps[j]? = some p → putP H as ps a = some (.tup [p.1, p.2])
  | [], _, _, _, j, a, p, h, _ => by simp at h
  | b :: as, [], _, _, j, a, p, _, h => by simp at h
  | b :: as, q :: ps, H, nd, 0, a, p, h1, h2 => by
    have e1 : b = a := by simpa using h1
    have e2 : q = p := by simpa using h2
    subst e1 e2
    exact (putP_off as ps _ (List.nodup_cons.mp nd).1).trans upd_same
  | b :: as, q :: ps, H, nd, j + 1, a, p, h1, h2 => putP_at as ps _ (List.nodup_cons.mp nd).2 j a p (by simpa using h1) (by simpa using h2)
theorem refs_vals : ∀ as : List Addr, Vals (as.map V.ref) (as.map Value.ref)
  | [] => .nil
  | _ :: as => .cons rfl (refs_vals as)
section
variable {X : Cx}
theorem pairs_laid {pins : List (Addr × Obj)} {σ : L2.St} {H : Hp} {s : Shared} {h' : Heap} {tk : Nat} {p lo : Addr} {xs ys : List V} {us ws : List Value} {acc : Array Value} {c : Nat} {as : List Addr} (I : Inv X pins σ H s) (hz : as.length ≤ sizeLine) (rx : Vals xs us) (ry : Vals ys ws) (hxy : xs.length = ys.length) (hal : as.length = xs.length)
    (hk : ∀ b o, s.heap.get? b = some o → h'.get? b = some o) (hp : s.heap.objs.size ≤ p) (hlo : p < lo) (hS : h'.get? p = some { cls := .type "list", dict := none, data := .seq acc c, slots := #[] }) (G : Prs us.toArray ws.toArray lo h' as) (hacc : acc.toList = as.map Value.ref) :
    Inv X pins σ (putP (upd H p (.lst (as.map V.ref))) as (xs.zip ys)) { s with heap := h', toks := tk } ∧ H p = none ∧ (∀ a ∈ as, H a = none) ∧ p ∉ as ∧ as.Nodup := by
  have nd : as.Nodup := List.Pairwise.imp (fun {a b} (h : a < b) => Nat.ne_of_lt h) G.rise
  have np : p ∉ as := fun z => absurd (G.above p z) (Nat.not_le_of_lt hlo)
  have new : ∀ a ∈ as, H a = none := fun a ha => I.hok.fresh (Nat.le_trans hp (Nat.le_of_lt (Nat.lt_of_lt_of_le hlo (G.above a ha))))
  have newp : H p = none := I.hok.fresh hp
  have off : ∀ b, b ∉ as → b ≠ p → putP (upd H p (.lst (as.map V.ref))) as (xs.zip ys) b = H b := fun b h1 h2 => (putP_off as _ _ h1).trans (upd_ne h2)
  have low : ∀ b o, s.heap.get? b = some o → b ∉ as ∧ b ≠ p := fun b o e => by
    have lt := Nat.lt_of_lt_of_le (Heap.lt_size e) hp
    exact ⟨fun z => absurd (G.above b z) (Nat.not_le_of_lt (Nat.lt_trans lt hlo)), Nat.ne_of_lt lt⟩
  have kp : ∀ b u, H b = some u → putP (upd H p (.lst (as.map V.ref))) as (xs.zip ys) b = some u := fun b u e => by
    rw [off b (fun z => by rw [new b z] at e; cases e) (fun z => by rw [z, newp] at e; cases e)]
    exact e
  have eS : putP (upd H p (.lst (as.map V.ref))) as (xs.zip ys) p = some (.lst (as.map V.ref)) := (putP_off as _ _ np).trans upd_same
  refine ⟨I.call' (ch := []) rfl ⟨fun b o q _ _ _ => hk b o q, fun b o q _ _ _ => ⟨o.slots, hk b o q⟩, fun b o q n _ => ?_, fun b o q _ => ⟨o, hk b o q⟩, fun b xs q => kp b _ q, fun b o u q => kp b _ q, fun b ps q => ⟨#[], by rw [kp b _ q]; simp⟩⟩ (fun b u q => ?_) I.bare fun b z => by simp at z, newp, new, np, nd⟩
  · obtain ⟨z1, z2⟩ := low b o q
    rw [off b z1 z2]
    exact n
  · by_cases hb : b ∈ as
    · obtain ⟨j, hj⟩ := List.mem_iff_getElem?.mp hb
      obtain ⟨x, y, e1, e2, e3⟩ := G.pairs j b hj
      have ljx : j < xs.length := by
        rw [← hal]
        exact (List.getElem?_eq_some_iff.mp hj).1
      have hpj : (xs.zip ys)[j]? = some (xs[j], ys[j]'(by omega)) := by
        rw [List.getElem?_eq_getElem (by rw [List.length_zip]; omega), List.getElem_zip]
      rw [putP_at as _ _ nd j b _ hj hpj] at q
      cases q
      obtain ⟨u1, f1, r1⟩ := rx.get (i := j) (x := xs[j]) (List.getElem?_eq_getElem ljx)
      obtain ⟨u2, f2, r2⟩ := ry.get (i := j) (x := ys[j]'(by omega)) (List.getElem?_eq_getElem (by omega))
      have g1 : u1 = x := by
        have z : us[j]? = some x := by simpa using e1
        rw [f1] at z
        exact Option.some.inj z
      have g2 : u2 = y := by
        have z : ws[j]? = some y := by simpa using e2
        rw [f2] at z
        exact Option.some.inj z
      subst g1 g2
      exact ⟨by show 2 ≤ sizeLine; decide, [u1, u2], .cons r1 (.cons r2 .nil), ⟨_, e3, rfl, _, rfl⟩⟩
    · by_cases hb2 : b = p
      · subst hb2
        rw [eS] at q
        cases q
        refine ⟨by rw [List.length_map]; exact hz, acc.toList, c, by rw [hacc]; exact refs_vals as, ?_⟩
        rw [Array.toArray_toList]
        exact hS
      · rw [off b hb hb2] at q
        exact (I.hok b u q).stay (fun d v _ y => hk d v y) (fun d y => kp d _ y) fun d xs y => kp d _ y
/-- list(zip(a, b)), a and b tuples of one length -/
def tLZ (K : PySem.W.Frag) (t : TA) : TE := fun σ H Q => t σ H fun vs H1 => ∃ (a b : Addr) (xs ys : List V), vs = [.ref a, .ref b] ∧ SqT K H1 a xs ∧ SqT K H1 b ys ∧ xs.length = ys.length ∧ xs.length ≤ sizeLine ∧
  ∀ (p : Addr) (as : List Addr), H1 p = none → (∀ t ∈ as, H1 t = none) → p ∉ as → as.Nodup → as.length = xs.length → Q (.ref p) (putP (upd H1 p (.lst (as.map V.ref))) as (xs.zip ys))
theorem zapart (n a b : Nat) (la : a < n) (lb : b < n) : ZipApart (n + 4) (n + 2) (n + 3) n (n + 1) a b := by
  constructor <;> exact (show (_ : Nat) ≠ _ by omega)
theorem pe_lz {es : List Expr} {e : Expr} {t : TA} {p p2 q pos : Pos} (hc : X.calm = true) (hg : Gl X "list") (hm : X.mg "list" = none) (hg2 : Gl X "zip") (hm2 : X.mg "zip" = none) (ha : PA X (e :: es) t)
    (hv : bootBuiltins "list" = some (.type "list")) (hv2 : bootBuiltins "zip" = some (.type "zip")) (he : starEach (e :: es) X.env = (false, eval e X.env) :: starEach es X.env := by rfl) (hpl : (backTo q (starEach es X.env)).any (·.1) = false := by rfl)
    (na : starEach [.Call (.Name "zip" p2) (e :: es) [] q] X.env = (false, eval (.Call (.Name "zip" p2) (e :: es) [] q) X.env) :: starEach [] X.env := by rfl) :
    PE X (.Call (.Name "list" p) [.Call (.Name "zip" p2) (e :: es) [] q] [] pos) (tLZ X.K t) := by
  refine ⟨fun pins s σ H Q I h => ?_⟩
  refine Call_ (ld_blt I hg hm hv ?_)
  refine PyProof.Rows.callWith_type1 (PyProof.Rows.args_cons ?_ na) na rfl
  refine Call_ (ld_blt I hg2 hm2 hv2 ?_)
  refine PyProof.Rows.callWith_type1 ?_ he hpl
  refine thn (ha.run q pins s σ H _ I h) fun us s1 ⟨vs, H1, I1, r, a, b, xs, ys, e1, h1, h2, hl, hn, qq⟩ => ?_
  subst e1
  obtain ⟨its1, rx, t1, z1⟩ := I1.tuple h1
  obtain ⟨its2, ry, t2, z2⟩ := I1.tuple h2
  cases r with
  | cons ra rr =>
    cases rr with
    | cons rb r3 =>
      cases r3
      cases ra
      cases rb
      have la : a < s1.heap.objs.size := let ⟨o, ho, _⟩ := t1; Heap.lt_size ho
      have lb : b < s1.heap.objs.size := let ⟨o, ho, _⟩ := t2; Heap.lt_size ho
      refine RZ.call_zipT t1 t2 fun h' zz pi po j1 j2 sz k => ?_
      refine PyProof.Rows.args_nil ?_
      have D := zapart s1.heap.objs.size a b la lb
      have five : ∀ c, c < s1.heap.objs.size → Off (s1.heap.objs.size + 4) (s1.heap.objs.size + 3) s1.heap.objs.size (s1.heap.objs.size + 1) c := fun c lt =>
        ⟨Nat.ne_of_lt (Nat.lt_add_right 4 lt), Nat.ne_of_lt (Nat.lt_add_right 3 lt), Nat.ne_of_lt lt, Nat.ne_of_lt (Nat.lt_add_right 1 lt)⟩
      have l1 := rx.length
      have l2 := ry.length
      refine z_call (n := xs.length) (s := { s1 with heap := h' }) (xs := its1.toArray) (ys := its2.toArray) (I1.ok.hd hc) zz (fun S hS => ⟨D, pi, j1, j2, Heap.IsTuple.at t1 fun o z => k _ _ z, Heap.IsTuple.at t2 fun o z => k _ _ z, .inl ⟨zz, _, _, po⟩⟩) ?_ (by rw [List.size_toArray, ← l1]) (by rw [List.size_toArray, ← l2, hl]) hn fun h'' tk acc c as kk hS hal G hacc => ?_
      · show (_ : Nat) < h'.objs.size ∧ (_ : Nat) < h'.objs.size ∧ (_ : Nat) < h'.objs.size ∧ (_ : Nat) < h'.objs.size ∧ (_ : Nat) < h'.objs.size ∧ (_ : Nat) < h'.objs.size ∧ (_ : Nat) < h'.objs.size
        rw [sz]
        have la' : (a : Nat) < s1.heap.objs.size := la
        have lb' : (b : Nat) < s1.heap.objs.size := lb
        have z5 : (s1.heap.objs.size : Nat) < s1.heap.objs.size + 5 := by omega
        exact ⟨by omega, by omega, by omega, z5, by omega, Nat.lt_trans la' z5, Nat.lt_trans lb' z5⟩
      · dsimp only at kk hS G ⊢
        obtain ⟨J, n1, n2, n3, n4⟩ := pairs_laid (p := h'.objs.size) (lo := h'.objs.size + 1) (tk := tk) I1 (by rw [hal]; exact hn) rx ry hl hal (fun c' o z => kk c' o (five c' (Heap.lt_size z)) (k _ _ z)) (by rw [sz]; exact Nat.le_add_right _ 5) (Nat.lt_succ_self _) hS G hacc
        exact ⟨.ref _, _, J, rfl, qq _ as n1 n2 n3 n4 hal⟩
end
def dListZip (t : DTA) : DTE := fun ε S Q => t ε S fun ds S1 => ∃ xs ys, ds = [.tup xs, .tup ys] ∧ xs.length = ys.length ∧ xs.length ≤ sizeLine ∧ ∀ p, S1 p = none → Q (.ref p) (put S1 p (.lst (List.zipWith (fun x y => D.tup [x, y]) xs ys)))
theorem putP_is {M : Md} {H : Hp} : ∀ {as : List Addr} {vs us : List V} {xs ys : List D}, as.Nodup → as.length = vs.length → (∀ a ∈ as, H a = none) → IsL M H vs xs → IsL M H us ys → vs.length = us.length →
    TLe H (putP H as (vs.zip us)) ∧ IsL M (putP H as (vs.zip us)) (as.map V.ref) (List.zipWith (fun x y => D.tup [x, y]) xs ys)
  | [], vs, us, xs, ys, _, hl, _, h1, h2, _ => by
    cases vs with
    | nil =>
      cases xs with
      | nil => exact ⟨TLe.refl H, rfl⟩
      | cons x xs => obtain ⟨_, _, e, _⟩ := h1; cases e
    | cons v vs => cases hl
  | a :: as, [], us, xs, ys, _, hl, _, h1, h2, _ => by cases hl
  | a :: as, v :: vs, [], xs, ys, _, hl, _, h1, h2, hu => by cases hu
  | a :: as, v :: vs, u :: us, xs, ys, nd, hl, hn, h1, h2, hu => by
    cases xs with
    | nil => cases (show v :: vs = [] from h1)
    | cons x xs =>
      cases ys with
      | nil => cases (show u :: us = [] from h2)
      | cons y ys =>
        obtain ⟨v', r, e1, i1, j1⟩ := h1
        obtain ⟨u', r2, e2, i2, j2⟩ := h2
        cases e1
        cases e2
        have nd' := List.nodup_cons.mp nd
        have t0 : TLe H (upd H a (.tup [v, u])) := TLe.new (hn a List.mem_cons_self)
        obtain ⟨t1, l1⟩ := putP_is (H := upd H a (.tup [v, u])) (as := as) nd'.2 (Nat.succ.inj hl) (fun b hb => (upd_ne (fun z : b = a => nd'.1 (by rw [← z]; exact hb))).trans (hn b (List.mem_cons_of_mem _ hb))) (IsL.mono t0 j1) (IsL.mono t0 j2) (Nat.succ.inj hu)
        refine ⟨t0.trans t1, IsL.cons ?_ l1⟩
        exact Is.mono t1 (Is.tn (IsL.cons (Is.mono t0 i1) (IsL.cons (Is.mono t0 i2) IsL.nil)))
section
variable {X : Cx}
theorem rp_keep {M : Md} {H H' : Hp} {S : Sto} (h : Rp M H S) (t : TLe H H') (k : ∀ a o, S a ≠ none → H a = some o → H' a = some o) : Rp M H' S := fun a c e => (h a c e).keep t fun o q => k a o (by rw [e]; exact fun z => by cases z) q
theorem de_listzip {es : List Expr} {e : Expr} {t : DTA} {p p2 q pos : Pos} (hc : X.calm = true) (hg : Gl X "list") (hm : X.mg "list" = none) (hg2 : Gl X "zip") (hm2 : X.mg "zip" = none) (ha : DA X (e :: es) t)
    (hv : bootBuiltins "list" = some (.type "list") := by decide +kernel) (hv2 : bootBuiltins "zip" = some (.type "zip") := by decide +kernel) (he : starEach (e :: es) X.env = (false, eval e X.env) :: starEach es X.env := by rfl) (hpl : (backTo q (starEach es X.env)).any (·.1) = false := by rfl)
    (na : starEach [.Call (.Name "zip" p2) (e :: es) [] q] X.env = (false, eval (.Call (.Name "zip" p2) (e :: es) [] q) X.env) :: starEach [] X.env := by rfl) :
    DE X (.Call (.Name "list" p) [.Call (.Name "zip" p2) (e :: es) [] q] [] pos) (dListZip t) := by
  obtain ⟨t1, a1, a2⟩ := ha.ex
  refine ⟨_, pe_lz hc hg hm hg2 hm2 a1 hv hv2 he hpl na, fun σ H ε S Q he hr q Q2 k => ?_⟩
  refine a2 σ H ε S _ he hr q _ fun vs H1 ds S1 l1 r1 p1 ⟨xs, ys, e1, e2, e3, q1⟩ => ?_
  subst e1
  obtain ⟨v, u, rfl, i1, i2⟩ := r1.two
  obtain ⟨a, us, rfl, sa, la⟩ := i1
  obtain ⟨b, ws, rfl, sb, lb⟩ := i2
  have hl : us.length = ws.length := by rw [la.length, lb.length]; exact e2
  refine ⟨a, b, us, ws, rfl, sa.sq, sb.sq, hl, by rw [la.length]; exact e3, fun p as n1 n2 n3 n4 n5 => ?_⟩
  have t0 : TLe H1 (upd H1 p (.lst (as.map V.ref))) := TLe.new n1
  obtain ⟨t2, l2⟩ := putP_is (H := upd H1 p (.lst (as.map V.ref))) n4 n5 (fun c hc => (upd_ne (fun z : c = p => n3 (by rw [← z]; exact hc))).trans (n2 c hc)) (IsL.mono t0 la) (IsL.mono t0 lb) hl
  have ep : putP (upd H1 p (.lst (as.map V.ref))) as (us.zip ws) p = some (.lst (as.map V.ref)) := (putP_off as _ _ n3).trans upd_same
  refine k _ _ _ _ (l1.trans (t0.trans t2)) Is.r (fun c d e => ?_) (q1 p (p1.free n1))
  by_cases hcp : c = p
  · subst hcp
    rw [put_same] at e
    cases e
    exact ⟨_, ep, l2⟩
  · rw [put_ne hcp] at e
    refine (p1 c d e).keep (t0.trans t2) fun o z => ?_
    have nc : c ∉ as := fun y => by rw [n2 c y] at z; cases z
    exact (putP_off as _ _ nc).trans ((upd_ne hcp).trans z)
end
end DLZ
end
section
/-! The D-layer: more steps through a reading. -/
namespace DL
open PySem PySem.Spec PyProof.Rows L2
theorem i_cdG {ta tb : DTE} {ε : Env} {S : Sto} {Q : DK} (h : ta ε S fun x S1 => ∃ ks vs, x = .cd ks vs ∧ tb ε S1 fun y S2 => okK ks y = true ∧ ∃ z, (cdLook ks vs y).getD .non = z ∧ Q z S2) : dCdGet ta tb ε S Q := by
  have e : (fun x S1 => ∃ ks vs, x = D.cd ks vs ∧ tb ε S1 fun y S2 => okK ks y = true ∧ ∃ z, (cdLook ks vs y).getD .non = z ∧ Q z S2) = fun x S1 => ∃ ks vs, x = D.cd ks vs ∧ tb ε S1 fun y S2 => okK ks y = true ∧ Q ((cdLook ks vs y).getD .non) S2 := by
    funext x S1
    refine propext ⟨fun ⟨ks, vs, a, b⟩ => ⟨ks, vs, a, ?_⟩, fun ⟨ks, vs, a, b⟩ => ⟨ks, vs, a, ?_⟩⟩
    · have e2 : (fun y S2 => okK ks y = true ∧ ∃ z, (cdLook ks vs y).getD .non = z ∧ Q z S2) = fun y S2 => okK ks y = true ∧ Q ((cdLook ks vs y).getD .non) S2 := by
        funext y S2
        exact propext ⟨fun ⟨o, z, h1, h2⟩ => ⟨o, h1 ▸ h2⟩, fun ⟨o, h⟩ => ⟨o, _, rfl, h⟩⟩
      rw [← e2]; exact b
    · have e2 : (fun y S2 => okK ks y = true ∧ ∃ z, (cdLook ks vs y).getD .non = z ∧ Q z S2) = fun y S2 => okK ks y = true ∧ Q ((cdLook ks vs y).getD .non) S2 := by
        funext y S2
        exact propext ⟨fun ⟨o, z, h1, h2⟩ => ⟨o, h1 ▸ h2⟩, fun ⟨o, h⟩ => ⟨o, _, rfl, h⟩⟩
      rw [e2]; exact b
  unfold dCdGet
  rw [← e]
  exact h
theorem flatL_strs : ∀ xs : List Str, flatL (xs.map D.str) = some (xs.map V.str)
  | [] => rfl
  | x :: xs => by
    rw [List.map_cons, List.map_cons]
    show (match scV (D.str x), flatL (xs.map D.str) with | some v, some vs => some (v :: vs) | _, _ => none) = _
    rw [flatL_strs xs]
    rfl
theorem inV_strs (x : Str) (xs : List Str) : inV (V.str x) (xs.map V.str) = decide (x ∈ xs) := by
  unfold inV
  rw [List.any_map, Bool.eq_iff_iff, List.any_eq_true, decide_eq_true_iff]
  constructor
  · rintro ⟨y, hy, e⟩
    have e : y = x := by simpa [eqV] using e
    exact e ▸ hy
  · intro h
    exact ⟨x, h, by simp [eqV]⟩
section
variable {x : Str} {xs : List Str} {a : Addr} {S : Sto} {Q : DK}
theorem i_inTs (h : Q (.bl (decide (x ∈ xs))) S) : oIn (.str x) (.tup (xs.map .str)) S Q := i_inT rfl (flatL_strs xs) (by rw [inV_strs]; exact h)
theorem i_niTs (h : Q (.bl (!decide (x ∈ xs))) S) : oNotIn (.str x) (.tup (xs.map .str)) S Q := i_niT rfl (flatL_strs xs) (by rw [inV_strs]; exact h)
theorem i_inRs (es : S a = some (.lst (xs.map .str))) (h : Q (.bl (decide (x ∈ xs))) S) : oIn (.str x) (.ref a) S Q := i_inR es rfl (flatL_strs xs) (by rw [inV_strs]; exact h)
theorem i_niRs (es : S a = some (.lst (xs.map .str))) (h : Q (.bl (!decide (x ∈ xs))) S) : oNotIn (.str x) (.ref a) S Q := i_niR es rfl (flatL_strs xs) (by rw [inV_strs]; exact h)
theorem atI0 {α : Type} {x : α} {xs : List α} : L2.atI (x :: xs) 0 = some x := by
  unfold L2.atI
  have e : ixN (x :: xs).length 0 = some 0 := by
    unfold ixN
    rw [if_pos (by omega), List.length_cons, if_pos (by omega)]
    rfl
  rw [e]
  rfl
theorem i_ix0 {y : D} {ys : List D} (h : Q y S) : ixA (.tup (y :: ys)) (.int 0) S Q := i_ixT atI0 h
end
theorem any_keq (ns : List Str) (x : Str) : ((ns.map D.str).any fun d => keq d (.str x)) = decide (x ∈ ns) := by
  rw [List.any_map, Bool.eq_iff_iff, List.any_eq_true, decide_eq_true_iff]
  constructor
  · rintro ⟨y, hy, e⟩
    have e : y = x := by simpa [keq] using e
    exact e ▸ hy
  · intro h
    exact ⟨x, h, by simp [keq]⟩
/-- told once -/
def putS (ns : List Str) (x : Str) : List Str := if x ∈ ns then ns else ns ++ [x]
theorem putD_str (ns : List Str) (x : Str) : putD (ns.map D.str) (.str x) = (putS ns x).map D.str := by
  unfold putD putS
  rw [any_keq]
  by_cases h : x ∈ ns
  · rw [decide_eq_true h, if_pos rfl, if_pos h]
  · rw [decide_eq_false h, if_neg (by decide), if_neg h, List.map_append]
    rfl
theorem putS_nodup {ns : List Str} (h : ns.Nodup) (x : Str) : (putS ns x).Nodup := by
  unfold putS
  split
  · exact h
  · rename_i n
    rw [List.nodup_append]
    exact ⟨h, by simp, fun a ha b hb e => by rw [List.mem_singleton] at hb; subst hb; subst e; exact n ha⟩
theorem putS_mem {ns : List Str} {x y : Str} : y ∈ putS ns x ↔ y ∈ ns ∨ y = x := by
  unfold putS
  split
  · rename_i h
    exact ⟨.inl, fun e => e.elim id fun e => e ▸ h⟩
  · simp
theorem putS_len {ns : List Str} {x : Str} : (putS ns x).length ≤ ns.length + 1 := by
  unfold putS
  split
  · omega
  · simp
theorem foldl_putS : ∀ (xs ns : List Str), (xs.map D.str).foldl putD (ns.map D.str) = (xs.foldl putS ns).map D.str
  | [], ns => rfl
  | x :: xs, ns => by
    rw [List.map_cons, List.foldl_cons, List.foldl_cons, putD_str]
    exact foldl_putS xs (putS ns x)
theorem foldl_nodup : ∀ (xs : List Str) {ns : List Str}, ns.Nodup → (xs.foldl putS ns).Nodup
  | [], _, h => h
  | x :: xs, _, h => foldl_nodup xs (putS_nodup h x)
theorem foldl_mem : ∀ (xs : List Str) {ns : List Str} {y : Str}, y ∈ xs.foldl putS ns ↔ y ∈ ns ∨ y ∈ xs
  | [], ns, y => by simp
  | x :: xs, ns, y => by
    rw [List.foldl_cons, foldl_mem xs, putS_mem, List.mem_cons, or_assoc]
theorem foldl_len : ∀ (xs : List Str) {ns : List Str}, (xs.foldl putS ns).length ≤ ns.length + xs.length
  | [], ns => by simp
  | x :: xs, ns => by
    rw [List.foldl_cons]
    have := foldl_len xs (ns := putS ns x)
    have := putS_len (ns := ns) (x := x)
    rw [List.length_cons]
    omega
theorem lePut {S0 S : Sto} {p : Addr} {c : Cell} (h : Le S0 S) (n : S0 p = none) : Le S0 (put S p c) := fun a d e => by
  by_cases q : a = p
  · subst q; rw [n] at e; cases e
  · rw [put_ne q]; exact h a d e
theorem lePut2 {S0 S : Sto} {p : Addr} {c : Cell} (h : Le S0 S) : Le (put S0 p c) (put S p c) := fun a d e => by
  by_cases q : a = p
  · subst q; rw [put_same] at e ⊢; exact e
  · rw [put_ne q] at e ⊢; exact h a d e
theorem nilOrApp {α : Type} (l : List α) : l = [] ∨ ∃ r i, l = r ++ [i] := by
  rcases List.eq_nil_or_concat l with h | ⟨r, i, h⟩
  · exact .inl h
  · exact .inr ⟨r, i, by rw [h, List.concat_eq_append]⟩
theorem log2S {n : Nat} (h : n < 2 ^ 100) : n.log2 < 100 := by
  by_cases e : n = 0
  · subst e; decide
  · exact (Nat.log2_lt e).mpr h
theorem cmulS {i j : Int} (hi : i.natAbs < 2 ^ 100) (hj : j.natAbs < 2 ^ 100) : CMulW i j := by
  have := log2S hi
  have := log2S hj
  unfold CMulW
  omega
section
variable {a b : Int} {S : Sto} {Q : DK}
theorem i_modB (hb : 0 < b) (h : ∀ r, 0 ≤ r → r < b → r = a % b → Q (.int r) S) : oMod (.int a) (.int b) S Q :=
  i_intC hb (h _ (Int.emod_nonneg _ (by omega)) (Int.emod_lt_of_pos _ hb) rfl)
theorem i_mulS (ha : a.natAbs < 2 ^ 100) (hb : b.natAbs < 2 ^ 100) (h : Q (.int (a * b)) S) : oMul (.int a) (.int b) S Q := i_intC (cmulS ha hb) h
theorem i_divS (h0 : 0 < b) (hb : b.natAbs < 2 ^ 100) (h : Q (.int (a / b)) S) : oDiv (.int a) (.int b) S Q := by
  have := log2S hb
  exact i_intC ⟨h0, by omega⟩ h
end
theorem atI_nat {α : Type} {xs : List α} {i : Int} (h0 : 0 ≤ i) (h1 : i < xs.length) : ∃ x ∈ xs, L2.atI xs i = some x := by
  have e : ixN xs.length i = some i.toNat := by
    unfold ixN
    rw [if_pos h0, if_pos h1]
  have hl : i.toNat < xs.length := by omega
  refine ⟨xs[i.toNat], List.getElem_mem hl, ?_⟩
  unfold L2.atI
  rw [e]
  exact List.getElem?_eq_getElem hl
theorem i_ixRs {a : Addr} {xs : List Str} {i : Int} {S : Sto} {Q : DK} (es : S a = some (.lst (xs.map .str))) (h0 : 0 ≤ i) (h1 : i < xs.length) (h : ∀ x ∈ xs, Q (.str x) S) : ixA (.ref a) (.int i) S Q := by
  obtain ⟨x, hx, e⟩ := atI_nat (xs := xs.map D.str) h0 (by rw [List.length_map]; exact h1)
  obtain ⟨y, hy, rfl⟩ := List.mem_map.mp hx
  exact i_ixR es e (h y hy)
theorem i_ixSc {s : Str} {i : Int} {S : Sto} {Q : DK} (z : s.length ≤ sizeLine) (h0 : 0 ≤ i) (h1 : i < s.cps.toList.length) (h : ∀ c, Q (.str ⟨#[c]⟩) S) : ixA (.str s) (.int i) S Q := by
  obtain ⟨c, _, e⟩ := atI_nat (xs := s.cps.toList) h0 h1
  exact i_ixS z e (h c)
end DL
end
section
/-! The D-layer: the end of a list taken off; zip of three tuples. -/
namespace DL
open PySem PySem.Spec PyProof.Rows L2
/-! ### del xs[a:] -/
theorem cut_list {sel : Nat → Bool} {a : Nat} (its : List Value) (h : ∀ k, k < its.length → sel k = decide (a ≤ k)) :
    (its.toArray.toList.zipIdx.filterMap fun (p : Value × Nat) => if sel p.2 = true then none else some p.1).toArray = (its.take a).toArray := by
  have key : ∀ (l : List Value) (n : Nat), (∀ k, n ≤ k → k < n + l.length → sel k = decide (a ≤ k)) → (l.zipIdx n).filterMap (fun (p : Value × Nat) => if sel p.2 = true then none else some p.1) = l.take (a - n) := by
    intro l
    induction l with
    | nil => intro n _; simp
    | cons x r ih =>
      intro n hs
      have hh := hs n (Nat.le_refl _) (by simp)
      have it := ih (n + 1) (fun k h1 h2 => hs k (by omega) (by simp at h2 ⊢; omega))
      rw [List.zipIdx_cons, List.filterMap_cons]
      by_cases hc : a ≤ n
      · simp only [hh, hc, decide_true, if_true]
        rw [it]
        rw [show a - (n + 1) = 0 by omega, show a - n = 0 by omega]
        simp
      · simp only [hh, hc, decide_false, Bool.false_eq_true, if_false]
        rw [it, show a - n = (a - (n + 1)) + 1 by omega]
        rfl
  rw [key its 0 (fun k _ h2 => h k (by simpa using h2))]
  rfl
theorem bounds_from {a n : Nat} (ha : a ≤ n) : sliceBounds (some (a : Int)) none none n = ((a : Int), (n : Int), 1) := by
  simp only [sliceBounds, Option.getD_none]
  have h1 : ¬ ((a : Int) < 0) := by omega
  simp [h1]
  omega
section
variable {prog : Program} {w : World} {A : Around} {E : Value → Shared → Prop} {s : Shared}
theorem del_step {l : Addr} {its : List Value} {n a : Nat} {sel : Nat → Bool} {g : List Value} {R : Fin → Shared → Prop} (e : s.heap.get? l = some { cls := .type "list", data := .seq its.toArray n })
    (hs : ∀ k, k < its.length → sel k = decide (a ≤ k)) (hsz : its.length ≤ sizeLine)
    (h : ∀ f : Array Value → Array Value, f its.toArray = (its.take a).toArray → R (.done (.ret .none)) { s with heap := s.heap.update l (Obj.mapSeq f) }) :
    wpAny (model prog w) A (do
      Builtin.List.listUpdate (.ref l) fun xs => (List.filterMap (fun (x : Value × Nat) => if sel x.snd = true then none else some x.fst) xs.toList.zipIdx).toArray
      letGo g
      ret .none) R E s := by
  have q := cut_list its hs
  show wpAny _ _ (updateSeq l _ >>= _) _ _ _
  refine wpAny_bind (wpAny_updateSeq (hz := by rw [List.size_toArray]; exact hsz) (_hz' := ?z) e rfl ?_)
  case z =>
    refine Nat.le_trans (Nat.le_of_eq (congrArg Array.size q)) ?_
    rw [List.size_toArray, List.length_take]
    omega
  refine wpAny_bind (wpAny_letGo ?_)
  exact wpAny_pure (h _ q)
theorem delItem_from {l sl : Addr} {its : List Value} {n : Nat} {vl vu : Value} {a : Nat} {Q : Unit → Shared → Prop} (e : s.heap.get? l = some { cls := .type "list", data := .seq its.toArray n })
    (hs : s.heap.IsSliceOf sl vl vu .none) (pl : IsPart vl (some (a : Int))) (pu : IsPart vu none) (ha : a ≤ its.length) (hsz : its.length ≤ sizeLine)
    (h : ∀ f : Array Value → Array Value, f its.toArray = (its.take a).toArray → Q () { s with heap := s.heap.update l (Obj.mapSeq f) }) :
    wpAny (model prog w) A (delItem (.ref l) (.ref sl)) Q E s := by
  have hl : s.heap.IsList l its.toArray := PySem.IsL.isList e
  obtain ⟨os, hos, hcs, hds⟩ := id hs
  have hTs : s.TypeIs (.ref sl) "slice" := ⟨os, hos, hcs⟩
  have hstep : ¬ ((rawPart none == rawInt 0) = true) := Bool.false_ne_true
  refine wpAny_delItem_slot hl.typeIs (by decide) F.slot_list_delitem (wpAny_call_entry F.slot_list_delitem hl.typeIs F.entry_list_delitem ?_ (F.args_list_delitem_2 _ _))
  show wpAny _ _ (Builtin.List.listSubscript? (.ref sl) >>= _) _ _ s
  refine wpAny_bind ?_
  unfold Builtin.List.listSubscript?
  refine wpAny_bind (wpAny_specialOf hTs slice_no_index ?_)
  simp only [Option.isNone_none, if_true]
  refine wpAny_pure ?_
  show wpAny _ _ (typeOf (.ref sl) >>= _) _ _ s
  refine wpAny_bind (wpAny_typeOf hTs ?_)
  first
    | rw [if_neg (by decide)]
    | refine PySem.W.KFB.if_not (by decide) ?_
  rw [listSliceParts_eq]
  refine wpAny_bind (wpAny_bind (wpAny_field hos hds (x := .none) rfl (wpAny_bind (wpAny_listPart .none ?_))))
  rw [if_neg hstep]
  refine wpAny_bind (wpAny_field hos hds (x := vl) rfl (wpAny_bind (wpAny_listPart pl ?_)))
  refine wpAny_bind (wpAny_field hos hds (x := vu) rfl (wpAny_bind (wpAny_listPart pu (wpAny_pure ?_))))
  unfold Builtin.List.listItems
  refine wpAny_bind (wpAny_bind (wpAny_seqItems e rfl (wpAny_pure ?_)))
  refine wpAny_bind (wpAny_of_eq ((sliceIndices_raw (some (a : Int)) none none its.toArray.size (by simp)).trans (congrArg (pure : Int × Int × Int → Sem (Int × Int × Int)) (bounds_from (by rw [List.size_toArray]; exact ha)))) ?_)
  refine wpAny_bind (wpAny_rule ?_)
  refine del_step (a := a) e ?_ hsz fun f hf => ⟨.none, rfl, h f hf⟩
  intro k hk
  show (decide ((a : Int) ≤ (k : Int)) && decide ((k : Int) < (its.toArray.size : Int)) && (((k : Int) - (a : Int)) % 1 == 0)) = _
  rw [List.size_toArray, Int.emod_one]
  simp
  omega
end
section
variable {X : Cx}
theorem del_from {pins : List (Addr × Obj)} {s : Shared} {σ : L2.St} {H : Hp} {l sl : Addr} {xs : List V} {a : Nat} {vl vu : Value} {Q : Unit → Shared → Prop} (I : Inv X pins σ H s) (hH : H l = some (.lst xs))
    (hs : s.heap.IsSliceOf sl vl vu .none) (pl : IsPart vl (some (a : Int))) (pu : IsPart vu none) (ha : a ≤ xs.length) (h : ∀ s', Inv X pins σ (upd H l (.lst (xs.take a))) s' → Q () s') :
    wpAny (model X.prog X.w) X.A (delItem (.ref l) (.ref sl)) Q X.xe s := by
  obtain ⟨z, its, n, r, hl, e⟩ := I.lstM hH
  refine delItem_from e hs pl pu (by omega) (by omega) fun f hf => h _ ?_
  refine I.lset (its' := its.take a) (t' := s.toks) hH e hf (r.take _) ?_
  rw [List.length_take]
  omega
def tDelFrom (to : TE) (tl : TO) : TS := fun D σ H => to σ H fun x H1 => tl σ H1 fun y H2 => ∃ (l : Addr) (xs : List V) (a : Nat), x = .ref l ∧ y = some (a : Int) ∧ H2 l = some (.lst xs) ∧ a ≤ xs.length ∧ D.nx σ (upd H2 l (.lst (xs.take a)))
theorem ps_delFrom {o : Expr} {lo : Option Expr} {to : TE} {tl : TO} {tpos p2 pos : Pos} (ho : PE X o to) (hl : PO X lo tl) : PS X (.Delete [.Subscript o (.Slice lo none none p2) tpos] pos) (tDelFrom to tl) := by
  refine ⟨fun pins s σ H D I h => ?_⟩
  refine wpAny_Delete (wpAny_deleteEach_cons (wpAny_delete_Subscript (thn (ho.run pins s σ H _ I h) fun u s1 ⟨x, H1, I1, rx, q1⟩ => ?_)))
  refine wpAny_Slice (thn (hl.run pins s1 σ H1 _ I1 q1) fun vl s2 ⟨y, H2, I2, pl, q2⟩ => ?_)
  rw [evalPart_none]
  refine wpAny_pure (wpAny_pure ?_)
  obtain ⟨l, xs, a, ex, ey, hH, ha, q3⟩ := q2
  subst ex ey
  cases (show u = Value.ref l from rx)
  have I4 : Inv X pins σ H2 { s2 with heap := s2.heap.push { cls := .type "slice", data := .fields #[vl, .none, .none] } } := I2.kept (t' := s2.toks) fun b ob q => Heap.get?_push_of_some _ q
  exact del_from I4 hH (Heap.IsSliceOf.new ..) pl .none ha fun s3 I3 => wpAny_deleteEach_nil ⟨σ, _, I3, q3⟩
def dDelFrom (to : DTE) (tl : DTO) : DTS := fun D ε S => to ε S fun x S1 => tl ε S1 fun y S2 => ∃ (l : Addr) (xs : List DL.D) (a : Nat), x = .ref l ∧ y = some (a : Int) ∧ S2 l = some (.lst xs) ∧ a ≤ xs.length ∧ D.nx ε (put S2 l (.lst (xs.take a)))
theorem ds_delFrom {o : Expr} {lo : Option Expr} {to : DTE} {tl : DTO} {tpos p2 pos : Pos} (ho : DE X o to) (hl : DO X lo tl) : DS X (.Delete [.Subscript o (.Slice lo none none p2) tpos] pos) (dDelFrom to tl) := by
  obtain ⟨t1, a1, a2⟩ := ho.ex
  obtain ⟨t2, b1, b2⟩ := hl.ex
  refine ⟨_, ps_delFrom a1 b1, fun σ H ε S Dd D he hr hd q => ?_⟩
  refine a2 σ H ε S _ he hr q _ fun v H1 d S1 l1 r1 p1 q1 => ?_
  refine b2 σ H1 ε S1 _ (he.mono l1) p1 q1 _ fun y H2 S2 l2 p2 q2 => ?_
  obtain ⟨l, xs, a, e1, e2, s3, ha, q3⟩ := q2
  subst e1 e2
  obtain ⟨us, h3, i3⟩ := p2 _ _ s3
  have l4 : TLe H2 (upd H2 l (.lst (us.take a))) := tl_mut h3
  have ll := (l1.trans l2).trans l4
  refine ⟨l, us, a, Is.mono l2 r1, rfl, h3, by rw [i3.length]; exact ha, ?_⟩
  exact hd.nx _ _ _ _ ll (he.mono ll) (p2.put l4 (CellIs.ln (IsL.mono l4 (IsL.take a i3)))) q3
end
end DL
end
section
/-! The D-layer: zip of three tuples. -/
namespace DL
open PySem PySem.Spec PyProof.Rows L2
section
variable {prog : Program} {w : World} {A : Around} {E : Value → Shared → Prop} {s : Shared} {z TI TO i1 i2 i3 l1 l2 l3 : Addr} {xs ys zs : Array Value} {i : Nat} {a1 a2 a3 : Value}
theorem pyNext_zip3_item {Q : Option Value → Shared → Prop} (hh : A.handled = none) (S : ZipSep3 z TI TO i1 i2 i3 [i1, l1] [i2, l2] [i3, l3])
    (hz : IsZip s.heap z TI TO .none) (hTI : IsTupOf3 s.heap TI (.ref i1) (.ref i2) (.ref i3)) (hTO : IsTupOf3 s.heap TO a1 a2 a3)
    (h1 : s.heap.IsTupleIter i1 l1 i) (h2 : s.heap.IsTupleIter i2 l2 i) (h3 : s.heap.IsTupleIter i3 l3 i) (t1 : s.heap.IsTuple l1 xs) (t2 : s.heap.IsTuple l2 ys) (t3 : s.heap.IsTuple l3 zs) (n1 : l1 ≠ i1) (n2 : l2 ≠ i2) (n3 : l3 ≠ i3)
    (e1 : i < xs.size) (e2 : i < ys.size) (e3 : i < zs.size)
    (hQ : ∀ x1 x2 x3 h' tk, xs[i]? = some x1 → ys[i]? = some x2 → zs[i]? = some x3 → IsZip h' z TI TO (rawInt s.heap.objs.size) → IsTupOf3 h' TO x1 x2 x3 → h'.IsTupleIter i1 l1 (i + 1) → h'.IsTupleIter i2 l2 (i + 1) → h'.IsTupleIter i3 l3 (i + 1) →
      IsTupOf3 h' s.heap.objs.size x1 x2 x3 → (∀ c o, c ≠ z → c ≠ TO → c ≠ i1 → c ≠ i2 → c ≠ i3 → s.heap.get? c = some o → h'.get? c = some o) → Q (some (.ref s.heap.objs.size)) { s with heap := h', toks := tk }) :
    wpAny (model prog w) A (pyNext (.ref z)) Q E s := by
  have hT : s.TypeIs (.ref z) "zip" := ⟨_, hz, rfl⟩
  have D1 : Draws prog w A.in1 i1 _ _ _ _ := Draws.tuple (show A.in1.handled = none from hh) i1 l1 n1 xs
  have D2 : Draws prog w A.in1 i2 _ _ _ _ := Draws.tuple (show A.in1.handled = none from hh) i2 l2 n2 ys
  have D3 : Draws prog w A.in1 i3 _ _ _ _ := Draws.tuple (show A.in1.handled = none from hh) i3 l3 n3 zs
  unfold pyNext
  exact wpAny_bind (wpAny_attempt (wpAny_callSpecial?_slot (name := Str.ofString "__next__") hT F.slot_zip_next
    (wpAny_call_entry F.slot_zip_next hT F.entry_zip_next
      (zipD3_next_item S D1 D2 D3 hz hTI hTO ⟨h1, t1⟩ ⟨h2, t2⟩ ⟨h3, t3⟩ e1 e2 e3
        fun x1 x2 x3 h' tk p1 p2 p3 b1 b2 b3 b4 b5 b6 b7 b8 => wpAny_pure (hQ x1 x2 x3 h' tk p1 p2 p3 b1 b2 b3.1 b4.1 b5.1 b6 b8)) (F.args_zip_next_1 _))))
theorem pyNext_zip3_end {Q : Option Value → Shared → Prop} (hh : A.handled = none) (S : ZipSep3 z TI TO i1 i2 i3 [i1, l1] [i2, l2] [i3, l3])
    (hz : IsZip s.heap z TI TO .none) (hTI : IsTupOf3 s.heap TI (.ref i1) (.ref i2) (.ref i3)) (hTO : IsTupOf3 s.heap TO a1 a2 a3)
    (h1 : s.heap.IsTupleIter i1 l1 i) (h2 : s.heap.IsTupleIter i2 l2 i) (h3 : s.heap.IsTupleIter i3 l3 i) (t1 : s.heap.IsTuple l1 xs) (t2 : s.heap.IsTuple l2 ys) (t3 : s.heap.IsTuple l3 zs) (n1 : l1 ≠ i1) (n2 : l2 ≠ i2) (n3 : l3 ≠ i3)
    (e1 : i ≤ xs.size) (e2 : i ≤ ys.size) (e3 : i ≤ zs.size) (he : i = xs.size ∨ i = ys.size ∨ i = zs.size)
    (hQ : ∀ h' tk, (∀ c o, c ≠ z → c ≠ TO → c ≠ i1 → c ≠ i2 → c ≠ i3 → s.heap.get? c = some o → h'.get? c = some o) → Q none { s with heap := h', toks := tk }) :
    wpAny (model prog w) A (pyNext (.ref z)) Q E s := by
  have hT : s.TypeIs (.ref z) "zip" := ⟨_, hz, rfl⟩
  have D1 : Draws prog w A.in1 i1 _ _ _ _ := Draws.tuple (show A.in1.handled = none from hh) i1 l1 n1 xs
  have D2 : Draws prog w A.in1 i2 _ _ _ _ := Draws.tuple (show A.in1.handled = none from hh) i2 l2 n2 ys
  have D3 : Draws prog w A.in1 i3 _ _ _ _ := Draws.tuple (show A.in1.handled = none from hh) i3 l3 n3 zs
  unfold pyNext
  refine wpAny_bind (wpAny_attempt (wpAny_callSpecial?_slot (name := Str.ofString "__next__") hT F.slot_zip_next
    (wpAny_call_entry F.slot_zip_next hT F.entry_zip_next (zipD3_next_end S D1 D2 D3 hz hTI hTO ⟨h1, t1⟩ ⟨h2, t2⟩ ⟨h3, t3⟩ e1 e2 e3 he fun h' tk e hk he => ?_) (F.args_zip_next_1 _))))
  obtain ⟨o, ho, hc⟩ := he
  refine wpAny_bind (wpAny_isInstance (T := "StopIteration") (b := true) ⟨o, ho, hc⟩ isSubtype_stop ?_)
  exact wpAny_pure (hQ _ _ hk)
end
/-- the tuples at a, b, c as they stand at each turn, the items in new triples -/
def Itz3 (K : PySem.W.Frag) (a b c : Addr) : It :=
  ⟨fun i H => ∃ (xs ys zs : List V) (x y z : V), SqT K H a xs ∧ SqT K H b ys ∧ SqT K H c zs ∧ xs[i]? = some x ∧ ys[i]? = some y ∧ zs[i]? = some z,
    fun i H v H' => ∃ T x y z, v = .ref T ∧ H T = none ∧ H' = upd H T (.tup [x, y, z]) ∧ (∀ xs, SqT K H a xs → xs[i]? = some x) ∧ (∀ ys, SqT K H b ys → ys[i]? = some y) ∧ ∀ zs, SqT K H c zs → zs[i]? = some z,
    fun i H => ∃ xs ys zs : List V, SqT K H a xs ∧ SqT K H b ys ∧ SqT K H c zs ∧ i ≤ xs.length ∧ i ≤ ys.length ∧ i ≤ zs.length ∧ (i = xs.length ∨ i = ys.length ∨ i = zs.length)⟩
theorem turn_zip3 {P : Program} {w : World} {K : PySem.W.Frag} {elts : List Expr} {kk : Nat} {tpos : Pos} {a b c z TI TO i1 i2 i3 : Addr} (S : ZipSep3 z TI TO i1 i2 i3 [i1, a] [i2, b] [i3, c]) (n1 : a ≠ i1) (n2 : b ≠ i2) (n3 : c ≠ i3) :
    Turn P w K (.Tuple elts kk tpos) (Itz3 K a b c) [z, TI, TO, i1, i2, i3] z (fun i h => IsZip h z TI TO .none ∧ IsTupOf3 h TI (.ref i1) (.ref i2) (.ref i3) ∧ (∃ x y u, IsTupOf3 h TO x y u) ∧ h.IsTupleIter i1 a i ∧ h.IsTupleIter i2 b i ∧ h.IsTupleIter i3 c i) where
  mem := by simp
  obj := fun i h st c hc => by
    obtain ⟨hz, hTI, ⟨x, y, u, hTO⟩, ⟨o1, e1, _, d1⟩, ⟨o2, e2, _, d2⟩, ⟨o3, e3, _, d3⟩⟩ := st
    have e' : c = z ∨ c = TI ∨ c = TO ∨ c = i1 ∨ c = i2 ∨ c = i3 := by simpa using hc
    rcases e' with q | q | q | q | q | q
    · rw [q]; exact ⟨_, hz, fun v q => nomatch q⟩
    · rw [q]; exact ⟨_, hTI, fun v q => nomatch q⟩
    · rw [q]; exact ⟨_, hTO, fun v q => nomatch q⟩
    · rw [q]; exact ⟨o1, e1, fun v q => by rw [d1] at q; cases q⟩
    · rw [q]; exact ⟨o2, e2, fun v q => by rw [d2] at q; cases q⟩
    · rw [q]; exact ⟨o3, e3, fun v q => by rw [d3] at q; cases q⟩
  keep := fun i h h' st k => by
    obtain ⟨hz, hTI, ⟨x, y, u, hTO⟩, h1, h2, h3⟩ := st
    exact ⟨k z (by simp) _ hz, k TI (by simp) _ hTI, ⟨x, y, u, k TO (by simp) _ hTO⟩, h1.at fun o q => k i1 (by simp) o q, h2.at fun o q => k i2 (by simp) o q, h3.at fun o q => k i3 (by simp) o q⟩
  item := by
    intro X hP hw hK hc i pins s σ H E I hf st hg
    subst hP hw hK
    obtain ⟨hz, hTI, ⟨x0, y0, u0, hTO⟩, h1, h2, h3⟩ := st
    obtain ⟨xs, ys, zs, x, y, u, hqx, hqy, hqz, hx, hy, hu⟩ := hg
    obtain ⟨its, rv, p, _⟩ := I.tuple hqx
    obtain ⟨its2, rv2, p2, _⟩ := I.tuple hqy
    obtain ⟨its3, rv3, p3, _⟩ := I.tuple hqz
    obtain ⟨v1, hv1, r1⟩ := rv.get hx
    obtain ⟨v2, hv2, r2⟩ := rv2.get hy
    obtain ⟨v3, hv3, r3⟩ := rv3.get hu
    have hzl : z < s.heap.objs.size := Heap.lt_size hz
    refine pyNext_zip3_item (I.ok.hd hc) S hz hTI hTO h1 h2 h3 p p2 p3 n1 n2 n3 (by rw [List.size_toArray]; exact (List.getElem?_eq_some_iff.mp hv1).1) (by rw [List.size_toArray]; exact (List.getElem?_eq_some_iff.mp hv2).1) (by rw [List.size_toArray]; exact (List.getElem?_eq_some_iff.mp hv3).1) fun x1 x2 x3 h' tk q1 q2 q3 z' TO' h1' h2' h3' hT hk => ?_
    have e1 : x1 = v1 := by simpa [hv1] using q1.symm
    have e2 : x2 = v2 := by simpa [hv2] using q2.symm
    have e3 : x3 = v3 := by simpa [hv3] using q3.symm
    subst e1 e2 e3
    refine ⟨_, rfl, wpAny_letOwnedTupleGo_zip (s := { s with heap := h', toks := tk }) z' fun h'' z'' sb => ?_⟩
    have hT2 : h''.get? s.heap.objs.size = some { cls := .type "tuple", data := .seq #[x1, x2, x3] } := (sb.2 _ (Nat.ne_of_gt hzl)).trans hT
    have new : ObjOk X.prog X.w (upd H s.heap.objs.size (.tup [x, y, u])) h'' s.heap.objs.size (.tup [x, y, u]) :=
      ⟨by show 3 ≤ sizeLine; decide, [x1, x2, x3], .cons r1 (.cons r2 (.cons r3 .nil)), ⟨_, hT2, rfl, _, rfl⟩⟩
    have I1 : Inv X pins σ (upd H s.heap.objs.size (.tup [x, y, u])) { s with heap := h'', toks := tk } :=
      I.turnedNew (t' := tk) (ch := [z, TI, TO, i1, i2, i3]) (fun c o hb q => (sb.2 c (fun q' => hb (by simp [q']))).trans (hk c o (fun q' => hb (by simp [q'])) (fun q' => hb (by simp [q'])) (fun q' => hb (by simp [q'])) (fun q' => hb (by simp [q'])) (fun q' => hb (by simp [q'])) q)) hf (Nat.le_refl _) new
    refine ⟨.ref s.heap.objs.size, _, I1, rfl, ⟨_, x, y, u, rfl, I.hok.fresh (Nat.le_refl _), rfl, fun l hl => by rw [I.tuple_inj hl hqx]; exact hx, fun l hl => by rw [I.tuple_inj hl hqy]; exact hy, fun l hl => by rw [I.tuple_inj hl hqz]; exact hu⟩, ⟨z'', ?_, ⟨x1, x2, x3, ?_⟩, ?_, ?_, ?_⟩, fun c hcm => ?_⟩
    · exact (sb.2 _ S.TIz).trans (hk _ _ S.TIz S.TITO S.TIi1 S.TIi2 S.TIi3 hTI)
    · exact (sb.2 _ S.TOz).trans TO'
    · exact h1'.at fun o q => (sb.2 _ S.zi1.symm).trans q
    · exact h2'.at fun o q => (sb.2 _ S.zi2.symm).trans q
    · exact h3'.at fun o q => (sb.2 _ S.zi3.symm).trans q
    · have hlt : c < s.heap.objs.size := by
        have e' : c = z ∨ c = TI ∨ c = TO ∨ c = i1 ∨ c = i2 ∨ c = i3 := by simpa using hcm
        rcases e' with q | q | q | q | q | q
        · rw [q]; exact hzl
        · rw [q]; exact Heap.lt_size hTI
        · rw [q]; exact Heap.lt_size hTO
        · rw [q]; obtain ⟨_, e1, _⟩ := h1; exact Heap.lt_size e1
        · rw [q]; obtain ⟨_, e2, _⟩ := h2; exact Heap.lt_size e2
        · rw [q]; obtain ⟨_, e2, _⟩ := h3; exact Heap.lt_size e2
      rw [upd_ne (Nat.ne_of_lt hlt)]
      exact (hf c hcm).1
  done := by
    intro X hP hw hK hc i pins s σ H E I hf st hg
    subst hP hw hK
    obtain ⟨hz, hTI, ⟨x0, y0, u0, hTO⟩, h1, h2, h3⟩ := st
    obtain ⟨xs, ys, zs, hqx, hqy, hqz, z1, z2, z3, hend⟩ := hg
    obtain ⟨its, rv, p, _⟩ := I.tuple hqx
    obtain ⟨its2, rv2, p2, _⟩ := I.tuple hqy
    obtain ⟨its3, rv3, p3, _⟩ := I.tuple hqz
    have l1 := rv.length
    have l2 := rv2.length
    have l3 := rv3.length
    exact pyNext_zip3_end (I.ok.hd hc) S hz hTI hTO h1 h2 h3 p p2 p3 n1 n2 n3 (by rw [List.size_toArray]; omega) (by rw [List.size_toArray]; omega) (by rw [List.size_toArray]; omega) (by rw [List.size_toArray, List.size_toArray, List.size_toArray]; omega) fun h' tk hk => ⟨rfl, I.turnedL (t' := tk) (ch := [z, TI, TO, i1, i2, i3]) (fun c o hb q =>
      hk c o (fun q' => hb (by simp [q'])) (fun q' => hb (by simp [q'])) (fun q' => hb (by simp [q'])) (fun q' => hb (by simp [q'])) (fun q' => hb (by simp [q'])) q) hf⟩
  self := fun A i s Q E st h => wpAny_pyIter_zip st.1 h
def iZip3 (K : PySem.W.Frag) (ta : TA) : TI := fun σ H R => ta σ H fun vs H1 => ∃ a b c xs ys zs, vs = [.ref a, .ref b, .ref c] ∧ SqT K H1 a xs ∧ SqT K H1 b ys ∧ SqT K H1 c zs ∧ R (Itz3 K a b c) H1
theorem pi_zip3 {X : Cx} {e e2 e3 : Expr} {ta : TA} {p pos tpos : Pos} {elts : List Expr} {kk : Nat} (hg : Gl X "zip") (hm : X.mg "zip" = none) (ha : PA X [e, e2, e3] ta)
    (hs : starEach [e, e2, e3] X.env = (false, eval e X.env) :: starEach [e2, e3] X.env := by rfl) (hpl : (backTo pos (starEach [e2, e3] X.env)).any (·.1) = false := by rfl) :
    PI X (.Tuple elts kk tpos) (.Call (.Name "zip" p) [e, e2, e3] [] pos) (iZip3 X.K ta) := by
  refine ⟨fun pins s σ H R I h => ?_⟩
  refine Call_ (ld_blt I hg hm PyProof.Rows.boot_zip (PyProof.Rows.callWith_type1 (thn (ha.run pos pins s σ H _ I h) fun us s1 ⟨vs, H1, I1, r1, q1⟩ => ?_) hs hpl))
  obtain ⟨a, b, c, xs, ys, zs, ex, hqx, hqy, hqz, q⟩ := q1
  subst ex
  cases r1 with
  | cons r rr =>
    cases rr with
    | cons r' rr =>
      cases rr with
      | cons r'' rr =>
        cases rr
        cases r
        cases r'
        cases r''
        have fresh : ∀ d, d ∈ [s1.heap.objs.size + 5, s1.heap.objs.size + 3, s1.heap.objs.size + 4, s1.heap.objs.size, s1.heap.objs.size + 1, s1.heap.objs.size + 2] → FpOk X pins H1 d := fun d hcm => by
          have e' : d = s1.heap.objs.size + 5 ∨ d = s1.heap.objs.size + 3 ∨ d = s1.heap.objs.size + 4 ∨ d = s1.heap.objs.size ∨ d = s1.heap.objs.size + 1 ∨ d = s1.heap.objs.size + 2 := by simpa using hcm
          have hle : s1.heap.objs.size ≤ d := by
            rcases e' with z | z | z | z | z | z
            · rw [z]; exact Nat.le_add_right _ _
            · rw [z]; exact Nat.le_add_right _ _
            · rw [z]; exact Nat.le_add_right _ _
            · rw [z]; exact Nat.le_refl _
            · rw [z]; exact Nat.le_add_right _ _
            · rw [z]; exact Nat.le_add_right _ _
          exact I1.fpOk hle (I1.hok.fresh hle)
        obtain ⟨its, rv, p1, _⟩ := I1.tuple hqx
        obtain ⟨its2, rv2, p2, _⟩ := I1.tuple hqy
        obtain ⟨its3, rv3, p3, _⟩ := I1.tuple hqz
        obtain ⟨o1, ho1, _⟩ := id p1
        obtain ⟨o2, ho2, _⟩ := id p2
        obtain ⟨o3, ho3, _⟩ := id p3
        have lt1 := Heap.lt_size ho1
        have lt2 := Heap.lt_size ho2
        have lt3 := Heap.lt_size ho3
        refine zip_begins3 (begins_tuple a its.toArray) (begins_tuple b its2.toArray) (begins_tuple c its3.toArray) p1 p2 p3 fun h' hz hTI hTO g1 g2 g3 hsz hk => wpAny_pyIter_zip hz ?_
        have I2 : Inv X pins σ H1 { s1 with heap := h' } := I1.kept (t' := s1.toks) hk
        refine ⟨s1.heap.objs.size + 5, [s1.heap.objs.size + 5, s1.heap.objs.size + 3, s1.heap.objs.size + 4, s1.heap.objs.size, s1.heap.objs.size + 1, s1.heap.objs.size + 2], _, _, H1, rfl, I2,
          turn_zip3 (zip_sep3 (N := s1.heap.objs.size) (fp1 := [a]) (fp2 := [b]) (fp3 := [c]) (by simpa using lt1) (by simpa using lt2) (by simpa using lt3)) (Nat.ne_of_lt lt1) ?_ ?_, ⟨hz, hTI, ⟨_, _, _, hTO⟩, ⟨_, g1, rfl, rfl⟩, ⟨_, g2, rfl, rfl⟩, ⟨_, g3, rfl, rfl⟩⟩, fresh, q⟩
        · exact Nat.ne_of_lt (Nat.lt_succ_of_lt lt2)
        · exact Nat.ne_of_lt (Nat.lt_succ_of_lt (Nat.lt_succ_of_lt lt3))
/-- the triples -/
def zip3 : List D → List D → List D → List D
  | x :: xs, y :: ys, z :: zs => .tup [x, y, z] :: zip3 xs ys zs
  | _, _, _ => []
theorem zip3_get : ∀ {xs ys zs : List D} {i : Nat} {d : D}, (zip3 xs ys zs)[i]? = some d → ∃ x y z, xs[i]? = some x ∧ ys[i]? = some y ∧ zs[i]? = some z ∧ d = .tup [x, y, z]
  | x :: xs, y :: ys, z :: zs, 0, d, h => ⟨x, y, z, rfl, rfl, rfl, by simp [zip3] at h; exact h.symm⟩
  | x :: xs, y :: ys, z :: zs, i + 1, d, h => by
    simp only [zip3, List.getElem?_cons_succ] at h ⊢
    exact zip3_get h
  | [], _, _, i, d, h => by simp [zip3] at h
  | x :: xs, [], _, i, d, h => by simp [zip3] at h
  | x :: xs, y :: ys, [], i, d, h => by simp [zip3] at h
theorem zip3_len : ∀ xs ys zs : List D, (zip3 xs ys zs).length = min (min xs.length ys.length) zs.length
  | x :: xs, y :: ys, z :: zs => by
    simp only [zip3, List.length_cons, zip3_len xs ys zs]
    omega
  | [], _, _ => by simp [zip3]
  | x :: xs, [], _ => by simp [zip3]
  | x :: xs, y :: ys, [] => by simp [zip3]
theorem itok_zip3 {M : Md} {H0 : Hp} {a b c : Addr} {xs ys zs : List D} {us vs ws : List V} {stb : Sto → Prop} (q1 : TpT M.K H0 a us) (q2 : TpT M.K H0 b vs) (q3 : TpT M.K H0 c ws) (l1 : IsL M H0 us xs) (l2 : IsL M H0 vs ys) (l3 : IsL M H0 ws zs) :
    ItOk M (Itz3 M.K a b c) H0 (zip3 xs ys zs) stb where
  go := fun i H S lt l p s => by
    obtain ⟨x, y, z, e1, e2, e3, _⟩ := zip3_get (List.getElem?_eq_getElem lt)
    obtain ⟨v1, f1, _⟩ := (IsL.mono l l1).get e1
    obtain ⟨v2, f2, _⟩ := (IsL.mono l l2).get e2
    obtain ⟨v3, f3, _⟩ := (IsL.mono l l3).get e3
    exact ⟨us, vs, ws, v1, v2, v3, (l.sqT q1).sq, (l.sqT q2).sq, (l.sqT q3).sq, f1, f2, f3⟩
  stop := fun H S l p s => by
    have h1 := l1.length
    have h2 := l2.length
    have h3 := l3.length
    have hl := zip3_len xs ys zs
    exact ⟨us, vs, ws, (l.sqT q1).sq, (l.sqT q2).sq, (l.sqT q3).sq, by omega, by omega, by omega, by omega⟩
  yld := fun i H S x H' lt l p s ⟨T, v1, v2, v3, ev, hT, eH, f1, f2, f3⟩ => by
    subst ev eH
    obtain ⟨x, y, z, e1, e2, e3, e4⟩ := zip3_get (List.getElem?_eq_getElem lt)
    obtain ⟨u1, g1, r1⟩ := (IsL.mono l l1).get e1
    obtain ⟨u2, g2, r2⟩ := (IsL.mono l l2).get e2
    obtain ⟨u3, g3, r3⟩ := (IsL.mono l l3).get e3
    have k1 := f1 us (l.sqT q1).sq
    have k2 := f2 vs (l.sqT q2).sq
    have k3 := f3 ws (l.sqT q3).sq
    rw [g1] at k1; cases k1
    rw [g2] at k2; cases k2
    rw [g3] at k3; cases k3
    have t : TLe H (upd H T (.tup [v1, v2, v3])) := TLe.new hT
    refine ⟨_, (List.getElem?_eq_getElem lt).trans (congrArg some e4), t, ⟨T, [v1, v2, v3], rfl, .inl (upd_same ..), ?_⟩, p.new hT⟩
    exact .cons (Is.mono t r1) (.cons (Is.mono t r2) (.cons (Is.mono t r3) .nil))
def iZip (ta : DTA) : DTI := fun ε S K => ta ε S fun ds S1 => ∃ xs ys zs, ds = [.tup xs, .tup ys, .tup zs] ∧ K (zip3 xs ys zs) (fun _ => True) S1
theorem IsL.three {M : Md} {H : Hp} {vs : List V} {d d' d'' : D} (h : IsL M H vs [d, d', d'']) : ∃ v u w, vs = [v, u, w] ∧ Is M H v d ∧ Is M H u d' ∧ Is M H w d'' := by
  obtain ⟨v, r, e, i, h⟩ := h
  obtain ⟨u, r2, e2, i2, h⟩ := h
  obtain ⟨w, r3, e3, i3, h⟩ := h
  cases h
  subst e3 e2 e
  exact ⟨v, u, w, rfl, i, i2, i3⟩
theorem di_zip {X : Cx} {e e2 e3 : Expr} {ta : DTA} {p pos tpos : Pos} {elts : List Expr} {kk : Nat} (hg : Gl X "zip") (hm : X.mg "zip" = none) (ha : DA X [e, e2, e3] ta)
    (hs : starEach [e, e2, e3] X.env = (false, eval e X.env) :: starEach [e2, e3] X.env := by rfl) (hpl : (backTo pos (starEach [e2, e3] X.env)).any (·.1) = false := by rfl) :
    DI X (.Tuple elts kk tpos) (.Call (.Name "zip" p) [e, e2, e3] [] pos) (iZip ta) := by
  obtain ⟨t1, a1, a2⟩ := ha.ex
  refine ⟨_, pi_zip3 hg hm a1 hs hpl, fun σ H ε S K he hr q R k => ?_⟩
  refine a2 σ H ε S _ he hr q _ fun vs H1 ds S1 l1 r1 p1 ⟨xs, ys, zs, e1, q1⟩ => ?_
  subst e1
  obtain ⟨v, u, w, e, i1, i2, i3⟩ := r1.three
  subst e
  obtain ⟨a, us, rfl, s1, m1⟩ := i1
  obtain ⟨b, vs, rfl, s2, m2⟩ := i2
  obtain ⟨c, ws, rfl, s3, m3⟩ := i3
  exact ⟨a, b, c, us, vs, ws, rfl, s1.sq, s2.sq, s3.sq, k _ H1 _ _ S1 l1 p1 (itok_zip3 s1 s2 s3 m1 m2 m3) q1⟩
end DL
end
section
/-! The D-layer: texts put together, max, str of a text or a number. -/
namespace DL
open PySem PySem.Spec PyProof.Rows L2
def fmtD (x : D) (S : Sto) (Q : DK) : Prop := match x with
  | .str y => y.length ≤ sizeLine ∧ Q (.str y) S
  | .int i => i.natAbs.log2 < 1920 ∧ Q (.str (toString i)) S
  | _ => False
def dFmt (te : DTE) : DTE := fun ε S Q => te ε S fun x S1 => fmtD x S1 Q
def dJs : List DTE → Str → Env → Sto → (Str → Sto → Prop) → Prop
  | [], acc, _, S, Q => Q acc S
  | t :: ts, acc, ε, S, Q => t ε S fun x S1 => ∃ y : Str, x = .str y ∧ (acc ++ y).length ≤ sizeLine ∧ dJs ts (acc ++ y) ε S1 Q
def dJoined (ts : List DTE) : DTE := fun ε S Q => dJs ts Str.empty ε S fun out S1 => Q (.str out) S1
section
variable {X : Cx}
theorem de_fmt {e : Expr} {te : DTE} {pos : Pos} (h : DE X e te) : DE X (.FormattedValue e (-1) none pos) (dFmt te) := by
  obtain ⟨t1, a1, a2⟩ := h.ex
  refine ⟨_, pe_fmt a1, fun σ H ε S Q he hr q Q2 k => ?_⟩
  refine a2 σ H ε S _ he hr q _ fun v H1 d S1 l1 r1 p1 q1 => ?_
  cases d with
  | str y => exact .inl ⟨y, r1, q1.1, k _ H1 _ S1 l1 Is.s p1 q1.2⟩
  | int i => exact .inr ⟨i, r1, q1.1, k _ H1 _ S1 l1 Is.s p1 q1.2⟩
  | _ => exact q1.elim
structure DJ (X : Cx) (es : List Expr) (ts : List DTE) : Prop where
  ex : ∃ tes, PJ X es tes ∧ ∀ acc σ H ε S Q, Ep (Cxmd X) H σ ε → Rp (Cxmd X) H S → dJs ts acc ε S Q → ∀ Q2 : Str → Hp → Prop, (∀ out H' S', TLe H H' → Rp (Cxmd X) H' S' → Q out S' → Q2 out H') → tJs tes acc σ H Q2
theorem dj_nil : DJ X [] [] := ⟨_, .nil, fun acc σ H ε S Q he hr q Q2 k => k acc H S (TLe.refl H) hr q⟩
theorem dj_cons {e : Expr} {t : DTE} {es : List Expr} {ts : List DTE} (h : DE X e t) (r : DJ X es ts) : DJ X (e :: es) (t :: ts) := by
  obtain ⟨t1, a1, a2⟩ := h.ex
  obtain ⟨t2, b1, b2⟩ := r.ex
  refine ⟨_, .cons a1 b1, fun acc σ H ε S Q he hr q Q2 k => ?_⟩
  refine a2 σ H ε S _ he hr q _ fun v H1 d S1 l1 r1 p1 ⟨y, e1, z, q1⟩ => ?_
  subst e1
  exact ⟨y, r1, z, b2 _ σ H1 ε S1 _ (he.mono l1) p1 q1 _ fun out H' S' l2 p2 q2 => k out H' S' (l1.trans l2) p2 q2⟩
theorem de_joined {v1 v2 : Expr} {rest : List Expr} {ts : List DTE} {pos : Pos} (h : DJ X (v1 :: v2 :: rest) ts) : DE X (.JoinedStr (v1 :: v2 :: rest) pos) (dJoined ts) := by
  obtain ⟨t1, a1, a2⟩ := h.ex
  refine ⟨_, pe_joined a1, fun σ H ε S Q he hr q Q2 k => ?_⟩
  exact a2 _ σ H ε S _ he hr q _ fun out H1 S1 l1 p1 q1 => k _ H1 _ S1 l1 Is.s p1 q1
def oMax2 : DR := fun ds S Q => ∃ i j : Int, ds = [.int i, .int j] ∧ Q (.int (if j > i then j else i)) S
theorem dcl_max2 (hc : X.calm = true) : DCl X (.builtin "max") oMax2 := by
  refine ⟨_, call_max2 hc, fun vs ds H S Q ix hr ⟨i, j, e, q⟩ Q2 k => ?_⟩
  subst e
  obtain ⟨v, u, e, r1, r2⟩ := ix.two
  rw [e, show v = _ from r1, show u = _ from r2]
  exact ⟨i, j, rfl, k _ H _ S (TLe.refl H) Is.i hr q⟩
def oStr1 : DR := fun ds S Q => (∃ i : Int, ds = [.int i] ∧ i.natAbs.log2 < 1920 ∧ Q (.str (toString i)) S) ∨ ∃ x : Str, ds = [.str x] ∧ Q (.str x) S
theorem dcl_str1 : DCl X (.type "str") oStr1 := by
  refine (dcl_strI.or (o' := fun ds S Q => ∃ x : Str, ds = [.str x] ∧ Q (.str x) S) ⟨_, SkE.call_str_str, fun vs ds H S Q ix hr ⟨x, e, q⟩ Q2 k => ?_⟩).imp fun ds S Q q => q
  subst e
  obtain ⟨v, e, r⟩ := ix.one
  rw [e, show v = _ from r]
  exact ⟨x, rfl, k _ H _ S (TLe.refl H) Is.s hr q⟩
end
section
variable {ε : Env} {S : Sto} {Q : DK} {te : DTE}
theorem i_joined {ts : List DTE} (h : dJs ts Str.empty ε S fun out S1 => Q (.str out) S1) : dJoined ts ε S Q := h
theorem i_jnil {acc : Str} {R : Str → Sto → Prop} (h : R acc S) : dJs [] acc ε S R := h
theorem i_jcons {t : DTE} {ts : List DTE} {acc : Str} {R : Str → Sto → Prop} (h : t ε S fun x S1 => ∃ y : Str, x = .str y ∧ (acc ++ y).length ≤ sizeLine ∧ dJs ts (acc ++ y) ε S1 R) : dJs (t :: ts) acc ε S R := h
theorem i_fmt (h : te ε S fun x S1 => fmtD x S1 Q) : dFmt te ε S Q := h
theorem i_fmtS {y : Str} (z : y.length ≤ sizeLine) (h : Q (.str y) S) : fmtD (.str y) S Q := ⟨z, h⟩
theorem i_fmtI {i : Int} (z : i.natAbs.log2 < 1920) (h : Q (.str (toString i)) S) : fmtD (.int i) S Q := ⟨z, h⟩
theorem i_jS {ts : List DTE} {acc y : Str} {R : Str → Sto → Prop} (z : (acc ++ y).length ≤ sizeLine) (h : dJs ts (acc ++ y) ε S R) : ∃ y' : Str, D.str y = .str y' ∧ (acc ++ y').length ≤ sizeLine ∧ dJs ts (acc ++ y') ε S R := ⟨y, rfl, z, h⟩
theorem i_delFrom {F : DEnds} {tl : DTO} (h : te ε S fun x S1 => tl ε S1 fun y S2 => ∃ (l : Addr) (xs : List DL.D) (a : Nat), x = .ref l ∧ y = some (a : Int) ∧ S2 l = some (.lst xs) ∧ a ≤ xs.length ∧ F.nx ε (put S2 l (.lst (xs.take a)))) : dDelFrom te tl F ε S := h
theorem i_iZip {ta : DTA} {K : List D → (Sto → Prop) → Sto → Prop} (h : ta ε S fun ds S1 => ∃ xs ys zs, ds = [.tup xs, .tup ys, .tup zs] ∧ K (zip3 xs ys zs) (fun _ => True) S1) : iZip ta ε S K := h
theorem i_strI {i : Int} (z : i.natAbs.log2 < 1920) (h : Q (.str (toString i)) S) : oStr1 [.int i] S Q := .inl ⟨i, rfl, z, h⟩
theorem i_strS {x : Str} (h : Q (.str x) S) : oStr1 [.str x] S Q := .inr ⟨x, rfl, h⟩
theorem i_max2 {i j : Int} (h : Q (.int (if j > i then j else i)) S) : oMax2 [.int i, .int j] S Q := ⟨i, j, rfl, h⟩
theorem i_slR {a : Addr} {xs : List D} {lo hi : Option Int} (es : S a = some (.lst xs)) (h : ∀ p, S p = none → Q (.ref p) (put S p (.lst (cutD xs lo hi)))) : slD (.ref a) lo hi S Q := ⟨xs, es, h⟩
theorem i_slS {s : Str} {lo hi : Option Int} (z : s.length ≤ sizeLine) (h : Q (.str (cutS s lo hi)) S) : slD (.str s) lo hi S Q := ⟨z, h⟩
theorem i_inSg {c : Nat} {t : Str} (h : Q (.bl (decide (c ∈ t.cps.toList))) S) : oIn (.str ⟨#[c]⟩) (.str t) S Q := ⟨c, rfl, h⟩
end
end DL
end
section
/-! The D-layer: a list made longer by a tuple. -/
namespace DL
open PySem PySem.Spec PyProof.Rows L2

theorem ext_tuple (l : Addr) (items : Array Value) (n : Nat) (b : Addr) (o2 : Obj) (items2 : Array Value) (n2 : Nat) (hc : o2.cls = .type "tuple") (hd : o2.data = .seq items2 n2) (hs0 : ¬(!items.isEmpty && Builtin.List.listTooLong (items.size + items2.size)) = true) (hs1 : items.size ≤ sizeLine) (hs2 : items.size + items2.size ≤ sizeLine + 1) :
    Meets (Builtin.«list.extend» ⟨[.ref l, .ref b], []⟩) (fun _ R s => s.heap.get? l = some { cls := .type "list", dict := none, data := .seq items n, slots := #[] } ∧ s.heap.get? b = some o2 ∧ R (.ok (.ret Value.none)) { s with heap := s.heap.update l (Obj.mapSeq fun x => x ++ items2), toks := s.toks }) := by
  cases o2
  simp only at hc hd
  subst hc hd
  exact .of_wp fun prog w A R s h => by
    obtain ⟨hp, g, d, tk, os⟩ := s; obtain ⟨hl, hb, h⟩ := h; have f1 := AutoSeq1.idx_int; have f2 := AutoSeq1.sub_tuple_tuple; have f3 := AutoSeq1.sub_list_list; have f4 := AutoSeq1.sub_tuple_list; have f5 := AutoSeq1.sub_list_tuple;
    have hz' : (items ++ items2).size ≤ sizeLine + 1 := by rw [Array.size_append]; exact hs2
    wp_walk using (wpAny_updateSeq hl rfl (hz := hs1) (_hz' := hz')), AutoSeq1.wpAny_loadPart' hl, AutoSeq1.wpAny_loadPart' hb; exact ⟨_, rfl, h⟩
def rExtendT (K : PySem.W.Frag) : V → List V → Hp → VK → Prop := fun x vs H Q => ∃ l b xs zs, x = .ref l ∧ vs = [.ref b] ∧ H l = some (.lst xs) ∧ SqT K H b zs ∧ xs.length + zs.length ≤ sizeLine ∧ Q .non (upd H l (.lst (xs ++ zs)))
section
variable {X : Cx}
theorem mt_extendT : MtM X "list.extend" (rExtendT X.K) := by
  intro pins s σ H x vs v us Q I rx rv h
  obtain ⟨l, b, xs, zs, rfl, rfl, hH, hB, hz, q⟩ := h
  cases rx
  obtain ⟨u, rfl, ru⟩ := rv.one
  cases ru
  obtain ⟨z, its, n, r, hl, e⟩ := I.lstM hH
  obtain ⟨its2, r2, ⟨o2, e2, c2, n2, d2⟩, z2⟩ := I.tuple hB
  have hl2 := r2.length
  have hsz : its.toArray.size + its2.toArray.size ≤ sizeLine := by rw [List.size_toArray, List.size_toArray]; omega
  have hlong : ¬ (!its.toArray.isEmpty && Builtin.List.listTooLong (its.toArray.size + its2.toArray.size)) = true := by
    rw [notLongL hsz, Bool.and_false]
    exact Bool.false_ne_true
  refine call_meets F.slot_list_extend ⟨_, e, rfl⟩ F.entry_list_extend (F.args_list_extend_2 _ _)
    (ext_tuple l its.toArray n b o2 its2.toArray n2 c2 d2 hlong (by rw [List.size_toArray]; omega) (by omega)) ⟨e, e2, ?_⟩
  refine ⟨.non, _, I.lset (its' := its ++ its2) hH e (by simp) (r.append r2) ?_, rfl, q⟩
  rw [List.length_append]
  omega
def dExtendT (to te : DTE) : DTE := fun ε S Q => to ε S fun o S1 => ∃ a xs, o = .ref a ∧ S1 a = some (.lst xs) ∧ te ε S1 fun y S2 => ∃ ys zs, y = .tup zs ∧ S2 a = some (.lst ys) ∧ ys.length + zs.length ≤ sizeLine ∧ Q .non (put S2 a (.lst (ys ++ zs)))
theorem de_extendT {o e : Expr} {to te : DTE} {apos cpos : Pos} (ho : DE X o to) (he : DE X e te) (hbase : attributeBase o "extend" X.env (eval o X.env) = eval o X.env := by rfl) (hline : (apos.endLine == cpos.line) = true := by rfl)
    (hfew : ((backTo cpos (starEach [e] X.env)).all (fun x => !x.1) && (backToKw cpos (keywordEach [] X.env)).all (fun x => x.1.isSome)
      && decide ([e].length + ([] : List Keyword).length + (if ([] : List Keyword).isEmpty then 0 else 1) < 30)) = true := by rfl)
    (hst : starEach [e] X.env = (false, eval e X.env) :: starEach [] X.env := by rfl) (hpl : (backTo cpos (starEach [] X.env)).any (·.1) = false := by rfl) : DE X (.Call (.Attribute o "extend" apos) [e] [] cpos) (dExtendT to te) := by
  obtain ⟨t1, a1, a2⟩ := ho.ex
  obtain ⟨t2, b1, b2⟩ := he.ex
  refine ⟨_, pe_bm PySem.F.plainAttrs_list PySem.F.slot_list_extend PySem.F.type_list_extend mt_extendT a1 (pa_cons b1 pa_nil hst) hbase hfew hline hst hpl, fun σ H ε S Q he hr q Q2 k => ?_⟩
  refine a2 σ H ε S _ he hr q _ fun v H1 d S1 l1 r1 p1 ⟨a, xs, e, s1, q1⟩ => ?_
  subst e
  obtain ⟨vs, h1, i1⟩ := p1 _ _ s1
  rw [show v = _ from r1]
  refine ⟨.inl ⟨rfl, _, SqL.of h1⟩, ?_⟩
  refine b2 σ H1 ε S1 _ (he.mono l1) p1 q1 _ fun u H2 d2 S2 l2 r2 p2 ⟨ys, zs, e2, s2, z, q2⟩ => ?_
  subst e2
  obtain ⟨us, h2, i2⟩ := p2 _ _ s2
  obtain ⟨b, ws, rfl, h3, i3⟩ := r2
  have l3 : TLe H2 (upd H2 a (.lst (us ++ ws))) := tl_mut h2
  exact ⟨a, b, us, ws, rfl, rfl, h2, h3.sq, by rw [i2.length, i3.length]; exact z, k _ _ _ _ ((l1.trans l2).trans l3) Is.n (p2.put l3 (CellIs.ln (IsL.mono l3 (i2.append i3)))) q2⟩
end
theorem i_extendT {ε : Env} {S : Sto} {Q : DK} {to te : DTE} (h : to ε S fun o S1 => ∃ a xs, o = .ref a ∧ S1 a = some (.lst xs) ∧ te ε S1 fun y S2 => ∃ ys zs, y = .tup zs ∧ S2 a = some (.lst ys) ∧ ys.length + zs.length ≤ sizeLine ∧ Q .non (put S2 a (.lst (ys ++ zs)))) : dExtendT to te ε S Q := h
end DL
end
section
/-! The D-layer: texts joined, a text taken often, all, reversed, sign by sign, a tuple against (). -/
namespace DL
open PySem PySem.Spec PyProof.Rows L2
section
variable {X : Cx}
/-! ### sep.join(xs) -/
def dJoin (to te : DTE) : DTE := fun ε S Q => to ε S fun x S1 => ∃ a : Str, x = .str a ∧ te ε S1 fun y S2 => ∃ ys : List Str, itemsD y S2 = some (ys.map .str) ∧ (ys.map (·.length)).sum + ys.length * a.length ≤ 16777216 ∧ Q (.str (Txt.join a ys)) S2
theorem de_join {o e : Expr} {to te : DTE} {apos pos : Pos} (ho : DE X o to) (he : DE X e te) (hs : starEach [e] X.env = [(false, eval e X.env)] := by rfl) (hbase : attributeBase o "join" X.env (eval o X.env) = eval o X.env := by rfl) (hline : (apos.endLine == pos.line) = true := by rfl) :
    DE X (.Call (.Attribute o "join" apos) [e] [] pos) (dJoin to te) := by
  obtain ⟨t1, a1, a2⟩ := ho.ex
  obtain ⟨t2, b1, b2⟩ := he.ex
  refine ⟨_, pe_join a1 b1 hs hbase hline, fun σ H ε S Q he hr q Q2 k => ?_⟩
  refine a2 σ H ε S _ he hr q _ fun v H1 d S1 l1 r1 p1 ⟨a, e1, q1⟩ => ?_
  subst e1
  refine ⟨⟨a, r1⟩, ?_⟩
  refine b2 σ H1 ε S1 _ (he.mono l1) p1 q1 _ fun u H2 d2 S2 l2 r2 p2 ⟨ys, e2, z, q2⟩ => ?_
  obtain ⟨p, us, e3, sq, l⟩ := items_is p2 r2 e2
  rw [isL_strs_eq l] at sq
  exact ⟨a, p, ys, r1, by rw [e3], sq, z, k _ _ _ _ (l1.trans l2) Is.s p2 q2⟩
theorem i_join {ε : Env} {S : Sto} {Q : DK} {to te : DTE} (h : to ε S fun x S1 => ∃ a : Str, x = .str a ∧ te ε S1 fun y S2 => ∃ ys : List Str, itemsD y S2 = some (ys.map .str) ∧ (ys.map (·.length)).sum + ys.length * a.length ≤ 16777216 ∧ Q (.str (Txt.join a ys)) S2) : dJoin to te ε S Q := h
/-! ### a text taken often -/
theorem op_mulS : OpR X (binaryOp .Mult) (fun x y H Q => ∃ a k, x = .str a ∧ y = .int k ∧ MulOk a k ∧ Q (.str (Txt.mul a k)) H) := by
  intro pins s σ H x y v u Q I rx ry h
  obtain ⟨a, k, rfl, rfl, ok, q⟩ := h
  obtain ⟨t, rfl⟩ := rx
  obtain ⟨t', rfl⟩ := ry
  exact SB.mul ok fun t2 n => ⟨.str _, H, I.tok n, ⟨_, rfl⟩, q⟩
def oMulS : DR2 := fun x y S Q => ∃ a k, x = .str a ∧ y = .int k ∧ MulOk a k ∧ Q (.str (Txt.mul a k)) S
theorem dop_mulS : DOp X (binaryOp .Mult) oMulS :=
  ⟨_, op_mulS, fun x y dx dy H S Q ix iy hr ⟨a, k, e1, e2, ok, q⟩ Q2 kk => by
    subst e1 e2
    exact ⟨a, k, ix, iy, ok, kk _ H _ S (TLe.refl H) Is.s hr q⟩⟩
theorem i_mulT {a : Str} {k : Int} {S : Sto} {Q : DK} (ok : MulOk a k) (h : Q (.str (Txt.mul a k)) S) : oMulS (.str a) (.int k) S Q := ⟨a, k, rfl, rfl, ok, h⟩
/-! ### all(xs) -/
def oAll : DR := fun ds S Q => ∃ (a : Addr) (bs : List Bool), ds = [.ref a] ∧ S a = some (.lst (bs.map .bl)) ∧ Q (.bl (bs.all id)) S
theorem isL_bls {M : Md} {H : Hp} : ∀ {bs : List Bool} {vs : List V}, IsL M H vs (bs.map D.bl) → vs = bs.map V.bl
  | [], _, h => h
  | b :: bs, _, ⟨v, r, e, i, h⟩ => by rw [e, show v = _ from i, isL_bls h]; rfl
theorem dcl_all (hc : X.calm = true) : DCl X (.builtin "all") oAll := by
  refine ⟨_, cr_all hc, fun vs ds H S Q ix hr ⟨a, bs, e, e1, q⟩ Q2 k => ?_⟩
  subst e
  obtain ⟨v, e, r⟩ := ix.one
  subst e
  rw [show v = V.ref a from r]
  obtain ⟨us, h1, h2⟩ := hr _ _ e1
  rw [isL_bls h2] at h1
  exact ⟨a, bs, rfl, SqL.of h1, k _ H _ S (TLe.refl H) Is.b hr q⟩
theorem i_all {a : Addr} {bs : List Bool} {S : Sto} {Q : DK} (es : S a = some (.lst (bs.map .bl))) (h : Q (.bl (bs.all id)) S) : oAll [.ref a] S Q := ⟨a, bs, rfl, es, h⟩
/-! ### sign by sign -/
def iStr (te : DTE) : DTI := fun ε S K => te ε S fun d S1 => ∃ x : Str, d = .str x ∧ K (x.cps.toList.map fun c => .str ⟨#[c]⟩) (fun _ => True) S1
theorem itok_str {M : Md} {H0 : Hp} {x : Str} {stb : Sto → Prop} : ItOk M (Its x) H0 (x.cps.toList.map fun c => .str ⟨#[c]⟩) stb where
  go := fun i H S lt l p s => by
    show i < x.cps.size
    simpa using lt
  stop := fun H S l p s => by show x.cps.size ≤ _; simp
  yld := fun i H S y H' lt l p s ⟨e, c, h1, h2⟩ => by
    subst e h2
    exact ⟨.str ⟨#[c]⟩, by rw [List.getElem?_map, Array.getElem?_toList, h1]; rfl, TLe.refl _, Is.s, p⟩
theorem di_str {tg e : Expr} {te : DTE} (h : DE X e te) : DI X tg e (iStr te) := by
  obtain ⟨t1, a1, a2⟩ := h.ex
  refine ⟨_, pi_str a1, fun σ H ε S K he hr q R k => ?_⟩
  refine a2 σ H ε S _ he hr q _ fun v H1 d S1 l1 r1 p1 ⟨x, e1, q1⟩ => ?_
  subst e1
  exact ⟨x, r1, k _ H1 _ _ S1 l1 p1 itok_str q1⟩
theorem i_iStr {ε : Env} {S : Sto} {te : DTE} {K : List D → (Sto → Prop) → Sto → Prop} (h : te ε S fun d S1 => ∃ x : Str, d = .str x ∧ K (x.cps.toList.map fun c => .str ⟨#[c]⟩) (fun _ => True) S1) : iStr te ε S K := h
/-! ### reversed(a tuple) -/
def iRev (te : DTE) : DTI := fun ε S K => te ε S fun d S1 => ∃ xs, d = .tup xs ∧ K xs.reverse (fun _ => True) S1
theorem itok_rev {M : Md} {H0 : Hp} {a : Addr} {xs : List D} {us : List V} {stb : Sto → Prop} (q : TpT M.K H0 a us) (l1 : IsL M H0 us xs) : ItOk M (RT.ItvT M.K a us.length) H0 xs.reverse stb where
  go := fun i H S lt l p s => by
    have hl := l1.length
    rw [List.length_reverse] at lt
    obtain ⟨v, e, _⟩ := (IsL.mono l l1).get (i := us.length - 1 - i) (d := xs[us.length - 1 - i]'(by omega)) (List.getElem?_eq_getElem _)
    exact ⟨by omega, us, v, (l.sqT q).sq, e⟩
  stop := fun H S l p s => by
    have hl := l1.length
    show us.length ≤ _
    rw [List.length_reverse]
    omega
  yld := fun i H S y H' lt l p s ⟨e, f⟩ => by
    subst e
    have hl := l1.length
    rw [List.length_reverse] at lt
    have hi : us.length - 1 - i < xs.length := by omega
    obtain ⟨v, e, r⟩ := (IsL.mono l l1).get (i := us.length - 1 - i) (d := xs[us.length - 1 - i]'hi) (List.getElem?_eq_getElem _)
    have g := f us (l.sqT q).sq
    rw [e] at g
    cases g
    refine ⟨_, ?_, TLe.refl _, r, p⟩
    rw [List.getElem?_reverse lt, ← hl]
    exact List.getElem?_eq_getElem hi
theorem di_rev {tg e : Expr} {te : DTE} {p pos : Pos} (hg : Gl X "reversed") (hm : X.mg "reversed" = none) (h : DE X e te) (hs : starEach [e] X.env = (false, eval e X.env) :: starEach [] X.env := by rfl) : DI X tg (.Call (.Name "reversed" p) [e] [] pos) (iRev te) := by
  obtain ⟨t1, a1, a2⟩ := h.ex
  refine ⟨_, RT.pi_revA hg hm a1 hs, fun σ H ε S K he hr q R k => ?_⟩
  refine a2 σ H ε S _ he hr q _ fun v H1 d S1 l1 r1 p1 ⟨xs, e1, q1⟩ => ?_
  subst e1
  obtain ⟨a, us, rfl, s1, m1⟩ := r1
  exact ⟨a, us, rfl, .inr ⟨s1.sq, k _ H1 _ _ S1 l1 p1 (itok_rev s1 m1) q1⟩⟩
theorem i_iRev {ε : Env} {S : Sto} {te : DTE} {K : List D → (Sto → Prop) → Sto → Prop} (h : te ε S fun d S1 => ∃ xs, d = .tup xs ∧ K xs.reverse (fun _ => True) S1) : iRev te ε S K := h
/-! ### a tuple against () -/
theorem op_eqE (hu : X.A.units < cLine) : OpR X (compareOp .Eq) (fun x y H Q => ∃ a b xs, x = .ref a ∧ y = .ref b ∧ SqT X.K H a xs ∧ SqT X.K H b [] ∧ Q (.bl xs.isEmpty) H) := by
  intro pins s σ H x y v u Q I rx ry h
  obtain ⟨a, b, xs, rfl, rfl, h1, h2, q⟩ := h
  cases rx
  cases ry
  obtain ⟨its, r1, p1, _⟩ := I.tuple h1
  obtain ⟨its2, r2, p2, _⟩ := I.tuple h2
  have z2 : its2 = [] := List.length_eq_zero_iff.mp r2.length.symm
  subst z2
  refine SeqAt.eq_tupleAt (items2 := #[]) (e := fun _ => true) p1 p2 hu (fun j _ h => absurd h (Nat.not_lt_zero j)) ?_
  have hb : ((List.range (min its.toArray.size (#[] : Array Value).size)).all (fun _ => true) && its.toArray.size == (#[] : Array Value).size) = xs.isEmpty := by
    have := r1.length
    cases xs with
    | nil =>
      have : its = [] := List.length_eq_zero_iff.mp this.symm
      subst this
      rfl
    | cons x xs =>
      cases its with
      | nil => simp at this
      | cons y ys => simp
  rw [hb]
  exact ⟨.bl _, H, I, rfl, q⟩
theorem op_neE (hu : X.A.units < cLine) : OpR X (compareOp .NotEq) (fun x y H Q => ∃ a b xs, x = .ref a ∧ y = .ref b ∧ SqT X.K H a xs ∧ SqT X.K H b [] ∧ Q (.bl (!xs.isEmpty)) H) := by
  intro pins s σ H x y v u Q I rx ry h
  obtain ⟨a, b, xs, rfl, rfl, h1, h2, q⟩ := h
  cases rx
  cases ry
  obtain ⟨its, r1, p1, _⟩ := I.tuple h1
  obtain ⟨its2, r2, p2, _⟩ := I.tuple h2
  have z2 : its2 = [] := List.length_eq_zero_iff.mp r2.length.symm
  subst z2
  refine SeqAt.RcNeAt.tuples (items2 := #[]) (e := fun _ => true) p1 p2 hu (fun j _ h => absurd h (Nat.not_lt_zero j)) _ _ _ _ ?_
  have hb : ((List.range (min its.toArray.size (#[] : Array Value).size)).all (fun _ => true) && its.toArray.size == (#[] : Array Value).size) = xs.isEmpty := by
    have := r1.length
    cases xs with
    | nil =>
      have : its = [] := List.length_eq_zero_iff.mp this.symm
      subst this
      rfl
    | cons x xs =>
      cases its with
      | nil => simp at this
      | cons y ys => simp
  rw [hb]
  exact ⟨.bl _, H, I, rfl, q⟩
def oEqE : DR2 := fun x y S Q => ∃ xs, x = .tup xs ∧ y = .tup [] ∧ Q (.bl xs.isEmpty) S
def oNeE : DR2 := fun x y S Q => ∃ xs, x = .tup xs ∧ y = .tup [] ∧ Q (.bl (!xs.isEmpty)) S
theorem isEmpty_is {M : Md} {H : Hp} {us : List V} {xs : List D} (h : IsL M H us xs) : us.isEmpty = xs.isEmpty := by
  have := h.length
  cases us <;> cases xs <;> simp at this ⊢
theorem dop_eqE (hu : X.A.units < cLine) : DOp X (compareOp .Eq) oEqE :=
  ⟨_, op_eqE hu, fun x y dx dy H S Q ix iy hr ⟨xs, e1, e2, q⟩ Q2 k => by
    subst e1 e2
    obtain ⟨a, us, rfl, s1, m1⟩ := ix
    obtain ⟨b, ws, rfl, s2, m2⟩ := iy
    cases m2
    exact ⟨a, b, us, rfl, rfl, s1.sq, s2.sq, by rw [isEmpty_is m1]; exact k _ H _ S (TLe.refl H) Is.b hr q⟩⟩
theorem dop_neE (hu : X.A.units < cLine) : DOp X (compareOp .NotEq) oNeE :=
  ⟨_, op_neE hu, fun x y dx dy H S Q ix iy hr ⟨xs, e1, e2, q⟩ Q2 k => by
    subst e1 e2
    obtain ⟨a, us, rfl, s1, m1⟩ := ix
    obtain ⟨b, ws, rfl, s2, m2⟩ := iy
    cases m2
    exact ⟨a, b, us, rfl, rfl, s1.sq, s2.sq, by rw [isEmpty_is m1]; exact k _ H _ S (TLe.refl H) Is.b hr q⟩⟩
theorem i_eqE {xs : List D} {S : Sto} {Q : DK} (h : Q (.bl xs.isEmpty) S) : oEqE (.tup xs) (.tup []) S Q := ⟨xs, rfl, rfl, h⟩
theorem i_neE {xs : List D} {S : Sto} {Q : DK} (h : Q (.bl (!xs.isEmpty)) S) : oNeE (.tup xs) (.tup []) S Q := ⟨xs, rfl, rfl, h⟩
end
end DL
end
section
/-! A list over a list, made by a plain step for each item. -/
namespace DL
open PySem L2 PyProof.Rows
theorem put_put {S : Sto} {a : Addr} {c d : Cell} : put (put S a c) a d = put S a d := by
  funext b
  unfold put
  by_cases h : b = a
  · rw [if_pos h, if_pos h]
  · rw [if_neg h, if_neg h, if_neg h]
theorem i_lcM {α : Type} {te tb : DTE} {v : Nat} {ε : Env} {S : Sto} {Q : DK} (f g : α → D)
    (h : te ε S fun d S1 => ∃ (a : Addr) (xs : List α), d = .ref a ∧ S1 a = some (.lst (xs.map f)) ∧ xs.length ≤ sizeLine ∧ (∀ x ∈ xs, ∀ S2 QQ, QQ (g x) S2 → tb ((dWipe ε [v]).set v (some (f x))) S2 QQ) ∧ ∀ z, S1 z = none → Q (.ref z) (put S1 z (.lst (xs.map g)))) (mono : ∀ {K K' : DK}, (∀ d S, K d S → K' d S) → te ε S K → te ε S K') : dLc (iD te) (gN v) dYes tb [v] ε S Q := by
  unfold dLc iD
  refine mono (fun d S1 w => ?_) h
  obtain ⟨a, xs, rfl, h1, h2, h3, h4⟩ := w
  refine ⟨xs.map f, ?_, fun z hz => ?_⟩
  · show (match S1 a with | some (.lst xs) => some xs | _ => none) = _
    rw [h1]
  · have hza : a ≠ z := fun e => by subst e; rw [h1] at hz; cases hz
    refine ⟨fun i acc S2 => acc = (xs.take i).map g ∧ S2 = put S1 z (.lst acc), ⟨by simp, rfl⟩, fun i acc S2 _ w => ?_, fun i x acc S2 hx w => ?_, fun acc S2 w => ?_⟩
    · obtain ⟨_, rfl⟩ := w
      exact (put_ne hza).trans h1
    · obtain ⟨rfl, rfl⟩ := w
      rw [List.getElem?_map] at hx
      obtain ⟨y, hy, rfl⟩ := Option.map_eq_some_iff.mp hx
      have hi := (List.getElem?_eq_some_iff.mp hy).1
      refine h3 y (List.mem_of_getElem? hy) _ _ ⟨put_same, ?_, ?_, ?_⟩
      · rw [List.length_map, List.length_take]; omega
      · rw [List.take_add_one, hy, List.map_append]; rfl
      · rw [put_put]
    · obtain ⟨rfl, rfl⟩ := w
      rw [List.length_map, List.take_length]
      exact h4 z hz
theorem mono_var {i : Nat} {ε : Env} {S : Sto} {K K' : DK} (h : ∀ d S, K d S → K' d S) : dVar i ε S K → dVar i ε S K' := fun ⟨d, e, q⟩ => ⟨d, e, h _ _ q⟩
/-- over a name -/
theorem i_lcV {α : Type} {tb : DTE} {u v : Nat} {ε : Env} {S : Sto} {Q : DK} {a : Addr} (f g : α → D) (xs : List α) (e : ε[u]? = some (some (.ref a))) (h1 : S a = some (.lst (xs.map f))) (h2 : xs.length ≤ sizeLine) (h3 : ∀ x ∈ xs, ∀ S2 QQ, QQ (g x) S2 → tb ((dWipe ε [v]).set v (some (f x))) S2 QQ) (h4 : ∀ z, S z = none → Q (.ref z) (put S z (.lst (xs.map g)))) : dLc (iD (dVar u)) (gN v) dYes tb [v] ε S Q :=
  i_lcM f g ⟨_, e, a, xs, rfl, h1, h2, h3, h4⟩ mono_var
theorem mono_ix {u : Nat} {c : D} {ε : Env} {S : Sto} {K K' : DK} (h : ∀ d S, K d S → K' d S) (q : dOp ixA (dVar u) (dC c) ε S K) : dOp ixA (dVar u) (dC c) ε S K' := by
  obtain ⟨d, e, z⟩ := q
  refine ⟨d, e, ?_⟩
  cases d with
  | cd ks vs =>
    obtain ⟨a, d, b, w⟩ := z
    exact ⟨a, d, b, h _ _ w⟩
  | _ =>
    obtain ⟨i, e1, w⟩ := z
    refine ⟨i, e1, ?_⟩
    first
      | exact ⟨w.1, w.2.elim fun c x => ⟨c, x.1, h _ _ x.2⟩⟩
      | exact w.elim fun xs x => x.elim fun d y => ⟨xs, d, y.1, y.2.1, h _ _ y.2.2⟩
theorem at0 {x : D} {r : List D} : atI (x :: r) 0 = some x := by
  unfold atI ixN
  rw [if_pos (by omega), if_pos (by simp)]
  rfl
/-- over an item of a tuple -/
theorem i_lcX {α : Type} {tb : DTE} {u v : Nat} {ε : Env} {S : Sto} {Q : DK} {a : Addr} {r : List D} (f g : α → D) (xs : List α) (e : ε[u]? = some (some (.tup (.ref a :: r)))) (h1 : S a = some (.lst (xs.map f))) (h2 : xs.length ≤ sizeLine) (h3 : ∀ x ∈ xs, ∀ S2 QQ, QQ (g x) S2 → tb ((dWipe ε [v]).set v (some (f x))) S2 QQ) (h4 : ∀ z, S z = none → Q (.ref z) (put S z (.lst (xs.map g)))) : dLc (iD (dOp ixA (dVar u) (dC (.int 0)))) (gN v) dYes tb [v] ε S Q :=
  i_lcM f g (i_op (i_var e (i_c (i_ixT (d := .ref a) at0 ⟨a, xs, rfl, h1, h2, h3, h4⟩)))) mono_ix
end DL
end
section
/-! The D-layer: exceptions. What a context takes, calls that let something out, raise, try as a def's first statement. -/
namespace DL
open PySem PySem.Spec PyProof.Rows L2
/-- class, fields, slots, store -/
abbrev DXE := Value → List (Str × D) → Env → Sto → Prop
def WD (X : Cx) (EX : DXE) : WX := fun cls d σ H => ∃ gs ε S, ExIs (Cxmd X) H d gs ∧ Ep (Cxmd X) H σ ε ∧ Rp (Cxmd X) H S ∧ EX cls gs ε S
/-- the context takes these exceptions -/
def DTk (X : Cx) (EX : DXE) : Prop := Takes X (WD X EX)
theorem inv_tle {X : Cx} {pins : List (Addr × Obj)} {σ : L2.St} {H : Hp} {s : Shared} (I : Inv X pins σ H s) : TLe X.H_0 H :=
  ⟨fun a xs e => I.base.tups a xs e, fun a o u e => I.base.frzs a o u e⟩
theorem takes_tle {X : Cx} {W W' : WX} (t : Takes X W) (h : ∀ c d σ H, TLe X.H_0 H → W' c d σ H → W c d σ H) : Takes X W' :=
  fun u s' ⟨a, B, sI, pins, σ, H, cls, d, e, I, nb, up, sky, na, os, ag, w⟩ => t u s' ⟨a, B, sI, pins, σ, H, cls, d, e, I, nb, up, sky, na, os, ag, h _ _ _ _ (inv_tle I) w⟩
/-- what the caller asks, less may be known -/
def EXO (E : DX) : DXE := fun c gs _ S => ∃ S'', Le S'' S ∧ E c gs S''
def EXN : DXE := fun _ _ _ _ => False
theorem dtk_no {X : Cx} : DTk X EXN := fun u s' ⟨_, _, _, _, _, _, _, _, _, _, _, _, _, _, _, _, w⟩ => by
  obtain ⟨_, _, _, _, _, _, z⟩ := w
  exact z.elim
theorem DTk.imp {X : Cx} {EX EX' : DXE} (t : DTk X EX) (h : ∀ c gs ε S, EX' c gs ε S → EX c gs ε S) : DTk X EX' :=
  takes_tle t fun c d σ H _ ⟨gs, ε, S, a, b, e, z⟩ => ⟨gs, ε, S, a, b, e, h _ _ _ _ z⟩
theorem dtk_own {P : Program} {w : World} {K : PySem.W.Frag} {mg : Str → Option Value} {base : Heap} {N : List Str} {qual : Str} {scope : Scope} {fa : Addr} {cdv : Value} {A : Around} {outer : List PySem.Env} {s : Shared} {H : Hp} {E : XK} {ED : DX}
    (hE : ∀ c o H' gs S', TLe H H' → ExIs ⟨P, w, K⟩ H' o gs → Rp ⟨P, w, K⟩ H' S' → ED c gs S' → E c o H') : DTk (cxOf (L2.CX P w) P w K mg base N qual scope fa cdv A outer s H E) (EXO ED) :=
  takes_tle (takes_of rfl rfl rfl rfl) fun c d σ H' t ⟨gs, ε, S, hx, _, hr, S'', le, e⟩ => hE c d H' gs S'' t hx (hr.le le) e
/-! ### a call that lets something out -/
def dCallX (f : DSp) (EX : DXE) (t : DTA) : DTE := fun ε S Q => t ε S fun ds S1 => f ds S1 Q (fun c gs S' => EX c gs ε S')
section
variable {X : Cx} {k : Nat} {ps : List Str} {sp : DSp} {x : Str} {p pos pos2 : Pos} {e : Expr} {es : List Expr} {t : DTA} {EX : DXE}
theorem de_callX (tk : DTk X EX) (h : Okf ⟨X.prog, X.w, X.K, X.mg, X.base⟩ x ps k sp) (hr : Room k X.A) (hg : Gl X x)
    (ha : DA X (e :: es) t) (hdb : (x == ("__debug__" : Str)) = false := by decide) (he : starEach (e :: es) X.env = (false, eval e X.env) :: starEach es X.env := by rfl) (hpl : (backTo pos (starEach es X.env)).any (·.1) = false := by rfl) :
    DE X (.Call (.Name x p) (e :: es) [] pos) (dCallX sp EX t) := by
  obtain ⟨fa, fd, a, b, c, _, F⟩ := h.ex
  obtain ⟨t1, a1, a2⟩ := ha.ex
  refine ⟨_, pe_callS (E := fun σ => WE (WD X EX) σ) F hr hg a b c (fun σ => passAt tk σ) a1 hdb he hpl, fun σ H ε S Q he hr q Q2 k => ?_⟩
  refine a2 σ H ε S _ he hr q _ fun vs H1 ds S1 l1 r1 p1 q1 => ?_
  exact ⟨ds, S1, Q, fun c gs S' => EX c gs ε S', r1, p1, q1, fun v H' d S' l2 r2 p2 q2 => k v H' d S' (l1.trans l2) r2 p2 q2, fun c o H' gs S' l2 x2 p2 q2 => ⟨gs, ε, S', x2, (he.mono l1).mono l2, p2, q2⟩⟩
/-! ### raise -/
/-- an own class of errors without __init__ -/
structure ExcOf (C : Wd) (x : Str) (a : Addr) : Prop where
  mg : C.mg x = some (.ref a)
  kp : PySem.W.keepIn C.K (.ref a) = true
  ex : PySem.W.excIn C.K a He.veBase "ValueError.__new__" = true
  sub : PySem.W.subIn C.K (.ref a) (.type "BaseException") = some true
  ty : PySem.W.typeIn C.K (.ref a) = some (.type "type")
def dRaise (a : Addr) (EX : DXE) (t : DTA) : DTS := fun _ ε S => t ε S fun ds S1 => ds.length ≤ sizeLine ∧ EX (.ref a) [] ε S1
theorem ds_raise {a : Addr} (hc : X.calm = true) (tk : DTk X EX) (E : ExcOf ⟨X.prog, X.w, X.K, X.mg, X.base⟩ x a) (hg : Gl X x) (ha : DA X (e :: es) t) (hdb : (x == ("__debug__" : Str)) = false := by decide)
    (he : starEach (e :: es) X.env = (false, eval e X.env) :: starEach es X.env := by rfl) (hpl : (backTo pos (starEach es X.env)).any (·.1) = false := by rfl) :
    DS X (.Raise (some (.Call (.Name x p) (e :: es) [] pos)) none pos2) (dRaise a EX t) := by
  obtain ⟨t1, a1, a2⟩ := ha.ex
  refine ⟨_, ps_raise hc tk (pmk_ownA PySem.F.excBase_ValueError E.ex E.mg E.kp (raises_own E.sub E.ty) hg a1 hdb he hpl), fun σ H ε S Dd D he hr hd q => ?_⟩
  refine a2 σ H ε S _ he hr q _ fun vs H1 ds S1 l1 r1 p1 ⟨z, q1⟩ => ⟨by rw [r1.length]; exact z, [], ε, S1, .inl ⟨rfl, rfl⟩, he.mono l1, p1, q1⟩
end
/-! ### try, the first statement of a def -/
structure DS0 (X : Cx) (st : Stmt) (t : DTS) : Prop where
  ex : ∃ ts, PS X st ts ∧ ∀ σ ε S Dd D, Ep (Cxmd X) X.H_0 σ ε → Rp (Cxmd X) X.H_0 S → EndsOk (Cxmd X) X.H_0 Dd D → t Dd ε S → ts D σ X.H_0
structure DSs0 (X : Cx) (st : List Stmt) (t : DTS) : Prop where
  ex : ∃ ts, PSs X st ts ∧ ∀ σ ε S Dd D, Ep (Cxmd X) X.H_0 σ ε → Rp (Cxmd X) X.H_0 S → EndsOk (Cxmd X) X.H_0 Dd D → t Dd ε S → ts D σ X.H_0
theorem dss0_one {X : Cx} {st : Stmt} {t : DTS} (h : DS0 X st t) : DSs0 X [st] t := by
  obtain ⟨t1, a1, a2⟩ := h.ex
  exact ⟨_, pss_one a1, a2⟩
theorem dss0_cons {X : Cx} {st : Stmt} {rest : List Stmt} {t u : DTS} (h1 : DS0 X st t) (h2 : DSs X rest u) : DSs0 X (st :: rest) (dSeq t u) := by
  obtain ⟨t1, a1, a2⟩ := h1.ex
  obtain ⟨t2, b1, b2⟩ := h2.ex
  refine ⟨_, pss_cons a1 b1, fun σ ε S Dd D he hr hd q => ?_⟩
  refine a2 σ ε S { Dd with nx := u Dd } _ he hr ⟨fun σ' H' ε' S' l e' r' q' => ?_, hd.bk, hd.ct, hd.rt⟩ q
  exact b2 σ' H' ε' S' Dd D e' r' (hd.mono l) q'
/-- the clauses' wishes -/
def dMany (K : PySem.W.Frag) (EX0 : DXE) (D : DEnds) : List (Value × DTS) → DXE
  | [] => EX0
  | (c, ts) :: r => fun cls gs ε S => ∃ b, PySem.W.exmOne K cls c = some b ∧ (b = true → ts D ε S) ∧ (b = false → dMany K EX0 D r cls gs ε S)
def dTry (K : PySem.W.Frag) (EX0 : DXE) (tb : DXE → DTS) (l : List (Value × DTS)) : DTS := fun D ε S => tb (dMany K EX0 D l) D ε S
inductive HdsD (X : Cx) : List ExceptHandler → List (Value × DTS) → Prop
  | nil : HdsD X [] []
  | cons {x : Str} {c : Value} {ts : DTS} {b₀ : Stmt} {suite : List Stmt} {np pos' : Pos} {hds : List ExceptHandler} {l : List (Value × DTS)} (hc : Names X x c)
      (hsu : ∀ (a : Addr) (oe : Obj) (pn : List (Addr × Obj)), DSs (X.suite a ((a, oe) :: pn)) (b₀ :: suite) ts) (r : HdsD X hds l) :
      HdsD X (.ExceptHandler (some (.Name x np)) none (b₀ :: suite) pos' :: hds) ((c, ts) :: l)
def tsU (M : Md) (t : DTS) : Addr → Value → Option Addr → TS := fun _ _ _ D σ H => ∃ ε S Dd, Ep M H σ ε ∧ Rp M H S ∧ EndsOk M H Dd D ∧ t Dd ε S
theorem HdsD.l2 {X : Cx} {hds : List ExceptHandler} {l : List (Value × DTS)} (h : HdsD X hds l) : HdsOk X hds (l.map fun p => (p.1, tsU (Cxmd X) p.2)) := by
  induction h with
  | nil => exact .nil
  | @cons x c ts b₀ suite np pos' hds l hc hsu r ih =>
    refine .cons hc (fun a oe cls d pn _ _ => ?_) ih
    obtain ⟨t0, h1, h2⟩ := (hsu a oe pn).ex
    exact ⟨fun pins s σ H D I ⟨ε, S, Dd, a, b, c, q⟩ => h1.run pins s σ H D I (h2 σ H ε S Dd D a b c q)⟩
section
variable {X : Cx} {body : List Stmt} {h₀ : ExceptHandler} {hds : List ExceptHandler} {l : List (Value × DTS)} {pos : Pos} {tb : DXE → DTS} {EX0 : DXE}
theorem many_ok {cls : Value} {d : Option Addr} {gs : List (Str × D)} {Dd : DEnds} {D : Ends} {σ : L2.St} {H : Hp} {ε : Env} {S : Sto} (hd : EndsOk (Cxmd X) X.H_0 Dd D) (t : TLe X.H_0 H) (hx : ExIs (Cxmd X) H d gs) (he : Ep (Cxmd X) H σ ε) (hr : Rp (Cxmd X) H S) :
    ∀ {l : List (Value × DTS)}, dMany X.K EX0 Dd l cls gs ε S → wMany X.K (WD X EX0) D (l.map fun p => (p.1, tsU (Cxmd X) p.2)) cls d σ H
  | [], q => ⟨gs, ε, S, hx, he, hr, q⟩
  | (c, ts) :: r, ⟨b, e, q1, q2⟩ => ⟨b, e, fun z a na => ⟨ε, S, Dd, he, hr, hd.mono t, q1 z⟩, fun z => many_ok hd t hx he hr (q2 z)⟩
theorem ds0_try (hs : X.stack = X.env :: X.outer) (hf : X.env.frame = some X.env.locals) (tk : DTk X EX0)
    (hb : ∀ (EX : DXE) (pn : List (Addr × Obj)) (xe : Value → Shared → Prop), DTk (X.tr pn xe) EX → PassesOwn (model X.prog X.w) X.A X.env xe → DSs (X.tr pn xe) body (tb EX))
    (hh : HdsD X (h₀ :: hds) l) : DS0 X (.Try body (h₀ :: hds) [] [] pos) (dTry X.K EX0 tb l) := by
  refine ⟨_, ps_try_many (tb := fun W D σ H => ∃ ε S Dd EX, Ep (Cxmd X) H σ ε ∧ Rp (Cxmd X) H S ∧ EndsOk (Cxmd X) H Dd D ∧ (∀ cls d σ' H', TLe X.H_0 H' → WD X EX cls d σ' H' → W cls d σ' H') ∧ tb EX Dd ε S)
    (Wout := WD X EX0) hs hf tk (fun W pn xe tkW pW => ⟨fun pins s σ H D I ⟨ε, S, Dd, EX, a, b, c, hw, q⟩ => ?_⟩) hh.l2, fun σ ε S Dd D he hr hd q => ?_⟩
  · obtain ⟨ts, h1, h2⟩ := (hb EX pn xe (takes_tle (X := X.tr pn xe) tkW hw) pW).ex
    exact h1.run pins s σ H D I (h2 σ H ε S Dd D a b c q)
  · exact ⟨ε, S, Dd, _, he, hr, hd, fun cls d σ' H' t ⟨gs, ε', S', hx, he', hr', e⟩ => many_ok hd t hx he' hr' e, q⟩
end
/-! ### defs that let something out; defs that begin with a try -/
section
variable {C : Wd} {x : Str} {st : Stmt} {N ps : List Str} {k : Nat} {sp : DSp}
/-- the context of a def, exceptions may leave -/
abbrev XX (C : Wd) (N : List Str) (qual : Str) (st : Stmt) (fa : Addr) (cdv : Value) (A : Around) (outer : List PySem.Env) (s : Shared) (H : Hp) (E : XK) : Cx :=
  cxOf (L2.CX C.P C.w) C.P C.w C.K C.mg C.base N qual (defScope st) fa cdv A outer s H E
theorem okDX {t : DXE → DTS} {fa : Addr} {fd : FuncData} (F : FunD C.K x x (defArgs st) (defBody st) (defScope st) [] [] fa fd) (S : FnScope N ps (defScope st))
    (len : ∀ ds S Q E, sp ds S Q E → ds.length = ps.length)
    (drv : ∀ (cdv : Value) (A : Around) (outer : List PySem.Env) (s : Shared) (H : Hp) (E : XK) (EX : DXE), DTk (XX C N x st fa cdv A outer s H E) EX → Room k (A.deeper (envOfC x (defScope st) s.heap.objs.size fa cdv)) → DSs (XX C N x st fa cdv A outer s H E) (defBody st) (t EX))
    (rd : ∀ ds S Q E, sp ds S Q E → t (EXO E) { nx := fun _ S' => Dn Q .non S', rt := Dn Q } (startD N.length ds) S) : FnOk C.P C.w C.K C.mg C.base (L2.CX C.P C.w) (k + 1) fa fd ps (lift ⟨C.P, C.w, C.K⟩ sp) := by
  refine F.ok S (fun vs H Q E ⟨ds, S, QD, ED, h1, h2, h3, _⟩ => by rw [h1.length]; exact len ds S QD ED h3) (fun cdv A outer s H vs Q E hr h => ?_)
  obtain ⟨ds, S', QD, ED, h1, h2, h3, h4, h5⟩ := h
  obtain ⟨ts, a1, a2⟩ := (drv cdv A outer s H E (EXO ED) (dtk_own h5) hr).ex
  refine ⟨ts, a1, a2 _ _ _ S' _ _ h1.start h2 ⟨?_, ?_, ?_, ?_⟩ (rd ds S' QD ED h3)⟩
  · rintro σ H' ε S1 l e r ⟨S2, le, q⟩
    exact h4 _ H' _ S2 l Is.n (r.le le) q
  · rintro σ H' ε S1 l e r q
    exact q
  · rintro σ H' ε S1 l e r q
    exact q
  · rintro v H' d S1 l e r ⟨S2, le, q⟩
    exact h4 _ H' _ S2 l e (r.le le) q
theorem okFX {t : DXE → DTS} (T : Def C x st) (S : FnScope N ps (defScope st))
    (bnd : ∀ (kV doc pm : Value) (an : Option Addr) (cdv ct : Value) (us : List Value), us.length = ps.length → bindArgs (PySem.W.fnOf x x (defArgs st) (defBody st) (defScope st) .none kV doc pm an cdv ct) ⟨us, []⟩ = pure (ps.zip us))
    (len : ∀ ds S Q E, sp ds S Q E → ds.length = ps.length)
    (drv : ∀ (fa : Addr) (cdv : Value) (A : Around) (outer : List PySem.Env) (s : Shared) (H : Hp) (E : XK) (EX : DXE), DTk (XX C N x st fa cdv A outer s H E) EX → Room k (A.deeper (envOfC x (defScope st) s.heap.objs.size fa cdv)) → DSs (XX C N x st fa cdv A outer s H E) (defBody st) (t EX))
    (rd : ∀ ds S Q E, sp ds S Q E → t (EXO E) { nx := fun _ S' => Dn Q .non S', rt := Dn Q } (startD N.length ds) S) : Okf C x ps (k + 1) sp := by
  obtain ⟨fa, fd, F, hm⟩ := T.ex
  exact ⟨fa, fd, hm, F.kp, F.bindsN bnd, F.bindsA bnd, okDX F S len (drv fa) rd⟩
/-- two parameters, given by name, the second one first -/
structure OkfK2 (C : Wd) (x : Str) (p1 p2 : Str) (k : Nat) (sp : DSp) : Prop where
  ex : ∃ fa fd, C.mg x = some (.ref fa) ∧ PySem.W.keepIn C.K (.ref fa) = true ∧ (∀ (s : Shared) (a b : Value), BindsTo s fd ⟨[], [(p2, b), (p1, a)]⟩ [(p1, a), (p2, b)]) ∧ FnOk C.P C.w C.K C.mg C.base (L2.CX C.P C.w) k fa fd [p1, p2] (lift ⟨C.P, C.w, C.K⟩ sp)
theorem okFXK2 {p1 p2 : Str} {t : DXE → DTS} (T : Def C x st) (S : FnScope N [p1, p2] (defScope st))
    (bnd : ∀ (kV doc pm : Value) (an : Option Addr) (cdv ct a b : Value), bindArgs (PySem.W.fnOf x x (defArgs st) (defBody st) (defScope st) .none kV doc pm an cdv ct) ⟨[], [(p2, b), (p1, a)]⟩ = pure [(p1, a), (p2, b)])
    (len : ∀ ds S Q E, sp ds S Q E → ds.length = 2)
    (drv : ∀ (fa : Addr) (cdv : Value) (A : Around) (outer : List PySem.Env) (s : Shared) (H : Hp) (E : XK) (EX : DXE), DTk (XX C N x st fa cdv A outer s H E) EX → Room k (A.deeper (envOfC x (defScope st) s.heap.objs.size fa cdv)) → DSs (XX C N x st fa cdv A outer s H E) (defBody st) (t EX))
    (rd : ∀ ds S Q E, sp ds S Q E → t (EXO E) { nx := fun _ S' => Dn Q .non S', rt := Dn Q } (startD N.length ds) S) : OkfK2 C x p1 p2 (k + 1) sp := by
  obtain ⟨fa, fd, F, hm⟩ := T.ex
  refine ⟨fa, fd, hm, F.kp, fun s a b => ?_, okDX F S len (drv fa) rd⟩
  obtain ⟨oc, od, dV, kV, doc, pm, an, cdv, ct, osl, e, lk, hcd, hD, hK⟩ := F.ex
  subst e
  rcases hD with ⟨_, e⟩ | ⟨e, _⟩
  · subst e
    exact .of_eq (bnd kV doc pm an cdv ct a b)
  · exact absurd rfl e
theorem okF0 {t : DTS} (T : Def C x st) (S : FnScope N ps (defScope st))
    (bnd : ∀ (kV doc pm : Value) (an : Option Addr) (cdv ct : Value) (us : List Value), us.length = ps.length → bindArgs (PySem.W.fnOf x x (defArgs st) (defBody st) (defScope st) .none kV doc pm an cdv ct) ⟨us, []⟩ = pure (ps.zip us))
    (len : ∀ ds S Q E, sp ds S Q E → ds.length = ps.length)
    (drv : ∀ (fa : Addr) (cdv : Value) (A : Around) (outer : List PySem.Env) (s : Shared) (H : Hp) (E : XK), Room k (A.deeper (envOfC x (defScope st) s.heap.objs.size fa cdv)) → DSs0 (XC C N x st fa cdv A outer s H E) (defBody st) t)
    (rd : ∀ ds S Q E, sp ds S Q E → t { nx := fun _ S' => Dn Q .non S', rt := Dn Q } (startD N.length ds) S) : Okf C x ps (k + 1) sp := by
  obtain ⟨fa, fd, F, hm⟩ := T.ex
  refine ⟨fa, fd, hm, F.kp, F.bindsN bnd, F.bindsA bnd, ?_⟩
  refine F.ok S (fun vs H Q E ⟨ds, S, QD, ED, h1, h2, h3, _⟩ => by rw [h1.length]; exact len ds S QD ED h3) (fun cdv A outer s H vs Q E hr h => ?_)
  obtain ⟨ds, S', QD, ED, h1, h2, h3, h4, h5⟩ := h
  obtain ⟨ts, a1, a2⟩ := (drv fa cdv A outer s H E hr).ex
  refine ⟨ts, a1.nox, a2 _ _ S' _ _ h1.start h2 ⟨?_, ?_, ?_, ?_⟩ (rd ds S' QD ED h3)⟩
  · rintro σ H' ε S1 l e r ⟨S2, le, q⟩
    exact h4 _ H' _ S2 l Is.n (r.le le) q
  · rintro σ H' ε S1 l e r q
    exact q
  · rintro σ H' ε S1 l e r q
    exact q
  · rintro v H' d S1 l e r ⟨S2, le, q⟩
    exact h4 _ H' _ S2 l e (r.le le) q
end
section
variable {X : Cx} {k : Nat} {p1 p2 : Str} {sp : DSp} {x : Str} {p pos kpos : Pos} {kws : List Keyword} {t : DTA}
def dCallK2 (f : DSp) (t : DTA) : DTE := fun ε S Q => t ε S fun ds S1 => ∃ a b, ds = [b, a] ∧ f [a, b] S1 Q E0D
theorem i_callK2 {f : DSp} {ε : Env} {S : Sto} {Q : DK} (h : t ε S fun ds S1 => ∃ a b, ds = [b, a] ∧ f [a, b] S1 Q E0D) : dCallK2 f t ε S Q := h
/-- f(p2 = .., p1 = ..) -/
theorem de_callK2 (h : OkfK2 ⟨X.prog, X.w, X.K, X.mg, X.base⟩ x p1 p2 k sp) (hr : Room k X.A) (hg : Gl X x) (ha : DK2 X kws t)
    (hall : (backToKw pos (keywordEach kws X.env)).all (·.1.isSome) = true := by rfl) (hks : (backToKw pos (keywordEach kws X.env)).filterMap (·.1) = [p2, p1] := by rfl)
    (hdb : (x == ("__debug__" : Str)) = false := by decide) (hpl : ((backTo pos (starEach [] X.env)).any (·.1) || (backToKw pos (keywordEach kws X.env)).any (·.1.isNone)) = false := by rfl) :
    DE X (.Call (.Name x p) [] kws pos) (dCallK2 sp t) := by
  obtain ⟨fa, fd, hm, hk, hb, F⟩ := h.ex
  obtain ⟨t1, a1, a2⟩ := ha.ex
  refine ⟨fun σ H Q => t1 σ H fun vs H1 => ∃ v u, vs = [u, v] ∧ lift (Cxmd X) sp [v, u] H1 Q E0, ⟨fun pins s σ H Q I h => ?_⟩, fun σ H ε S Q he hr q Q2 k => ?_⟩
  · refine wpAny_Call_Name_kw (ld_glob I hg hm ?_ hdb)
    refine PySem.W.callWith_KW0 (h₀ := X.base) I.ok.mod.kin hk hall ?_ hpl
    refine thn (a1.run pos pins s σ H _ I h) fun ws s2 ⟨zs, H2, I2, rz, v, u, ez, q2⟩ => ⟨I2.kIn, ?_⟩
    rw [hks]
    subst ez
    cases rz with
    | @cons _ wu _ _ r1 rz =>
      cases rz with
      | @cons _ wv _ _ r2 rz =>
        cases rz
        refine wpAny_call (codeAny_mono (F.run X.A X.stack s2 H2 ⟨[], [(p2, wu), (p1, wv)]⟩ [wv, wu] [v, u] Q E0 hr I2.env0 (hb s2 wv wu) (.cons r2 (.cons r1 .nil)) q2) fun r s' hq => ?_)
        cases r with
        | error e => exact (passL : Passes (L2.CX X.prog X.w) X E0) pins σ H2 s2 e s' I2 hq
        | ok fl =>
          cases fl with
          | ret u => exact I2.after hq
          | next => exact False.elim hq
          | brk => exact False.elim hq
          | cont => exact False.elim hq
  · refine a2 σ H ε S _ he hr q _ fun vs H1 ds S1 l1 r1 p1 ⟨a, b, e, q1⟩ => ?_
    subst e
    obtain ⟨v, u, ev, i1, i2⟩ := r1.two
    exact ⟨u, v, ev, [a, b], S1, Q, E0D, IsL.cons i2 (IsL.cons i1 IsL.nil), p1, q1, fun v H' d S' l2 r2 p2 q2 => k v H' d S' (l1.trans l2) r2 p2 q2, fun c o H' gs S' _ _ _ z => z.elim⟩
end
/-! ### steps -/
section
variable {ε : Env} {S : Sto} {Q : DK} {t : DTA} {EE : DEnds}
theorem i_callX {f : DSp} {EX : DXE} (h : t ε S fun ds S1 => f ds S1 Q (fun c gs S' => EX c gs ε S')) : dCallX f EX t ε S Q := h
theorem i_raise {a : Addr} {EX : DXE} (h : t ε S fun ds S1 => ds.length ≤ sizeLine ∧ EX (.ref a) [] ε S1) : dRaise a EX t EE ε S := h
theorem i_try {K : PySem.W.Frag} {EX0 : DXE} {tb : DXE → DTS} {l : List (Value × DTS)} (h : tb (dMany K EX0 EE l) EE ε S) : dTry K EX0 tb l EE ε S := h
end
end DL
end
section
/-! The D-layer: dicts that are written (keys: ints and texts). -/
namespace DL
open PySem PySem.Spec PyProof.Rows L2
abbrev KD := List (Key × D)
def dcell (l : KD) : Cell := .dic (l.map fun p => kD p.1) (l.map (·.2))
def kGet : KD → Key → Option D
  | [], _ => none
  | p :: r, k => if p.1 = k then some p.2 else kGet r k
def kRepl : KD → Key → D → KD
  | [], _, _ => []
  | p :: r, k, d => (if p.1 = k then (p.1, d) else p) :: kRepl r k d
def kPut (l : KD) (k : Key) (d : D) : KD := if (kGet l k).isSome = true then kRepl l k d else l ++ [(k, d)]
def kDel : KD → Key → KD
  | [], _ => []
  | p :: r, k => if p.1 = k then kDel r k else p :: kDel r k
def kMerge (l m : KD) : KD := m.foldl (fun a p => kPut a p.1 p.2) l
theorem kD_inj : ∀ {a b : Key}, kD a = kD b → a = b
  | .inl _, .inl _, h => by cases h; rfl
  | .inr _, .inr _, h => by cases h; rfl
  | .inl _, .inr _, h => by cases h
  | .inr _, .inl _, h => by cases h
theorem kGet_cons (p : Key × D) (r : KD) (k : Key) : kGet (p :: r) k = if p.1 = k then some p.2 else kGet r k := rfl
/-! plain facts -/
theorem kGet_repl (l : KD) (k j : Key) (d : D) : kGet (kRepl l k d) j = if j = k then (if (kGet l k).isSome = true then some d else none) else kGet l j := by
  induction l with
  | nil => unfold kRepl kGet; split <;> rfl
  | cons p r ih =>
    unfold kRepl kGet
    by_cases e : p.1 = k
    · rw [if_pos e, if_pos e]
      by_cases q : j = k
      · rw [if_pos q, if_pos (by rw [q]; exact e), if_pos (by rfl)]
      · rw [if_neg q, if_neg (fun z => q (z.symm.trans e)), ih, if_neg q, if_neg (fun z => q (z.symm.trans e))]
    · rw [if_neg e, if_neg e]
      by_cases q : j = k
      · rw [if_pos q, if_neg (fun z => e (z.trans q)), ih, if_pos q]
      · rw [if_neg q, ih, if_neg q]
theorem kGet_app (l m : KD) (j : Key) : kGet (l ++ m) j = (kGet l j).or (kGet m j) := by
  induction l with
  | nil => cases h : kGet m j <;> simp [kGet, h]
  | cons p r ih =>
    rw [List.cons_append, kGet_cons, kGet_cons]
    by_cases e : p.1 = j
    · rw [if_pos e, if_pos e]; rfl
    · rw [if_neg e, if_neg e]; exact ih
theorem kGet_put (l : KD) (k j : Key) (d : D) : kGet (kPut l k d) j = if j = k then some d else kGet l j := by
  unfold kPut
  by_cases h : (kGet l k).isSome = true
  · rw [if_pos h, kGet_repl, if_pos h]
  · rw [if_neg h, kGet_app]
    have hn : kGet l k = none := by cases q : kGet l k with | none => rfl | some x => rw [q] at h; exact (h rfl).elim
    by_cases q : j = k
    · rw [if_pos q, q, hn]
      show kGet [(k, d)] k = some d
      unfold kGet; rw [if_pos rfl]
    · rw [if_neg q]
      have : kGet [(k, d)] j = none := by unfold kGet; rw [if_neg (fun z => q z.symm)]; rfl
      rw [this]
      cases kGet l j <;> rfl
theorem kGet_del (l : KD) (k j : Key) : kGet (kDel l k) j = if j = k then none else kGet l j := by
  induction l with
  | nil => unfold kDel kGet; split <;> rfl
  | cons p r ih =>
    unfold kDel
    by_cases e : p.1 = k
    · rw [if_pos e, ih]
      by_cases q : j = k
      · rw [if_pos q, if_pos q]
      · rw [if_neg q, if_neg q]
        show _ = kGet (p :: r) j
        unfold kGet
        rw [if_neg (fun z => q (z.symm.trans e))]
        cases r <;> rfl
    · rw [if_neg e]
      unfold kGet
      by_cases q : p.1 = j
      · rw [if_pos q, if_pos q, if_neg (fun z => e (q.trans z))]
      · rw [if_neg q, if_neg q, ih]
theorem kRepl_keys (l : KD) (k : Key) (d : D) : (kRepl l k d).map (·.1) = l.map (·.1) := by
  induction l with
  | nil => rfl
  | cons p r ih =>
    unfold kRepl
    rw [List.map_cons, List.map_cons, ih]
    by_cases e : p.1 = k
    · rw [if_pos e]
    · rw [if_neg e]
theorem kGet_mem (l : KD) (k : Key) : (kGet l k).isSome = true ↔ k ∈ l.map (·.1) := by
  induction l with
  | nil => simp [kGet]
  | cons p r ih =>
    unfold kGet
    by_cases e : p.1 = k
    · rw [if_pos e]; simp [e]
    · rw [if_neg e, ih, List.map_cons, List.mem_cons]
      exact ⟨fun h => .inr h, fun h => h.resolve_left fun z => e z.symm⟩
theorem kPut_len (l : KD) (k : Key) (d : D) : (kPut l k d).length ≤ l.length + 1 := by
  unfold kPut
  split
  · have := congrArg List.length (kRepl_keys l k d)
    rw [List.length_map, List.length_map] at this
    omega
  · rw [List.length_append]; exact Nat.le_refl _
theorem kPut_nodup {l : KD} {k : Key} {d : D} (h : (l.map (·.1)).Nodup) : ((kPut l k d).map (·.1)).Nodup := by
  unfold kPut
  split
  · rw [kRepl_keys]; exact h
  · rename_i q
    rw [List.map_append]
    refine List.nodup_append.mpr ⟨h, by simp, fun a ha b hb e => ?_⟩
    have : b = k := by simpa using hb
    exact q ((kGet_mem l k).mpr (by rw [← this, ← e]; exact ha))
/-! what stands for it -/
def PKD (M : Md) (H : Hp) : List (Key × V) → KD → Prop
  | [], [] => True
  | p :: r, q :: s => p.1 = q.1 ∧ Is M H p.2 q.2 ∧ PKD M H r s
  | _, _ => False
section
variable {M : Md} {H : Hp}
theorem pkd_of : ∀ {kvs : List (Key × V)} {l : KD}, (l.map fun p => kD p.1) = (kvs.map (·.1)).map kD → IsL M H (kvs.map (·.2)) (l.map (·.2)) → PKD M H kvs l
  | [], [], _, _ => trivial
  | [], _ :: _, e, _ => by cases e
  | _ :: _, [], e, _ => by cases e
  | p :: r, q :: s, e, h => by
    rw [List.map_cons, List.map_cons, List.map_cons] at e
    injection e with e1 e2
    obtain ⟨v, t, e3, i, z⟩ := (show ∃ v t, (p.2 :: r.map (·.2)) = v :: t ∧ Is M H v q.2 ∧ IsL M H t (s.map (·.2)) from h)
    injection e3 with e4 e5
    exact ⟨(kD_inj e1).symm, e4 ▸ i, pkd_of e2 (e5 ▸ z)⟩
theorem PKD.keys : ∀ {kvs : List (Key × V)} {l : KD}, PKD M H kvs l → (l.map fun p => kD p.1) = (kvs.map (·.1)).map kD ∧ IsL M H (kvs.map (·.2)) (l.map (·.2))
  | [], [], _ => ⟨rfl, rfl⟩
  | [], _ :: _, h => h.elim
  | _ :: _, [], h => h.elim
  | p :: r, q :: s, ⟨e, i, z⟩ => by
    obtain ⟨a, b⟩ := PKD.keys z
    refine ⟨?_, IsL.cons i b⟩
    rw [List.map_cons, List.map_cons, List.map_cons, a, e]
theorem cell_dic {a : Addr} {l : KD} : CellIs M H a (dcell l) ↔ ∃ kvs, H a = some (.dK kvs) ∧ PKD M H kvs l :=
  ⟨fun ⟨kvs, e, k, i⟩ => ⟨kvs, e, pkd_of k i⟩, fun ⟨kvs, e, p⟩ => ⟨kvs, e, p.keys.1, p.keys.2⟩⟩
theorem PKD.mono {H' : Hp} (t : TLe H H') : ∀ {kvs : List (Key × V)} {l : KD}, PKD M H kvs l → PKD M H' kvs l
  | [], [], _ => trivial
  | [], _ :: _, h => h.elim
  | _ :: _, [], h => h.elim
  | p :: r, q :: s, ⟨e, i, z⟩ => ⟨e, Is.mono t i, PKD.mono t z⟩
theorem PKD.len : ∀ {kvs : List (Key × V)} {l : KD}, PKD M H kvs l → kvs.length = l.length
  | [], [], _ => rfl
  | [], _ :: _, h => h.elim
  | _ :: _, [], h => h.elim
  | p :: r, q :: s, ⟨e, i, z⟩ => by rw [List.length_cons, List.length_cons, PKD.len z]
theorem valV_cons (p : Key × V) (r : List (Key × V)) (k : Key) : valV (p :: r) k = if p.1 = k then some p.2 else valV r k := by
  unfold valV
  rw [List.find?_cons]
  by_cases e : p.1 = k
  · rw [if_pos e, decide_eq_true e]; rfl
  · rw [if_neg e, decide_eq_false e]
theorem PKD.get : ∀ {kvs : List (Key × V)} {l : KD} (k : Key), PKD M H kvs l → (∀ d, kGet l k = some d → ∃ v, valV kvs k = some v ∧ Is M H v d) ∧ (kGet l k).isSome = (valV kvs k).isSome
  | [], [], k, _ => ⟨fun d e => (by cases e), rfl⟩
  | [], _ :: _, _, h => h.elim
  | _ :: _, [], _, h => h.elim
  | p :: r, q :: s, k, ⟨e, i, z⟩ => by
    rw [valV_cons]
    unfold kGet
    by_cases c : p.1 = k
    · rw [if_pos c, if_pos (e ▸ c)]
      exact ⟨fun d x => ⟨p.2, rfl, by cases x; exact i⟩, rfl⟩
    · rw [if_neg c, if_neg (e ▸ c)]
      exact PKD.get k z
theorem PKD.snoc {k : Key} {v : V} {d : D} (i : Is M H v d) : ∀ {kvs : List (Key × V)} {l : KD}, PKD M H kvs l → PKD M H (kvs ++ [(k, v)]) (l ++ [(k, d)])
  | [], [], _ => ⟨rfl, i, trivial⟩
  | [], _ :: _, h => h.elim
  | _ :: _, [], h => h.elim
  | p :: r, q :: s, ⟨e, j, z⟩ => ⟨e, j, PKD.snoc i z⟩
theorem PKD.repl {k : Key} {v : V} {d : D} (i : Is M H v d) : ∀ {kvs : List (Key × V)} {l : KD}, PKD M H kvs l → PKD M H (kvs.map fun kv => if kv.1 = k then (kv.1, v) else kv) (kRepl l k d)
  | [], [], _ => trivial
  | [], _ :: _, h => h.elim
  | _ :: _, [], h => h.elim
  | p :: r, q :: s, ⟨e, j, z⟩ => by
    rw [List.map_cons]
    unfold kRepl
    by_cases c : p.1 = k
    · rw [if_pos c, if_pos (e ▸ c)]; exact ⟨e, i, PKD.repl i z⟩
    · rw [if_neg c, if_neg (e ▸ c)]; exact ⟨e, j, PKD.repl i z⟩
theorem any_val (kvs : List (Key × V)) (k : Key) : (kvs.any fun kv => decide (kv.1 = k)) = (valV kvs k).isSome := by
  induction kvs with
  | nil => rfl
  | cons p r ih =>
    rw [List.any_cons, valV_cons, ih]
    by_cases e : p.1 = k
    · rw [if_pos e, decide_eq_true e]; rfl
    · rw [if_neg e, decide_eq_false e]; rfl
theorem PKD.put {kvs : List (Key × V)} {l : KD} {k : Key} {v : V} {d : D} (i : Is M H v d) (h : PKD M H kvs l) : PKD M H (putK kvs k v) (kPut l k d) := by
  unfold putK kPut
  rw [any_val, ← (h.get k).2]
  split
  · exact h.repl i
  · exact h.snoc i
theorem PKD.del {k : Key} : ∀ {kvs : List (Key × V)} {l : KD}, PKD M H kvs l → PKD M H (dropK kvs k) (kDel l k)
  | [], [], _ => trivial
  | [], _ :: _, h => h.elim
  | _ :: _, [], h => h.elim
  | p :: r, q :: s, ⟨e, j, z⟩ => by
    unfold dropK
    rw [List.filter_cons]
    unfold kDel
    by_cases c : p.1 = k
    · rw [if_neg (by simp [c]), if_pos (e ▸ c)]; exact PKD.del z
    · rw [if_pos (by simp [c]), if_neg (e ▸ c)]; exact ⟨e, j, PKD.del z⟩
theorem PKD.merge : ∀ {more : List (Key × V)} {m : KD} {kvs : List (Key × V)} {l : KD}, PKD M H more m → PKD M H kvs l → PKD M H (mergeK kvs more) (kMerge l m)
  | [], [], _, _, _, h => h
  | [], _ :: _, _, _, h, _ => h.elim
  | _ :: _, [], _, _, h, _ => h.elim
  | p :: r, q :: s, kvs, l, ⟨e, i, z⟩, h => by
    show PKD M H (mergeK (putK kvs p.1 p.2) r) (kMerge (kPut l q.1 q.2) s)
    rw [e]
    exact PKD.merge z (h.put i)
end
theorem is_key {M : Md} {H : Hp} {v : V} {k : Key} (h : Is M H v (kD k)) : v = kV k := is_kD h
theorem tl_dic {H : Hp} {a : Addr} {kvs : List (Key × V)} {o : HO} (h : H a = some (.dK kvs)) : TLe H (upd H a o) := TLe.mut (by rw [h]; trivial)
theorem rp_putDic {M : Md} {H : Hp} {S : Sto} {p : Addr} {kvs : List (Key × V)} {l : KD} (h : Rp M H S) (t : TLe H (upd H p (.dK kvs))) (r : PKD M H kvs l) : Rp M (upd H p (.dK kvs)) (put S p (dcell l)) :=
  h.put t (cell_dic.mpr ⟨kvs, upd_same, r.mono t⟩)
/-! ### operations -/
def ixK : DR2 := fun x y S Q => ∃ a l k d, x = .ref a ∧ y = kD k ∧ S a = some (dcell l) ∧ kGet l k = some d ∧ Q d S
def inK (neg : Bool) : DR2 := fun x y S Q => ∃ a l k, y = .ref a ∧ x = kD k ∧ S a = some (dcell l) ∧ Q (.bl (if neg = true then !(kGet l k).isSome else (kGet l k).isSome)) S
section
variable {X : Cx} {a b o e : Expr} {pos apos cpos : Pos} {ta tb to te : DTE}
theorem de_ixK (hu : X.A.units + 1 < cLine) (ha : DE X a ta) (hb : DE X b tb) (hs : NoSl b) : DE X (.Subscript a b pos) (dOp ixK ta tb) := by
  obtain ⟨t1, a1, a2⟩ := ha.ex
  obtain ⟨t2, b1, b2⟩ := hb.ex
  refine ⟨_, pe_dget hu a1 b1 hs, fun σ H ε S Q he hr q Q2 k => ?_⟩
  refine a2 σ H ε S _ he hr q _ fun v H1 d S1 l1 r1 p1 q1 => ?_
  refine b2 σ H1 ε S1 _ (he.mono l1) p1 q1 _ fun u H2 d2 S2 l2 r2 p2 ⟨c, l, kk, z, e1, e2, s2, g, q2⟩ => ?_
  subst e1 e2
  obtain ⟨kvs, hc, pk⟩ := cell_dic.mp (p2 _ _ s2)
  obtain ⟨w, ew, iw⟩ := (pk.get kk).1 z g
  refine ⟨c, w, Is.mono l2 r1, ?_, k w H2 z S2 (l1.trans l2) iw p2 q2⟩
  rw [is_key r2, ← ew]
  exact DGet.k hc
theorem op_inK (hu : X.A.units + 1 < cLine) : OpR X (compareOp .In) (fun x y H Q => ∃ a r, y = .ref a ∧ DGet H a x r ∧ Q (.bl r.isSome) H) := by
  intro pins s σ H x y v u Q I rx ry ⟨a, r, e, g, q⟩
  subst e
  cases ry
  exact d_in hu I g rx fun s' I' => ⟨.bl _, H, I', rfl, q⟩
theorem op_ninK (hu : X.A.units + 1 < cLine) : OpR X (compareOp .NotIn) (fun x y H Q => ∃ a r, y = .ref a ∧ DGet H a x r ∧ Q (.bl (!r.isSome)) H) := by
  intro pins s σ H x y v u Q I rx ry ⟨a, r, e, g, q⟩
  subst e
  cases ry
  exact d_notIn hu I g rx fun s' I' => ⟨.bl _, H, I', rfl, q⟩
theorem dop_inK (hu : X.A.units + 1 < cLine) : DOp X (compareOp .In) (inK false) :=
  ⟨_, op_inK hu, fun x y dx dy H S Q ix iy hr ⟨a, l, kk, e1, e2, s, q⟩ Q2 k => by
    subst e1 e2
    obtain ⟨kvs, hc, pk⟩ := cell_dic.mp (hr _ _ s)
    have hx := is_key ix
    subst hx
    refine ⟨a, _, iy, DGet.k hc, ?_⟩
    rw [← (pk.get kk).2]
    exact k _ H _ S (TLe.refl H) Is.b hr q⟩
theorem dop_ninK (hu : X.A.units + 1 < cLine) : DOp X (compareOp .NotIn) (inK true) :=
  ⟨_, op_ninK hu, fun x y dx dy H S Q ix iy hr ⟨a, l, kk, e1, e2, s, q⟩ Q2 k => by
    subst e1 e2
    obtain ⟨kvs, hc, pk⟩ := cell_dic.mp (hr _ _ s)
    have hx := is_key ix
    subst hx
    refine ⟨a, _, iy, DGet.k hc, ?_⟩
    rw [← (pk.get kk).2]
    exact k _ H _ S (TLe.refl H) Is.b hr q⟩
/-- a dict of scalars against one that is the same -/
def neK : DR2 := fun x y S Q => ∃ a b l, x = .ref a ∧ y = .ref b ∧ S a = some (dcell l) ∧ S b = some (dcell l) ∧ (l.map (·.1)).Nodup ∧ (∀ p ∈ l, (scV p.2).isSome = true) ∧ Q (.bl false) S
theorem scV_flatB {d : D} {v : V} (e : scV d = some v) : flatB v = true := by
  cases d <;> first | (cases e; rfl) | cases e
theorem pkd_flat {M : Md} {H : Hp} : ∀ {kvs kvs' : List (Key × V)} {l : KD}, PKD M H kvs l → PKD M H kvs' l → (∀ p ∈ l, (scV p.2).isSome = true) → kvs = kvs' ∧ ∀ p ∈ kvs, flatB p.2 = true
  | [], [], [], _, _, _ => ⟨rfl, fun p h => by cases h⟩
  | [], _, _ :: _, h, _, _ => h.elim
  | _ :: _, _, [], h, _, _ => h.elim
  | _, [], _ :: _, _, h, _ => h.elim
  | _, _ :: _, [], _, h, _ => h.elim
  | p :: r, p' :: r', q :: s, ⟨e, i, z⟩, ⟨e', i', z'⟩, hf => by
    obtain ⟨h1, h2⟩ := pkd_flat z z' fun x hx => hf x (List.mem_cons_of_mem _ hx)
    obtain ⟨v, ev⟩ := Option.isSome_iff_exists.mp (hf q List.mem_cons_self)
    have a1 := scV_is ev i
    have a2 := scV_is ev i'
    refine ⟨?_, fun x hx => ?_⟩
    · rw [h1, show p = p' from Prod.ext (e.trans e'.symm) (a1.trans a2.symm)]
    · rcases List.mem_cons.mp hx with c | c
      · rw [c, a1]; exact scV_flatB ev
      · exact h2 x c
theorem valV_mem : ∀ {kvs : List (Key × V)}, (kvs.map (·.1)).Nodup → ∀ p ∈ kvs, valV kvs p.1 = some p.2
  | [], _, p, h => by cases h
  | q :: r, n, p, h => by
    rw [List.map_cons] at n
    obtain ⟨n1, n2⟩ := List.nodup_cons.mp n
    rw [valV_cons]
    rcases List.mem_cons.mp h with c | c
    · rw [if_pos (by rw [c]), c]
    · rw [if_neg (fun z => n1 (by rw [z]; exact List.mem_map_of_mem c))]
      exact valV_mem n2 p c
theorem PKD.keys1 {M : Md} {H : Hp} : ∀ {kvs : List (Key × V)} {l : KD}, PKD M H kvs l → kvs.map (·.1) = l.map (·.1)
  | [], [], _ => rfl
  | [], _ :: _, h => h.elim
  | _ :: _, [], h => h.elim
  | p :: r, q :: s, ⟨e, i, z⟩ => by rw [List.map_cons, List.map_cons, e, PKD.keys1 z]
theorem dop_neK (hu : X.A.units < cLine) : DOp X (compareOp .NotEq) neK :=
  ⟨_, op_ne_dictA hu, fun x y dx dy H S Q ix iy hr ⟨a, b, l, e1, e2, s1, s2, nd, fl, q⟩ Q2 k => by
    subst e1 e2
    obtain ⟨kvs, hc, pk⟩ := cell_dic.mp (hr _ _ s1)
    obtain ⟨kvs', hc', pk'⟩ := cell_dic.mp (hr _ _ s2)
    obtain ⟨ee, fb⟩ := pkd_flat pk pk' fl
    subst ee
    exact ⟨a, b, kvs, kvs, ix, iy, hc, hc', rfl, fun p hp => ⟨valV_mem (by rw [pk.keys1]; exact nd) p hp, fb p hp⟩, k _ H _ S (TLe.refl H) Is.b hr q⟩⟩
/-! dict(d) -/
def oDict : DR := fun ds S Q => ∃ a l, ds = [.ref a] ∧ S a = some (dcell l) ∧ ∀ p, S p = none → Q (.ref p) (put S p (dcell l))
theorem dcl_dict : DCl X (.type "dict") oDict := by
  refine ⟨_, call_dictD, fun vs ds H S Q ix hr ⟨a, l, e, s, q⟩ Q2 k => ?_⟩
  subst e
  obtain ⟨v, e, r⟩ := ix.one
  subst e
  obtain ⟨kvs, hc, pk⟩ := cell_dic.mp (hr _ _ s)
  refine ⟨a, kvs, by rw [show v = _ from r], .inl hc, fun p np => ?_⟩
  have t : TLe H (upd H p (.dK kvs)) := TLe.new np
  exact k _ _ _ _ t Is.r (rp_putDic hr t pk) (q p (hr.free np))
/-! d.pop(k) -/
def dPopK (to te : DTE) : DTE := fun ε S Q => to ε S fun o S1 => ∃ a l, o = .ref a ∧ S1 a = some (dcell l) ∧ te ε S1 fun y S2 => ∃ k l' d, y = kD k ∧ S2 a = some (dcell l') ∧ kGet l' k = some d ∧ Q d (put S2 a (dcell (kDel l' k)))
theorem de_popK (ho : DE X o to) (he : DE X e te) (m : M1 X o "pop" apos e cpos := by exact ⟨rfl, rfl, rfl, rfl⟩) : DE X (.Call (.Attribute o "pop" apos) [e] [] cpos) (dPopK to te) := by
  obtain ⟨t1, a1, a2⟩ := ho.ex
  obtain ⟨t2, b1, b2⟩ := he.ex
  refine ⟨_, pe_dpop1 a1 b1 m, fun σ H ε S Q he hr q Q2 k => ?_⟩
  refine a2 σ H ε S _ he hr q _ fun v H1 d S1 l1 r1 p1 ⟨a, l, e, s1, q1⟩ => ?_
  subst e
  obtain ⟨kvs, hc, pk⟩ := cell_dic.mp (p1 _ _ s1)
  refine ⟨a, r1, .inl ⟨kvs, .inl hc⟩, ?_⟩
  refine b2 σ H1 ε S1 _ (he.mono l1) p1 q1 _ fun u H2 d2 S2 l2 r2 p2 ⟨kk, l', z, e2, s2, g, q2⟩ => ?_
  subst e2
  obtain ⟨kvs2, hc2, pk2⟩ := cell_dic.mp (p2 _ _ s2)
  obtain ⟨w, ew, iw⟩ := (pk2.get kk).1 z g
  have t3 : TLe H2 (upd H2 a (.dK (dropK kvs2 kk))) := tl_dic hc2
  exact ⟨kvs2, kk, w, hc2, is_key r2, ew, k w _ z _ ((l1.trans l2).trans t3) (Is.mono t3 iw) (rp_putDic p2 t3 pk2.del) q2⟩
/-! d[k] = v -/
def dSetK (tv to ti : DTE) : DTS := fun D ε S => tv ε S fun v S1 => to ε S1 fun o S2 => ti ε S2 fun i S3 => ∃ a l k, o = .ref a ∧ i = kD k ∧ S3 a = some (dcell l) ∧ l.length < sizeLine ∧ D.nx ε (put S3 a (dcell (kPut l k v)))
theorem ds_setK {v i : Expr} {spos : Pos} {ti tv : DTE} (hu : X.A.units + 1 < cLine) (hv : DE X v tv) (ho : DE X o to) (hi : DE X i ti) (ha : ∀ v, assign (.Subscript o i spos) X.env v = (do
      let ov ← holding [v] (eval o X.env)
      let iv ← holding [v, ov] (eval i X.env)
      standAt spos
      holding [v, ov, iv] (setItem ov iv v)
      release [v, ov, iv] []) := by intro _; rfl) (hs : swapsWithSole [.Subscript o i spos] v pos.line X.env = pure false := by rfl) (hw : swappedStores [.Subscript o i spos] v X.env = pure none := by rfl)
    (h1 : (assignEach [.Subscript o i spos] X.env).map (·.2) = [assign (.Subscript o i spos) X.env] := by rfl) : DS X (.Assign [.Subscript o i spos] v pos) (dSetK tv to ti) := by
  obtain ⟨t1, a1, a2⟩ := hv.ex
  obtain ⟨t2, b1, b2⟩ := ho.ex
  obtain ⟨t3, c1, c2⟩ := hi.ex
  refine ⟨_, ps_asg a1 (pg_sub b1 c1 (set_dict hu) ha) hs hw h1, fun σ H ε S Dd D he hr hd q => ?_⟩
  refine a2 σ H ε S _ he hr q _ fun v H1 d S1 l1 r1 p1 q1 => ?_
  refine b2 σ H1 ε S1 _ (he.mono l1) p1 q1 _ fun u H2 d2 S2 l2 r2 p2 q2 => ?_
  refine c2 σ H2 ε S2 _ ((he.mono l1).mono l2) p2 q2 _ fun w H3 d3 S3 l3 r3 p3 ⟨a, l, kk, e1, e2, s3, z, q3⟩ => ?_
  subst e1 e2
  obtain ⟨kvs, hc, pk⟩ := cell_dic.mp (p3 _ _ s3)
  have hw' := is_key r3
  subst hw'
  have l4 : TLe H3 (upd H3 a (.dK (putK kvs kk v))) := tl_dic hc
  have ll := ((l1.trans l2).trans l3).trans l4
  refine ⟨a, _, Is.mono l3 r2, DPut.k hc (by rw [pk.len]; exact z), ?_⟩
  exact hd.nx _ _ _ _ ll (he.mono ll) (rp_putDic p3 l4 (pk.put (Is.mono (l2.trans l3) r1))) q3
/-! {}, {k: v, ..} -/
def dNewK : DTE := fun _ S Q => ∀ p, S p = none → Q (.ref p) (put S p (dcell []))
theorem de_newK : DE X (.Dict [] [] pos) dNewK :=
  ⟨_, pe_dnewK, fun σ H ε S Q he hr q Q2 k p np => by
    have t : TLe H (upd H p (.dK [])) := TLe.new np
    exact k _ _ _ _ t Is.r (rp_putDic hr (l := []) t trivial) (q p (hr.free np))⟩
abbrev DTP := Env → Sto → (List (D × D) → Sto → Prop) → Prop
def dPairs : List (DTE × DTE) → DTP
  | [], _, S, Q => Q [] S
  | (tk, tv) :: r, ε, S, Q => tk ε S fun x S1 => tv ε S1 fun y S2 => dPairs r ε S2 fun ps S3 => Q ((x, y) :: ps) S3
inductive PIs (M : Md) (H : Hp) : List (V × V) → List (D × D) → Prop
  | nil : PIs M H [] []
  | cons {x y : V} {c d : D} {r : List (V × V)} {s : List (D × D)} (h1 : Is M H x c) (h2 : Is M H y d) (h : PIs M H r s) : PIs M H ((x, y) :: r) ((c, d) :: s)
structure DPs (X : Cx) (pos : Pos) (keys : List (Option Expr)) (values : List Expr) (t : List (DTE × DTE)) : Prop where
  ex : ∃ trs, PPs X pos keys values trs ∧ ∀ σ H ε S Q, Ep (Cxmd X) H σ ε → Rp (Cxmd X) H S → dPairs t ε S Q → ∀ Q2 : List (V × V) → Hp → Prop, (∀ ps H' qs S', TLe H H' → PIs (Cxmd X) H' ps qs → Rp (Cxmd X) H' S' → Q qs S' → Q2 ps H') → tPairs trs σ H Q2
theorem dps_nil : DPs X pos [] [] [] := ⟨_, pps_nil, fun σ H ε S Q he hr q Q2 k => k _ H _ S (TLe.refl H) .nil hr q⟩
theorem dps_cons {k v : Expr} {ks : List (Option Expr)} {vs : List Expr} {tk tv : DTE} {r : List (DTE × DTE)} (hk : DE X k tk) (hv : DE X v tv) (h : DPs X pos ks vs r) : DPs X pos (some k :: ks) (v :: vs) ((tk, tv) :: r) := by
  obtain ⟨t1, a1, a2⟩ := hk.ex
  obtain ⟨t2, b1, b2⟩ := hv.ex
  obtain ⟨t3, c1, c2⟩ := h.ex
  refine ⟨_, pps_cons a1 b1 c1, fun σ H ε S Q he hr q Q2 k => ?_⟩
  refine a2 σ H ε S _ he hr q _ fun v H1 d S1 l1 r1 p1 q1 => ?_
  refine b2 σ H1 ε S1 _ (he.mono l1) p1 q1 _ fun u H2 d2 S2 l2 r2 p2 q2 => ?_
  refine c2 σ H2 ε S2 _ ((he.mono l1).mono l2) p2 q2 _ fun ps H3 qs S3 l3 r3 p3 q3 => ?_
  exact k _ H3 _ S3 ((l1.trans l2).trans l3) (.cons (Is.mono (l2.trans l3) r1) (Is.mono l3 r2) r3) p3 q3
def dDisp (t : List (DTE × DTE)) : DTE := fun ε S Q => ∀ p, S p = none → dPairs t ε (put S p (dcell [])) fun ps S2 => S2 p = some (dcell []) ∧ ∃ l : KD, ps = l.map (fun q => (kD q.1, q.2)) ∧ l.length ≤ 15 ∧ Q (.ref p) (put S2 p (dcell (kMerge [] l)))
theorem pis_keys {M : Md} {H : Hp} : ∀ {l : KD} {ps : List (V × V)}, PIs M H ps (l.map fun q => (kD q.1, q.2)) → ∃ kvs : List (Key × V), ps = kvs.map (fun kv => (kV kv.1, kv.2)) ∧ PKD M H kvs l
  | [], _, h => by cases h; exact ⟨[], rfl, trivial⟩
  | q :: l, _, h => by
    rw [List.map_cons] at h
    cases h with
    | cons h1 h2 h3 =>
      obtain ⟨kvs, e, p⟩ := pis_keys h3
      refine ⟨(q.1, _) :: kvs, ?_, rfl, h2, p⟩
      rw [List.map_cons, e, is_key h1]
theorem de_disp {keys : List (Option Expr)} {values : List Expr} {t : List (DTE × DTE)} (h : DPs X pos keys values t) (hall : keys.all (·.isSome) = true := by rfl) (hl : keys.length = values.length := by rfl) (h0 : keys ≠ [] := by (intro z; cases z))
    (h15 : keys.length ≤ 15 := by decide) : DE X (.Dict keys values pos) (dDisp t) := by
  obtain ⟨trs, a1, a2⟩ := h.ex
  refine ⟨_, pe_disp a1 hall hl h0 h15, fun σ H ε S Q he hr q Q2 k p np => ?_⟩
  have t1 : TLe H (upd H p (.dK [])) := TLe.new np
  refine a2 σ _ ε _ _ (he.mono t1) (rp_putDic hr (l := []) t1 trivial) (q p (hr.free np)) _ fun ps H2 qs S2 l2 r2 p2 ⟨s2, l, e, z, q2⟩ => ?_
  subst e
  obtain ⟨kvs, e1, pk⟩ := pis_keys r2
  obtain ⟨kv0, hc, pk0⟩ := cell_dic.mp (p2 _ _ s2)
  have e0 : kv0 = [] := by cases kv0 with | nil => rfl | cons _ _ => exact pk0.elim
  subst e0
  have t3 : TLe H2 (upd H2 p (.dK (mergeK [] kvs))) := tl_dic hc
  exact ⟨hc, kvs, e1, by rw [pk.len]; exact z, k _ _ _ _ ((t1.trans l2).trans t3) Is.r (rp_putDic p2 t3 (PKD.merge pk (show PKD (Cxmd X) H2 [] [] from trivial))) q2⟩
end
/-! ### steps -/
section
variable {ε : Env} {S : Sto} {Q : DK} {EE : DEnds} {to te ti tv : DTE} {a b : Addr} {l : KD} {k : Key} {d x : D} {s : Str} {i : Int}
theorem i_ixKs (es : S a = some (dcell l)) (g : kGet l (.inr s) = some d) (h : Q d S) : ixK (.ref a) (.str s) S Q := ⟨a, l, .inr s, d, rfl, rfl, es, g, h⟩
theorem i_inKs (es : S a = some (dcell l)) (h : Q (.bl (kGet l (.inr s)).isSome) S) : inK false (.str s) (.ref a) S Q := ⟨a, l, .inr s, rfl, rfl, es, h⟩
theorem i_ninKs (es : S a = some (dcell l)) (h : Q (.bl (!(kGet l (.inr s)).isSome)) S) : inK true (.str s) (.ref a) S Q := ⟨a, l, .inr s, rfl, rfl, es, h⟩
theorem i_popK (h : to ε S fun o S1 => ∃ a l, o = .ref a ∧ S1 a = some (dcell l) ∧ te ε S1 fun y S2 => ∃ k l' d, y = kD k ∧ S2 a = some (dcell l') ∧ kGet l' k = some d ∧ Q d (put S2 a (dcell (kDel l' k)))) : dPopK to te ε S Q := h
theorem i_setK (h : tv ε S fun v S1 => to ε S1 fun o S2 => ti ε S2 fun i S3 => ∃ a l k, o = .ref a ∧ i = kD k ∧ S3 a = some (dcell l) ∧ l.length < sizeLine ∧ EE.nx ε (put S3 a (dcell (kPut l k v)))) : dSetK tv to ti EE ε S := h
theorem i_dict (es : S a = some (dcell l)) (h : ∀ p, S p = none → Q (.ref p) (put S p (dcell l))) : oDict [.ref a] S Q := ⟨a, l, rfl, es, h⟩
theorem i_neK (e1 : S a = some (dcell l)) (e2 : S b = some (dcell l)) (n : (l.map (·.1)).Nodup) (f : ∀ p ∈ l, (scV p.2).isSome = true) (h : Q (.bl false) S) : neK (.ref a) (.ref b) S Q := ⟨a, b, l, rfl, rfl, e1, e2, n, f, h⟩
end
end DL
end
section
/-! The D-layer: where a class of the module stands. -/
namespace DL
open PySem PySem.Spec PyProof.Rows L2
def clsA (C : Wd) (x : Str) : Addr := match C.mg x with
  | some (.ref a) => a
  | _ => 0
theorem clsA_of {C : Wd} {x : Str} {a : Addr} (h : C.mg x = some (.ref a)) : clsA C x = a := by unfold clsA; rw [h]
end DL
end
section
/-! Trees of sums and formulas, in plain Lean. -/
namespace TR
open PySem L2 DL
inductive Op2 | plus | minus | eq | ne | lt | le | gt | ge | and | or
  deriving DecidableEq
inductive Opd | over | rest
  deriving DecidableEq
inductive Qn | some | all
  deriving DecidableEq
def Op2.w : Op2 → Str
  | .plus => "plus" | .minus => "minus" | .eq => "=" | .ne => "!=" | .lt => "<" | .le => "<=" | .gt => ">" | .ge => ">=" | .and => "and" | .or => "or"
def Opd.w : Opd → Str
  | .over => "over" | .rest => "rest"
def Qn.w : Qn → Str
  | .some => "some" | .all => "all"
def Op2.kind : Op2 → Str
  | .plus => "sum" | .minus => "sum" | _ => "formula"
def Op2.sub : Op2 → Str
  | .and => "formula" | .or => "formula" | _ => "sum"
inductive Tr where
  | num (n : Nat) | nam (s : Str) | two (o : Op2) (a b : Tr) | times (n : Nat) (a : Tr) | ovr (o : Opd) (a : Tr) (n : Nat) | neg (a : Tr) | qn (q : Qn) (x : Str) (a : Tr)
namespace Tr
def d : Tr → D
  | .num n => .tup [.str "number", .int n]
  | .nam s => .tup [.str "name", .str s]
  | .two o a b => .tup [.str o.w, a.d, b.d]
  | .times n a => .tup [.str "times", .int n, a.d]
  | .ovr o a n => .tup [.str o.w, a.d, .int n]
  | .neg a => .tup [.str "not", a.d]
  | .qn q x a => .tup [.str q.w, .str x, a.d]
def parts : Tr → List Tr
  | .num _ => [] | .nam _ => [] | .two _ a b => [a, b] | .times _ a => [a] | .ovr _ a _ => [a] | .neg a => [a] | .qn _ _ a => [a]
def sz : Tr → Nat
  | .num _ => 1 | .nam _ => 1 | .two _ a b => 1 + a.sz + b.sz | .times _ a => 1 + a.sz | .ovr _ a _ => 1 + a.sz | .neg a => 1 + a.sz | .qn _ _ a => 1 + a.sz
def ht : Tr → Nat
  | .num _ => 1 | .nam _ => 1 | .two _ a b => 1 + max a.ht b.ht | .times _ a => 1 + a.ht | .ovr _ a _ => 1 + a.ht | .neg a => 1 + a.ht | .qn _ _ a => 1 + a.ht
def kind : Tr → Str
  | .num _ => "sum" | .nam _ => "sum" | .two o _ _ => o.kind | .times _ _ => "sum" | .ovr _ _ _ => "sum" | .neg _ => "formula" | .qn _ _ _ => "formula"
def flds : Tr → List Str
  | .num _ => ["whole"] | .nam _ => ["word"] | .two o _ _ => [o.sub, o.sub] | .times _ _ => ["whole", "sum"] | .ovr _ _ _ => ["sum", "divisor"] | .neg _ => ["formula"] | .qn _ _ _ => ["word", "formula"]
/-- shaped, its numbers and names as they may be without a text -/
def wf : Tr → Prop
  | .num n => n ≤ 999999
  | .nam s => s ≠ ""
  | .two o a b => a.wf ∧ b.wf ∧ a.kind = o.sub ∧ b.kind = o.sub
  | .times n a => n ≤ 999999 ∧ a.wf ∧ a.kind = "sum"
  | .ovr _ a n => 1 ≤ n ∧ n ≤ 999999 ∧ a.wf ∧ a.kind = "sum"
  | .neg a => a.wf ∧ a.kind = "formula"
  | .qn _ x a => x ≠ "" ∧ a.wf ∧ a.kind = "formula"
theorem sz_pos : ∀ t : Tr, 1 ≤ t.sz
  | .num _ => Nat.le_refl _ | .nam _ => Nat.le_refl _ | .two _ a b => by unfold sz; omega | .times _ a => by unfold sz; omega | .ovr _ a _ => by unfold sz; omega | .neg a => by unfold sz; omega | .qn _ _ a => by unfold sz; omega
theorem sz_parts : ∀ t : Tr, t.sz = 1 + (t.parts.map sz).sum
  | .num _ => rfl | .nam _ => rfl | .two _ a b => by unfold sz parts; simp; omega | .times _ a => by unfold sz parts; simp | .ovr _ a _ => by unfold sz parts; simp | .neg a => by unfold sz parts; simp | .qn _ _ a => by unfold sz parts; simp
/-- the name that it binds below -/
def bind : Tr → List Str → List Str
  | .qn _ x _, l => if x ∈ l then l else l ++ [x]
  | _, l => l
/-- x stands free in it, told are bound -/
def free : Tr → List Str → Str → Prop
  | .num _, _, _ => False
  | .nam s, l, x => s = x ∧ x ∉ l
  | .two _ a b, l, x => a.free l x ∨ b.free l x
  | .times _ a, l, x => a.free l x
  | .ovr _ a _, l, x => a.free l x
  | .neg a, l, x => a.free l x
  | .qn _ y a, l, x => a.free (y :: l) x
theorem free_congr : ∀ (t : Tr) {l m : List Str} (x : Str), (∀ y, y ∈ l ↔ y ∈ m) → (t.free l x ↔ t.free m x)
  | .num _, l, m, x, h => Iff.rfl
  | .nam s, l, m, x, h => by unfold free; rw [h x]
  | .two _ a b, l, m, x, h => by unfold free; rw [free_congr a x h, free_congr b x h]
  | .times _ a, l, m, x, h => free_congr a x h
  | .ovr _ a _, l, m, x, h => free_congr a x h
  | .neg a, l, m, x, h => free_congr a x h
  | .qn _ y a, l, m, x, h => free_congr a x fun z => by rw [List.mem_cons, List.mem_cons, h z]
end Tr
/-! ### texts in order -/
theorem lt_irr : ∀ l : List Nat, PySem.Spec.ltCps l l = false
  | [] => rfl
  | a :: l => by
    unfold PySem.Spec.ltCps
    simp [lt_irr l]
theorem lt_total : ∀ a b : List Nat, PySem.Spec.ltCps a b = false → PySem.Spec.ltCps b a = false → a = b
  | [], [], _, _ => rfl
  | [], y :: b, h, _ => by simp [PySem.Spec.ltCps] at h
  | x :: a, [], _, h => by simp [PySem.Spec.ltCps] at h
  | x :: a, y :: b, h, g => by
    unfold PySem.Spec.ltCps at h g
    simp only [Bool.or_eq_false_iff, decide_eq_false_iff_not, Bool.and_eq_false_imp, beq_iff_eq] at h g
    have e : x = y := by omega
    subst e
    rw [lt_total a b (h.2 rfl) (g.2 rfl)]
end TR
end
section
/-! Rows of texts in order; the names of a tree. -/
namespace TR
open PySem L2 DL PyProof.Rows
theorem str_cps {x y : Str} (h : x.cps.toList = y.cps.toList) : x = y := by
  cases x with
  | mk a =>
    cases y with
    | mk b =>
      have e : a = b := by
        cases a; cases b
        simp at h
        rw [h]
      rw [e]
/-- not above -/
def leS (x y : Str) : Prop := PySem.Spec.ltCps y.cps.toList x.cps.toList = false
theorem ltc_trans : ∀ a b c : List Nat, PySem.Spec.ltCps b a = false → PySem.Spec.ltCps c b = false → PySem.Spec.ltCps c a = false
  | [], b, [], _, _ => rfl
  | x :: a, b, [], h, g => by
    cases b with
    | nil => simp [PySem.Spec.ltCps] at h
    | cons y b => simp [PySem.Spec.ltCps] at g
  | [], b, z :: c, _, _ => rfl
  | x :: a, [], z :: c, h, g => by simp [PySem.Spec.ltCps] at h
  | x :: a, y :: b, z :: c, h, g => by
    unfold PySem.Spec.ltCps at h g ⊢
    simp only [Bool.or_eq_false_iff, decide_eq_false_iff_not, Bool.and_eq_false_imp, beq_iff_eq] at h g ⊢
    refine ⟨by omega, fun e => ?_⟩
    subst e
    have e : z = y := by omega
    subst e
    exact ltc_trans a b c (h.2 rfl) (g.2 rfl)
theorem leS_trans {x y z : Str} (h : leS x y) (g : leS y z) : leS x z := ltc_trans _ _ _ h g
theorem leS_anti {x y : Str} (h : leS x y) (g : leS y x) : x = y := str_cps (lt_total _ _ g h)
theorem risingS_iff : ∀ (ns : List Str) (p : Str), risingS p ns = true ↔ (p :: ns).Pairwise leS
  | [], p => by simp [risingS]
  | x :: r, p => by
    have ih := risingS_iff r x
    unfold risingS
    simp only [Bool.and_eq_true, Bool.not_eq_true', ih]
    constructor
    · rintro ⟨hpx, hx⟩
      refine List.pairwise_cons.mpr ⟨fun y hy => ?_, hx⟩
      rcases List.mem_cons.mp hy with rfl | hm
      · exact hpx
      · exact leS_trans hpx ((List.pairwise_cons.mp hx).1 y hm)
    · intro h
      have h' := List.pairwise_cons.mp h
      exact ⟨h'.1 x (List.mem_cons_self ..), h'.2⟩
theorem sortedS_iff : ∀ ns : List Str, sortedS ns = true ↔ ns.Pairwise leS
  | [] => by simp [sortedS]
  | x :: r => risingS_iff r x
theorem sorted_eq {xs ys : List Str} (p : xs.Perm ys) (h : sortedS xs = true) (g : sortedS ys = true) : xs = ys :=
  List.Perm.eq_of_pairwise (fun a b _ _ h g => leS_anti h g) ((sortedS_iff xs).mp h) ((sortedS_iff ys).mp g) p
/-- the names that stand free in it, in order -/
structure FN (t : Tr) (ys : List Str) : Prop where
  s : sortedS ys = true
  n : ys.Nodup
  m : ∀ x, x ∈ ys ↔ t.free [] x
theorem FN.uniq {t : Tr} {xs ys : List Str} (h : FN t xs) (g : FN t ys) : xs = ys :=
  sorted_eq ((List.perm_ext_iff_of_nodup h.n g.n).mpr fun x => by rw [h.m, g.m]) h.s g.s
end TR
end
section
/-! What stands directly in a tree. -/
namespace TR
open PySem L2 DL PyProof.Rows
/-- a leaf that may be handed in -/
def LeafT (v : D) (k : Str) : Prop := (∃ n : Nat, v = .int n ∧ n ≤ 999999 ∧ (k = "whole" ∨ (k = "divisor" ∧ 1 ≤ n))) ∨ ∃ s : Str, v = .str s ∧ k = "word" ∧ s ≠ ""
namespace Tr
def word : Tr → Str
  | .num _ => "number" | .nam _ => "name" | .two o _ _ => o.w | .times _ _ => "times" | .ovr o _ _ => o.w | .neg _ => "not" | .qn q _ _ => q.w
def args : Tr → List D
  | .num n => [.int n] | .nam s => [.str s] | .two _ a b => [a.d, b.d] | .times n a => [.int n, a.d] | .ovr _ a n => [a.d, .int n] | .neg a => [a.d] | .qn _ x a => [.str x, a.d]
theorem d_eq (t : Tr) : t.d = .tup (.str t.word :: t.args) := by cases t <;> rfl
theorem kind2 (t : Tr) : t.kind = "sum" ∨ t.kind = "formula" := by
  cases t with
  | two o a b => cases o <;> first | exact .inl rfl | exact .inr rfl
  | _ => first | exact .inl rfl | exact .inr rfl
end Tr
inductive Itm where
  | tree (t : Tr) | leaf (v : D) (k : Str)
namespace Itm
def d : Itm → D
  | .tree t => .tup [t.d, .str t.kind]
  | .leaf v k => .tup [v, .str k]
def ok : Itm → Prop
  | .tree t => t.wf
  | .leaf v k => LeafT v k
def sz : Itm → Nat
  | .tree t => t.sz
  | .leaf _ _ => 0
def wt : Itm → Nat
  | .tree t => 3 * t.sz
  | .leaf _ _ => 1
end Itm
def kids : Tr → List Itm
  | .num n => [.leaf (.int n) "whole"] | .nam s => [.leaf (.str s) "word"] | .two _ a b => [.tree a, .tree b] | .times n a => [.leaf (.int n) "whole", .tree a] | .ovr _ a n => [.tree a, .leaf (.int n) "divisor"] | .neg a => [.tree a] | .qn _ x a => [.leaf (.str x) "word", .tree a]
theorem kids_ok {t : Tr} (h : t.wf) : ∀ i ∈ kids t, i.ok := by
  intro i hi
  cases t with
  | num n => simp [kids] at hi; subst hi; exact .inl ⟨n, rfl, h, .inl rfl⟩
  | nam s => simp [kids] at hi; subst hi; exact .inr ⟨s, rfl, rfl, h⟩
  | two o a b =>
    obtain ⟨h1, h2, _, _⟩ := h
    simp [kids] at hi
    rcases hi with rfl | rfl
    · exact h1
    · exact h2
  | times n a =>
    obtain ⟨h1, h2, _⟩ := h
    simp [kids] at hi
    rcases hi with rfl | rfl
    · exact .inl ⟨n, rfl, h1, .inl rfl⟩
    · exact h2
  | ovr o a n =>
    obtain ⟨h1, h2, h3, _⟩ := h
    simp [kids] at hi
    rcases hi with rfl | rfl
    · exact h3
    · exact .inl ⟨n, rfl, h2, .inr ⟨rfl, h1⟩⟩
  | neg a => simp [kids] at hi; subst hi; exact h.1
  | qn q x a =>
    obtain ⟨h1, h2, _⟩ := h
    simp [kids] at hi
    rcases hi with rfl | rfl
    · exact .inr ⟨x, rfl, rfl, h1⟩
    · exact h2
theorem kids_sz (t : Tr) : ((kids t).map Itm.sz).sum + 1 = t.sz := by
  cases t <;> simp [kids, Itm.sz, Tr.sz] <;> omega
theorem kids_wt (t : Tr) : ((kids t).map Itm.wt).sum < 3 * t.sz := by
  cases t <;> simp [kids, Itm.wt, Tr.sz] <;> omega
theorem kids_len (t : Tr) : (kids t).length ≤ 2 := by cases t <;> simp [kids]
theorem args_len (t : Tr) : t.args.length = t.flds.length ∧ t.args.length ≤ 2 := by cases t <;> simp [Tr.args, Tr.flds]
theorem kids_d {t : Tr} (h : t.wf) : List.zipWith (fun x y => D.tup [x, y]) t.args (t.flds.map .str) = (kids t).map Itm.d := by
  cases t with
  | two o a b =>
    obtain ⟨_, _, h1, h2⟩ := h
    simp [Tr.args, Tr.flds, kids, Itm.d, h1, h2]
  | times n a => simp [Tr.args, Tr.flds, kids, Itm.d, h.2.2]
  | ovr o a n => simp [Tr.args, Tr.flds, kids, Itm.d, h.2.2.2]
  | neg a => simp [Tr.args, Tr.flds, kids, Itm.d, h.2]
  | qn q x a => simp [Tr.args, Tr.flds, kids, Itm.d, h.2.2]
  | num n => rfl
  | nam s => rfl
theorem cut1 {x : D} {xs : List D} : DL.cutD (x :: xs) (some 1) none = xs := by
  unfold DL.cutD
  rw [HT.sIx_none, show (1 : Int) = ((1 : Nat) : Int) from rfl, HT.sIx_nat, List.length_cons, Nat.min_eq_left (by omega), List.drop_succ_cons, List.drop_zero]
  exact List.take_of_length_le (by omega)
theorem free_parts (t : Tr) (l : List Str) (x : Str) : t.free l x ↔ (t = .nam x ∧ x ∉ l) ∨ ∃ v ∈ t.parts, v.free (t.bind l) x := by
  cases t with
  | num n => simp [Tr.free, Tr.parts]
  | nam s =>
    simp only [Tr.free, Tr.parts, Tr.nam.injEq, List.not_mem_nil, false_and, exists_false, or_false]
  | two o a b => simp [Tr.free, Tr.parts, Tr.bind]
  | times n a => simp [Tr.free, Tr.parts, Tr.bind]
  | ovr o a n => simp [Tr.free, Tr.parts, Tr.bind]
  | neg a => simp [Tr.free, Tr.parts, Tr.bind]
  | qn q y a =>
    simp only [Tr.free, Tr.parts, List.mem_singleton, exists_eq_left, reduceCtorEq, false_and, false_or]
    refine Tr.free_congr a x fun z => ?_
    show z ∈ y :: l ↔ z ∈ if y ∈ l then l else l ++ [y]
    split
    · rename_i h
      rw [List.mem_cons]
      exact ⟨fun e => e.elim (fun e => e ▸ h) id, .inr⟩
    · rw [List.mem_cons, List.mem_append, List.mem_singleton]
      exact ⟨fun e => e.elim .inr .inl, fun e => e.elim .inr .inl⟩
theorem word_q (u : Tr) : (∃ q x a, u = .qn q x a) ∨ inV (.str u.word) [.str "some", .str "all"] = false := by
  rcases u with n | s | ⟨o, a, b⟩ | ⟨n, a⟩ | ⟨o, a, n⟩ | a | ⟨o, x, a⟩
  · exact .inr rfl
  · exact .inr rfl
  · cases o <;> exact .inr rfl
  · exact .inr rfl
  · cases o <;> exact .inr rfl
  · exact .inr rfl
  · exact .inl ⟨_, _, _, rfl⟩
theorem parts_len (t : Tr) : t.parts.length ≤ 2 := by cases t <;> simp [Tr.parts]
theorem parts_sz {t v : Tr} (h : v ∈ t.parts) : v.sz < t.sz := by
  cases t <;> simp [Tr.parts] at h <;> first | (subst h; simp [Tr.sz]; try omega) | (rcases h with h | h <;> (subst h; simp [Tr.sz]; omega))
theorem bind_len (t : Tr) (l : List Str) : (t.bind l).length ≤ l.length + 1 := by
  unfold Tr.bind
  split
  · split
    · omega
    · simp
  · omega
end TR
end
section
/-! Texts of sums and formulas, in plain Lean. -/
namespace TR
open PySem L2 DL PyProof.Rows
/-- texts one behind the other -/
def J (l : List Str) : Str := l.foldl (· ++ ·) Str.empty
def Op2.sg : Op2 → Str
  | .plus => "+" | .minus => "-" | o => o.w
def Opd.sg : Opd → Str
  | .over => "/" | .rest => "%"
def Op2.cmp : Op2 → Bool
  | .plus => false | .minus => false | .and => false | .or => false | _ => true
def Op2.rank : Op2 → Int
  | .plus => 0 | .minus => 0 | .or => 1 | .and => 2 | _ => 3
def Op2.l1 : Op2 → Int
  | .plus => 0 | .minus => 0 | .or => 1 | _ => 2
def Op2.l2 : Op2 → Int
  | .plus => 1 | .minus => 1 | .or => 2 | _ => 3
def Op2.sum : Op2 → Bool
  | .plus => true | .minus => true | _ => false
namespace Tr
def rank : Tr → Int
  | .num _ => 3 | .nam _ => 3 | .two o _ _ => o.rank | .times _ _ => 2 | .ovr _ _ _ => 1 | .neg _ => 3 | .qn _ _ _ => 0
/-- in brackets if its rank is too low -/
def pl (sums : Bool) (least : Int) (r : Int) (s : Str) : Str := if r < least then (if sums then J ["(", s, ")"] else J ["[", s, "]"]) else s
def isq (q : Qn) : Tr → Bool
  | .qn p _ _ => decide (p = q)
  | _ => false
def tx : Tr → Str
  | .num n => toString (n : Int)
  | .nam s => s
  | .two o a b => if o.cmp then J [a.tx, " ", o.sg, " ", b.tx] else J [pl o.sum o.l1 a.rank a.tx, " ", o.sg, " ", pl o.sum o.l2 b.rank b.tx]
  | .times n a => J [toString (n : Int), " * ", pl true 2 a.rank a.tx]
  | .ovr o a n => J [pl true 1 a.rank a.tx, " ", o.sg, " ", toString (n : Int)]
  | .neg a => J ["not ", pl false 3 a.rank a.tx]
  | .qn q x a => if a.isq q then J [q.w, " ", x, ", ", cutS a.tx (some ((q.w.length : Int) + 1)) none] else J [q.w, " ", x, ": ", a.tx]
/-- its names are short -/
def sht : Tr → Prop
  | .num _ => True
  | .nam s => s.length ≤ 40
  | .two _ a b => a.sht ∧ b.sht
  | .times _ a => a.sht
  | .ovr _ a _ => a.sht
  | .neg a => a.sht
  | .qn _ x a => x.length ≤ 40 ∧ a.sht
end Tr
theorem len_app (a b : Str) : (a ++ b).length = a.length + b.length := PySem.Str.length_append a b
theorem len_J : ∀ l : List Str, (J l).length = (l.map (·.length)).sum := by
  have h : ∀ (l : List Str) (a : Str), (l.foldl (· ++ ·) a).length = a.length + (l.map (·.length)).sum := by
    intro l
    induction l with
    | nil => intro a; simp
    | cons x r ih => intro a; rw [List.foldl_cons, ih, len_app, List.map_cons, List.sum_cons]; omega
  intro l
  unfold J
  rw [h]
  show 0 + _ = _
  omega
theorem len_num {n : Nat} (h : n ≤ 999999) : ((toString (n : Int) : Str)).length ≤ 7 := by
  have := int_text_length_le10 (a := (n : Int)) (k := 6) (by decide) (by show n < 10 ^ 6; omega)
  show (Str.ofString (toString (n : Int))).length ≤ 7
  rw [PySem.ofString_length]
  exact this
theorem len_cut (s : Str) (lo hi : Option Int) : (cutS s lo hi).length ≤ s.length := by
  show ((s.cps.toList.drop _).take _).toArray.size ≤ s.cps.size
  rw [List.size_toArray, List.length_take, List.length_drop]
  have : s.cps.toList.length = s.cps.size := Array.length_toList
  omega
theorem Tr.len_pl (b : Bool) (l r : Int) (s : Str) : (Tr.pl b l r s).length ≤ s.length + 2 := by
  unfold Tr.pl
  split
  · split
    · rw [len_J]
      have e1 : ("(" : Str).length = 1 := by decide +kernel
      have e2 : (")" : Str).length = 1 := by decide +kernel
      simp [e1, e2]; omega
    · rw [len_J]
      have e1 : ("[" : Str).length = 1 := by decide +kernel
      have e2 : ("]" : Str).length = 1 := by decide +kernel
      simp [e1, e2]; omega
  · omega
theorem len_sg (o : Op2) : o.sg.length ≤ 3 := by cases o <;> decide +kernel
theorem len_sd (o : Opd) : o.sg.length ≤ 3 := by cases o <;> decide +kernel
theorem len_q (q : Qn) : q.w.length ≤ 4 := by cases q <;> decide +kernel
theorem Tr.len_tx : ∀ t : Tr, t.wf → t.sht → t.tx.length ≤ 60 * t.sz
  | .num n, h, _ => by have := len_num h; simp only [Tr.tx, Tr.sz]; omega
  | .nam s, _, h => by simp only [Tr.tx, Tr.sz]; have : s.length ≤ 40 := h; omega
  | .two o a b, h, g => by
    have ha := len_tx a h.1 g.1
    have hb := len_tx b h.2.1 g.2
    have e1 : (" " : Str).length = 1 := by decide +kernel
    have e2 := len_sg o
    have p1 := Tr.len_pl o.sum o.l1 a.rank a.tx
    have p2 := Tr.len_pl o.sum o.l2 b.rank b.tx
    unfold Tr.tx Tr.sz
    split <;> (rw [len_J]; simp only [List.map_cons, List.map_nil, List.sum_cons, List.sum_nil, e1]; omega)
  | .times n a, h, g => by
    have ha := len_tx a h.2.1 g
    have e1 : (" * " : Str).length = 3 := by decide +kernel
    have := len_num h.1
    have p1 := Tr.len_pl true 2 a.rank a.tx
    unfold Tr.tx Tr.sz
    rw [len_J]; simp only [List.map_cons, List.map_nil, List.sum_cons, List.sum_nil, e1]; omega
  | .ovr o a n, h, g => by
    have ha := len_tx a h.2.2.1 g
    have e1 : (" " : Str).length = 1 := by decide +kernel
    have := len_num h.2.1
    have e2 := len_sd o
    have p1 := Tr.len_pl true 1 a.rank a.tx
    unfold Tr.tx Tr.sz
    rw [len_J]; simp only [List.map_cons, List.map_nil, List.sum_cons, List.sum_nil, e1]; omega
  | .neg a, h, g => by
    have ha := len_tx a h.1 g
    have e1 : ("not " : Str).length = 4 := by decide +kernel
    have p1 := Tr.len_pl false 3 a.rank a.tx
    unfold Tr.tx Tr.sz
    rw [len_J]; simp only [List.map_cons, List.map_nil, List.sum_cons, List.sum_nil, e1]; omega
  | .qn q x a, h, g => by
    have ha := len_tx a h.2.1 g.2
    have e1 : (" " : Str).length = 1 := by decide +kernel
    have e2 : (", " : Str).length = 2 := by decide +kernel
    have e3 : (": " : Str).length = 2 := by decide +kernel
    have e4 := len_q q
    have e5 := len_cut a.tx (some ((q.w.length : Int) + 1)) none
    have e6 : x.length ≤ 40 := g.1
    unfold Tr.tx Tr.sz
    split <;> (rw [len_J]; simp only [List.map_cons, List.map_nil, List.sum_cons, List.sum_nil, e1, e2, e3]; omega)
end TR
end
section
/-! Trees in order; the texts of the parts; how the law types. -/
namespace TR
open PySem L2 DL PyProof.Rows
namespace Tr
def rpre : Tr → List Tr
  | .num n => [.num n] | .nam s => [.nam s] | .two o a b => .two o a b :: (b.rpre ++ a.rpre) | .times n a => .times n a :: a.rpre | .ovr o a n => .ovr o a n :: a.rpre | .neg a => .neg a :: a.rpre | .qn q x a => .qn q x a :: a.rpre
theorem rpre_eq (t : Tr) : t.rpre = t :: (t.parts.reverse.map rpre).flatten := by cases t <;> simp [rpre, parts]
def post (t : Tr) : List Tr := t.rpre.reverse
theorem rpre_len : ∀ t : Tr, t.rpre.length = t.sz
  | .num _ => rfl | .nam _ => rfl
  | .two _ a b => by simp only [rpre, sz, List.length_cons, List.length_append, rpre_len a, rpre_len b]; omega
  | .times _ a => by simp only [rpre, sz, List.length_cons, rpre_len a]; omega
  | .ovr _ a _ => by simp only [rpre, sz, List.length_cons, rpre_len a]; omega
  | .neg a => by simp only [rpre, sz, List.length_cons, rpre_len a]; omega
  | .qn _ _ a => by simp only [rpre, sz, List.length_cons, rpre_len a]; omega
theorem rpre_mem : ∀ {t u : Tr}, u ∈ t.rpre → (t.wf → u.wf) ∧ (t.sht → u.sht) ∧ u.sz ≤ t.sz
  | .num n, u, h => by simp only [rpre, List.mem_singleton] at h; subst h; exact ⟨id, id, Nat.le_refl _⟩
  | .nam s, u, h => by simp only [rpre, List.mem_singleton] at h; subst h; exact ⟨id, id, Nat.le_refl _⟩
  | .two o a b, u, h => by
    rcases List.mem_cons.mp h with rfl | h
    · exact ⟨id, id, Nat.le_refl _⟩
    · rcases List.mem_append.mp h with h | h
      · obtain ⟨h1, h2, h3⟩ := rpre_mem h
        exact ⟨fun z => h1 z.2.1, fun z => h2 z.2, by simp only [sz]; omega⟩
      · obtain ⟨h1, h2, h3⟩ := rpre_mem h
        exact ⟨fun z => h1 z.1, fun z => h2 z.1, by simp only [sz]; omega⟩
  | .times n a, u, h => by
    rcases List.mem_cons.mp h with rfl | h
    · exact ⟨id, id, Nat.le_refl _⟩
    · obtain ⟨h1, h2, h3⟩ := rpre_mem h
      exact ⟨fun z => h1 z.2.1, fun z => h2 z, by simp only [sz]; omega⟩
  | .ovr o a n, u, h => by
    rcases List.mem_cons.mp h with rfl | h
    · exact ⟨id, id, Nat.le_refl _⟩
    · obtain ⟨h1, h2, h3⟩ := rpre_mem h
      exact ⟨fun z => h1 z.2.2.1, fun z => h2 z, by simp only [sz]; omega⟩
  | .neg a, u, h => by
    rcases List.mem_cons.mp h with rfl | h
    · exact ⟨id, id, Nat.le_refl _⟩
    · obtain ⟨h1, h2, h3⟩ := rpre_mem h
      exact ⟨fun z => h1 z.1, fun z => h2 z, by simp only [sz]; omega⟩
  | .qn q x a, u, h => by
    rcases List.mem_cons.mp h with rfl | h
    · exact ⟨id, id, Nat.le_refl _⟩
    · obtain ⟨h1, h2, h3⟩ := rpre_mem h
      exact ⟨fun z => h1 z.2.1, fun z => h2 z.2, by simp only [sz]; omega⟩
/-- the parts' texts at their places -/
def ptx : Tr → List Str
  | .num _ => [] | .nam _ => []
  | .two o a b => if o.cmp then [a.tx, b.tx] else [pl o.sum o.l1 a.rank a.tx, pl o.sum o.l2 b.rank b.tx]
  | .times _ a => [pl true 2 a.rank a.tx]
  | .ovr _ a _ => [pl true 1 a.rank a.tx]
  | .neg a => [pl false 3 a.rank a.tx]
  | .qn _ _ a => [a.tx]
end Tr
/-- a walk of trees in order: the stack, what is left, the stack at the end -/
inductive Runs : List Tr → List Tr → List Tr → Prop
  | nil {s : List Tr} : Runs s [] s
  | cons {s r e : List Tr} {u : Tr} (h : Runs (s ++ [u]) r e) : Runs (s ++ u.parts) (u :: r) e
theorem Runs.cons' {s s' r e : List Tr} {u : Tr} (hs : s' = s ++ u.parts) (h : Runs (s ++ [u]) r e) : Runs s' (u :: r) e := hs ▸ .cons h
theorem Runs.post : ∀ (t : Tr) {s r e : List Tr}, Runs (s ++ [t]) r e → Runs s (t.post ++ r) e
  | .num n, s, r, e, h => .cons' (by simp [Tr.parts]) h
  | .nam n, s, r, e, h => .cons' (by simp [Tr.parts]) h
  | .two o a b, s, r, e, h => by
    have e1 : (Tr.two o a b).post ++ r = a.post ++ (b.post ++ (.two o a b :: r)) := by simp [Tr.post, Tr.rpre]
    rw [e1]
    exact Runs.post a (Runs.post b (.cons' (s := s) (by simp [Tr.parts]) h))
  | .times n a, s, r, e, h => by
    have e1 : (Tr.times n a).post ++ r = a.post ++ (.times n a :: r) := by simp [Tr.post, Tr.rpre]
    rw [e1]
    exact Runs.post a (.cons' (s := s) (by simp [Tr.parts]) h)
  | .ovr o a n, s, r, e, h => by
    have e1 : (Tr.ovr o a n).post ++ r = a.post ++ (.ovr o a n :: r) := by simp [Tr.post, Tr.rpre]
    rw [e1]
    exact Runs.post a (.cons' (s := s) (by simp [Tr.parts]) h)
  | .neg a, s, r, e, h => by
    have e1 : (Tr.neg a).post ++ r = a.post ++ (.neg a :: r) := by simp [Tr.post, Tr.rpre]
    rw [e1]
    exact Runs.post a (.cons' (s := s) (by simp [Tr.parts]) h)
  | .qn q x a, s, r, e, h => by
    have e1 : (Tr.qn q x a).post ++ r = a.post ++ (.qn q x a :: r) := by simp [Tr.post, Tr.rpre]
    rw [e1]
    exact Runs.post a (.cons' (s := s) (by simp [Tr.parts]) h)
theorem runs_post (t : Tr) : Runs [] t.post [t] := by
  have := Runs.post t (s := []) (r := []) (e := [t]) .nil
  simpa using this
/-! ### texts as signs -/
theorem cp_app (a b : Str) : (a ++ b).cps.toList = a.cps.toList ++ b.cps.toList := by
  show (a.cps ++ b.cps).toList = _
  rw [Array.toList_append]
theorem cp_J (l : List Str) : (J l).cps.toList = (l.map fun s => s.cps.toList).flatten := by
  have h : ∀ (l : List Str) (a : Str), (l.foldl (· ++ ·) a).cps.toList = a.cps.toList ++ (l.map fun s => s.cps.toList).flatten := by
    intro l
    induction l with
    | nil => intro a; simp
    | cons x r ih => intro a; rw [List.foldl_cons, ih, cp_app, List.map_cons, List.flatten_cons, List.append_assoc]
  have e := h l Str.empty
  have z : Str.empty.cps.toList = [] := rfl
  rw [z, List.nil_append] at e
  exact e
theorem cp_cut (s : Str) (k : Nat) : (cutS s (some (k : Int)) none).cps.toList = s.cps.toList.drop k := by
  unfold cutS
  rw [HT.sIx_nat, HT.sIx_none]
  show ((s.cps.toList.drop (min k s.length)).take (s.length - min k s.length)).toArray.toList = _
  have hl : s.length = s.cps.toList.length := (Array.length_toList).symm
  rw [hl]
  simp only [List.toList_toArray]
  by_cases h : k ≤ s.cps.toList.length
  · rw [Nat.min_eq_left h, List.take_of_length_le (by rw [List.length_drop]; exact Nat.le_refl _)]
  · rw [Nat.min_eq_right (by omega), List.drop_length, List.drop_of_length_le (by omega), List.take_nil]
end TR
end
section
/-! Statements, functions, their lines, in plain Lean. -/
namespace TS
open PySem L2 DL TR PyProof.Rows
inductive St where
  | set (x : Str) (a : Tr) | call (x y : Str) (l : List Tr) | any (x : Str) | claim (f : Tr) | ite (f : Tr) (a b : List St) | whl (f : Tr) (k fl : Option Tr) (b : List St)
def od : Option Tr → D
  | none => .non
  | some t => t.d
mutual
def St.d : St → D
  | .set x a => .tup [.str "set", .str x, a.d]
  | .call x y l => .tup [.str "call", .str x, .str y, .tup (l.map Tr.d)]
  | .any x => .tup [.str "any", .str x]
  | .claim f => .tup [.str "claim", f.d]
  | .ite f a b => .tup [.str "if", f.d, .tup (dL a), .tup (dL b)]
  | .whl f k fl b => .tup [.str "while", f.d, od k, od fl, .tup (dL b)]
def dL : List St → List D
  | [] => []
  | s :: r => s.d :: dL r
end
theorem dL_map : ∀ l : List St, dL l = l.map St.d
  | [] => rfl
  | s :: r => by show s.d :: dL r = _; rw [dL_map r]; rfl
structure Fn where
  name : Str
  names : List Str
  result : Str
  asks : Option Tr
  promises : Option Tr
  body : List St
def Fn.d (f : Fn) : D := .tup [.str "fun", .str f.name, .tup (f.names.map .str), .str f.result, od f.asks, od f.promises, .tup (dL f.body)]
/-! ### texts -/
def wt0 (f : Tr) : Str := J ["while ", f.tx]
def wt1 (f : Tr) : Option Tr → Str
  | none => wt0 f
  | some k => J [wt0 f, " keeps ", k.tx]
def wt2 (f : Tr) (k : Option Tr) : Option Tr → Str
  | none => wt1 f k
  | some l => J [wt1 f k, " falls ", l.tx]
abbrev eL : Str := "end;"
abbrev xL : Str := "else;"
def St.head : St → Str
  | .set x a => J [x, " := ", a.tx, ";"]
  | .call x y l => J [x, " := ", y, "(", Txt.join ", " (l.map Tr.tx), ");"]
  | .any x => J ["any ", x, ";"]
  | .claim f => J ["claim ", f.tx, ";"]
  | .ite f _ _ => J ["if ", f.tx, ";"]
  | .whl f k fl _ => J [wt2 f k fl, ";"]
def ind (s : Str) : Str := Str.ofString "  " ++ s
mutual
def rl : St → List Str
  | .ite f a b => (St.ite f a b).head :: ((rlB a).map ind ++ (match b with | [] => [eL] | _ => xL :: ((rlB b).map ind ++ [eL])))
  | .whl f k fl b => (St.whl f k fl b).head :: ((rlB b).map ind ++ [eL])
  | .set x a => [(St.set x a).head]
  | .call x y l => [(St.call x y l).head]
  | .any x => [(St.any x).head]
  | .claim f => [(St.claim f).head]
def rlB : List St → List Str
  | [] => []
  | s :: r => rl s ++ rlB r
end
theorem rlB_flat : ∀ l : List St, rlB l = (l.map rl).flatten
  | [] => rfl
  | s :: r => by show rl s ++ rlB r = _; rw [rlB_flat r]; rfl
/-- what follows the first line -/
inductive Pb where
  | body (b : List St) | line (s : Str)
def Pb.d : Pb → D
  | .body b => .tup (dL b)
  | .line s => .str s
def pcs : St → List Pb
  | .whl _ _ _ b => [.body b, .line eL]
  | .ite _ a [] => [.body a, .line eL]
  | .ite _ a b => [.body a, .line xL, .body b, .line eL]
  | _ => []
/-- pieces on the stack, their depths -/
inductive Pc where
  | st (s : St) | ln (s : Str)
def Pc.d : Pc → D
  | .st s => s.d
  | .ln s => .str s
def pre (d : Nat) : Str := Txt.mul "  " (d : Int)
def out : Pc × Nat → List Str
  | (.st s, d) => (rl s).map (pre d ++ ·)
  | (.ln s, d) => [pre d ++ s]
def Pb.ex (d : Nat) : Pb → List (Pc × Nat)
  | .body b => b.map fun s => (.st s, d + 1)
  | .line s => [(.ln s, d)]
theorem mul_cps (d : Nat) : (pre d).cps.toList = List.replicate (2 * d) 32 := by
  unfold pre Txt.mul
  have e2 : (Str.ofString "  ").cps = #[32, 32] := by decide +kernel
  have el : (Str.ofString "  ").length = 2 := by decide +kernel
  rcases d with _ | _ | d
  · rfl
  · rw [if_neg (by omega), if_pos (by simp)]
    show (Str.ofString "  ").cps.toList = _
    rw [e2]
    rfl
  · rw [if_neg (by omega), if_neg (by rw [el]; simp; omega)]
    have h : ∀ (n : Nat) (acc : Array Nat), ((List.replicate n (Str.ofString "  ").cps).foldl (· ++ ·) acc).toList = acc.toList ++ List.replicate (2 * n) 32 := by
      intro n
      induction n with
      | zero => intro acc; simp
      | succ n ih =>
        intro acc
        rw [List.replicate_succ, List.foldl_cons, ih, Array.toList_append, e2, List.append_assoc, show 2 * (n + 1) = 2 * n + 1 + 1 by omega, List.replicate_succ, List.replicate_succ]
        rfl
    have e3 : (((d + 1 + 1 : Nat) : Int)).toNat = d + 1 + 1 := Int.toNat_natCast _
    have := h (d + 1 + 1) #[]
    rw [e3]
    simpa using this
theorem pre_succ (d : Nat) (s : Str) : pre (d + 1) ++ s = pre d ++ ind s := by
  refine str_cps ?_
  rw [cp_app, cp_app]
  unfold ind
  rw [cp_app, mul_cps, mul_cps, show (Str.ofString "  ").cps.toList = [32, 32] from by decide +kernel, ← List.append_assoc]
  congr 1
  rw [show 2 * (d + 1) = 2 * d + 2 by omega, ← List.replicate_append_replicate]
  rfl
theorem mulOk (d : Nat) (h : d ≤ 1000000) : MulOk "  " (d : Int) := by
  have el : (Str.ofString "  ").length = 2 := by decide +kernel
  refine ⟨?_, fun _ _ => ?_, fun _ _ => ?_⟩
  · simp; omega
  · rw [el]
    have : ((2 ^ 63 - 1 : Int) / (d : Int)) ≥ 1000000 ∨ d = 0 := by
      rcases Nat.eq_zero_or_pos d with h0 | h0
      · exact .inr h0
      · left
        have : (1000000 : Int) * (d : Int) ≤ 2 ^ 63 - 1 := by omega
        exact (Int.le_ediv_iff_mul_le (by omega)).mpr this
    rcases this with h1 | h1
    · omega
    · subst h1; contradiction
  · rw [el]
    unfold Builtin.Str.tooLong
    have : 2 * ((d : Nat) : Int).toNat ≤ sizeLine := Nat.le_trans (by rw [Int.toNat_natCast]; omega : _ ≤ 2000000) (by decide)
    simpa using this
theorem pre_len (d : Nat) : (pre d).length = 2 * d := by
  have := congrArg List.length (mul_cps d)
  rw [List.length_replicate] at this
  rw [← this]
  exact (Array.length_toList).symm
theorem out_ex (s : St) (d : Nat) : out (.st s, d) = (pre d ++ s.head) :: (((pcs s).map (Pb.ex d)).flatten.map out).flatten := by
  have hb : ∀ b : List St, ((b.map fun s => ((Pc.st s, d + 1) : Pc × Nat)).map out).flatten = ((rlB b).map ind).map (pre d ++ ·) := by
    intro b
    induction b with
    | nil => rfl
    | cons x r ih =>
      rw [List.map_cons, List.map_cons, List.flatten_cons, ih]
      show (rl x).map (pre (d + 1) ++ ·) ++ _ = ((rl x ++ rlB r).map ind).map _
      simp only [List.map_append, List.map_map]
      congr 1
      apply List.map_congr_left
      intro s _
      exact pre_succ d s
  cases s with
  | set x a => rfl
  | call x y l => rfl
  | any x => rfl
  | claim f => rfl
  | whl f k fl b =>
    show ((_ :: ((rlB b).map ind ++ [eL])).map (pre d ++ ·)) = _ :: (((b.map fun s => ((Pc.st s, d + 1) : Pc × Nat)) ++ ([((Pc.ln eL, d) : Pc × Nat)] ++ [])).map out).flatten
    rw [List.map_append, List.flatten_append, hb, List.map_cons, List.map_append]
    rfl
  | ite f a b =>
    cases b with
    | nil =>
      show ((_ :: ((rlB a).map ind ++ [eL])).map (pre d ++ ·)) = _ :: (((a.map fun s => ((Pc.st s, d + 1) : Pc × Nat)) ++ ([((Pc.ln eL, d) : Pc × Nat)] ++ [])).map out).flatten
      rw [List.map_append, List.flatten_append, hb, List.map_cons, List.map_append]
      rfl
    | cons x r =>
      show ((_ :: ((rlB a).map ind ++ (xL :: ((rlB (x :: r)).map ind ++ [eL])))).map (pre d ++ ·)) = _ :: (((a.map fun s => ((Pc.st s, d + 1) : Pc × Nat)) ++ ([((Pc.ln xL, d) : Pc × Nat)] ++ (((x :: r).map fun s => ((Pc.st s, d + 1) : Pc × Nat)) ++ ([((Pc.ln eL, d) : Pc × Nat)] ++ [])))).map out).flatten
      rw [List.map_append, List.flatten_append, hb, List.map_append, List.flatten_append, List.map_append, List.flatten_append, hb, List.map_cons, List.map_append, List.map_cons, List.map_append]
      rfl
end TS
end
section
/-! What has the shape of a function. -/
namespace TS
open PySem L2 DL TR PyProof.Rows
abbrev cps (s : Str) : List Nat := s.cps.toList
/-- a name that a text may bear -/
structure IsNm (s : Str) : Prop where
  ne : s ≠ ""
  row : ∀ c ∈ cps s, c ∈ cps "abcdefghijklmnopqrstuvwxyzABCDEFGHIJKLMNOPQRSTUVWXYZ0123456789_"
  hd : ∃ c, (cps s)[0]? = some c ∧ c ∈ cps "abcdefghijklmnopqrstuvwxyz"
  nw : s ∉ (["all", "and", "any", "asks", "claim", "else", "end", "falls", "fun", "gives", "if", "keeps", "not", "or", "promises", "some", "while"] : List Str)
  len : s.length ≤ 40
def LeafX (v : D) (k : Str) : Prop := (∃ n : Nat, v = .int n ∧ n ≤ 999999 ∧ (k = "whole" ∨ k = "divisor")) ∨ ∃ s : Str, v = .str s ∧ k = "word" ∧ IsNm s
def rowT : List (Str × Str) := [("sums", "sum"), ("words", "word"), ("body", "statement")]
def mayT : List (Str × Str) := [("maybe formula", "formula"), ("maybe sum", "sum")]
def fldT : List (Str × Str × List Str) := [("sum", "number", ["whole"]), ("sum", "name", ["word"]), ("sum", "plus", ["sum", "sum"]), ("sum", "minus", ["sum", "sum"]), ("sum", "times", ["whole", "sum"]), ("sum", "over", ["sum", "divisor"]), ("sum", "rest", ["sum", "divisor"]),
  ("formula", "=", ["sum", "sum"]), ("formula", "!=", ["sum", "sum"]), ("formula", "<", ["sum", "sum"]), ("formula", "<=", ["sum", "sum"]), ("formula", ">", ["sum", "sum"]), ("formula", ">=", ["sum", "sum"]), ("formula", "not", ["formula"]), ("formula", "and", ["formula", "formula"]), ("formula", "or", ["formula", "formula"]), ("formula", "some", ["word", "formula"]), ("formula", "all", ["word", "formula"]),
  ("statement", "set", ["word", "sum"]), ("statement", "call", ["word", "word", "sums"]), ("statement", "any", ["word"]), ("statement", "claim", ["formula"]), ("statement", "if", ["formula", "body", "body"]), ("statement", "while", ["formula", "maybe formula", "maybe sum", "body"]), ("function", "fun", ["word", "words", "word", "maybe formula", "maybe formula", "body"])]
/-- the walk over shapes ends well: the stack (its top last), the steps -/
inductive Stk : List (D × Str) → Nat → Prop
  | nil : Stk [] 0
  | leaf {r : List (D × Str)} {v : D} {k : Str} {n : Nat} : LeafX v k → Stk r n → Stk (r ++ [(v, k)]) (n + 1)
  | row {r : List (D × Str)} {xs : List D} {k mk : Str} {n : Nat} : (k, mk) ∈ rowT → Stk (r ++ xs.map fun x => (x, mk)) n → Stk (r ++ [(.tup xs, k)]) (n + 1)
  | none {r : List (D × Str)} {k mk : Str} {n : Nat} : (k, mk) ∈ mayT → Stk r n → Stk (r ++ [(.non, k)]) (n + 1)
  | may {r : List (D × Str)} {xs : List D} {k mk : Str} {n : Nat} : (k, mk) ∈ mayT → Stk (r ++ [(.tup xs, mk)]) n → Stk (r ++ [(.tup xs, k)]) (n + 1)
  | node {r : List (D × Str)} {w : Str} {args : List D} {k : Str} {fs : List Str} {n : Nat} : (k, w, fs) ∈ fldT → args.length = fs.length → Stk (r ++ args.zip fs) n → Stk (r ++ [(.tup (.str w :: args), k)]) (n + 1)
theorem Stk.len {s : List (D × Str)} {n : Nat} (h : Stk s n) : s.length ≤ n := by
  induction h with
  | nil => exact Nat.le_refl _
  | leaf _ _ ih => simp; omega
  | row _ _ ih => simp at ih ⊢; omega
  | none _ _ ih => simp; omega
  | may _ _ ih => simp at ih ⊢; omega
  | node _ _ _ ih => simp at ih ⊢; omega
/-- a value that is taken off the stack in so many steps -/
structure Shp (v : D) (k : Str) (m : Nat) : Prop where
  run : ∀ {r : List (D × Str)} {n : Nat}, Stk r n → Stk (r ++ [(v, k)]) (n + m)
inductive ShpL : List D → List Str → Nat → Prop
  | nil : ShpL [] [] 0
  | cons {v : D} {k : Str} {m : Nat} {l : List D} {ks : List Str} {n : Nat} (h : Shp v k m) (r : ShpL l ks n) : ShpL (v :: l) (k :: ks) (m + n)
theorem ShpL.run {l : List D} {ks : List Str} {m : Nat} (h : ShpL l ks m) : ∀ {r : List (D × Str)} {n : Nat}, Stk r n → Stk (r ++ l.zip ks) (n + m) := by
  induction h with
  | nil => intro r n s; simpa using s
  | cons h _ ih =>
    intro r n s
    have s2 := ih (h.run s)
    rw [List.append_assoc] at s2
    rw [← Nat.add_assoc]
    exact s2
theorem ShpL.len {l : List D} {ks : List Str} {m : Nat} (h : ShpL l ks m) : l.length = ks.length := by
  induction h with
  | nil => rfl
  | cons _ _ ih => simp [ih]
inductive ShpR (k : Str) : List D → Nat → Prop
  | nil : ShpR k [] 0
  | cons {v : D} {m : Nat} {l : List D} {n : Nat} (h : Shp v k m) (r : ShpR k l n) : ShpR k (v :: l) (m + n)
theorem ShpR.run {k : Str} {l : List D} {m : Nat} (h : ShpR k l m) : ∀ {r : List (D × Str)} {n : Nat}, Stk r n → Stk (r ++ l.map fun x => (x, k)) (n + m) := by
  induction h with
  | nil => intro r n s; simpa using s
  | cons h _ ih =>
    intro r n s
    have s2 := ih (h.run s)
    rw [List.append_assoc] at s2
    rw [← Nat.add_assoc]
    exact s2
theorem Shp.leaf {v : D} {k : Str} (h : LeafX v k) : Shp v k 1 := ⟨fun s => .leaf h s⟩
theorem Shp.row {xs : List D} {k mk : Str} {m : Nat} (hk : (k, mk) ∈ rowT) (h : ShpR mk xs m) : Shp (.tup xs) k (m + 1) := ⟨fun s => .row hk (h.run s)⟩
theorem Shp.non {k mk : Str} (hk : (k, mk) ∈ mayT) : Shp .non k 1 := ⟨fun s => .none hk s⟩
theorem Shp.may {xs : List D} {k mk : Str} {m : Nat} (hk : (k, mk) ∈ mayT) (h : Shp (.tup xs) mk m) : Shp (.tup xs) k (m + 1) := ⟨fun s => .may hk (h.run s)⟩
theorem Shp.node {w : Str} {args : List D} {k : Str} {fs : List Str} {m : Nat} (hk : (k, w, fs) ∈ fldT) (h : ShpL args fs m) : Shp (.tup (.str w :: args)) k (m + 1) := ⟨fun s => .node hk h.len (h.run s)⟩
theorem shp_num {n : Nat} (h : n ≤ 999999) : Shp (.int n) "whole" 1 := .leaf (.inl ⟨n, rfl, h, .inl rfl⟩)
theorem shp_div {n : Nat} (h : n ≤ 999999) : Shp (.int n) "divisor" 1 := .leaf (.inl ⟨n, rfl, h, .inr rfl⟩)
theorem shp_nam {s : Str} (h : IsNm s) : Shp (.str s) "word" 1 := .leaf (.inr ⟨s, rfl, rfl, h⟩)
/-- its names are names -/
def nms : Tr → Prop
  | .num _ => True
  | .nam s => IsNm s
  | .two _ a b => nms a ∧ nms b
  | .times _ a => nms a
  | .ovr _ a _ => nms a
  | .neg a => nms a
  | .qn _ x a => IsNm x ∧ nms a
theorem nms_sht : ∀ {t : Tr}, nms t → t.sht
  | .num _, _ => trivial
  | .nam s, h => h.len
  | .two _ a b, h => ⟨nms_sht h.1, nms_sht h.2⟩
  | .times _ a, h => nms_sht (t := a) h
  | .ovr _ a _, h => nms_sht (t := a) h
  | .neg a, h => nms_sht (t := a) h
  | .qn _ x a, h => ⟨h.1.len, nms_sht h.2⟩
theorem mem_fld {p : Str × Str × List Str} (h : (fldT.any fun q => decide (q = p)) = true) : p ∈ fldT := by
  rw [List.any_eq_true] at h
  obtain ⟨q, hq, e⟩ := h
  exact (of_decide_eq_true e) ▸ hq
theorem shp_tr : ∀ {t : Tr}, t.wf → nms t → ∃ m, m ≤ 3 * t.sz ∧ Shp t.d t.kind m
  | .num n, h, _ => ⟨_, by simp [Tr.sz], .node (k := "sum") (fs := ["whole"]) (mem_fld (by decide +kernel)) (.cons (shp_num h) .nil)⟩
  | .nam s, _, g => ⟨_, by simp [Tr.sz], .node (k := "sum") (fs := ["word"]) (mem_fld (by decide +kernel)) (.cons (shp_nam g) .nil)⟩
  | .two o a b, h, g => by
    obtain ⟨m1, l1, s1⟩ := shp_tr (t := a) h.1 g.1
    obtain ⟨m2, l2, s2⟩ := shp_tr (t := b) h.2.1 g.2
    rw [h.2.2.1] at s1
    rw [h.2.2.2] at s2
    refine ⟨_, ?_, .node (k := o.kind) (w := o.w) (fs := [o.sub, o.sub]) (mem_fld ?_) (.cons s1 (.cons s2 .nil))⟩
    · simp only [Tr.sz]; omega
    · cases o <;> decide +kernel
  | .times n a, h, g => by
    obtain ⟨m1, l1, s1⟩ := shp_tr (t := a) h.2.1 g
    rw [h.2.2] at s1
    refine ⟨_, ?_, .node (k := "sum") (fs := ["whole", "sum"]) (mem_fld (by decide +kernel)) (.cons (shp_num h.1) (.cons s1 .nil))⟩
    simp only [Tr.sz]; omega
  | .ovr o a n, h, g => by
    obtain ⟨m1, l1, s1⟩ := shp_tr (t := a) h.2.2.1 g
    rw [h.2.2.2] at s1
    refine ⟨_, ?_, .node (k := "sum") (w := o.w) (fs := ["sum", "divisor"]) (mem_fld ?_) (.cons s1 (.cons (shp_div h.2.1) .nil))⟩
    · simp only [Tr.sz]; omega
    · cases o <;> decide +kernel
  | .neg a, h, g => by
    obtain ⟨m1, l1, s1⟩ := shp_tr (t := a) h.1 g
    rw [h.2] at s1
    refine ⟨_, ?_, .node (k := "formula") (fs := ["formula"]) (mem_fld (by decide +kernel)) (.cons s1 .nil)⟩
    simp only [Tr.sz]; omega
  | .qn q x a, h, g => by
    obtain ⟨m1, l1, s1⟩ := shp_tr (t := a) h.2.1 g.2
    rw [h.2.2] at s1
    refine ⟨_, ?_, .node (k := "formula") (w := q.w) (fs := ["word", "formula"]) (mem_fld ?_) (.cons (shp_nam g.1) (.cons s1 .nil))⟩
    · simp only [Tr.sz]; omega
    · cases q <;> decide +kernel
/-- a tree that the law makes -/
structure OkX (k : Str) (t : Tr) : Prop where
  wf : t.wf
  kind : t.kind = k
  sz : t.sz ≤ 20
  nm : nms t
  ln : t.tx.length ≤ 420
theorem OkX.shp {k : Str} {t : Tr} (h : OkX k t) : ∃ m, m ≤ 60 ∧ Shp t.d k m := by
  obtain ⟨m, l, s⟩ := shp_tr h.wf h.nm
  have := h.sz
  rw [h.kind] at s
  exact ⟨m, by omega, s⟩
theorem OkX.may {k mk : Str} {t : Tr} (hk : (mk, k) ∈ mayT) (h : OkX k t) : ∃ m, m ≤ 61 ∧ Shp t.d mk m := by
  obtain ⟨m, l, s⟩ := h.shp
  rw [Tr.d_eq] at s ⊢
  exact ⟨_, by omega, .may hk s⟩
mutual
/-- statements that the law makes -/
inductive OkS : St → Nat → Prop
  | set {x : Str} {a : Tr} : IsNm x → OkX "sum" a → OkS (.set x a) 100
  | call {x y : Str} {l : List Tr} : IsNm x → IsNm y → (∀ t ∈ l, OkX "sum" t) → l.length ≤ 3 → OkS (.call x y l) 200
  | any {x : Str} : IsNm x → OkS (.any x) 100
  | claim {f : Tr} : OkX "formula" f → OkS (.claim f) 100
  | ite {f : Tr} {a b : List St} {m n : Nat} : OkX "formula" f → OkB a m → OkB b n → OkS (.ite f a b) (m + n + 100)
  | whl {f : Tr} {k fl : Option Tr} {b : List St} {m : Nat} : OkX "formula" f → (∀ t, k = some t → OkX "formula" t) → (∀ t, fl = some t → OkX "sum" t) → OkB b m → OkS (.whl f k fl b) (m + 300)
  | up {s : St} {m n : Nat} : OkS s m → m ≤ n → OkS s n
inductive OkB : List St → Nat → Prop
  | nil : OkB [] 0
  | cons {s : St} {r : List St} {m n : Nat} : OkS s m → OkB r n → OkB (s :: r) (m + n)
end
end TS
end
section
/-! Statements and functions have their shapes. -/
namespace TS
open PySem L2 DL TR PyProof.Rows
theorem shpR_sums : ∀ {l : List Tr}, (∀ t ∈ l, OkX "sum" t) → ∃ m, m ≤ 60 * l.length ∧ ShpR "sum" (l.map Tr.d) m
  | [], _ => ⟨0, Nat.zero_le _, .nil⟩
  | t :: r, h => by
    obtain ⟨m, l1, s1⟩ := (h t (List.mem_cons_self ..)).shp
    obtain ⟨n, l2, s2⟩ := shpR_sums (l := r) fun u hu => h u (List.mem_cons_of_mem _ hu)
    exact ⟨m + n, by rw [List.length_cons]; omega, .cons s1 s2⟩
theorem shpR_words : ∀ {l : List Str}, (∀ x ∈ l, IsNm x) → ShpR "word" (l.map D.str) l.length
  | [], _ => .nil
  | x :: r, h => by
    have := ShpR.cons (shp_nam (h x (List.mem_cons_self ..))) (shpR_words (l := r) fun u hu => h u (List.mem_cons_of_mem _ hu))
    rw [List.length_cons, Nat.add_comm]
    exact this
theorem shp_may {o : Option Tr} {k mk : Str} (hk : (mk, k) ∈ mayT) (h : ∀ t, o = some t → OkX k t) : ∃ m, m ≤ 61 ∧ Shp (od o) mk m := by
  cases o with
  | none => exact ⟨1, by omega, .non hk⟩
  | some t => exact (h t rfl).may hk
theorem mF : (("maybe formula" : Str), ("formula" : Str)) ∈ mayT := List.mem_cons_self ..
theorem mS : (("maybe sum" : Str), ("sum" : Str)) ∈ mayT := List.mem_cons_of_mem _ (List.mem_cons_self ..)
theorem rS : (("sums" : Str), ("sum" : Str)) ∈ rowT := List.mem_cons_self ..
theorem rW : (("words" : Str), ("word" : Str)) ∈ rowT := List.mem_cons_of_mem _ (List.mem_cons_self ..)
theorem rB : (("body" : Str), ("statement" : Str)) ∈ rowT := List.mem_cons_of_mem _ (List.mem_cons_of_mem _ (List.mem_cons_self ..))
mutual
theorem shp_st : ∀ {s : St} {n : Nat}, OkS s n → ∃ m, m ≤ n ∧ Shp s.d "statement" m
  | _, _, .set hx ha => by
    obtain ⟨m, l, s⟩ := ha.shp
    exact ⟨_, by omega, .node (fs := ["word", "sum"]) (mem_fld (by decide +kernel)) (.cons (shp_nam hx) (.cons s .nil))⟩
  | _, _, .call (l := l) hx hy hl h3 => by
    obtain ⟨m, z, s⟩ := shpR_sums hl
    exact ⟨_, by omega, .node (fs := ["word", "word", "sums"]) (mem_fld (by decide +kernel)) (.cons (shp_nam hx) (.cons (shp_nam hy) (.cons (.row rS s) .nil)))⟩
  | _, _, .any hx => ⟨_, by omega, .node (fs := ["word"]) (mem_fld (by decide +kernel)) (.cons (shp_nam hx) .nil)⟩
  | _, _, .claim hf => by
    obtain ⟨m, l, s⟩ := hf.shp
    exact ⟨_, by omega, .node (fs := ["formula"]) (mem_fld (by decide +kernel)) (.cons s .nil)⟩
  | _, _, .ite hf ha hb => by
    obtain ⟨m, l, s⟩ := hf.shp
    obtain ⟨m1, l1, s1⟩ := shp_b ha
    obtain ⟨m2, l2, s2⟩ := shp_b hb
    exact ⟨_, by omega, .node (fs := ["formula", "body", "body"]) (mem_fld (by decide +kernel)) (.cons s (.cons (.row rB s1) (.cons (.row rB s2) .nil)))⟩
  | _, _, .whl hf hk hl hb => by
    obtain ⟨m, l, s⟩ := hf.shp
    obtain ⟨m1, l1, s1⟩ := shp_may mF hk
    obtain ⟨m2, l2, s2⟩ := shp_may mS hl
    obtain ⟨m3, l3, s3⟩ := shp_b hb
    exact ⟨_, by omega, .node (fs := ["formula", "maybe formula", "maybe sum", "body"]) (mem_fld (by decide +kernel)) (.cons s (.cons s1 (.cons s2 (.cons (.row rB s3) .nil))))⟩
  | _, _, .up h l => by
    obtain ⟨m, l1, s⟩ := shp_st h
    exact ⟨m, by omega, s⟩
theorem shp_b : ∀ {b : List St} {n : Nat}, OkB b n → ∃ m, m ≤ n ∧ ShpR "statement" (dL b) m
  | _, _, .nil => ⟨0, Nat.le_refl _, .nil⟩
  | _, _, .cons h r => by
    obtain ⟨m1, l1, s1⟩ := shp_st h
    obtain ⟨m2, l2, s2⟩ := shp_b r
    exact ⟨m1 + m2, by omega, .cons s1 s2⟩
end
structure OkF (f : Fn) (n : Nat) : Prop where
  name : IsNm f.name
  names : ∀ x ∈ f.names, IsNm x
  nl : f.names.length ≤ 8
  result : IsNm f.result
  asks : ∀ t, f.asks = some t → OkX "formula" t
  promises : ∀ t, f.promises = some t → OkX "formula" t
  body : OkB f.body n
theorem shp_fn {f : Fn} {n : Nat} (h : OkF f n) : ∃ m, m ≤ n + 150 ∧ Shp f.d "function" m := by
  obtain ⟨m1, l1, s1⟩ := shp_may mF h.asks
  obtain ⟨m2, l2, s2⟩ := shp_may mF h.promises
  obtain ⟨m3, l3, s3⟩ := shp_b h.body
  have := h.nl
  exact ⟨_, by omega, .node (fs := ["word", "words", "word", "maybe formula", "maybe formula", "body"]) (mem_fld (by decide +kernel)) (.cons (shp_nam h.name) (.cons (.row rW (shpR_words h.names)) (.cons (shp_nam h.result) (.cons s1 (.cons s2 (.cons (.row rB s3) .nil))))))⟩
theorem Shp.stk {v : D} {k : Str} {m : Nat} (h : Shp v k m) : Stk [(v, k)] m := by
  have := h.run .nil
  simpa using this
end TS
end
section
/-! What statements of the law are made of; the length of joined texts. -/
namespace TS
open PySem L2 DL TR PyProof.Rows
def Inv (n : Nat) : TS.St → Prop
  | .set x a => IsNm x ∧ OkX "sum" a
  | .call x y l => IsNm x ∧ IsNm y ∧ (∀ t ∈ l, OkX "sum" t) ∧ l.length ≤ 3
  | .any x => IsNm x
  | .claim f => OkX "formula" f
  | .ite f a b => OkX "formula" f ∧ ∃ m k, m + k + 100 ≤ n ∧ OkB a m ∧ OkB b k
  | .whl f k fl b => OkX "formula" f ∧ (∀ t, k = some t → OkX "formula" t) ∧ (∀ t, fl = some t → OkX "sum" t) ∧ ∃ m, m + 300 ≤ n ∧ OkB b m
theorem Inv.up {m n : Nat} (l : m ≤ n) : ∀ {s : TS.St}, Inv m s → Inv n s
  | .set _ _, h => h
  | .call _ _ _, h => h
  | .any _, h => h
  | .claim _, h => h
  | .ite _ _ _, ⟨h, a, b, z, i, j⟩ => ⟨h, a, b, by omega, i, j⟩
  | .whl _ _ _ _, ⟨h, i, j, a, z, k⟩ => ⟨h, i, j, a, by omega, k⟩
theorem OkS.inv : ∀ {s : TS.St} {n : Nat}, OkS s n → 100 ≤ n ∧ Inv n s
  | _, _, .set hx ha => ⟨Nat.le_refl _, hx, ha⟩
  | _, _, .call hx hy hl h3 => ⟨by omega, hx, hy, hl, h3⟩
  | _, _, .any hx => ⟨Nat.le_refl _, hx⟩
  | _, _, .claim hf => ⟨Nat.le_refl _, hf⟩
  | _, _, .ite hf ha hb => ⟨by omega, hf, _, _, Nat.le_refl _, ha, hb⟩
  | _, _, .whl hf hk hl hb => ⟨by omega, hf, hk, hl, _, Nat.le_refl _, hb⟩
  | _, _, .up h l => by
    obtain ⟨a, b⟩ := OkS.inv h
    exact ⟨by omega, b.up l⟩
theorem OkB.inv {s : TS.St} {r : List TS.St} {n : Nat} (h : OkB (s :: r) n) : ∃ m k, n = m + k ∧ OkS s m ∧ OkB r k := by
  cases h with
  | cons a b => exact ⟨_, _, rfl, a, b⟩
theorem okx {k : Str} {t : Tr} (w : t.wf) (e : t.kind = k) (z : t.sz ≤ 7) (n : nms t) : OkX k t := ⟨w, e, by omega, n, by
  have := Tr.len_tx t w (nms_sht n)
  omega⟩
theorem dL_app (l m : List TS.St) : dL (l ++ m) = dL l ++ dL m := by rw [dL_map, dL_map, dL_map, List.map_append]
theorem rlB_app : ∀ l m : List TS.St, rlB (l ++ m) = rlB l ++ rlB m
  | [], _ => rfl
  | s :: r, m => by
    show rl s ++ rlB (r ++ m) = (rl s ++ rlB r) ++ rlB m
    rw [rlB_app r m, List.append_assoc]
theorem rlB_one (s : TS.St) : rlB [s] = rl s := List.append_nil _
theorem OkB.app : ∀ {l : List TS.St} {m : Nat}, OkB l m → ∀ {s : TS.St} {n : Nat}, OkS s n → OkB (l ++ [s]) (m + n)
  | _, _, .nil, s, n, h => by
    have := OkB.cons h .nil
    simpa using this
  | _, _, .cons a r, s, n, h => by
    have := OkB.cons a (OkB.app r h)
    rw [← Nat.add_assoc] at this
    exact this
mutual
theorem rl_len : ∀ {s : TS.St} {n : Nat}, OkS s n → (rl s).length ≤ n
  | _, _, .set _ _ => by simp [rl]
  | _, _, .call _ _ _ _ => by simp [rl]
  | _, _, .any _ => by simp [rl]
  | _, _, .claim _ => by simp [rl]
  | _, _, .ite (a := a) (b := b) _ ha hb => by
    have h1 := rlB_len ha
    have h2 := rlB_len hb
    cases b with
    | nil => simp only [rl, List.length_cons, List.length_append, List.length_map, List.length_nil]; omega
    | cons x r => simp only [rl, List.length_cons, List.length_append, List.length_map, List.length_nil]; omega
  | _, _, .whl _ _ _ hb => by
    have h1 := rlB_len hb
    simp only [rl, List.length_cons, List.length_append, List.length_map, List.length_nil]
    omega
  | _, _, .up h l => Nat.le_trans (rl_len h) l
theorem rlB_len : ∀ {b : List TS.St} {n : Nat}, OkB b n → (rlB b).length ≤ n
  | _, _, .nil => Nat.le_refl _
  | _, _, .cons h r => by
    have h1 := rl_len h
    have h2 := rlB_len r
    simp only [rlB, List.length_append]
    omega
end
theorem join_len (a : Str) (ys : List Str) : (Txt.join a ys).length ≤ (ys.map (·.length)).sum + ys.length * a.length := by
  rw [TL.join_eq]
  exact StrLaws.join_length_le a ys
theorem sum_le {ys : List Str} {k : Nat} (h : ∀ y ∈ ys, y.length ≤ k) : (ys.map (·.length)).sum ≤ k * ys.length := by
  induction ys with
  | nil => simp
  | cons y r ih =>
    have h1 := h y (List.mem_cons_self ..)
    have h2 := ih fun z hz => h z (List.mem_cons_of_mem _ hz)
    rw [List.map_cons, List.sum_cons, List.length_cons, Nat.mul_add]
    omega
end TS
end
section
/-! What the functions answer. -/
namespace K07
open PySem L2 DL DLZ TR TS PyProof.Rows
def Anyt (S : Sto) (Q : DK) (d : D) : Prop := ∀ S', Le S S' → Q d S'
/-! numbers that are not too long -/
def BB (m : Nat) (i : Int) : Prop := i.natAbs < 2 ^ m
theorem BB.mono {m n : Nat} {i : Int} (h : BB m i) (l : m ≤ n) : BB n i := Nat.lt_of_lt_of_le h (Nat.pow_le_pow_right (by decide) l)
theorem BB.add {m : Nat} {i j : Int} (h : BB m i) (g : BB m j) : BB (m + 1) (i + j) := by
  unfold BB at *
  rw [Nat.pow_succ]
  omega
theorem BB.sub {m : Nat} {i j : Int} (h : BB m i) (g : BB m j) : BB (m + 1) (i - j) := by
  unfold BB at *
  rw [Nat.pow_succ]
  omega
theorem BB.mul {m n : Nat} {i j : Int} (h : BB m i) (g : BB n j) : BB (m + n) (i * j) := by
  unfold BB at *
  rw [Int.natAbs_mul, Nat.pow_add]
  exact Nat.mul_lt_mul'' h g
theorem BB.div {m : Nat} {i : Int} {b : Nat} (h : BB m i) (p : 0 ≤ i) : BB m (i / (b : Int)) := by
  obtain ⟨n, rfl⟩ := Int.eq_ofNat_of_zero_le p
  unfold BB at *
  rw [← Int.natCast_ediv]
  rw [Int.natAbs_natCast] at *
  exact Nat.lt_of_le_of_lt (Nat.div_le_self _ _) h
theorem BB.mod {m : Nat} {i : Int} {b : Nat} (h : BB m i) (p : 0 ≤ i) : BB m (i % (b : Int)) := by
  obtain ⟨n, rfl⟩ := Int.eq_ofNat_of_zero_le p
  unfold BB at *
  rw [← Int.natCast_emod]
  rw [Int.natAbs_natCast] at *
  exact Nat.lt_of_le_of_lt (Nat.mod_le _ _) h
theorem BB.small {n : Nat} (h : n ≤ 999999) : BB 20 (n : Int) := by
  unfold BB
  rw [Int.natAbs_natCast]
  exact Nat.lt_of_le_of_lt h (by decide)
theorem BB.log {m : Nat} {i : Int} (h : BB m i) (p : 0 < m) : i.natAbs.log2 < m := by
  unfold BB at h
  by_cases z : i.natAbs = 0
  · rw [z, show Nat.log2 0 = 0 from by decide]; exact p
  · exact (Nat.log2_lt z).mpr h
theorem BB.cmul {m n : Nat} {i j : Int} (h : BB m i) (g : BB n j) (p : 0 < m) (q : 0 < n) (l : m + n ≤ 1000000) : CMulW i j := by
  have := h.log p
  have := g.log q
  show i.natAbs.log2 + j.natAbs.log2 < 1000000
  omega
theorem BB.zero {m : Nat} : BB m 0 := by unfold BB; exact Nat.two_pow_pos m
/-! what a sum comes to -/
def dv (o : Opd) (n : Int) (b : Nat) : Int := if n < 0 then 0 else match o with
  | .over => n / (b : Int)
  | .rest => n % (b : Int)
def wrt (E : Str → Int) : Tr → Int
  | .num n => n
  | .nam s => E s
  | .two o a b => match o with
    | .plus => wrt E a + wrt E b
    | _ => wrt E a - wrt E b
  | .times n a => (n : Int) * wrt E a
  | .ovr o a n => dv o (wrt E a) n
  | .neg _ => 0
  | .qn _ _ _ => 0
theorem dv_bb {m : Nat} {o : Opd} {n : Int} {b : Nat} (h : BB m n) : BB m (dv o n b) := by
  unfold dv
  split
  · exact BB.zero
  · cases o
    · exact h.div (by omega)
    · exact h.mod (by omega)
theorem sum_op {o : Op2} (h : o.kind = "sum") : o = .plus ∨ o = .minus := by
  cases o <;> first | exact .inl rfl | exact .inr rfl | (exact absurd h (by decide +kernel))
theorem wrt_bb (E : Str → Int) : ∀ t : Tr, t.wf → t.kind = "sum" → (∀ x, t.free [] x → BB 600 (E x)) → BB (600 + 20 * t.sz) (wrt E t)
  | .num n, h, _, _ => (BB.small h).mono (by omega)
  | .nam s, _, _, g => (g s ⟨rfl, by simp⟩).mono (by omega)
  | .two o a b, h, k, g => by
    have ho := sum_op k
    have hs : o.sub = "sum" := by rcases ho with rfl | rfl <;> rfl
    have ha := wrt_bb E a h.1 (h.2.2.1.trans hs) fun x hx => g x (.inl hx)
    have hb := wrt_bb E b h.2.1 (h.2.2.2.trans hs) fun x hx => g x (.inr hx)
    have l1 : BB (599 + 20 * (1 + a.sz + b.sz)) (wrt E a) := ha.mono (by omega)
    have l2 : BB (599 + 20 * (1 + a.sz + b.sz)) (wrt E b) := hb.mono (by omega)
    unfold Tr.sz wrt
    rcases ho with rfl | rfl
    · exact (l1.add l2).mono (by omega)
    · exact (l1.sub l2).mono (by omega)
  | .times n a, h, _, g => by
    have ha := wrt_bb E a h.2.1 h.2.2 g
    unfold Tr.sz wrt
    exact ((BB.small h.1).mul ha).mono (by omega)
  | .ovr o a n, h, _, g => by
    have ha := wrt_bb E a h.2.2.1 h.2.2.2 g
    unfold Tr.sz wrt
    exact (dv_bb ha).mono (by omega)
  | .neg _, _, k, _ => absurd (show ("formula" : Str) = "sum" from k) (by decide +kernel)
  | .qn _ _ _, _, k, _ => absurd (show ("formula" : Str) = "sum" from k) (by decide +kernel)
/-! dicts of numbers -/
/-- a value and whether it is a whole number -/
inductive IsW (S : Sto) : D → Bool → Prop
  | int (n : Int) : IsW S (.int n) (decide (0 ≤ n))
  | non : IsW S .non false
  | bl (b : Bool) : IsW S (.bl b) false
  | str (s : Str) : IsW S (.str s) false
  | lst {a : Addr} {xs : List D} (h : S a = some (.lst xs)) : IsW S (.ref a) false
theorem IsW.mono {S S' : Sto} {d : D} {b : Bool} (l : Le S S') (h : IsW S d b) : IsW S' d b := by
  cases h with
  | int n => exact .int n
  | non => exact .non
  | bl b => exact .bl b
  | str s => exact .str s
  | lst h => exact .lst (l _ _ h)
def EV (l : KD) (x : Str) : Int := match kGet l (.inr x) with
  | some (.int v) => v
  | _ => 0
def OkI (l : KD) (x : Str) : Prop := ∃ v : Int, kGet l (.inr x) = some (.int v) ∧ 0 ≤ v
def OkE (l : KD) (x : Str) : Prop := ∃ v : Int, kGet l (.inr x) = some (.int v) ∧ 0 ≤ v ∧ BB 600 v
theorem OkE.i {l : KD} {x : Str} (h : OkE l x) : OkI l x := let ⟨v, a, b, _⟩ := h; ⟨v, a, b⟩
theorem OkE.ev {l : KD} {x : Str} (h : OkE l x) : kGet l (.inr x) = some (.int (EV l x)) ∧ 0 ≤ EV l x ∧ BB 600 (EV l x) := by
  obtain ⟨v, a, b, c⟩ := h
  have e : EV l x = v := by unfold EV; rw [a]
  rw [e]
  exact ⟨a, b, c⟩
/-- what stands there can be asked -/
def WkE (S : Sto) (l : KD) (x : Str) : Prop := ∀ d, kGet l (.inr x) = some d → ∃ b, IsW S d b
def sp_is_number : DSp := fun ds S Q _ => (∃ n lo hi : Int, ds = [.int n, .int lo, .int hi] ∧ Q (.bl (decide (lo ≤ n) && decide (n ≤ hi))) S) ∨ ∃ v b, IsW S v b ∧ ds = [v, .int 0, .non] ∧ Q (.bl b) S
def sp_is_whole : DSp := fun ds S Q _ => ∃ v b, IsW S v b ∧ ds = [v] ∧ Q (.bl b) S
def sp_is_leaf : DSp := fun ds S Q _ => ∃ v k, ds = [v, .str k, .bl false] ∧ LeafT v k ∧ Q (.bl true) S
def sp_fields_of : DSp := fun ds S Q _ => ∃ t : Tr, ds = [t.d, .str t.kind] ∧ Q (.tup (t.flds.map .str)) S
/-- a sum or formula that may be handed in -/
structure Good (k : Str) (t : Tr) : Prop where
  wf : t.wf
  kind : t.kind = k
  sz : t.sz ≤ 400
def sp_is_shaped : DSp := fun ds S Q _ => ∃ (t : Tr) (k : Str), Good k t ∧ ds = [t.d, .str k, .bl false, .int 400, .non] ∧ Q (.bl true) S
def sp_is_sum : DSp := fun ds S Q _ => ∃ t : Tr, Good "sum" t ∧ ds = [t.d] ∧ Q (.bl true) S
def sp_check_sum : DSp := fun ds S Q _ => ∃ t : Tr, Good "sum" t ∧ ds = [t.d] ∧ Q .non S
def sp_parts_of : DSp := fun ds S Q _ => ∃ t : Tr, ds = [t.d] ∧ Q (.tup (t.parts.map Tr.d)) S
def sp_ordered : DSp := fun ds S Q _ => ∃ t : Tr, ds = [t.d] ∧ t.sz ≤ 400 ∧ ∀ p S', S p = none → S' p = some (.lst (t.post.map Tr.d)) → Le S S' → Q (.ref p) S'
def vis (p : Tr × List Str) : D := .tup [p.1.d, .tup (p.2.map .str)]
/-- a name that stands free there -/
def hit (ls : List (Tr × List Str)) (x : Str) : Prop := ∃ l, (Tr.nam x, l) ∈ ls ∧ x ∉ l
def sp_scoped : DSp := fun ds S Q _ => ∃ t : Tr, ds = [t.d] ∧ t.sz ≤ 400 ∧ ∀ p ls, (∀ x, hit ls x ↔ t.free [] x) → ls.length ≤ 400 → S p = none → Q (.ref p) (put S p (.lst (ls.map vis)))
def sp_free_names : DSp := fun ds S Q _ => ∃ t : Tr, ds = [t.d] ∧ t.sz ≤ 400 ∧ ∀ ys, FN t ys → ys.length ≤ 400 → Q (.tup (ys.map .str)) S
def sp_divided : DSp := fun ds S Q _ => ∃ (o : Opd) (n : Int) (b : Nat), 1 ≤ b ∧ b ≤ 999999 ∧ BB 9000 n ∧ ds = [.str o.w, .int n, .int b] ∧ Q (.int (dv o n b)) S
def sp_made_of_one : DSp := fun ds S Q _ => ∃ (t a : Tr) (n : Int), BB 9000 n ∧ ds = [t.d, .int n] ∧ ((∃ m, t = .times m a ∧ m ≤ 999999 ∧ Q (.int ((m : Int) * n)) S) ∨ ∃ o m, t = .ovr o a m ∧ 1 ≤ m ∧ m ≤ 999999 ∧ Q (.int (dv o n m)) S)
def sp_made_of_two : DSp := fun ds S Q _ => ∃ (o : Op2) (m n : Int), ds = [.str o.w, .int m, .int n] ∧ ((o = .plus ∧ Q (.int (m + n)) S) ∨ (o = .minus ∧ Q (.int (m - n)) S))
def sp_made_of : DSp := fun ds S Q _ => ∃ (t : Tr) (a : Addr) (l : KD), ds = [t.d, .ref a] ∧ t.wf ∧ t.kind = "sum" ∧ t.sz ≤ 100 ∧ S a = some (dcell l) ∧ (∀ x, t.free [] x → OkE l x) ∧ Anyt S Q (.int (wrt (EV l) t))
def sp_worth : DSp := sp_made_of
def sp_check_at (cA : Addr) : DSp := fun ds S Q E => ∃ (xs : List Str) (a : Addr) (l : KD), ds = [.tup (xs.map .str), .ref a] ∧ S a = some (dcell l) ∧ xs.length ≤ 400 ∧ (∀ x ∈ xs, x.length ≤ 100 ∧ WkE S l x) ∧
  ((∀ x ∈ xs, OkI l x) → Q .non S) ∧ ((∃ x ∈ xs, ¬ OkI l x) → E (.ref cA) [] S)
/-- a sum and a dict that may be asked -/
structure Asked (S : Sto) (t : Tr) (l : KD) : Prop where
  g : Good "sum" t
  sz : t.sz ≤ 100
  n : ∀ x, t.free [] x → x.length ≤ 100 ∧ WkE S l x ∧ ∀ v, kGet l (.inr x) = some (.int v) → BB 600 v
def sp_value (cA : Addr) : DSp := fun ds S Q E => ∃ (t : Tr) (a : Addr) (l : KD), Asked S t l ∧ ds = [t.d, .ref a] ∧ S a = some (dcell l) ∧
  ((∀ x, t.free [] x → OkI l x) → Anyt S Q (.int (wrt (EV l) t))) ∧ ((∃ x, t.free [] x ∧ ¬ OkI l x) → ∀ S', Le S S' → E (.ref cA) [] S')
/-! the bag -/
structure Bag (S : Sto) (b g : Addr) (c : Nat) : Prop where
  ex : ∃ (gs : List Int) (seed n : Int), S g = some (.lst (gs.map .int)) ∧ S b = some (.lst [.ref g, .int seed, .int n]) ∧ 0 ≤ seed ∧ seed < 2 ^ 31 ∧ 0 ≤ n ∧ n ≤ c
  ne : b ≠ g
/-- only the bag changed, and what was not told yet -/
def Kp (S S' : Sto) (b g : Addr) : Prop := ∀ a c, a ≠ b → a ≠ g → S a = some c → S' a = some c
theorem Bag.up {S : Sto} {b g : Addr} {c d : Nat} (h : Bag S b g c) (l : c ≤ d) : Bag S b g d := by
  obtain ⟨⟨gs, s, n, a, b, c, d, e, f⟩, z⟩ := h
  exact ⟨⟨gs, s, n, a, b, c, d, e, by omega⟩, z⟩
theorem Bag.le {S S' : Sto} {b g : Addr} {c : Nat} (h : Bag S b g c) (l : Le S S') : Bag S' b g c := by
  obtain ⟨⟨gs, s, n, a, b, c, d, e, f⟩, z⟩ := h
  exact ⟨⟨gs, s, n, l _ _ a, l _ _ b, c, d, e, f⟩, z⟩
theorem Bag.b {S : Sto} {b g : Addr} {c : Nat} (h : Bag S b g c) : S b ≠ none := by
  obtain ⟨⟨gs, s, n, a, b, c, d, e, f⟩, z⟩ := h
  intro e; rw [b] at e; cases e
theorem Bag.g {S : Sto} {b g : Addr} {c : Nat} (h : Bag S b g c) : S g ≠ none := by
  obtain ⟨⟨gs, s, n, a, b, c, d, e, f⟩, z⟩ := h
  intro e; rw [a] at e; cases e
theorem Bag.wr {S : Sto} {b g p : Addr} {c : Nat} {cl : Cell} (h : Bag S b g c) (h1 : p ≠ b) (h2 : p ≠ g) : Bag (put S p cl) b g c := by
  obtain ⟨⟨gs, s, n, a, b, c, d, e, f⟩, z⟩ := h
  exact ⟨⟨gs, s, n, (put_ne (Ne.symm h2)).trans a, (put_ne (Ne.symm h1)).trans b, c, d, e, f⟩, z⟩
theorem Kp.trans {S S1 S2 : Sto} {b g : Addr} (h : Kp S S1 b g) (k : Kp S1 S2 b g) : Kp S S2 b g := fun a c h1 h2 h3 => k a c h1 h2 (h a c h1 h2 h3)
theorem Kp.le {S S1 S2 : Sto} {b g : Addr} (h : Kp S S1 b g) (k : Le S1 S2) : Kp S S2 b g := fun a c h1 h2 h3 => k _ _ (h a c h1 h2 h3)
theorem Bag.put' {S : Sto} {b g p : Addr} {c : Nat} {cl : Cell} (h : Bag S b g c) (hp : S p = none) : Bag (put S p cl) b g c := by
  obtain ⟨⟨gs, s, n, a, b, c, d, e, f⟩, z⟩ := h
  exact ⟨⟨gs, s, n, lePut (fun _ _ h => h) hp _ _ a, lePut (fun _ _ h => h) hp _ _ b, c, d, e, f⟩, z⟩
theorem Kp.put' {S S1 : Sto} {b g p : Addr} {cl : Cell} (h : Kp S S1 b g) (hp : S1 p = none) : Kp S (put S1 p cl) b g := fun a c h1 h2 h3 => lePut (fun _ _ h => h) hp _ _ (h a c h1 h2 h3)
theorem Bag.fresh {S : Sto} {b g p : Addr} {c : Nat} (h : Bag S b g c) (hp : S p = none) : p ≠ b ∧ p ≠ g := by
  obtain ⟨⟨gs, s, n, a, b, c, d, e, f⟩, z⟩ := h
  exact ⟨fun e => (by subst e; rw [b] at hp; cases hp), fun e => (by subst e; rw [a] at hp; cases hp)⟩
def sp_law_bag : DSp := fun ds S Q _ => ∃ ns : List Int, ds = [.cl (ns.map .int)] ∧ ∀ b g S', Bag S' b g 0 → S b = none → S g = none → Kp S S' b g → Q (.ref b) S'
def sp_law_take : DSp := fun ds S Q _ => ∃ (b g : Addr) (c : Nat) (many : Int), ds = [.ref b, .int many] ∧ 0 < many ∧ many ≤ 2 ^ 31 ∧ c ≤ 2 ^ 31 ∧ Bag S b g c ∧ ∀ r S', 0 ≤ r → r < many → Bag S' b g (c + 1) → Kp S S' b g → Q (.int r) S'
def AtL (S : Sto) (a : Addr) : Prop := S a = some (.lst [.str "at"])
def sp_law_kind_same : DSp := fun ds S Q _ => (∃ n : Int, ds = [.int n, .int n] ∧ Anyt S Q (.bl true)) ∨ ∃ a b, AtL S a ∧ AtL S b ∧ ds = [.ref a, .ref b] ∧ Anyt S Q (.bl true)
def sp_law_worth (N : Nat) : DSp := fun ds S Q _ => ∃ (t : Tr) (a : Addr) (l : KD), t.ht ≤ N ∧ t.wf ∧ t.kind = "sum" ∧ t.sz ≤ 100 ∧ ds = [t.d, .ref a] ∧ S a = some (dcell l) ∧ (∀ x, t.free [] x → OkE l x) ∧ Q (.int (wrt (EV l) t)) S
def sp_law_number : DSp := fun ds S Q _ => ∃ (b g : Addr) (c : Nat), ds = [.ref b] ∧ c + 2 ≤ 2 ^ 31 ∧ Bag S b g c ∧ ∀ (r : Nat) S', r ≤ 999999 → Bag S' b g (c + 2) → Kp S S' b g → Q (.int r) S'
def sp_law_name : DSp := fun ds S Q _ => ∃ (b g u : Addr) (c : Nat) (xs : List Str), ds = [.ref b, .ref u] ∧ c + 4 ≤ 2 ^ 31 ∧ Bag S b g c ∧ u ≠ b ∧ u ≠ g ∧ S u = some (.lst (xs.map .str)) ∧ xs.length ≤ 10 ∧
  ∀ (nm : Str) S', IsNm nm → Bag S' b g (c + 4) → S' u = some (.lst ((xs ++ [nm]).map .str)) → (∀ a cl, a ≠ b → a ≠ g → a ≠ u → S a = some cl → S' a = some cl) → Q (.str nm) S'
def sp_law_sum_names (N : Nat) : DSp := fun ds S Q _ => ∃ t : Tr, t.ht ≤ N ∧ t.wf ∧ t.kind = "sum" ∧ t.sz ≤ 10000 ∧ ds = [t.d] ∧ ∀ p (ys : List Str), (∀ x, x ∈ ys ↔ t.free [] x) → ys.length ≤ t.sz → S p = none → Q (.ref p) (put S p (.lst (ys.map .str)))
structure SumT (n : Nat) (t : Tr) : Prop where
  wf : t.wf
  kind : t.kind = "sum"
  ht : t.ht ≤ n + 1
  sz : t.sz + 1 ≤ 2 ^ (n + 1)
def sp_law_deep_sum (N : Nat) : DSp := fun ds S Q _ => ∃ (n : Nat) (b g u : Addr) (c : Nat) (xs : List Str), n ≤ N ∧ ds = [.ref b, .ref u, .int n] ∧ c + 6 * 3 ^ n ≤ 2 ^ 31 ∧ Bag S b g c ∧ u ≠ b ∧ u ≠ g ∧ S u = some (.lst (xs.map .str)) ∧ xs.length = 3 ∧ (∀ x ∈ xs, x ≠ "") ∧
  ∀ t S', SumT n t → (∀ x, t.free [] x → x ∈ xs) → Bag S' b g (c + 6 * 3 ^ n) → Kp S S' b g → Q t.d S'
def sp_law_told : DSp := fun ds S Q _ => ∃ (t : Tr) (a : Addr) (l : KD), Asked S t l ∧ ds = [t.d, .ref a] ∧ S a = some (dcell l) ∧
  ((∀ x, t.free [] x → OkI l x) → Anyt S Q (.int (wrt (EV l) t))) ∧ ((∃ x, t.free [] x ∧ ¬ OkI l x) → ∀ p S', S p = none → AtL S' p → Le S S' → Q (.ref p) S')
def sp_law_unfit : DSp := fun ds S Q _ => ∃ (b g a : Addr) (c : Nat) (t : Tr) (l : KD) (x : Str), ds = [.ref b, t.d, .ref a, .str x] ∧ SumT 5 t ∧ c + 1 ≤ 2 ^ 31 ∧ Bag S b g c ∧ a ≠ b ∧ a ≠ g ∧ S a = some (dcell l) ∧ l.length ≤ 100 ∧
  (∀ y, t.free [] y → OkE l y ∧ y.length ≤ 100) ∧ OkE l x ∧ ∀ S', Bag S' b g (c + 1) → Kp S S' b g → Q (.bl true) S'
def sp_law : DSp := fun ds S Q _ => ∃ ns : List Int, ds = [.cl (ns.map .int)] ∧ Q (.bl true) S
/-! printed by gen.py: constants and readings -/
abbrev D_MOST_NUMBER : D := .int 999999
abbrev D_FIELDS : D := .cd [.tup [.str "sum", .str "number"], .tup [.str "sum", .str "name"], .tup [.str "sum", .str "plus"], .tup [.str "sum", .str "minus"], .tup [.str "sum", .str "times"], .tup [.str "sum", .str "over"], .tup [.str "sum", .str "rest"], .tup [.str "formula", .str "="], .tup [.str "formula", .str "!="], .tup [.str "formula", .str "<"], .tup [.str "formula", .str "<="], .tup [.str "formula", .str ">"], .tup [.str "formula", .str ">="], .tup [.str "formula", .str "not"], .tup [.str "formula", .str "and"], .tup [.str "formula", .str "or"], .tup [.str "formula", .str "some"], .tup [.str "formula", .str "all"], .tup [.str "statement", .str "set"], .tup [.str "statement", .str "call"], .tup [.str "statement", .str "any"], .tup [.str "statement", .str "claim"], .tup [.str "statement", .str "if"], .tup [.str "statement", .str "while"], .tup [.str "function", .str "fun"]] [.tup [.str "whole"], .tup [.str "word"], .tup [.str "sum", .str "sum"], .tup [.str "sum", .str "sum"], .tup [.str "whole", .str "sum"], .tup [.str "sum", .str "divisor"], .tup [.str "sum", .str "divisor"], .tup [.str "sum", .str "sum"], .tup [.str "sum", .str "sum"], .tup [.str "sum", .str "sum"], .tup [.str "sum", .str "sum"], .tup [.str "sum", .str "sum"], .tup [.str "sum", .str "sum"], .tup [.str "formula"], .tup [.str "formula", .str "formula"], .tup [.str "formula", .str "formula"], .tup [.str "word", .str "formula"], .tup [.str "word", .str "formula"], .tup [.str "word", .str "sum"], .tup [.str "word", .str "word", .str "sums"], .tup [.str "word"], .tup [.str "formula"], .tup [.str "formula", .str "body", .str "body"], .tup [.str "formula", .str "maybe formula", .str "maybe sum", .str "body"], .tup [.str "word", .str "words", .str "word", .str "maybe formula", .str "maybe formula", .str "body"]]
abbrev D_LEAF_KINDS : D := .tup [.str "whole", .str "word", .str "divisor"]
abbrev D_ROWS : D := .cd [.str "sums", .str "words", .str "body"] [.str "sum", .str "word", .str "statement"]
abbrev D_MAYBES : D := .cd [.str "maybe formula", .str "maybe sum"] [.str "formula", .str "sum"]
abbrev D_MOST_TREES : D := .int 400
abbrev D_COMPARISONS : D := .tup [.str "=", .str "!=", .str "<", .str "<=", .str ">", .str ">="]
abbrev D_QUANTIFIERS : D := .tup [.str "some", .str "all"]
abbrev D_LEAVES : D := .tup [.str "number", .str "name"]
abbrev D_SECOND : D := .tup [.str "times", .str "some", .str "all"]
abbrev D_FIRST : D := .tup [.str "over", .str "rest", .str "not"]
def t_is_number : DTS := dSeq (dIf (dOr (dNot (dTru (dCB oIsi (dCons (dVar 0) (dCons (dC (.ty "int")) (dNil)))))) (dTru (dCB oIsi (dCons (dVar 0) (dCons (dC (.ty "bool")) (dNil)))))) (dRet (dC (.bl false))) (dSkip)) (dRet (dAndV (dOp oLe (dVar 1) (dVar 0)) (dOrV (dOp oIsN (dVar 2) (dC .non)) (dOp oLe (dVar 0) (dVar 2)))))
def t_is_whole : DTS := dRet (dCall (sp_is_number) (dCons (dVar 0) (dCons (dC (.int 0)) (dCons (dC .non) (dNil)))))
def t_is_leaf : DTS := dSeq (dIf (dTB (dOp oEq (dVar 1) (dC (.str "whole")))) (dRet (dCall (sp_is_number) (dCons (dVar 0) (dCons (dC (.int 0)) (dCons (dC D_MOST_NUMBER) (dNil)))))) (dSkip)) (dSeq (dIf (dTB (dOp oEq (dVar 1) (dC (.str "divisor")))) (dRet (dCall (sp_is_number) (dCons (dVar 0) (dCons (dIfE (dTru (dVar 2)) (dC (.int 0)) (dC (.int 1))) (dCons (dC D_MOST_NUMBER) (dNil)))))) (dSkip)) (dSeq (dIf (dTru (dVar 2)) (dNev) (dSkip)) (dRet (dAndV (dCB oIsi (dCons (dVar 0) (dCons (dC (.ty "str")) (dNil)))) (dOp oNe (dVar 0) (dC (.str "")))))))
def t_fields_of : DTS := dSeq (dIf (dOr (dNot (dTru (dCB oIsi (dCons (dVar 0) (dCons (dC (.ty "tuple")) (dNil)))))) (dOr (dTB (dOp oLt (dCB oLen (dCons (dVar 0) (dNil))) (dC (.int 2)))) (dNot (dTru (dCB oIsi (dCons (dOp ixA (dVar 0) (dC (.int 0))) (dCons (dC (.ty "str")) (dNil)))))))) (dRet (dC .non)) (dSkip)) (dSeq (dSet 2 (dCdGet (dC D_FIELDS) (dTup (dCons (dVar 1) (dCons (dOp ixA (dVar 0) (dC (.int 0))) (dNil)))))) (dSeq (dIf (dOr (dTB (dOp oIsN (dVar 2) (dC .non))) (dTB (dOp oNe (dOp oAdd (dCB oLen (dCons (dVar 2) (dNil))) (dC (.int 1))) (dCB oLen (dCons (dVar 0) (dNil)))))) (dRet (dC .non)) (dSkip)) (dRet (dVar 2))))
def t_is_shaped : DTS := dSeq (dSet2 5 6 (dC (.int 0))) (dSeq (dSet 7 (dLst (dCons (dTup (dCons (dVar 0) (dCons (dVar 1) (dNil)))) (dNil)))) (dSeq (dWhile (dTru (dVar 7)) (dSeq (dAsg (dPop (dVar 7)) (gTu (gCo (gN 8) (gCo (gN 9) (gNi))))) (dIf (dTB (dOp oIn (dVar 9) (dC D_LEAF_KINDS))) (dIf (dNot (dTru (dCall (sp_is_leaf) (dCons (dVar 8) (dCons (dVar 9) (dCons (dVar 2) (dNil))))))) (dRet (dC (.bl false))) (dSkip)) (dIf (dTB (dOp oIn (dVar 9) (dC D_ROWS))) (dSeq (dIf (dNot (dTru (dCB oIsi (dCons (dVar 8) (dCons (dC (.ty "tuple")) (dNil)))))) (dRet (dC (.bl false))) (dSkip)) (dSeq (dSet 10 (dOp ixA (dC D_ROWS) (dVar 9))) (dDrop (dExtend (dVar 7) (dLc (iD (dVar 8)) (gN 11) (dYes) (dTup (dCons (dVar 11) (dCons (dVar 10) (dNil)))) [11]))))) (dIf (dTB (dOp oIn (dVar 9) (dC D_MAYBES))) (dIf (dTB (dOp oNotN (dVar 8) (dC .non))) (dDrop (dAppend (dVar 7) (dTup (dCons (dVar 8) (dCons (dOp ixA (dC D_MAYBES) (dVar 9)) (dNil)))))) (dSkip)) (dSeq (dSet 12 (dCall (sp_fields_of) (dCons (dVar 8) (dCons (dVar 9) (dNil))))) (dSeq (dIf (dTB (dOp oIsN (dVar 12) (dC .non))) (dRet (dC (.bl false))) (dSkip)) (dSeq (dAug 6 (dIfE (dTB (dOp oEq (dVar 9) (dC (.str "statement")))) (dC (.int 1)) (dC (.int 0))) oAddI) (dSeq (dAug 5 (dIfE (dTB (dOp oIn (dVar 9) (dTup (dCons (dC (.str "sum")) (dCons (dC (.str "formula")) (dNil)))))) (dC (.int 1)) (dC (.int 0))) oAddI) (dSeq (dIf (dOr (dAnd (dTB (dOp oNotN (dVar 3) (dC .non))) (dTB (dOp oGt (dVar 5) (dVar 3)))) (dAnd (dTB (dOp oNotN (dVar 4) (dC .non))) (dTB (dOp oGt (dVar 6) (dVar 4))))) (dRet (dC (.bl false))) (dSkip)) (dDrop (dExtend (dVar 7) (dListZip (dCons (dSl (dVar 8) (dSomeP (dC (.int 1))) dNoP) (dCons (dVar 12) (dNil)))))))))))))))) (dRet (dC (.bl true)))))
def t_is_sum : DTS := dRet (dCall (sp_is_shaped) (dCons (dVar 0) (dCons (dC (.str "sum")) (dCons (dC (.bl false)) (dCons (dC D_MOST_TREES) (dCons (dC .non) (dNil)))))))
def t_parts_of : DTS := dSeq (dSet 1 (dOp ixA (dVar 0) (dC (.int 0)))) (dSeq (dIf (dTB (dOp oIn (dVar 1) (dC D_LEAVES))) (dRet (dTup (dNil))) (dSkip)) (dSeq (dIf (dTB (dOp oIn (dVar 1) (dC D_SECOND))) (dRet (dTup (dCons (dOp ixA (dVar 0) (dC (.int 2))) (dNil)))) (dSkip)) (dSeq (dIf (dTB (dOp oIn (dVar 1) (dC D_FIRST))) (dRet (dTup (dCons (dOp ixA (dVar 0) (dC (.int 1))) (dNil)))) (dSkip)) (dRet (dTup (dCons (dOp ixA (dVar 0) (dC (.int 1))) (dCons (dOp ixA (dVar 0) (dC (.int 2))) (dNil))))))))
def t_ordered : DTS := dSeq (dSet 1 (dLst (dNil))) (dSeq (dSet 2 (dLst (dCons (dVar 0) (dNil)))) (dSeq (dWhile (dTru (dVar 2)) (dSeq (dSet 3 (dPop (dVar 2))) (dSeq (dDrop (dAppend (dVar 1) (dVar 3))) (dDrop (dExtendT (dVar 2) (dCall (sp_parts_of) (dCons (dVar 3) (dNil)))))))) (dSeq (dDrop (dReverse (dVar 1))) (dRet (dVar 1)))))
def t_scoped : DTS := dSeq (dSet 1 (dLst (dNil))) (dSeq (dSet 2 (dLst (dCons (dTup (dCons (dVar 0) (dCons (dTup (dNil)) (dNil)))) (dNil)))) (dSeq (dWhile (dTru (dVar 2)) (dSeq (dAsg (dPop (dVar 2)) (gTu (gCo (gN 3) (gCo (gN 4) (gNi))))) (dSeq (dDrop (dAppend (dVar 1) (dTup (dCons (dVar 3) (dCons (dVar 4) (dNil)))))) (dSeq (dSet 5 (dVar 4)) (dSeq (dIf (dAnd (dTB (dOp oIn (dOp ixA (dVar 3) (dC (.int 0))) (dC D_QUANTIFIERS))) (dTB (dOp oNotIn (dOp ixA (dVar 3) (dC (.int 1))) (dVar 4)))) (dSet 5 (dOp oAdd (dVar 4) (dTup (dCons (dOp ixA (dVar 3) (dC (.int 1))) (dNil))))) (dSkip)) (dDrop (dExtend (dVar 2) (dLc (iD (dCall (sp_parts_of) (dCons (dVar 3) (dNil)))) (gN 6) (dYes) (dTup (dCons (dVar 6) (dCons (dVar 5) (dNil)))) [6])))))))) (dSeq (dDrop (dReverse (dVar 1))) (dRet (dVar 1)))))
def t_free_names : DTS := dRet (dCB oTuple (dCons (dCB oSorted (dCons (dSc (iD (dCall (sp_scoped) (dCons (dVar 0) (dNil)))) (gTu (gCo (gN 1) (gCo (gN 2) (gNi)))) (dAnd (dTB (dOp oEq (dOp ixA (dVar 1) (dC (.int 0))) (dC (.str "name")))) (dTB (dOp oNotIn (dOp ixA (dVar 1) (dC (.int 1))) (dVar 2)))) (dOp ixA (dVar 1) (dC (.int 1))) [1, 2]) (dNil))) (dNil)))
def t_divided : DTS := dSeq (dIf (dTB (dOp oLt (dVar 1) (dC (.int 0)))) (dRet (dC (.int 0))) (dSkip)) (dSeq (dSet 3 (dOp oDiv (dVar 1) (dVar 2))) (dSeq (dIf (dTB (dOp oEq (dVar 0) (dC (.str "over")))) (dRet (dVar 3)) (dSkip)) (dRet (dOp oSub (dVar 1) (dOp oMul (dVar 3) (dVar 2))))))
def t_made_of_one : DTS := dSeq (dSet 2 (dOp ixA (dVar 0) (dC (.int 0)))) (dSeq (dIf (dTB (dOp oEq (dVar 2) (dC (.str "times")))) (dRet (dOp oMul (dOp ixA (dVar 0) (dC (.int 1))) (dVar 1))) (dSkip)) (dSeq (dIf (dTB (dOp oEq (dVar 2) (dC (.str "not")))) (dNev) (dSkip)) (dRet (dCall (sp_divided) (dCons (dVar 2) (dCons (dVar 1) (dCons (dOp ixA (dVar 0) (dC (.int 2))) (dNil))))))))
def t_made_of_two : DTS := dSeq (dIf (dTB (dOp oIn (dVar 0) (dC D_COMPARISONS))) (dNev) (dSkip)) (dSeq (dIf (dTB (dOp oEq (dVar 0) (dC (.str "plus")))) (dRet (dOp oAdd (dVar 1) (dVar 2))) (dSkip)) (dSeq (dIf (dTB (dOp oEq (dVar 0) (dC (.str "minus")))) (dRet (dOp oSub (dVar 1) (dVar 2))) (dSkip)) (dSeq (dNev) (dNev))))
def t_made_of : DTS := dSeq (dSet 2 (dLst (dNil))) (dSeq (dFor (iD (dCall (sp_ordered) (dCons (dVar 0) (dNil)))) (gN 3) (dSeq (dSet 4 (dOp ixA (dVar 3) (dC (.int 0)))) (dIf (dTB (dOp oEq (dVar 4) (dC (.str "number")))) (dDrop (dAppend (dVar 2) (dOp ixA (dVar 3) (dC (.int 1))))) (dIf (dTB (dOp oEq (dVar 4) (dC (.str "name")))) (dDrop (dAppend (dVar 2) (dOp ixK (dVar 1) (dOp ixA (dVar 3) (dC (.int 1)))))) (dIf (dTB (dOp oIn (dVar 4) (dTup (dCons (dC (.str "times")) (dCons (dC (.str "over")) (dCons (dC (.str "rest")) (dCons (dC (.str "not")) (dNil)))))))) (dDrop (dAppend (dVar 2) (dCall (sp_made_of_one) (dCons (dVar 3) (dCons (dPop (dVar 2)) (dNil)))))) (dSeq (dSet 5 (dPop (dVar 2))) (dSeq (dSet 6 (dPop (dVar 2))) (dDrop (dAppend (dVar 2) (dCall (sp_made_of_two) (dCons (dVar 4) (dCons (dVar 6) (dCons (dVar 5) (dNil)))))))))))))) (dRet (dOp ixA (dVar 2) (dC (.int 0)))))
def t_worth : DTS := dRet (dCall (sp_made_of) (dCons (dVar 0) (dCons (dVar 1) (dNil))))
def t_check_sum : DTS := dIf (dNot (dTru (dCall (sp_is_sum) (dCons (dVar 0) (dNil))))) (dNev) (dSkip)
def t_check_at (cA : Addr) (EX : DXE) : DTS := dSeq (dIf (dNot (dTru (dCB oIsi (dCons (dVar 1) (dCons (dC (.ty "dict")) (dNil)))))) (dRaise cA EX (dCons (dC (.str "no dict")) (dNil))) (dSkip)) (dFor (iD (dVar 0)) (gN 2) (dIf (dOr (dTB (dOp (inK true) (dVar 2) (dVar 1))) (dNot (dTru (dCall (sp_is_whole) (dCons (dOp ixK (dVar 1) (dVar 2)) (dNil)))))) (dRaise cA EX (dCons (dJoined [dC (.str "no whole number for "), dFmt (dVar 2)]) (dNil))) (dSkip)))
def t_value (cA : Addr) (EX : DXE) : DTS := dSeq (dDrop (dCall (sp_check_sum) (dCons (dVar 0) (dNil)))) (dSeq (dDrop (dCallX ((sp_check_at cA)) EX (dCons (dCall (sp_free_names) (dCons (dVar 0) (dNil))) (dCons (dVar 1) (dNil))))) (dRet (dCall (sp_worth) (dCons (dVar 0) (dCons (dVar 1) (dNil))))))
def t_law_bag : DTS := dSeq (dSet 1 (dLst (dNil))) (dSeq (dSet 2 (dC (.int 11))) (dSeq (dFor (iD (dSl (dVar 0) dNoP (dSomeP (dC (.int 63))))) (gN 3) (dSeq (dIf (dTB (dOp oGe (dVar 3) (dOp oPow (dC (.int 10)) (dC (.int 18))))) (dDrop (dAppend (dVar 1) (dOp oMod (dCB oInt1 (dCons (dVar 3) (dNil))) (dOp oPow (dOp oPow (dC (.int 10)) (dC (.int 60))) (dC (.int 12)))))) (dSkip)) (dSet 2 (dOp oMod (dCB oInt1 (dCons (dOp oAdd (dOp oAdd (dOp oMul (dVar 2) (dC (.int 1000003))) (dOp oMod (dCB oInt1 (dCons (dVar 3) (dNil))) (dC (.int 2147483629)))) (dC (.int 7))) (dNil))) (dC (.int 2147483647)))))) (dRet (dLst (dCons (dVar 1) (dCons (dVar 2) (dCons (dC (.int 0)) (dNil))))))))
def t_law_take : DTS := dSeq (dSetL (dOp oAdd (dOp ixA (dVar 0) (dC (.int 2))) (dC (.int 1))) (dVar 0) (dC (.int 2))) (dSeq (dSet 2 (dOp ixA (dVar 0) (dC (.int 0)))) (dSeq (dIf (dTru (dVar 2)) (dSeq (dSet 3 (dOp oMod (dCB oInt1 (dCons (dOp ixA (dVar 2) (dC (.int 0))) (dNil))) (dVar 1))) (dSeq (dSetL (dOp oDiv (dCB oInt1 (dCons (dOp ixA (dVar 2) (dC (.int 0))) (dNil))) (dVar 1)) (dVar 2) (dC (.int 0))) (dSeq (dIf (dTB (dOp oEq (dOp ixA (dVar 2) (dC (.int 0))) (dC (.int 0)))) (dDrop (dPopAt (dVar 2) (dC (.int 0)))) (dSkip)) (dRet (dVar 3))))) (dSkip)) (dSeq (dSet 4 (dOp oMod (dCB oInt1 (dCons (dOp oAdd (dOp ixA (dVar 0) (dC (.int 1))) (dOp oMul (dOp ixA (dVar 0) (dC (.int 2))) (dC (.int 69621)))) (dNil))) (dC (.int 2147483647)))) (dSeq (dSet 4 (dOp oMod (dCB oInt1 (dCons (dOp oAdd (dOp oMul (dVar 4) (dC (.int 48271))) (dOp ixA (dVar 0) (dC (.int 2)))) (dNil))) (dC (.int 2147483629)))) (dSeq (dSet 4 (dOp oMod (dCB oInt1 (dCons (dOp oAdd (dOp oAdd (dOp oMul (dVar 4) (dVar 4)) (dOp oMul (dVar 4) (dC (.int 16807)))) (dC (.int 13))) (dNil))) (dC (.int 2147483647)))) (dSeq (dSet 4 (dOp oMod (dCB oInt1 (dCons (dOp oAdd (dOp oMul (dVar 4) (dVar 4)) (dOp ixA (dVar 0) (dC (.int 1)))) (dNil))) (dC (.int 2147483629)))) (dRet (dOp oMod (dCB oInt1 (dCons (dOp oDiv (dVar 4) (dC (.int 3))) (dNil))) (dVar 1)))))))))
def t_law_kind_same : DTS := dSeq (dSet 2 (dLst (dCons (dTup (dCons (dVar 0) (dCons (dVar 1) (dNil)))) (dNil)))) (dSeq (dWhile (dTru (dVar 2)) (dSeq (dAsg (dPop (dVar 2)) (gTu (gCo (gN 3) (gCo (gN 4) (gNi))))) (dIf (dTru (dCB oIsi (dCons (dVar 4) (dCons (dTup (dCons (dC (.ty "tuple")) (dCons (dC (.ty "list")) (dNil)))) (dNil))))) (dSeq (dIf (dOr (dNot (dTru (dCB oIsi (dCons (dVar 3) (dCons (dTup (dCons (dC (.ty "tuple")) (dCons (dC (.ty "list")) (dNil)))) (dNil)))))) (dOr (dTB (dOp oNe (dCB oIsi (dCons (dVar 3) (dCons (dC (.ty "list")) (dNil)))) (dCB oIsi (dCons (dVar 4) (dCons (dC (.ty "list")) (dNil)))))) (dTB (dOp oNe (dCB oLen (dCons (dVar 3) (dNil))) (dCB oLen (dCons (dVar 4) (dNil))))))) (dRet (dC (.bl false))) (dSkip)) (dSet 2 (dOp oAdd (dVar 2) (dLc (iR1 (dCB oLen (dCons (dVar 4) (dNil)))) (gN 5) (dYes) (dTup (dCons (dOp ixA (dVar 3) (dVar 5)) (dCons (dOp ixA (dVar 4) (dVar 5)) (dNil)))) [5])))) (dIf (dOr (dTB (dOp oIsN (dVar 4) (dC .non))) (dTru (dCB oIsi (dCons (dVar 4) (dCons (dC (.ty "bool")) (dNil)))))) (dIf (dAnd (dNot (dAnd (dTB (dOp oIsN (dVar 3) (dC .non))) (dTB (dOp oIsN (dVar 4) (dC .non))))) (dNot (dAnd (dTru (dCB oIsi (dCons (dVar 3) (dCons (dC (.ty "bool")) (dNil))))) (dTB (dOp oEq (dVar 3) (dVar 4)))))) (dRet (dC (.bl false))) (dSkip)) (dIf (dTru (dCB oIsi (dCons (dVar 4) (dCons (dC (.ty "int")) (dNil))))) (dIf (dOr (dTru (dCB oIsi (dCons (dVar 3) (dCons (dC (.ty "bool")) (dNil))))) (dOr (dNot (dTru (dCB oIsi (dCons (dVar 3) (dCons (dC (.ty "int")) (dNil)))))) (dTB (dOp oNe (dVar 3) (dVar 4))))) (dRet (dC (.bl false))) (dSkip)) (dIf (dOr (dNot (dTru (dCB oIsi (dCons (dVar 3) (dCons (dC (.ty "str")) (dNil)))))) (dTB (dOp oNe (dVar 3) (dVar 4)))) (dRet (dC (.bl false))) (dSkip))))))) (dRet (dC (.bl true))))
def t_law_worth (sp_law_worth : DSp) (k : Nat) : DTS := dSeq (dSet 2 (dOp ixA (dVar 0) (dC (.int 0)))) (dSeq (dIf (dTB (dOp oEq (dVar 2) (dC (.str "number")))) (dRet (dOp ixA (dVar 0) (dC (.int 1)))) (dSkip)) (dSeq (dIf (dTB (dOp oEq (dVar 2) (dC (.str "name")))) (dRet (dOp ixK (dVar 1) (dOp ixA (dVar 0) (dC (.int 1))))) (dSkip)) (dSeq (dIf (dTB (dOp oEq (dVar 2) (dC (.str "plus")))) (dRet (dOp oAdd (dCall (sp_law_worth) (dCons (dOp ixA (dVar 0) (dC (.int 1))) (dCons (dVar 1) (dNil)))) (dCall (sp_law_worth) (dCons (dOp ixA (dVar 0) (dC (.int 2))) (dCons (dVar 1) (dNil)))))) (dSkip)) (dSeq (dIf (dTB (dOp oEq (dVar 2) (dC (.str "minus")))) (dRet (dOp oSub (dCall (sp_law_worth) (dCons (dOp ixA (dVar 0) (dC (.int 1))) (dCons (dVar 1) (dNil)))) (dCall (sp_law_worth) (dCons (dOp ixA (dVar 0) (dC (.int 2))) (dCons (dVar 1) (dNil)))))) (dSkip)) (dSeq (dIf (dTB (dOp oEq (dVar 2) (dC (.str "times")))) (dRet (dOp oMul (dOp ixA (dVar 0) (dC (.int 1))) (dCall (sp_law_worth) (dCons (dOp ixA (dVar 0) (dC (.int 2))) (dCons (dVar 1) (dNil)))))) (dSkip)) (dSeq (dSet 3 (dCall (sp_law_worth) (dCons (dOp ixA (dVar 0) (dC (.int 1))) (dCons (dVar 1) (dNil))))) (dSeq (dIf (dTB (dOp oLt (dVar 3) (dC (.int 0)))) (dRet (dC (.int 0))) (dSkip)) (dSeq (dIf (dTB (dOp oEq (dVar 2) (dC (.str "over")))) (dRet (dOp oDiv (dVar 3) (dOp ixA (dVar 0) (dC (.int 2))))) (dSkip)) (dRet (dOp oMod (dCB oInt1 (dCons (dVar 3) (dNil))) (dOp ixA (dVar 0) (dC (.int 2)))))))))))))
def t_law_number : DTS := dSeq (dSet 1 (dCall (sp_law_take) (dCons (dVar 0) (dCons (dC (.int 8)) (dNil))))) (dSeq (dIf (dTB (dOp oEq (dVar 1) (dC (.int 0)))) (dRet (dC (.int 0))) (dSkip)) (dSeq (dIf (dTB (dOp oEq (dVar 1) (dC (.int 1)))) (dRet (dOp oSub (dC (.int 999999)) (dCall (sp_law_take) (dCons (dVar 0) (dCons (dC (.int 3)) (dNil)))))) (dSkip)) (dSeq (dIf (dTB (dOp oEq (dVar 1) (dC (.int 2)))) (dRet (dCall (sp_law_take) (dCons (dVar 0) (dCons (dC (.int 1000000)) (dNil))))) (dSkip)) (dRet (dCall (sp_law_take) (dCons (dVar 0) (dCons (dC (.int 14)) (dNil))))))))
def t_law_name : DTS := dSeq (dSet 2 (dLst (dCons (dC (.str "all")) (dCons (dC (.str "and")) (dCons (dC (.str "any")) (dCons (dC (.str "asks")) (dCons (dC (.str "claim")) (dCons (dC (.str "else")) (dCons (dC (.str "end")) (dCons (dC (.str "falls")) (dCons (dC (.str "fun")) (dCons (dC (.str "gives")) (dCons (dC (.str "if")) (dCons (dC (.str "keeps")) (dCons (dC (.str "not")) (dCons (dC (.str "or")) (dCons (dC (.str "promises")) (dCons (dC (.str "some")) (dCons (dC (.str "while")) (dNil)))))))))))))))))))) (dSeq (dSet 3 (dLst (dCons (dC (.str "a")) (dCons (dC (.str "b")) (dCons (dC (.str "x")) (dCons (dC (.str "n")) (dCons (dC (.str "iff")) (dCons (dC (.str "ends")) (dCons (dC (.str "anyx")) (dCons (dC (.str "fun1")) (dCons (dC (.str "not_")) (dCons (dC (.str "or0")) (dCons (dC (.str "somehow")) (dCons (dC (.str "allB")) (dCons (dC (.str "keep")) (dCons (dC (.str "fall")) (dCons (dC (.str "gives2")) (dCons (dC (.str "q_")) (dCons (dC (.str "zZ")) (dCons (dC (.str "elsewhere")) (dCons (dC (.str "claims")) (dCons (dC (.str "whiles")) (dCons (dC (.str "end_")) (dCons (dC (.str "andy")) (dCons (dC (.str "ask")) (dCons (dC (.str "promise")) (dNil))))))))))))))))))))))))))) (dSeq (dSet 4 (dOp ixA (dVar 3) (dCall (sp_law_take) (dCons (dVar 0) (dCons (dCB oLen (dCons (dVar 3) (dNil))) (dNil)))))) (dSeq (dIf (dTB (dOp oEq (dCall (sp_law_take) (dCons (dVar 0) (dCons (dC (.int 3)) (dNil)))) (dC (.int 0)))) (dSeq (dSet 5 (dC (.str "abcdefghijklmnopqrstuvwxyzABCDEFGHIJKLMNOPQRSTUVWXYZ0123456789_"))) (dSet 4 (dOp oAdd (dOp oAdd (dVar 4) (dOp ixA (dVar 5) (dCall (sp_law_take) (dCons (dVar 0) (dCons (dC (.int 63)) (dNil)))))) (dOp ixA (dVar 5) (dCall (sp_law_take) (dCons (dVar 0) (dCons (dC (.int 63)) (dNil)))))))) (dSkip)) (dSeq (dFor (iR1 (dC (.int 60))) (gN 6) (dSeq (dSet 7 (dVar 4)) (dSeq (dIf (dTB (dOp oGt (dVar 6) (dC (.int 0)))) (dSet 7 (dOp oAdd (dOp oAdd (dVar 4) (dC (.str "_"))) (dCB oStrI (dCons (dVar 6) (dNil))))) (dSkip)) (dIf (dAnd (dTB (dOp oNotIn (dVar 7) (dVar 1))) (dTB (dOp oNotIn (dVar 7) (dVar 2)))) (dSeq (dDrop (dAppend (dVar 1) (dVar 7))) (dRet (dVar 7))) (dSkip))))) (dRet (dC (.str "unused")))))))
def t_law_sum_names (sp_law_sum_names : DSp) (k : Nat) : DTS := dSeq (dIf (dTB (dOp oEq (dOp ixA (dVar 0) (dC (.int 0))) (dC (.str "number")))) (dRet (dLst (dNil))) (dSkip)) (dSeq (dIf (dTB (dOp oEq (dOp ixA (dVar 0) (dC (.int 0))) (dC (.str "name")))) (dRet (dLst (dCons (dOp ixA (dVar 0) (dC (.int 1))) (dNil)))) (dSkip)) (dSeq (dIf (dTB (dOp oEq (dOp ixA (dVar 0) (dC (.int 0))) (dC (.str "times")))) (dRet (dCall (sp_law_sum_names) (dCons (dOp ixA (dVar 0) (dC (.int 2))) (dNil)))) (dSkip)) (dSeq (dIf (dOr (dTB (dOp oEq (dOp ixA (dVar 0) (dC (.int 0))) (dC (.str "over")))) (dTB (dOp oEq (dOp ixA (dVar 0) (dC (.int 0))) (dC (.str "rest"))))) (dRet (dCall (sp_law_sum_names) (dCons (dOp ixA (dVar 0) (dC (.int 1))) (dNil)))) (dSkip)) (dRet (dOp oAdd (dCall (sp_law_sum_names) (dCons (dOp ixA (dVar 0) (dC (.int 1))) (dNil))) (dCall (sp_law_sum_names) (dCons (dOp ixA (dVar 0) (dC (.int 2))) (dNil))))))))
def t_law_deep_sum (sp_law_deep_sum : DSp) (k : Nat) : DTS := dSeq (dSet 3 (dCall (sp_law_take) (dCons (dVar 0) (dCons (dC (.int 8)) (dNil))))) (dSeq (dIf (dOr (dTB (dOp oEq (dVar 2) (dC (.int 0)))) (dTB (dOp oEq (dVar 3) (dC (.int 0))))) (dRet (dOp ixA (dLst (dCons (dTup (dCons (dC (.str "name")) (dCons (dOp ixA (dVar 1) (dCall (sp_law_take) (dCons (dVar 0) (dCons (dCB oLen (dCons (dVar 1) (dNil))) (dNil))))) (dNil)))) (dCons (dTup (dCons (dC (.str "number")) (dCons (dCall (sp_law_number) (dCons (dVar 0) (dNil))) (dNil)))) (dNil)))) (dOp oDiv (dCall (sp_law_take) (dCons (dVar 0) (dCons (dC (.int 4)) (dNil)))) (dC (.int 3))))) (dSkip)) (dSeq (dSet 4 (dCall (sp_law_deep_sum) (dCons (dVar 0) (dCons (dVar 1) (dCons (dOp oSub (dVar 2) (dC (.int 1))) (dNil)))))) (dSeq (dIf (dTB (dOp oEq (dVar 3) (dC (.int 1)))) (dRet (dTup (dCons (dC (.str "plus")) (dCons (dVar 4) (dCons (dCall (sp_law_deep_sum) (dCons (dVar 0) (dCons (dVar 1) (dCons (dOp oSub (dVar 2) (dC (.int 1))) (dNil))))) (dNil)))))) (dSkip)) (dSeq (dIf (dTB (dOp oLt (dVar 3) (dC (.int 5)))) (dRet (dTup (dCons (dC (.str "minus")) (dCons (dVar 4) (dCons (dCall (sp_law_deep_sum) (dCons (dVar 0) (dCons (dVar 1) (dCons (dOp oSub (dVar 2) (dC (.int 1))) (dNil))))) (dNil)))))) (dSkip)) (dSeq (dIf (dTB (dOp oEq (dVar 3) (dC (.int 5)))) (dRet (dTup (dCons (dC (.str "times")) (dCons (dCall (sp_law_number) (dCons (dVar 0) (dNil))) (dCons (dVar 4) (dNil)))))) (dSkip)) (dRet (dTup (dCons (dOp ixA (dLst (dCons (dC (.str "over")) (dCons (dC (.str "rest")) (dNil)))) (dOp oSub (dVar 3) (dC (.int 6)))) (dCons (dVar 4) (dCons (dOp oAdd (dC (.int 1)) (dOp oDiv (dCall (sp_law_number) (dCons (dVar 0) (dNil))) (dC (.int 2)))) (dNil)))))))))))
def t_law_told (K : PySem.W.Frag) (cA cW : Addr) : DTS := dTry K EXN (fun EX => dRet (dCallX ((sp_value cA)) EX (dCons (dVar 0) (dCons (dVar 1) (dNil))))) [(.ref cA, dRet (dLst (dCons (dC (.str "at")) (dNil)))), (.ref cW, dRet (dLst (dCons (dC (.str "other")) (dNil))))]
def t_law_unfit : DTS := dSeq (dSet 4 (dCB oDict (dCons (dVar 2) (dNil)))) (dSeq (dSet 5 (dCall (sp_law_take) (dCons (dVar 0) (dCons (dC (.int 6)) (dNil))))) (dSeq (dIf (dTB (dOp oEq (dVar 5) (dC (.int 5)))) (dDrop (dPopK (dVar 4) (dVar 3))) (dSetK (dOp ixA (dLst (dCons (dC .non) (dCons (dNeg (dC (.int 1))) (dCons (dC (.bl true)) (dCons (dC (.str "7")) (dCons (dLst (dCons (dC (.int 1)) (dNil))) (dNil))))))) (dVar 5)) (dVar 4) (dVar 3))) (dSeq (dSet 6 (dLst (dCons (dC (.str "at")) (dNil)))) (dSeq (dIf (dTB (dOp oNotIn (dVar 3) (dCall ((sp_law_sum_names 6)) (dCons (dVar 1) (dNil))))) (dSet 6 (dCall ((sp_law_worth 6)) (dCons (dVar 1) (dCons (dVar 2) (dNil))))) (dSkip)) (dRet (dCall (sp_law_kind_same) (dCons (dCall (sp_law_told) (dCons (dVar 1) (dCons (dVar 4) (dNil)))) (dCons (dVar 6) (dNil)))))))))
def t_law (cA : Addr) : DTS := dSeq (dSet 1 (dCall (sp_law_bag) (dCons (dVar 0) (dNil)))) (dSeq (dSet 2 (dLst (dNil))) (dSeq (dFor (iR1 (dC (.int 3))) (gN 3) (dDrop (dCall (sp_law_name) (dCons (dVar 1) (dCons (dVar 2) (dNil)))))) (dSeq (dSetL (dC (.str "x'7")) (dVar 2) (dC (.int 2))) (dSeq (dFor (iR1 (dC (.int 4))) (gN 4) (dSeq (dSet 5 (dCall ((sp_law_deep_sum 5)) (dCons (dVar 1) (dCons (dVar 2) (dCons (dC (.int 5)) (dNil)))))) (dSeq (dSet 6 (dDisp [(dC (.str ""), dC .non), (dC (.str "other"), dNeg (dC (.int 1)))])) (dSeq (dFor (iD (dVar 2)) (gN 7) (dSetK (dOp ixA (dLst (dCons (dCall (sp_law_take) (dCons (dVar 1) (dCons (dC (.int 20)) (dNil)))) (dCons (dOp oAdd (dOp oMul (dOp oMul (dOp oPow (dC (.int 10)) (dC (.int 60))) (dOp oPow (dC (.int 10)) (dC (.int 60)))) (dOp oPow (dC (.int 10)) (dC (.int 60)))) (dCall (sp_law_take) (dCons (dVar 1) (dCons (dOp oPow (dC (.int 10)) (dC (.int 9))) (dNil))))) (dCons (dCall (sp_law_number) (dCons (dVar 1) (dNil))) (dNil))))) (dCall (sp_law_take) (dCons (dVar 1) (dCons (dC (.int 3)) (dNil))))) (dVar 6) (dVar 7))) (dSeq (dSet 8 (dCB oDict (dCons (dVar 6) (dNil)))) (dSeq (dSet 9 (dCall ((sp_law_worth 6)) (dCons (dVar 5) (dCons (dVar 6) (dNil))))) (dSeq (dIf (dOr (dNot (dTru (dCall (sp_law_kind_same) (dCons (dCall (sp_law_told) (dCons (dVar 5) (dCons (dVar 6) (dNil)))) (dCons (dVar 9) (dNil)))))) (dNot (dTru (dCall (sp_law_kind_same) (dCons (dCallK2 ((sp_value cA)) (dCons (dVar 6) (dCons (dVar 5) (dNil)))) (dCons (dVar 9) (dNil))))))) (dRet (dC (.bl false))) (dSkip)) (dIf (dOr (dTB (dOp neK (dVar 6) (dVar 8))) (dNot (dTru (dCall (sp_law_unfit) (dCons (dVar 1) (dCons (dVar 5) (dCons (dVar 6) (dCons (dOp ixA (dVar 2) (dCall (sp_law_take) (dCons (dVar 1) (dCons (dC (.int 3)) (dNil))))) (dNil))))))))) (dRet (dC (.bl false))) (dSkip))))))))) (dRet (dC (.bl true)))))))
end K07
end
section
namespace K07
open PySem L2 DL DLZ TR TS PyProof.Rows
local macro_rules | `(tactic| walk_at "st") => `(tactic| ((with_reducible refine ifT ?he ?_); (case he => rfl)))
local macro_rules | `(tactic| walk_at "st") => `(tactic| ((with_reducible refine ifF ?he ?_); (case he => rfl)))
local macro_rules | `(tactic| walk_at "st") => `(tactic| ((with_reducible refine ifT ?he ?_); (case he => decide +kernel)))
local macro_rules | `(tactic| walk_at "st") => `(tactic| ((with_reducible refine ifF ?he ?_); (case he => decide +kernel)))
local macro_rules | `(tactic| walk_at "st") => `(tactic| ((with_reducible refine i_isiT (T := ?tt) (b := false) ?he ?hf ?_); (case he => rfl); (case hf => decide +kernel)))
local macro_rules | `(tactic| walk_at "st") => `(tactic| ((with_reducible refine i_isi (T := ?tt) (b := false) ?he ?hf ?_); (case he => rfl); (case hf => decide +kernel)))
local macro_rules | `(tactic| walk_at "st") => `(tactic| ((with_reducible refine i_isiT (T := ?tt) (b := true) ?he ?hf ?_); (case he => rfl); (case hf => decide +kernel)))
local macro_rules | `(tactic| walk_at "st") => `(tactic| ((with_reducible refine i_isi (T := ?tt) (b := true) ?he ?hf ?_); (case he => rfl); (case hf => decide +kernel)))
local macro_rules | `(tactic| walk_at "st") => `(tactic| ((with_reducible refine i_len ?he ?_); (case he => rfl)))
local macro_rules | `(tactic| walk_at "st") => `(tactic| ((with_reducible refine i_niT (v := ?vv) (us := ?uu) ?he ?hf ?_); (case he => rfl); (case hf => rfl)))
local macro_rules | `(tactic| walk_at "st") => `(tactic| ((with_reducible refine i_inT (v := ?vv) (us := ?uu) ?he ?hf ?_); (case he => rfl); (case hf => rfl)))
local macro_rules | `(tactic| walk_at "st") => `(tactic| ((with_reducible refine i_ixC (d := ?dd) ?he ?_); (case he => rfl)))
local macro_rules | `(tactic| walk_at "st") => `(tactic| ((with_reducible refine i_ixT (d := ?dd) ?he ?_); (case he => rfl)))
local macro_rules | `(tactic| walk_at "st") => `(tactic| ((with_reducible refine i_aug (x := ?dd) ?he ?_); (case he => rfl)))
local macro_rules | `(tactic| walk_at "st") => `(tactic| ((with_reducible refine i_var (d := ?dd) ?he ?_); (case he => rfl)))
local macro_rules | `(tactic| walk_at "st") => `(tactic| with_reducible refine i_neE ?_)
local macro_rules | `(tactic| walk_at "st") => `(tactic| with_reducible refine i_eqE ?_)
local macro_rules | `(tactic| walk_at "st") => `(tactic| with_reducible refine i_iRev ?_)
local macro_rules | `(tactic| walk_at "st") => `(tactic| with_reducible refine i_iStr ?_)
local macro_rules | `(tactic| walk_at "st") => `(tactic| with_reducible refine i_join ?_)
local macro_rules | `(tactic| walk_at "st") => `(tactic| with_reducible refine i_extendT ?_)
local macro_rules | `(tactic| walk_at "st") => `(tactic| with_reducible refine i_iZip ?_)
local macro_rules | `(tactic| walk_at "st") => `(tactic| with_reducible refine i_delFrom ?_)
local macro_rules | `(tactic| walk_at "st") => `(tactic| with_reducible refine i_max2 ?_)
local macro_rules | `(tactic| walk_at "st") => `(tactic| with_reducible refine i_strS ?_)
local macro_rules | `(tactic| walk_at "st") => `(tactic| with_reducible refine i_fmt ?_)
local macro_rules | `(tactic| walk_at "st") => `(tactic| with_reducible refine i_jnil ?_)
local macro_rules | `(tactic| walk_at "st") => `(tactic| with_reducible refine i_jcons ?_)
local macro_rules | `(tactic| walk_at "st") => `(tactic| with_reducible refine i_joined ?_)
local macro_rules | `(tactic| walk_at "st") => `(tactic| with_reducible refine i_truN ?_)
local macro_rules | `(tactic| walk_at "st") => `(tactic| with_reducible refine i_truT ?_)
local macro_rules | `(tactic| walk_at "st") => `(tactic| with_reducible refine i_truI ?_)
local macro_rules | `(tactic| walk_at "st") => `(tactic| with_reducible refine i_truB ?_)
local macro_rules | `(tactic| walk_at "st") => `(tactic| with_reducible refine i_tupT ?_)
local macro_rules | `(tactic| walk_at "st") => `(tactic| with_reducible refine i_slT ?_)
local macro_rules | `(tactic| walk_at "st") => `(tactic| with_reducible refine i_lenC ?_)
local macro_rules | `(tactic| walk_at "st") => `(tactic| with_reducible refine i_lenT ?_)
local macro_rules | `(tactic| walk_at "st") => `(tactic| with_reducible refine i_int1 ?_)
local macro_rules | `(tactic| walk_at "st") => `(tactic| with_reducible refine i_int ?_)
local macro_rules | `(tactic| walk_at "st") => `(tactic| with_reducible refine i_addII ?_)
local macro_rules | `(tactic| walk_at "st") => `(tactic| with_reducible refine i_addI ?_)
local macro_rules | `(tactic| walk_at "st") => `(tactic| with_reducible refine i_noN ?_)
local macro_rules | `(tactic| walk_at "st") => `(tactic| with_reducible refine i_isN ?_)
local macro_rules | `(tactic| walk_at "st") => `(tactic| with_reducible refine i_neS ?_)
local macro_rules | `(tactic| walk_at "st") => `(tactic| with_reducible refine i_neI ?_)
local macro_rules | `(tactic| walk_at "st") => `(tactic| with_reducible refine i_eqB ?_)
local macro_rules | `(tactic| walk_at "st") => `(tactic| with_reducible refine i_eqS ?_)
local macro_rules | `(tactic| walk_at "st") => `(tactic| with_reducible refine i_eqI ?_)
local macro_rules | `(tactic| walk_at "st") => `(tactic| with_reducible refine i_yes ?_)
local macro_rules | `(tactic| walk_at "st") => `(tactic| with_reducible refine i_gNi ?_)
local macro_rules | `(tactic| walk_at "st") => `(tactic| with_reducible refine i_gCo ?_)
local macro_rules | `(tactic| walk_at "st") => `(tactic| with_reducible refine i_gTu ?_)
local macro_rules | `(tactic| walk_at "st") => `(tactic| with_reducible refine i_gN ?_)
local macro_rules | `(tactic| walk_at "st") => `(tactic| with_reducible refine i_iR1 ?_)
local macro_rules | `(tactic| walk_at "st") => `(tactic| with_reducible refine i_iD ?_)
local macro_rules | `(tactic| walk_at "st") => `(tactic| with_reducible refine i_cdG ?_)
local macro_rules | `(tactic| walk_at "st") => `(tactic| with_reducible refine i_reverse ?_)
local macro_rules | `(tactic| walk_at "st") => `(tactic| with_reducible refine i_pop ?_)
local macro_rules | `(tactic| walk_at "st") => `(tactic| with_reducible refine i_extend ?_)
local macro_rules | `(tactic| walk_at "st") => `(tactic| with_reducible refine i_append ?_)
local macro_rules | `(tactic| walk_at "st") => `(tactic| with_reducible refine i_someP ?_)
local macro_rules | `(tactic| walk_at "st") => `(tactic| with_reducible refine i_noP ?_)
local macro_rules | `(tactic| walk_at "st") => `(tactic| with_reducible refine i_sl ?_)
local macro_rules | `(tactic| walk_at "st") => `(tactic| with_reducible refine i_call ?_)
local macro_rules | `(tactic| walk_at "st") => `(tactic| with_reducible refine i_cb ?_)
local macro_rules | `(tactic| walk_at "st") => `(tactic| with_reducible refine i_neg1 ?_)
local macro_rules | `(tactic| walk_at "st") => `(tactic| with_reducible refine i_neg ?_)
local macro_rules | `(tactic| walk_at "st") => `(tactic| with_reducible refine i_ifE ?_)
local macro_rules | `(tactic| walk_at "st") => `(tactic| with_reducible refine i_notV ?_)
local macro_rules | `(tactic| walk_at "st") => `(tactic| with_reducible refine i_orV ?_)
local macro_rules | `(tactic| walk_at "st") => `(tactic| with_reducible refine i_andV ?_)
local macro_rules | `(tactic| walk_at "st") => `(tactic| with_reducible refine i_not ?_)
local macro_rules | `(tactic| walk_at "st") => `(tactic| with_reducible refine i_or ?_)
local macro_rules | `(tactic| walk_at "st") => `(tactic| with_reducible refine i_and ?_)
local macro_rules | `(tactic| walk_at "st") => `(tactic| with_reducible refine i_tru ?_)
local macro_rules | `(tactic| walk_at "st") => `(tactic| with_reducible refine i_bl ?_)
local macro_rules | `(tactic| walk_at "st") => `(tactic| with_reducible refine i_tb ?_)
local macro_rules | `(tactic| walk_at "st") => `(tactic| with_reducible refine i_cons ?_)
local macro_rules | `(tactic| walk_at "st") => `(tactic| with_reducible refine i_nil ?_)
local macro_rules | `(tactic| walk_at "st") => `(tactic| with_reducible refine i_lst ?_)
local macro_rules | `(tactic| walk_at "st") => `(tactic| with_reducible refine i_tup ?_)
local macro_rules | `(tactic| walk_at "st") => `(tactic| with_reducible refine i_op ?_)
local macro_rules | `(tactic| walk_at "st") => `(tactic| with_reducible refine i_c ?_)
local macro_rules | `(tactic| walk_at "st") => `(tactic| with_reducible refine i_par2 ?_)
local macro_rules | `(tactic| walk_at "st") => `(tactic| with_reducible refine i_par ?_)
local macro_rules | `(tactic| walk_at "st") => `(tactic| with_reducible refine i_setL ?_)
local macro_rules | `(tactic| walk_at "st") => `(tactic| with_reducible refine i_cnt ?_)
local macro_rules | `(tactic| walk_at "st") => `(tactic| with_reducible refine i_brk ?_)
local macro_rules | `(tactic| walk_at "st") => `(tactic| with_reducible refine i_skip ?_)
local macro_rules | `(tactic| walk_at "st") => `(tactic| with_reducible refine i_if ?_)
local macro_rules | `(tactic| walk_at "st") => `(tactic| with_reducible refine i_retN ?_)
local macro_rules | `(tactic| walk_at "st") => `(tactic| with_reducible refine i_ret ?_)
local macro_rules | `(tactic| walk_at "st") => `(tactic| with_reducible refine i_drop ?_)
local macro_rules | `(tactic| walk_at "st") => `(tactic| with_reducible refine i_asg ?_)
local macro_rules | `(tactic| walk_at "st") => `(tactic| with_reducible refine i_set2 ?_)
local macro_rules | `(tactic| walk_at "st") => `(tactic| with_reducible refine i_set ?_)
local macro_rules | `(tactic| walk_at "st") => `(tactic| with_reducible refine i_seq ?_)
local macro_rules | `(tactic| walk_at "sts") => `(tactic| repeat walk_at "st")
theorem rd_is_number (ds : List D) (S : Sto) (Q : DK) (E : DX) (h : sp_is_number ds S Q E) : t_is_number { nx := fun _ S' => Dn Q .non S', rt := Dn Q } (startD 3 ds) S := by
  unfold t_is_number
  rcases h with ⟨n, lo, hi, rfl, q⟩ | ⟨v, b, w, rfl, q⟩
  · walk_at "sts"
    refine ifD (fun h1 => ?_) fun h1 => ?_
    · walk_at "sts"
      rw [decide_eq_true h1] at q
      exact i_dn q
    · walk_at "sts"
      rw [decide_eq_false h1] at q
      rw [decide_eq_false h1]
      exact i_dn q
  · cases w with
    | int n =>
      walk_at "sts"
      refine ifD (fun h1 => ?_) fun h1 => ?_
      · walk_at "sts"
        rw [decide_eq_true h1] at q
        exact i_dn q
      · walk_at "sts"
        rw [decide_eq_false h1] at q
        rw [decide_eq_false h1]
        exact i_dn q
    | non =>
      walk_at "sts"
      exact i_dn q
    | bl b =>
      walk_at "sts"
      exact i_dn q
    | str s =>
      walk_at "sts"
      exact i_dn q
    | lst hl =>
      walk_at "sts"
      refine i_isi (T := "list") (b := false) (by show (match S _ with | some (.lst _) => some "list" | some (.dic _ _) => some "dict" | _ => none) = _; rw [hl]) (by decide +kernel) ?_
      walk_at "sts"
      exact i_dn q
theorem rd_is_whole (ds : List D) (S : Sto) (Q : DK) (E : DX) (h : sp_is_whole ds S Q E) : t_is_whole { nx := fun _ S' => Dn Q .non S', rt := Dn Q } (startD 1 ds) S := by
  obtain ⟨v, b, w, rfl, q⟩ := h
  unfold t_is_whole
  walk_at "sts"
  exact .inr ⟨v, b, w, rfl, i_dn q⟩
theorem rd_is_leaf (ds : List D) (S : Sto) (Q : DK) (E : DX) (h : sp_is_leaf ds S Q E) : t_is_leaf { nx := fun _ S' => Dn Q .non S', rt := Dn Q } (startD 3 ds) S := by
  obtain ⟨v, k, rfl, l, q⟩ := h
  unfold t_is_leaf
  rcases l with ⟨n, rfl, hn, rfl | ⟨rfl, h1⟩⟩ | ⟨s, rfl, rfl, hs⟩
  · walk_at "sts"
    refine .inl ⟨n, 0, 999999, rfl, ?_⟩
    rw [decide_eq_true (by omega : (0 : Int) ≤ n), decide_eq_true (by omega : (n : Int) ≤ 999999)]
    walk_at "sts"
    exact i_dn q
  · walk_at "sts"
    refine .inl ⟨n, 1, 999999, rfl, ?_⟩
    rw [decide_eq_true (by omega : (1 : Int) ≤ n), decide_eq_true (by omega : (n : Int) ≤ 999999)]
    walk_at "sts"
    exact i_dn q
  · walk_at "sts"
    rw [decide_eq_false hs]
    exact i_dn q
theorem rd_fields_of (ds : List D) (S : Sto) (Q : DK) (E : DX) (h : sp_fields_of ds S Q E) : t_fields_of { nx := fun _ S' => Dn Q .non S', rt := Dn Q } (startD 3 ds) S := by
  obtain ⟨t, rfl, q⟩ := h
  unfold t_fields_of
  rcases t with n | s | ⟨o, a, b⟩ | ⟨n, a⟩ | ⟨o, a, n⟩ | a | ⟨o, x, a⟩
  · simp only [Tr.d, Tr.kind, Tr.flds, Op2.w, Op2.kind, Op2.sub, Opd.w, Qn.w, List.map] at q ⊢
    walk_at "sts"
    refine ⟨_, _, rfl, ?_⟩
    walk_at "sts"
    refine ⟨by decide +kernel, .tup [.str "whole"], rfl, ?_⟩
    walk_at "sts"
    exact i_dn q
  · simp only [Tr.d, Tr.kind, Tr.flds, Op2.w, Op2.kind, Op2.sub, Opd.w, Qn.w, List.map] at q ⊢
    walk_at "sts"
    refine ⟨_, _, rfl, ?_⟩
    walk_at "sts"
    refine ⟨by decide +kernel, .tup [.str "word"], rfl, ?_⟩
    walk_at "sts"
    exact i_dn q
  · cases o
    · simp only [Tr.d, Tr.kind, Tr.flds, Op2.w, Op2.kind, Op2.sub, Opd.w, Qn.w, List.map] at q ⊢
      walk_at "sts"
      refine ⟨_, _, rfl, ?_⟩
      walk_at "sts"
      refine ⟨by decide +kernel, .tup [.str "sum", .str "sum"], rfl, ?_⟩
      walk_at "sts"
      exact i_dn q
    · simp only [Tr.d, Tr.kind, Tr.flds, Op2.w, Op2.kind, Op2.sub, Opd.w, Qn.w, List.map] at q ⊢
      walk_at "sts"
      refine ⟨_, _, rfl, ?_⟩
      walk_at "sts"
      refine ⟨by decide +kernel, .tup [.str "sum", .str "sum"], rfl, ?_⟩
      walk_at "sts"
      exact i_dn q
    · simp only [Tr.d, Tr.kind, Tr.flds, Op2.w, Op2.kind, Op2.sub, Opd.w, Qn.w, List.map] at q ⊢
      walk_at "sts"
      refine ⟨_, _, rfl, ?_⟩
      walk_at "sts"
      refine ⟨by decide +kernel, .tup [.str "sum", .str "sum"], rfl, ?_⟩
      walk_at "sts"
      exact i_dn q
    · simp only [Tr.d, Tr.kind, Tr.flds, Op2.w, Op2.kind, Op2.sub, Opd.w, Qn.w, List.map] at q ⊢
      walk_at "sts"
      refine ⟨_, _, rfl, ?_⟩
      walk_at "sts"
      refine ⟨by decide +kernel, .tup [.str "sum", .str "sum"], rfl, ?_⟩
      walk_at "sts"
      exact i_dn q
    · simp only [Tr.d, Tr.kind, Tr.flds, Op2.w, Op2.kind, Op2.sub, Opd.w, Qn.w, List.map] at q ⊢
      walk_at "sts"
      refine ⟨_, _, rfl, ?_⟩
      walk_at "sts"
      refine ⟨by decide +kernel, .tup [.str "sum", .str "sum"], rfl, ?_⟩
      walk_at "sts"
      exact i_dn q
    · simp only [Tr.d, Tr.kind, Tr.flds, Op2.w, Op2.kind, Op2.sub, Opd.w, Qn.w, List.map] at q ⊢
      walk_at "sts"
      refine ⟨_, _, rfl, ?_⟩
      walk_at "sts"
      refine ⟨by decide +kernel, .tup [.str "sum", .str "sum"], rfl, ?_⟩
      walk_at "sts"
      exact i_dn q
    · simp only [Tr.d, Tr.kind, Tr.flds, Op2.w, Op2.kind, Op2.sub, Opd.w, Qn.w, List.map] at q ⊢
      walk_at "sts"
      refine ⟨_, _, rfl, ?_⟩
      walk_at "sts"
      refine ⟨by decide +kernel, .tup [.str "sum", .str "sum"], rfl, ?_⟩
      walk_at "sts"
      exact i_dn q
    · simp only [Tr.d, Tr.kind, Tr.flds, Op2.w, Op2.kind, Op2.sub, Opd.w, Qn.w, List.map] at q ⊢
      walk_at "sts"
      refine ⟨_, _, rfl, ?_⟩
      walk_at "sts"
      refine ⟨by decide +kernel, .tup [.str "sum", .str "sum"], rfl, ?_⟩
      walk_at "sts"
      exact i_dn q
    · simp only [Tr.d, Tr.kind, Tr.flds, Op2.w, Op2.kind, Op2.sub, Opd.w, Qn.w, List.map] at q ⊢
      walk_at "sts"
      refine ⟨_, _, rfl, ?_⟩
      walk_at "sts"
      refine ⟨by decide +kernel, .tup [.str "formula", .str "formula"], rfl, ?_⟩
      walk_at "sts"
      exact i_dn q
    · simp only [Tr.d, Tr.kind, Tr.flds, Op2.w, Op2.kind, Op2.sub, Opd.w, Qn.w, List.map] at q ⊢
      walk_at "sts"
      refine ⟨_, _, rfl, ?_⟩
      walk_at "sts"
      refine ⟨by decide +kernel, .tup [.str "formula", .str "formula"], rfl, ?_⟩
      walk_at "sts"
      exact i_dn q
  · simp only [Tr.d, Tr.kind, Tr.flds, Op2.w, Op2.kind, Op2.sub, Opd.w, Qn.w, List.map] at q ⊢
    walk_at "sts"
    refine ⟨_, _, rfl, ?_⟩
    walk_at "sts"
    refine ⟨by decide +kernel, .tup [.str "whole", .str "sum"], rfl, ?_⟩
    walk_at "sts"
    exact i_dn q
  · cases o
    · simp only [Tr.d, Tr.kind, Tr.flds, Op2.w, Op2.kind, Op2.sub, Opd.w, Qn.w, List.map] at q ⊢
      walk_at "sts"
      refine ⟨_, _, rfl, ?_⟩
      walk_at "sts"
      refine ⟨by decide +kernel, .tup [.str "sum", .str "divisor"], rfl, ?_⟩
      walk_at "sts"
      exact i_dn q
    · simp only [Tr.d, Tr.kind, Tr.flds, Op2.w, Op2.kind, Op2.sub, Opd.w, Qn.w, List.map] at q ⊢
      walk_at "sts"
      refine ⟨_, _, rfl, ?_⟩
      walk_at "sts"
      refine ⟨by decide +kernel, .tup [.str "sum", .str "divisor"], rfl, ?_⟩
      walk_at "sts"
      exact i_dn q
  · simp only [Tr.d, Tr.kind, Tr.flds, Op2.w, Op2.kind, Op2.sub, Opd.w, Qn.w, List.map] at q ⊢
    walk_at "sts"
    refine ⟨_, _, rfl, ?_⟩
    walk_at "sts"
    refine ⟨by decide +kernel, .tup [.str "formula"], rfl, ?_⟩
    walk_at "sts"
    exact i_dn q
  · cases o
    · simp only [Tr.d, Tr.kind, Tr.flds, Op2.w, Op2.kind, Op2.sub, Opd.w, Qn.w, List.map] at q ⊢
      walk_at "sts"
      refine ⟨_, _, rfl, ?_⟩
      walk_at "sts"
      refine ⟨by decide +kernel, .tup [.str "word", .str "formula"], rfl, ?_⟩
      walk_at "sts"
      exact i_dn q
    · simp only [Tr.d, Tr.kind, Tr.flds, Op2.w, Op2.kind, Op2.sub, Opd.w, Qn.w, List.map] at q ⊢
      walk_at "sts"
      refine ⟨_, _, rfl, ?_⟩
      walk_at "sts"
      refine ⟨by decide +kernel, .tup [.str "word", .str "formula"], rfl, ?_⟩
      walk_at "sts"
      exact i_dn q
end K07
end
section
namespace K07
open PySem L2 DL DLZ TR TS PyProof.Rows
local macro_rules | `(tactic| walk_at "st") => `(tactic| ((with_reducible refine ifT ?he ?_); (case he => rfl)))
local macro_rules | `(tactic| walk_at "st") => `(tactic| ((with_reducible refine ifF ?he ?_); (case he => rfl)))
local macro_rules | `(tactic| walk_at "st") => `(tactic| ((with_reducible refine ifT ?he ?_); (case he => decide +kernel)))
local macro_rules | `(tactic| walk_at "st") => `(tactic| ((with_reducible refine ifF ?he ?_); (case he => decide +kernel)))
local macro_rules | `(tactic| walk_at "st") => `(tactic| ((with_reducible refine i_isiT (T := ?tt) (b := false) ?he ?hf ?_); (case he => rfl); (case hf => decide +kernel)))
local macro_rules | `(tactic| walk_at "st") => `(tactic| ((with_reducible refine i_isi (T := ?tt) (b := false) ?he ?hf ?_); (case he => rfl); (case hf => decide +kernel)))
local macro_rules | `(tactic| walk_at "st") => `(tactic| ((with_reducible refine i_isiT (T := ?tt) (b := true) ?he ?hf ?_); (case he => rfl); (case hf => decide +kernel)))
local macro_rules | `(tactic| walk_at "st") => `(tactic| ((with_reducible refine i_isi (T := ?tt) (b := true) ?he ?hf ?_); (case he => rfl); (case hf => decide +kernel)))
local macro_rules | `(tactic| walk_at "st") => `(tactic| ((with_reducible refine i_len ?he ?_); (case he => rfl)))
local macro_rules | `(tactic| walk_at "st") => `(tactic| ((with_reducible refine i_niT (v := ?vv) (us := ?uu) ?he ?hf ?_); (case he => rfl); (case hf => rfl)))
local macro_rules | `(tactic| walk_at "st") => `(tactic| ((with_reducible refine i_inT (v := ?vv) (us := ?uu) ?he ?hf ?_); (case he => rfl); (case hf => rfl)))
local macro_rules | `(tactic| walk_at "st") => `(tactic| ((with_reducible refine i_ixC (d := ?dd) ?he ?_); (case he => rfl)))
local macro_rules | `(tactic| walk_at "st") => `(tactic| ((with_reducible refine i_ixT (d := ?dd) ?he ?_); (case he => rfl)))
local macro_rules | `(tactic| walk_at "st") => `(tactic| ((with_reducible refine i_aug (x := ?dd) ?he ?_); (case he => rfl)))
local macro_rules | `(tactic| walk_at "st") => `(tactic| ((with_reducible refine i_var (d := ?dd) ?he ?_); (case he => rfl)))
local macro_rules | `(tactic| walk_at "st") => `(tactic| with_reducible refine i_neE ?_)
local macro_rules | `(tactic| walk_at "st") => `(tactic| with_reducible refine i_eqE ?_)
local macro_rules | `(tactic| walk_at "st") => `(tactic| with_reducible refine i_iRev ?_)
local macro_rules | `(tactic| walk_at "st") => `(tactic| with_reducible refine i_iStr ?_)
local macro_rules | `(tactic| walk_at "st") => `(tactic| with_reducible refine i_join ?_)
local macro_rules | `(tactic| walk_at "st") => `(tactic| with_reducible refine i_extendT ?_)
local macro_rules | `(tactic| walk_at "st") => `(tactic| with_reducible refine i_iZip ?_)
local macro_rules | `(tactic| walk_at "st") => `(tactic| with_reducible refine i_delFrom ?_)
local macro_rules | `(tactic| walk_at "st") => `(tactic| with_reducible refine i_max2 ?_)
local macro_rules | `(tactic| walk_at "st") => `(tactic| with_reducible refine i_strS ?_)
local macro_rules | `(tactic| walk_at "st") => `(tactic| with_reducible refine i_fmt ?_)
local macro_rules | `(tactic| walk_at "st") => `(tactic| with_reducible refine i_jnil ?_)
local macro_rules | `(tactic| walk_at "st") => `(tactic| with_reducible refine i_jcons ?_)
local macro_rules | `(tactic| walk_at "st") => `(tactic| with_reducible refine i_joined ?_)
local macro_rules | `(tactic| walk_at "st") => `(tactic| with_reducible refine i_truN ?_)
local macro_rules | `(tactic| walk_at "st") => `(tactic| with_reducible refine i_truT ?_)
local macro_rules | `(tactic| walk_at "st") => `(tactic| with_reducible refine i_truI ?_)
local macro_rules | `(tactic| walk_at "st") => `(tactic| with_reducible refine i_truB ?_)
local macro_rules | `(tactic| walk_at "st") => `(tactic| with_reducible refine i_tupT ?_)
local macro_rules | `(tactic| walk_at "st") => `(tactic| with_reducible refine i_slT ?_)
local macro_rules | `(tactic| walk_at "st") => `(tactic| with_reducible refine i_lenC ?_)
local macro_rules | `(tactic| walk_at "st") => `(tactic| with_reducible refine i_lenT ?_)
local macro_rules | `(tactic| walk_at "st") => `(tactic| with_reducible refine i_int1 ?_)
local macro_rules | `(tactic| walk_at "st") => `(tactic| with_reducible refine i_int ?_)
local macro_rules | `(tactic| walk_at "st") => `(tactic| with_reducible refine i_addII ?_)
local macro_rules | `(tactic| walk_at "st") => `(tactic| with_reducible refine i_addI ?_)
local macro_rules | `(tactic| walk_at "st") => `(tactic| with_reducible refine i_noN ?_)
local macro_rules | `(tactic| walk_at "st") => `(tactic| with_reducible refine i_isN ?_)
local macro_rules | `(tactic| walk_at "st") => `(tactic| with_reducible refine i_neS ?_)
local macro_rules | `(tactic| walk_at "st") => `(tactic| with_reducible refine i_neI ?_)
local macro_rules | `(tactic| walk_at "st") => `(tactic| with_reducible refine i_eqB ?_)
local macro_rules | `(tactic| walk_at "st") => `(tactic| with_reducible refine i_eqS ?_)
local macro_rules | `(tactic| walk_at "st") => `(tactic| with_reducible refine i_eqI ?_)
local macro_rules | `(tactic| walk_at "st") => `(tactic| with_reducible refine i_yes ?_)
local macro_rules | `(tactic| walk_at "st") => `(tactic| with_reducible refine i_gNi ?_)
local macro_rules | `(tactic| walk_at "st") => `(tactic| with_reducible refine i_gCo ?_)
local macro_rules | `(tactic| walk_at "st") => `(tactic| with_reducible refine i_gTu ?_)
local macro_rules | `(tactic| walk_at "st") => `(tactic| with_reducible refine i_gN ?_)
local macro_rules | `(tactic| walk_at "st") => `(tactic| with_reducible refine i_iR1 ?_)
local macro_rules | `(tactic| walk_at "st") => `(tactic| with_reducible refine i_iD ?_)
local macro_rules | `(tactic| walk_at "st") => `(tactic| with_reducible refine i_cdG ?_)
local macro_rules | `(tactic| walk_at "st") => `(tactic| with_reducible refine i_reverse ?_)
local macro_rules | `(tactic| walk_at "st") => `(tactic| with_reducible refine i_pop ?_)
local macro_rules | `(tactic| walk_at "st") => `(tactic| with_reducible refine i_extend ?_)
local macro_rules | `(tactic| walk_at "st") => `(tactic| with_reducible refine i_append ?_)
local macro_rules | `(tactic| walk_at "st") => `(tactic| with_reducible refine i_someP ?_)
local macro_rules | `(tactic| walk_at "st") => `(tactic| with_reducible refine i_noP ?_)
local macro_rules | `(tactic| walk_at "st") => `(tactic| with_reducible refine i_sl ?_)
local macro_rules | `(tactic| walk_at "st") => `(tactic| with_reducible refine i_call ?_)
local macro_rules | `(tactic| walk_at "st") => `(tactic| with_reducible refine i_cb ?_)
local macro_rules | `(tactic| walk_at "st") => `(tactic| with_reducible refine i_neg1 ?_)
local macro_rules | `(tactic| walk_at "st") => `(tactic| with_reducible refine i_neg ?_)
local macro_rules | `(tactic| walk_at "st") => `(tactic| with_reducible refine i_ifE ?_)
local macro_rules | `(tactic| walk_at "st") => `(tactic| with_reducible refine i_notV ?_)
local macro_rules | `(tactic| walk_at "st") => `(tactic| with_reducible refine i_orV ?_)
local macro_rules | `(tactic| walk_at "st") => `(tactic| with_reducible refine i_andV ?_)
local macro_rules | `(tactic| walk_at "st") => `(tactic| with_reducible refine i_not ?_)
local macro_rules | `(tactic| walk_at "st") => `(tactic| with_reducible refine i_or ?_)
local macro_rules | `(tactic| walk_at "st") => `(tactic| with_reducible refine i_and ?_)
local macro_rules | `(tactic| walk_at "st") => `(tactic| with_reducible refine i_tru ?_)
local macro_rules | `(tactic| walk_at "st") => `(tactic| with_reducible refine i_bl ?_)
local macro_rules | `(tactic| walk_at "st") => `(tactic| with_reducible refine i_tb ?_)
local macro_rules | `(tactic| walk_at "st") => `(tactic| with_reducible refine i_cons ?_)
local macro_rules | `(tactic| walk_at "st") => `(tactic| with_reducible refine i_nil ?_)
local macro_rules | `(tactic| walk_at "st") => `(tactic| with_reducible refine i_lst ?_)
local macro_rules | `(tactic| walk_at "st") => `(tactic| with_reducible refine i_tup ?_)
local macro_rules | `(tactic| walk_at "st") => `(tactic| with_reducible refine i_op ?_)
local macro_rules | `(tactic| walk_at "st") => `(tactic| with_reducible refine i_c ?_)
local macro_rules | `(tactic| walk_at "st") => `(tactic| with_reducible refine i_par2 ?_)
local macro_rules | `(tactic| walk_at "st") => `(tactic| with_reducible refine i_par ?_)
local macro_rules | `(tactic| walk_at "st") => `(tactic| with_reducible refine i_setL ?_)
local macro_rules | `(tactic| walk_at "st") => `(tactic| with_reducible refine i_cnt ?_)
local macro_rules | `(tactic| walk_at "st") => `(tactic| with_reducible refine i_brk ?_)
local macro_rules | `(tactic| walk_at "st") => `(tactic| with_reducible refine i_skip ?_)
local macro_rules | `(tactic| walk_at "st") => `(tactic| with_reducible refine i_if ?_)
local macro_rules | `(tactic| walk_at "st") => `(tactic| with_reducible refine i_retN ?_)
local macro_rules | `(tactic| walk_at "st") => `(tactic| with_reducible refine i_ret ?_)
local macro_rules | `(tactic| walk_at "st") => `(tactic| with_reducible refine i_drop ?_)
local macro_rules | `(tactic| walk_at "st") => `(tactic| with_reducible refine i_asg ?_)
local macro_rules | `(tactic| walk_at "st") => `(tactic| with_reducible refine i_set2 ?_)
local macro_rules | `(tactic| walk_at "st") => `(tactic| with_reducible refine i_set ?_)
local macro_rules | `(tactic| walk_at "st") => `(tactic| with_reducible refine i_seq ?_)
local macro_rules | `(tactic| walk_at "sts") => `(tactic| repeat walk_at "st")
structure ShW (t : Tr) (kk : Str) (p : Addr) (S : Sto) (m : Nat) (ε : DL.Env) (S1 : Sto) (its : List Itm) (met : Nat) (e8 e9 e12 : Option D) : Prop where
  e : ε = [some t.d, some (.str kk), some (.bl false), some (.int 400), some .non, some (.int met), some (.int 0), some (.ref p), e8, e9, none, none, e12]
  s : S1 p = some (.lst (its.map Itm.d))
  l : Le S S1
  o : ∀ i ∈ its, i.ok
  z : met + (its.map Itm.sz).sum ≤ 400
  n : its.length ≤ met + 1
  m : m = (its.map Itm.wt).sum
def ShWe (t : Tr) (kk : Str) (p : Addr) (S : Sto) (m : Nat) (ε : DL.Env) (S1 : Sto) : Prop := ∃ its met e8 e9 e12, ShW t kk p S m ε S1 its met e8 e9 e12
theorem rd_is_shaped (ds : List D) (S : Sto) (Q : DK) (E : DX) (h : sp_is_shaped ds S Q E) : t_is_shaped { nx := fun _ S' => Dn Q .non S', rt := Dn Q } (startD 13 ds) S := by
  obtain ⟨t, kk, g, rfl, q⟩ := h
  unfold t_is_shaped
  walk_at "sts"
  intro p hp
  walk_at "sts"
  refine ⟨ShWe t kk p S, ⟨_, [.tree t], 0, none, none, none, rfl, ?_, ?_, ?_, ?_, ?_, rfl⟩, fun m ε S1 w => ?_⟩
  · rw [put_same]
    show _ = some (Cell.lst [.tup [t.d, .str t.kind]])
    rw [g.kind]
  · exact lePut (Le.refl S) hp
  · intro i hi
    have e : i = .tree t := by simpa using hi
    subst e
    exact g.wf
  · simpa [Itm.sz] using g.sz
  · simp
  · obtain ⟨its, met, e8, e9, e12, rfl, hS, hL, ho, hz, hl, rfl⟩ := w
    walk_at "sts"
    refine i_truR hS ?_
    rcases nilOrApp its with rfl | ⟨r, i, rfl⟩
    · walk_at "sts"
      exact i_dnL hL q
    · have hi := ho i (by simp)
      refine ifT (by simp) ?_
      walk_at "sts"
      have hd : ((r ++ [i]).map Itm.d).dropLast = r.map Itm.d := by rw [List.map_append, List.map_singleton, List.dropLast_concat]
      refine ⟨p, _, i.d, rfl, hS, by simp, ?_⟩
      rw [hd]
      rw [List.map_append, List.sum_append, List.map_singleton, List.sum_singleton] at hz
      rw [List.length_append, List.length_singleton] at hl
      have hm : ((r ++ [i]).map Itm.wt).sum = (r.map Itm.wt).sum + i.wt := by rw [List.map_append, List.sum_append, List.map_singleton, List.sum_singleton]
      rw [hm]
      have hr : ∀ j ∈ r, j.ok := fun j hj => ho j (by simp [hj])
      cases i with
      | leaf v k =>
        show gTu _ (.tup [v, .str k]) _ _ _
        have hk : k = "whole" ∨ k = "divisor" ∨ k = "word" := by
          rcases hi with ⟨n, _, _, h | ⟨h, _⟩⟩ | ⟨s, _, h, _⟩ <;> simp [h]
        rcases hk with rfl | rfl | rfl
        · walk_at "sts"
          refine ⟨v, _, rfl, hi, ?_⟩
          walk_at "sts"
          exact ⟨_, Nat.lt_succ_self _, r, met, _, _, _, rfl, put_same, lePut hL hp, hr, by omega, by omega, rfl⟩
        · walk_at "sts"
          refine ⟨v, _, rfl, hi, ?_⟩
          walk_at "sts"
          exact ⟨_, Nat.lt_succ_self _, r, met, _, _, _, rfl, put_same, lePut hL hp, hr, by omega, by omega, rfl⟩
        · walk_at "sts"
          refine ⟨v, _, rfl, hi, ?_⟩
          walk_at "sts"
          exact ⟨_, Nat.lt_succ_self _, r, met, _, _, _, rfl, put_same, lePut hL hp, hr, by omega, by omega, rfl⟩
      | tree u =>
        show gTu _ (.tup [u.d, .str u.kind]) _ _ _
        have hu : u.wf := hi
        have hus := TR.Tr.sz_pos u
        have hk2 := u.kind2
        generalize hk : u.kind = k at hk2 ⊢
        rcases hk2 with rfl | rfl
        · walk_at "sts"
          refine i_inD (by decide +kernel) ?_
          walk_at "sts"
          refine i_inD (by decide +kernel) ?_
          walk_at "sts"
          refine ⟨u, by rw [hk], ?_⟩
          walk_at "sts"
          refine ifF (decide_eq_false (by simp only [Itm.sz] at hz; omega)) ?_
          walk_at "sts"
          refine ⟨p, _, rfl, put_same, ?_⟩
          unfold dListZip
          walk_at "sts"
          rw [Tr.d_eq u]
          walk_at "sts"
          rw [cut1]
          have la := args_len u
          have lk := kids_len u
          refine ⟨u.args, _, rfl, by rw [List.length_map]; exact la.1, Nat.le_trans la.2 (by decide), fun z hz2 => ?_⟩
          have hzp : p ≠ z := fun e => by subst e; rw [put_same] at hz2; cases hz2
          refine ⟨z, _, _, rfl, (put_ne hzp).trans put_same, put_same, ?_, ?_⟩
          · have e : (List.zipWith (fun x y => D.tup [x, y]) u.args (u.flds.map D.str)).length ≤ 2 := by rw [List.length_zipWith]; omega
            rw [List.length_map]
            exact Nat.le_trans (by omega : _ ≤ 1000) (by decide)
          · rw [kids_d hu, ← List.map_append]
            have w1 := kids_wt u
            have w2 := kids_sz u
            refine ⟨((r ++ kids u).map Itm.wt).sum, ?_, r ++ kids u, met + 1, _, _, _, rfl, put_same, ?_, ?_, ?_, ?_, rfl⟩
            · rw [List.map_append, List.sum_append]
              show _ < _ + 3 * u.sz
              omega
            · exact lePut (Le.put (lePut hL hp) hz2) hp
            · intro j hj
              rcases List.mem_append.mp hj with h | h
              · exact hr j h
              · exact kids_ok hu j h
            · rw [List.map_append, List.sum_append]
              simp only [Itm.sz] at hz
              omega
            · rw [List.length_append]
              omega
        · walk_at "sts"
          refine i_inD (by decide +kernel) ?_
          walk_at "sts"
          refine i_inD (by decide +kernel) ?_
          walk_at "sts"
          refine ⟨u, by rw [hk], ?_⟩
          walk_at "sts"
          refine ifF (decide_eq_false (by simp only [Itm.sz] at hz; omega)) ?_
          walk_at "sts"
          refine ⟨p, _, rfl, put_same, ?_⟩
          unfold dListZip
          walk_at "sts"
          rw [Tr.d_eq u]
          walk_at "sts"
          rw [cut1]
          have la := args_len u
          have lk := kids_len u
          refine ⟨u.args, _, rfl, by rw [List.length_map]; exact la.1, Nat.le_trans la.2 (by decide), fun z hz2 => ?_⟩
          have hzp : p ≠ z := fun e => by subst e; rw [put_same] at hz2; cases hz2
          refine ⟨z, _, _, rfl, (put_ne hzp).trans put_same, put_same, ?_, ?_⟩
          · have e : (List.zipWith (fun x y => D.tup [x, y]) u.args (u.flds.map D.str)).length ≤ 2 := by rw [List.length_zipWith]; omega
            rw [List.length_map]
            exact Nat.le_trans (by omega : _ ≤ 1000) (by decide)
          · rw [kids_d hu, ← List.map_append]
            have w1 := kids_wt u
            have w2 := kids_sz u
            refine ⟨((r ++ kids u).map Itm.wt).sum, ?_, r ++ kids u, met + 1, _, _, _, rfl, put_same, ?_, ?_, ?_, ?_, rfl⟩
            · rw [List.map_append, List.sum_append]
              show _ < _ + 3 * u.sz
              omega
            · exact lePut (Le.put (lePut hL hp) hz2) hp
            · intro j hj
              rcases List.mem_append.mp hj with h | h
              · exact hr j h
              · exact kids_ok hu j h
            · rw [List.map_append, List.sum_append]
              simp only [Itm.sz] at hz
              omega
            · rw [List.length_append]
              omega
end K07
end
section
namespace K07
open PySem L2 DL DLZ TR TS PyProof.Rows
local macro_rules | `(tactic| walk_at "st") => `(tactic| ((with_reducible refine ifT ?he ?_); (case he => rfl)))
local macro_rules | `(tactic| walk_at "st") => `(tactic| ((with_reducible refine ifF ?he ?_); (case he => rfl)))
local macro_rules | `(tactic| walk_at "st") => `(tactic| ((with_reducible refine ifT ?he ?_); (case he => decide +kernel)))
local macro_rules | `(tactic| walk_at "st") => `(tactic| ((with_reducible refine ifF ?he ?_); (case he => decide +kernel)))
local macro_rules | `(tactic| walk_at "st") => `(tactic| ((with_reducible refine i_isiT (T := ?tt) (b := false) ?he ?hf ?_); (case he => rfl); (case hf => decide +kernel)))
local macro_rules | `(tactic| walk_at "st") => `(tactic| ((with_reducible refine i_isi (T := ?tt) (b := false) ?he ?hf ?_); (case he => rfl); (case hf => decide +kernel)))
local macro_rules | `(tactic| walk_at "st") => `(tactic| ((with_reducible refine i_isiT (T := ?tt) (b := true) ?he ?hf ?_); (case he => rfl); (case hf => decide +kernel)))
local macro_rules | `(tactic| walk_at "st") => `(tactic| ((with_reducible refine i_isi (T := ?tt) (b := true) ?he ?hf ?_); (case he => rfl); (case hf => decide +kernel)))
local macro_rules | `(tactic| walk_at "st") => `(tactic| ((with_reducible refine i_len ?he ?_); (case he => rfl)))
local macro_rules | `(tactic| walk_at "st") => `(tactic| ((with_reducible refine i_niT (v := ?vv) (us := ?uu) ?he ?hf ?_); (case he => rfl); (case hf => rfl)))
local macro_rules | `(tactic| walk_at "st") => `(tactic| ((with_reducible refine i_inT (v := ?vv) (us := ?uu) ?he ?hf ?_); (case he => rfl); (case hf => rfl)))
local macro_rules | `(tactic| walk_at "st") => `(tactic| ((with_reducible refine i_ixC (d := ?dd) ?he ?_); (case he => rfl)))
local macro_rules | `(tactic| walk_at "st") => `(tactic| ((with_reducible refine i_ixT (d := ?dd) ?he ?_); (case he => rfl)))
local macro_rules | `(tactic| walk_at "st") => `(tactic| ((with_reducible refine i_aug (x := ?dd) ?he ?_); (case he => rfl)))
local macro_rules | `(tactic| walk_at "st") => `(tactic| ((with_reducible refine i_var (d := ?dd) ?he ?_); (case he => rfl)))
local macro_rules | `(tactic| walk_at "st") => `(tactic| with_reducible refine i_neE ?_)
local macro_rules | `(tactic| walk_at "st") => `(tactic| with_reducible refine i_eqE ?_)
local macro_rules | `(tactic| walk_at "st") => `(tactic| with_reducible refine i_iRev ?_)
local macro_rules | `(tactic| walk_at "st") => `(tactic| with_reducible refine i_iStr ?_)
local macro_rules | `(tactic| walk_at "st") => `(tactic| with_reducible refine i_join ?_)
local macro_rules | `(tactic| walk_at "st") => `(tactic| with_reducible refine i_extendT ?_)
local macro_rules | `(tactic| walk_at "st") => `(tactic| with_reducible refine i_iZip ?_)
local macro_rules | `(tactic| walk_at "st") => `(tactic| with_reducible refine i_delFrom ?_)
local macro_rules | `(tactic| walk_at "st") => `(tactic| with_reducible refine i_max2 ?_)
local macro_rules | `(tactic| walk_at "st") => `(tactic| with_reducible refine i_strS ?_)
local macro_rules | `(tactic| walk_at "st") => `(tactic| with_reducible refine i_fmt ?_)
local macro_rules | `(tactic| walk_at "st") => `(tactic| with_reducible refine i_jnil ?_)
local macro_rules | `(tactic| walk_at "st") => `(tactic| with_reducible refine i_jcons ?_)
local macro_rules | `(tactic| walk_at "st") => `(tactic| with_reducible refine i_joined ?_)
local macro_rules | `(tactic| walk_at "st") => `(tactic| with_reducible refine i_truN ?_)
local macro_rules | `(tactic| walk_at "st") => `(tactic| with_reducible refine i_truT ?_)
local macro_rules | `(tactic| walk_at "st") => `(tactic| with_reducible refine i_truI ?_)
local macro_rules | `(tactic| walk_at "st") => `(tactic| with_reducible refine i_truB ?_)
local macro_rules | `(tactic| walk_at "st") => `(tactic| with_reducible refine i_tupT ?_)
local macro_rules | `(tactic| walk_at "st") => `(tactic| with_reducible refine i_slT ?_)
local macro_rules | `(tactic| walk_at "st") => `(tactic| with_reducible refine i_lenC ?_)
local macro_rules | `(tactic| walk_at "st") => `(tactic| with_reducible refine i_lenT ?_)
local macro_rules | `(tactic| walk_at "st") => `(tactic| with_reducible refine i_int1 ?_)
local macro_rules | `(tactic| walk_at "st") => `(tactic| with_reducible refine i_int ?_)
local macro_rules | `(tactic| walk_at "st") => `(tactic| with_reducible refine i_addII ?_)
local macro_rules | `(tactic| walk_at "st") => `(tactic| with_reducible refine i_addI ?_)
local macro_rules | `(tactic| walk_at "st") => `(tactic| with_reducible refine i_noN ?_)
local macro_rules | `(tactic| walk_at "st") => `(tactic| with_reducible refine i_isN ?_)
local macro_rules | `(tactic| walk_at "st") => `(tactic| with_reducible refine i_neS ?_)
local macro_rules | `(tactic| walk_at "st") => `(tactic| with_reducible refine i_neI ?_)
local macro_rules | `(tactic| walk_at "st") => `(tactic| with_reducible refine i_eqB ?_)
local macro_rules | `(tactic| walk_at "st") => `(tactic| with_reducible refine i_eqS ?_)
local macro_rules | `(tactic| walk_at "st") => `(tactic| with_reducible refine i_eqI ?_)
local macro_rules | `(tactic| walk_at "st") => `(tactic| with_reducible refine i_yes ?_)
local macro_rules | `(tactic| walk_at "st") => `(tactic| with_reducible refine i_gNi ?_)
local macro_rules | `(tactic| walk_at "st") => `(tactic| with_reducible refine i_gCo ?_)
local macro_rules | `(tactic| walk_at "st") => `(tactic| with_reducible refine i_gTu ?_)
local macro_rules | `(tactic| walk_at "st") => `(tactic| with_reducible refine i_gN ?_)
local macro_rules | `(tactic| walk_at "st") => `(tactic| with_reducible refine i_iR1 ?_)
local macro_rules | `(tactic| walk_at "st") => `(tactic| with_reducible refine i_iD ?_)
local macro_rules | `(tactic| walk_at "st") => `(tactic| with_reducible refine i_cdG ?_)
local macro_rules | `(tactic| walk_at "st") => `(tactic| with_reducible refine i_reverse ?_)
local macro_rules | `(tactic| walk_at "st") => `(tactic| with_reducible refine i_pop ?_)
local macro_rules | `(tactic| walk_at "st") => `(tactic| with_reducible refine i_extend ?_)
local macro_rules | `(tactic| walk_at "st") => `(tactic| with_reducible refine i_append ?_)
local macro_rules | `(tactic| walk_at "st") => `(tactic| with_reducible refine i_someP ?_)
local macro_rules | `(tactic| walk_at "st") => `(tactic| with_reducible refine i_noP ?_)
local macro_rules | `(tactic| walk_at "st") => `(tactic| with_reducible refine i_sl ?_)
local macro_rules | `(tactic| walk_at "st") => `(tactic| with_reducible refine i_call ?_)
local macro_rules | `(tactic| walk_at "st") => `(tactic| with_reducible refine i_cb ?_)
local macro_rules | `(tactic| walk_at "st") => `(tactic| with_reducible refine i_neg1 ?_)
local macro_rules | `(tactic| walk_at "st") => `(tactic| with_reducible refine i_neg ?_)
local macro_rules | `(tactic| walk_at "st") => `(tactic| with_reducible refine i_ifE ?_)
local macro_rules | `(tactic| walk_at "st") => `(tactic| with_reducible refine i_notV ?_)
local macro_rules | `(tactic| walk_at "st") => `(tactic| with_reducible refine i_orV ?_)
local macro_rules | `(tactic| walk_at "st") => `(tactic| with_reducible refine i_andV ?_)
local macro_rules | `(tactic| walk_at "st") => `(tactic| with_reducible refine i_not ?_)
local macro_rules | `(tactic| walk_at "st") => `(tactic| with_reducible refine i_or ?_)
local macro_rules | `(tactic| walk_at "st") => `(tactic| with_reducible refine i_and ?_)
local macro_rules | `(tactic| walk_at "st") => `(tactic| with_reducible refine i_tru ?_)
local macro_rules | `(tactic| walk_at "st") => `(tactic| with_reducible refine i_bl ?_)
local macro_rules | `(tactic| walk_at "st") => `(tactic| with_reducible refine i_tb ?_)
local macro_rules | `(tactic| walk_at "st") => `(tactic| with_reducible refine i_cons ?_)
local macro_rules | `(tactic| walk_at "st") => `(tactic| with_reducible refine i_nil ?_)
local macro_rules | `(tactic| walk_at "st") => `(tactic| with_reducible refine i_lst ?_)
local macro_rules | `(tactic| walk_at "st") => `(tactic| with_reducible refine i_tup ?_)
local macro_rules | `(tactic| walk_at "st") => `(tactic| with_reducible refine i_op ?_)
local macro_rules | `(tactic| walk_at "st") => `(tactic| with_reducible refine i_c ?_)
local macro_rules | `(tactic| walk_at "st") => `(tactic| with_reducible refine i_par2 ?_)
local macro_rules | `(tactic| walk_at "st") => `(tactic| with_reducible refine i_par ?_)
local macro_rules | `(tactic| walk_at "st") => `(tactic| with_reducible refine i_setL ?_)
local macro_rules | `(tactic| walk_at "st") => `(tactic| with_reducible refine i_cnt ?_)
local macro_rules | `(tactic| walk_at "st") => `(tactic| with_reducible refine i_brk ?_)
local macro_rules | `(tactic| walk_at "st") => `(tactic| with_reducible refine i_skip ?_)
local macro_rules | `(tactic| walk_at "st") => `(tactic| with_reducible refine i_if ?_)
local macro_rules | `(tactic| walk_at "st") => `(tactic| with_reducible refine i_retN ?_)
local macro_rules | `(tactic| walk_at "st") => `(tactic| with_reducible refine i_ret ?_)
local macro_rules | `(tactic| walk_at "st") => `(tactic| with_reducible refine i_drop ?_)
local macro_rules | `(tactic| walk_at "st") => `(tactic| with_reducible refine i_asg ?_)
local macro_rules | `(tactic| walk_at "st") => `(tactic| with_reducible refine i_set2 ?_)
local macro_rules | `(tactic| walk_at "st") => `(tactic| with_reducible refine i_set ?_)
local macro_rules | `(tactic| walk_at "st") => `(tactic| with_reducible refine i_seq ?_)
local macro_rules | `(tactic| walk_at "sts") => `(tactic| repeat walk_at "st")
theorem rd_is_sum (ds : List D) (S : Sto) (Q : DK) (E : DX) (h : sp_is_sum ds S Q E) : t_is_sum { nx := fun _ S' => Dn Q .non S', rt := Dn Q } (startD 1 ds) S := by
  obtain ⟨t, g, rfl, q⟩ := h
  unfold t_is_sum
  walk_at "sts"
  exact ⟨t, _, g, rfl, i_dn q⟩
theorem rd_check_sum (ds : List D) (S : Sto) (Q : DK) (E : DX) (h : sp_check_sum ds S Q E) : t_check_sum { nx := fun _ S' => Dn Q .non S', rt := Dn Q } (startD 1 ds) S := by
  obtain ⟨t, g, rfl, q⟩ := h
  unfold t_check_sum
  walk_at "sts"
  refine ⟨t, g, rfl, ?_⟩
  walk_at "sts"
  exact i_dn q
theorem rd_parts_of (ds : List D) (S : Sto) (Q : DK) (E : DX) (h : sp_parts_of ds S Q E) : t_parts_of { nx := fun _ S' => Dn Q .non S', rt := Dn Q } (startD 2 ds) S := by
  obtain ⟨t, rfl, q⟩ := h
  unfold t_parts_of
  rcases t with n | s | ⟨o, a, b⟩ | ⟨n, a⟩ | ⟨o, a, n⟩ | a | ⟨o, x, a⟩
  · simp only [Tr.d, Tr.parts, List.map] at q ⊢; walk_at "sts"; exact i_dn q
  · simp only [Tr.d, Tr.parts, List.map] at q ⊢; walk_at "sts"; exact i_dn q
  · cases o <;> (simp only [Tr.d, Tr.parts, List.map, Op2.w] at q ⊢; walk_at "sts"; exact i_dn q)
  · simp only [Tr.d, Tr.parts, List.map] at q ⊢; walk_at "sts"; exact i_dn q
  · cases o <;> (simp only [Tr.d, Tr.parts, List.map, Opd.w] at q ⊢; walk_at "sts"; exact i_dn q)
  · simp only [Tr.d, Tr.parts, List.map] at q ⊢; walk_at "sts"; exact i_dn q
  · cases o <;> (simp only [Tr.d, Tr.parts, List.map, Qn.w] at q ⊢; walk_at "sts"; exact i_dn q)
end K07
end
section
namespace K07
open PySem L2 DL DLZ TR TS PyProof.Rows
local macro_rules | `(tactic| walk_at "st") => `(tactic| ((with_reducible refine ifT ?he ?_); (case he => rfl)))
local macro_rules | `(tactic| walk_at "st") => `(tactic| ((with_reducible refine ifF ?he ?_); (case he => rfl)))
local macro_rules | `(tactic| walk_at "st") => `(tactic| ((with_reducible refine ifT ?he ?_); (case he => decide +kernel)))
local macro_rules | `(tactic| walk_at "st") => `(tactic| ((with_reducible refine ifF ?he ?_); (case he => decide +kernel)))
local macro_rules | `(tactic| walk_at "st") => `(tactic| ((with_reducible refine i_isiT (T := ?tt) (b := false) ?he ?hf ?_); (case he => rfl); (case hf => decide +kernel)))
local macro_rules | `(tactic| walk_at "st") => `(tactic| ((with_reducible refine i_isi (T := ?tt) (b := false) ?he ?hf ?_); (case he => rfl); (case hf => decide +kernel)))
local macro_rules | `(tactic| walk_at "st") => `(tactic| ((with_reducible refine i_isiT (T := ?tt) (b := true) ?he ?hf ?_); (case he => rfl); (case hf => decide +kernel)))
local macro_rules | `(tactic| walk_at "st") => `(tactic| ((with_reducible refine i_isi (T := ?tt) (b := true) ?he ?hf ?_); (case he => rfl); (case hf => decide +kernel)))
local macro_rules | `(tactic| walk_at "st") => `(tactic| ((with_reducible refine i_len ?he ?_); (case he => rfl)))
local macro_rules | `(tactic| walk_at "st") => `(tactic| ((with_reducible refine i_niT (v := ?vv) (us := ?uu) ?he ?hf ?_); (case he => rfl); (case hf => rfl)))
local macro_rules | `(tactic| walk_at "st") => `(tactic| ((with_reducible refine i_inT (v := ?vv) (us := ?uu) ?he ?hf ?_); (case he => rfl); (case hf => rfl)))
local macro_rules | `(tactic| walk_at "st") => `(tactic| ((with_reducible refine i_ixC (d := ?dd) ?he ?_); (case he => rfl)))
local macro_rules | `(tactic| walk_at "st") => `(tactic| ((with_reducible refine i_ixT (d := ?dd) ?he ?_); (case he => rfl)))
local macro_rules | `(tactic| walk_at "st") => `(tactic| ((with_reducible refine i_aug (x := ?dd) ?he ?_); (case he => rfl)))
local macro_rules | `(tactic| walk_at "st") => `(tactic| ((with_reducible refine i_var (d := ?dd) ?he ?_); (case he => rfl)))
local macro_rules | `(tactic| walk_at "st") => `(tactic| with_reducible refine i_neE ?_)
local macro_rules | `(tactic| walk_at "st") => `(tactic| with_reducible refine i_eqE ?_)
local macro_rules | `(tactic| walk_at "st") => `(tactic| with_reducible refine i_iRev ?_)
local macro_rules | `(tactic| walk_at "st") => `(tactic| with_reducible refine i_iStr ?_)
local macro_rules | `(tactic| walk_at "st") => `(tactic| with_reducible refine i_join ?_)
local macro_rules | `(tactic| walk_at "st") => `(tactic| with_reducible refine i_extendT ?_)
local macro_rules | `(tactic| walk_at "st") => `(tactic| with_reducible refine i_iZip ?_)
local macro_rules | `(tactic| walk_at "st") => `(tactic| with_reducible refine i_delFrom ?_)
local macro_rules | `(tactic| walk_at "st") => `(tactic| with_reducible refine i_max2 ?_)
local macro_rules | `(tactic| walk_at "st") => `(tactic| with_reducible refine i_strS ?_)
local macro_rules | `(tactic| walk_at "st") => `(tactic| with_reducible refine i_fmt ?_)
local macro_rules | `(tactic| walk_at "st") => `(tactic| with_reducible refine i_jnil ?_)
local macro_rules | `(tactic| walk_at "st") => `(tactic| with_reducible refine i_jcons ?_)
local macro_rules | `(tactic| walk_at "st") => `(tactic| with_reducible refine i_joined ?_)
local macro_rules | `(tactic| walk_at "st") => `(tactic| with_reducible refine i_truN ?_)
local macro_rules | `(tactic| walk_at "st") => `(tactic| with_reducible refine i_truT ?_)
local macro_rules | `(tactic| walk_at "st") => `(tactic| with_reducible refine i_truI ?_)
local macro_rules | `(tactic| walk_at "st") => `(tactic| with_reducible refine i_truB ?_)
local macro_rules | `(tactic| walk_at "st") => `(tactic| with_reducible refine i_tupT ?_)
local macro_rules | `(tactic| walk_at "st") => `(tactic| with_reducible refine i_slT ?_)
local macro_rules | `(tactic| walk_at "st") => `(tactic| with_reducible refine i_lenC ?_)
local macro_rules | `(tactic| walk_at "st") => `(tactic| with_reducible refine i_lenT ?_)
local macro_rules | `(tactic| walk_at "st") => `(tactic| with_reducible refine i_int1 ?_)
local macro_rules | `(tactic| walk_at "st") => `(tactic| with_reducible refine i_int ?_)
local macro_rules | `(tactic| walk_at "st") => `(tactic| with_reducible refine i_addII ?_)
local macro_rules | `(tactic| walk_at "st") => `(tactic| with_reducible refine i_addI ?_)
local macro_rules | `(tactic| walk_at "st") => `(tactic| with_reducible refine i_noN ?_)
local macro_rules | `(tactic| walk_at "st") => `(tactic| with_reducible refine i_isN ?_)
local macro_rules | `(tactic| walk_at "st") => `(tactic| with_reducible refine i_neS ?_)
local macro_rules | `(tactic| walk_at "st") => `(tactic| with_reducible refine i_neI ?_)
local macro_rules | `(tactic| walk_at "st") => `(tactic| with_reducible refine i_eqB ?_)
local macro_rules | `(tactic| walk_at "st") => `(tactic| with_reducible refine i_eqS ?_)
local macro_rules | `(tactic| walk_at "st") => `(tactic| with_reducible refine i_eqI ?_)
local macro_rules | `(tactic| walk_at "st") => `(tactic| with_reducible refine i_yes ?_)
local macro_rules | `(tactic| walk_at "st") => `(tactic| with_reducible refine i_gNi ?_)
local macro_rules | `(tactic| walk_at "st") => `(tactic| with_reducible refine i_gCo ?_)
local macro_rules | `(tactic| walk_at "st") => `(tactic| with_reducible refine i_gTu ?_)
local macro_rules | `(tactic| walk_at "st") => `(tactic| with_reducible refine i_gN ?_)
local macro_rules | `(tactic| walk_at "st") => `(tactic| with_reducible refine i_iR1 ?_)
local macro_rules | `(tactic| walk_at "st") => `(tactic| with_reducible refine i_iD ?_)
local macro_rules | `(tactic| walk_at "st") => `(tactic| with_reducible refine i_cdG ?_)
local macro_rules | `(tactic| walk_at "st") => `(tactic| with_reducible refine i_reverse ?_)
local macro_rules | `(tactic| walk_at "st") => `(tactic| with_reducible refine i_pop ?_)
local macro_rules | `(tactic| walk_at "st") => `(tactic| with_reducible refine i_extend ?_)
local macro_rules | `(tactic| walk_at "st") => `(tactic| with_reducible refine i_append ?_)
local macro_rules | `(tactic| walk_at "st") => `(tactic| with_reducible refine i_someP ?_)
local macro_rules | `(tactic| walk_at "st") => `(tactic| with_reducible refine i_noP ?_)
local macro_rules | `(tactic| walk_at "st") => `(tactic| with_reducible refine i_sl ?_)
local macro_rules | `(tactic| walk_at "st") => `(tactic| with_reducible refine i_call ?_)
local macro_rules | `(tactic| walk_at "st") => `(tactic| with_reducible refine i_cb ?_)
local macro_rules | `(tactic| walk_at "st") => `(tactic| with_reducible refine i_neg1 ?_)
local macro_rules | `(tactic| walk_at "st") => `(tactic| with_reducible refine i_neg ?_)
local macro_rules | `(tactic| walk_at "st") => `(tactic| with_reducible refine i_ifE ?_)
local macro_rules | `(tactic| walk_at "st") => `(tactic| with_reducible refine i_notV ?_)
local macro_rules | `(tactic| walk_at "st") => `(tactic| with_reducible refine i_orV ?_)
local macro_rules | `(tactic| walk_at "st") => `(tactic| with_reducible refine i_andV ?_)
local macro_rules | `(tactic| walk_at "st") => `(tactic| with_reducible refine i_not ?_)
local macro_rules | `(tactic| walk_at "st") => `(tactic| with_reducible refine i_or ?_)
local macro_rules | `(tactic| walk_at "st") => `(tactic| with_reducible refine i_and ?_)
local macro_rules | `(tactic| walk_at "st") => `(tactic| with_reducible refine i_tru ?_)
local macro_rules | `(tactic| walk_at "st") => `(tactic| with_reducible refine i_bl ?_)
local macro_rules | `(tactic| walk_at "st") => `(tactic| with_reducible refine i_tb ?_)
local macro_rules | `(tactic| walk_at "st") => `(tactic| with_reducible refine i_cons ?_)
local macro_rules | `(tactic| walk_at "st") => `(tactic| with_reducible refine i_nil ?_)
local macro_rules | `(tactic| walk_at "st") => `(tactic| with_reducible refine i_lst ?_)
local macro_rules | `(tactic| walk_at "st") => `(tactic| with_reducible refine i_tup ?_)
local macro_rules | `(tactic| walk_at "st") => `(tactic| with_reducible refine i_op ?_)
local macro_rules | `(tactic| walk_at "st") => `(tactic| with_reducible refine i_c ?_)
local macro_rules | `(tactic| walk_at "st") => `(tactic| with_reducible refine i_par2 ?_)
local macro_rules | `(tactic| walk_at "st") => `(tactic| with_reducible refine i_par ?_)
local macro_rules | `(tactic| walk_at "st") => `(tactic| with_reducible refine i_setL ?_)
local macro_rules | `(tactic| walk_at "st") => `(tactic| with_reducible refine i_cnt ?_)
local macro_rules | `(tactic| walk_at "st") => `(tactic| with_reducible refine i_brk ?_)
local macro_rules | `(tactic| walk_at "st") => `(tactic| with_reducible refine i_skip ?_)
local macro_rules | `(tactic| walk_at "st") => `(tactic| with_reducible refine i_if ?_)
local macro_rules | `(tactic| walk_at "st") => `(tactic| with_reducible refine i_retN ?_)
local macro_rules | `(tactic| walk_at "st") => `(tactic| with_reducible refine i_ret ?_)
local macro_rules | `(tactic| walk_at "st") => `(tactic| with_reducible refine i_drop ?_)
local macro_rules | `(tactic| walk_at "st") => `(tactic| with_reducible refine i_asg ?_)
local macro_rules | `(tactic| walk_at "st") => `(tactic| with_reducible refine i_set2 ?_)
local macro_rules | `(tactic| walk_at "st") => `(tactic| with_reducible refine i_set ?_)
local macro_rules | `(tactic| walk_at "st") => `(tactic| with_reducible refine i_seq ?_)
local macro_rules | `(tactic| walk_at "sts") => `(tactic| repeat walk_at "st")
theorem rd_ordered (ds : List D) (S : Sto) (Q : DK) (E : DX) (h : sp_ordered ds S Q E) : t_ordered { nx := fun _ S' => Dn Q .non S', rt := Dn Q } (startD 4 ds) S := by
  obtain ⟨t, rfl, hz, k⟩ := h
  unfold t_ordered
  walk_at "sts"
  intro f hf
  walk_at "sts"
  intro l hl
  have hfl : f ≠ l := fun e => by subst e; rw [put_same] at hl; cases hl
  have hl0 : S l = none := by rw [put_ne (Ne.symm hfl)] at hl; exact hl
  walk_at "sts"
  refine ⟨fun m ε S1 => ∃ (fs ws : List Tr) (e3 : Option D), ε = [some t.d, some (.ref f), some (.ref l), e3] ∧ S1 f = some (.lst (fs.map Tr.d)) ∧ S1 l = some (.lst (ws.map Tr.d)) ∧ Le S S1 ∧ fs ++ (ws.reverse.map Tr.rpre).flatten = t.rpre ∧ m = ((ws.reverse.map Tr.rpre).flatten).length ∧ ws.length ≤ m,
    ⟨_, [], [t], none, rfl, (put_ne hfl).trans put_same, put_same, lePut (lePut (Le.refl S) hf) hl0, by simp, rfl, ?_⟩, fun m ε S1 w => ?_⟩
  · have := Tr.rpre_len t
    have := Tr.sz_pos t
    simp; omega
  · obtain ⟨fs, ws, e3, rfl, h1, h2, h3, h4, rfl, h6⟩ := w
    have hlen : fs.length + ((ws.reverse.map Tr.rpre).flatten).length = t.sz := by rw [← Tr.rpre_len t, ← h4, List.length_append]
    walk_at "sts"
    refine i_truR h2 ?_
    rcases nilOrApp ws with rfl | ⟨r, u, rfl⟩
    · walk_at "sts"
      refine ⟨f, _, rfl, h1, ?_⟩
      walk_at "sts"
      refine i_dn (k f _ hf ?_ (lePut h3 hf))
      rw [put_same, ← List.map_reverse]
      have e : fs = t.rpre := by simpa using h4
      rw [e]; rfl
    · refine ifT (by simp) ?_
      walk_at "sts"
      have hd : ((r ++ [u]).map Tr.d).dropLast = r.map Tr.d := by rw [List.map_append, List.map_singleton, List.dropLast_concat]
      refine ⟨l, _, u.d, rfl, h2, by simp, ?_⟩
      rw [hd]
      walk_at "sts"
      refine ⟨f, _, rfl, (put_ne hfl).trans h1, ?_⟩
      walk_at "sts"
      refine ⟨_, (put_ne hfl).trans h1, ?_, ?_⟩
      · rw [List.length_map]; exact Nat.lt_of_le_of_lt (by omega : _ ≤ 400) (by decide)
      · walk_at "sts"
        refine ⟨l, _, rfl, (put_ne (Ne.symm hfl)).trans put_same, ?_⟩
        walk_at "sts"
        refine ⟨u, rfl, ?_⟩
        have hp := TR.parts_len u
        have e4 : fs ++ [u] ++ (((r ++ u.parts).reverse.map Tr.rpre).flatten) = t.rpre := by
          rw [← h4, List.reverse_append, List.reverse_append, List.map_append, List.map_append, List.flatten_append, List.flatten_append]
          simp only [List.reverse_singleton, List.map_cons, List.map_nil, List.flatten_cons, List.flatten_nil, List.append_nil]
          rw [Tr.rpre_eq u]
          simp
        have e5 : (((r ++ u.parts).reverse.map Tr.rpre).flatten).length + 1 = (((r ++ [u]).reverse.map Tr.rpre).flatten).length := by
          have a1 := congrArg List.length e4
          have a2 := congrArg List.length h4
          simp only [List.length_append, List.length_singleton] at a1 a2
          omega
        have e6 : (r ++ u.parts).length ≤ (((r ++ u.parts).reverse.map Tr.rpre).flatten).length := by
          have : ∀ l : List Tr, l.length ≤ ((l.map Tr.rpre).flatten).length := by
            intro l
            induction l with
            | nil => simp
            | cons x xs ih =>
              have h1 := Tr.rpre_len x
              have h2 := Tr.sz_pos x
              rw [List.map_cons, List.flatten_cons, List.length_append, List.length_cons]
              omega
          have := this (r ++ u.parts).reverse
          rw [List.length_reverse] at this
          exact this
        refine ⟨_, _, rfl, (put_ne (Ne.symm hfl)).trans put_same, ?_, ?_⟩
        · rw [List.length_map, List.length_map]
          rw [List.length_append, List.length_singleton] at h6
          exact Nat.le_trans (by omega : _ ≤ 1000) (by decide)
        · rw [← List.map_append]
          refine ⟨_, ?_, fs ++ [u], r ++ u.parts, _, rfl, (put_ne hfl).trans (by rw [put_same, List.map_append]; rfl), put_same, lePut (lePut (lePut h3 hl0) hf) hl0, e4, rfl, e6⟩
          omega
end K07
end
section
namespace K07
open PySem L2 DL DLZ TR TS PyProof.Rows
local macro_rules | `(tactic| walk_at "st") => `(tactic| ((with_reducible refine ifT ?he ?_); (case he => rfl)))
local macro_rules | `(tactic| walk_at "st") => `(tactic| ((with_reducible refine ifF ?he ?_); (case he => rfl)))
local macro_rules | `(tactic| walk_at "st") => `(tactic| ((with_reducible refine ifT ?he ?_); (case he => decide +kernel)))
local macro_rules | `(tactic| walk_at "st") => `(tactic| ((with_reducible refine ifF ?he ?_); (case he => decide +kernel)))
local macro_rules | `(tactic| walk_at "st") => `(tactic| ((with_reducible refine i_isiT (T := ?tt) (b := false) ?he ?hf ?_); (case he => rfl); (case hf => decide +kernel)))
local macro_rules | `(tactic| walk_at "st") => `(tactic| ((with_reducible refine i_isi (T := ?tt) (b := false) ?he ?hf ?_); (case he => rfl); (case hf => decide +kernel)))
local macro_rules | `(tactic| walk_at "st") => `(tactic| ((with_reducible refine i_isiT (T := ?tt) (b := true) ?he ?hf ?_); (case he => rfl); (case hf => decide +kernel)))
local macro_rules | `(tactic| walk_at "st") => `(tactic| ((with_reducible refine i_isi (T := ?tt) (b := true) ?he ?hf ?_); (case he => rfl); (case hf => decide +kernel)))
local macro_rules | `(tactic| walk_at "st") => `(tactic| ((with_reducible refine i_len ?he ?_); (case he => rfl)))
local macro_rules | `(tactic| walk_at "st") => `(tactic| ((with_reducible refine i_niT (v := ?vv) (us := ?uu) ?he ?hf ?_); (case he => rfl); (case hf => rfl)))
local macro_rules | `(tactic| walk_at "st") => `(tactic| ((with_reducible refine i_inT (v := ?vv) (us := ?uu) ?he ?hf ?_); (case he => rfl); (case hf => rfl)))
local macro_rules | `(tactic| walk_at "st") => `(tactic| ((with_reducible refine i_ixC (d := ?dd) ?he ?_); (case he => rfl)))
local macro_rules | `(tactic| walk_at "st") => `(tactic| ((with_reducible refine i_ixT (d := ?dd) ?he ?_); (case he => rfl)))
local macro_rules | `(tactic| walk_at "st") => `(tactic| ((with_reducible refine i_aug (x := ?dd) ?he ?_); (case he => rfl)))
local macro_rules | `(tactic| walk_at "st") => `(tactic| ((with_reducible refine i_var (d := ?dd) ?he ?_); (case he => rfl)))
local macro_rules | `(tactic| walk_at "st") => `(tactic| with_reducible refine i_neE ?_)
local macro_rules | `(tactic| walk_at "st") => `(tactic| with_reducible refine i_eqE ?_)
local macro_rules | `(tactic| walk_at "st") => `(tactic| with_reducible refine i_iRev ?_)
local macro_rules | `(tactic| walk_at "st") => `(tactic| with_reducible refine i_iStr ?_)
local macro_rules | `(tactic| walk_at "st") => `(tactic| with_reducible refine i_join ?_)
local macro_rules | `(tactic| walk_at "st") => `(tactic| with_reducible refine i_extendT ?_)
local macro_rules | `(tactic| walk_at "st") => `(tactic| with_reducible refine i_iZip ?_)
local macro_rules | `(tactic| walk_at "st") => `(tactic| with_reducible refine i_delFrom ?_)
local macro_rules | `(tactic| walk_at "st") => `(tactic| with_reducible refine i_max2 ?_)
local macro_rules | `(tactic| walk_at "st") => `(tactic| with_reducible refine i_strS ?_)
local macro_rules | `(tactic| walk_at "st") => `(tactic| with_reducible refine i_fmt ?_)
local macro_rules | `(tactic| walk_at "st") => `(tactic| with_reducible refine i_jnil ?_)
local macro_rules | `(tactic| walk_at "st") => `(tactic| with_reducible refine i_jcons ?_)
local macro_rules | `(tactic| walk_at "st") => `(tactic| with_reducible refine i_joined ?_)
local macro_rules | `(tactic| walk_at "st") => `(tactic| with_reducible refine i_truN ?_)
local macro_rules | `(tactic| walk_at "st") => `(tactic| with_reducible refine i_truT ?_)
local macro_rules | `(tactic| walk_at "st") => `(tactic| with_reducible refine i_truI ?_)
local macro_rules | `(tactic| walk_at "st") => `(tactic| with_reducible refine i_truB ?_)
local macro_rules | `(tactic| walk_at "st") => `(tactic| with_reducible refine i_tupT ?_)
local macro_rules | `(tactic| walk_at "st") => `(tactic| with_reducible refine i_slT ?_)
local macro_rules | `(tactic| walk_at "st") => `(tactic| with_reducible refine i_lenC ?_)
local macro_rules | `(tactic| walk_at "st") => `(tactic| with_reducible refine i_lenT ?_)
local macro_rules | `(tactic| walk_at "st") => `(tactic| with_reducible refine i_int1 ?_)
local macro_rules | `(tactic| walk_at "st") => `(tactic| with_reducible refine i_int ?_)
local macro_rules | `(tactic| walk_at "st") => `(tactic| with_reducible refine i_addII ?_)
local macro_rules | `(tactic| walk_at "st") => `(tactic| with_reducible refine i_addI ?_)
local macro_rules | `(tactic| walk_at "st") => `(tactic| with_reducible refine i_noN ?_)
local macro_rules | `(tactic| walk_at "st") => `(tactic| with_reducible refine i_isN ?_)
local macro_rules | `(tactic| walk_at "st") => `(tactic| with_reducible refine i_neS ?_)
local macro_rules | `(tactic| walk_at "st") => `(tactic| with_reducible refine i_neI ?_)
local macro_rules | `(tactic| walk_at "st") => `(tactic| with_reducible refine i_eqB ?_)
local macro_rules | `(tactic| walk_at "st") => `(tactic| with_reducible refine i_eqS ?_)
local macro_rules | `(tactic| walk_at "st") => `(tactic| with_reducible refine i_eqI ?_)
local macro_rules | `(tactic| walk_at "st") => `(tactic| with_reducible refine i_yes ?_)
local macro_rules | `(tactic| walk_at "st") => `(tactic| with_reducible refine i_gNi ?_)
local macro_rules | `(tactic| walk_at "st") => `(tactic| with_reducible refine i_gCo ?_)
local macro_rules | `(tactic| walk_at "st") => `(tactic| with_reducible refine i_gTu ?_)
local macro_rules | `(tactic| walk_at "st") => `(tactic| with_reducible refine i_gN ?_)
local macro_rules | `(tactic| walk_at "st") => `(tactic| with_reducible refine i_iR1 ?_)
local macro_rules | `(tactic| walk_at "st") => `(tactic| with_reducible refine i_iD ?_)
local macro_rules | `(tactic| walk_at "st") => `(tactic| with_reducible refine i_cdG ?_)
local macro_rules | `(tactic| walk_at "st") => `(tactic| with_reducible refine i_reverse ?_)
local macro_rules | `(tactic| walk_at "st") => `(tactic| with_reducible refine i_pop ?_)
local macro_rules | `(tactic| walk_at "st") => `(tactic| with_reducible refine i_extend ?_)
local macro_rules | `(tactic| walk_at "st") => `(tactic| with_reducible refine i_append ?_)
local macro_rules | `(tactic| walk_at "st") => `(tactic| with_reducible refine i_someP ?_)
local macro_rules | `(tactic| walk_at "st") => `(tactic| with_reducible refine i_noP ?_)
local macro_rules | `(tactic| walk_at "st") => `(tactic| with_reducible refine i_sl ?_)
local macro_rules | `(tactic| walk_at "st") => `(tactic| with_reducible refine i_call ?_)
local macro_rules | `(tactic| walk_at "st") => `(tactic| with_reducible refine i_cb ?_)
local macro_rules | `(tactic| walk_at "st") => `(tactic| with_reducible refine i_neg1 ?_)
local macro_rules | `(tactic| walk_at "st") => `(tactic| with_reducible refine i_neg ?_)
local macro_rules | `(tactic| walk_at "st") => `(tactic| with_reducible refine i_ifE ?_)
local macro_rules | `(tactic| walk_at "st") => `(tactic| with_reducible refine i_notV ?_)
local macro_rules | `(tactic| walk_at "st") => `(tactic| with_reducible refine i_orV ?_)
local macro_rules | `(tactic| walk_at "st") => `(tactic| with_reducible refine i_andV ?_)
local macro_rules | `(tactic| walk_at "st") => `(tactic| with_reducible refine i_not ?_)
local macro_rules | `(tactic| walk_at "st") => `(tactic| with_reducible refine i_or ?_)
local macro_rules | `(tactic| walk_at "st") => `(tactic| with_reducible refine i_and ?_)
local macro_rules | `(tactic| walk_at "st") => `(tactic| with_reducible refine i_tru ?_)
local macro_rules | `(tactic| walk_at "st") => `(tactic| with_reducible refine i_bl ?_)
local macro_rules | `(tactic| walk_at "st") => `(tactic| with_reducible refine i_tb ?_)
local macro_rules | `(tactic| walk_at "st") => `(tactic| with_reducible refine i_cons ?_)
local macro_rules | `(tactic| walk_at "st") => `(tactic| with_reducible refine i_nil ?_)
local macro_rules | `(tactic| walk_at "st") => `(tactic| with_reducible refine i_lst ?_)
local macro_rules | `(tactic| walk_at "st") => `(tactic| with_reducible refine i_tup ?_)
local macro_rules | `(tactic| walk_at "st") => `(tactic| with_reducible refine i_op ?_)
local macro_rules | `(tactic| walk_at "st") => `(tactic| with_reducible refine i_c ?_)
local macro_rules | `(tactic| walk_at "st") => `(tactic| with_reducible refine i_par2 ?_)
local macro_rules | `(tactic| walk_at "st") => `(tactic| with_reducible refine i_par ?_)
local macro_rules | `(tactic| walk_at "st") => `(tactic| with_reducible refine i_setL ?_)
local macro_rules | `(tactic| walk_at "st") => `(tactic| with_reducible refine i_cnt ?_)
local macro_rules | `(tactic| walk_at "st") => `(tactic| with_reducible refine i_brk ?_)
local macro_rules | `(tactic| walk_at "st") => `(tactic| with_reducible refine i_skip ?_)
local macro_rules | `(tactic| walk_at "st") => `(tactic| with_reducible refine i_if ?_)
local macro_rules | `(tactic| walk_at "st") => `(tactic| with_reducible refine i_retN ?_)
local macro_rules | `(tactic| walk_at "st") => `(tactic| with_reducible refine i_ret ?_)
local macro_rules | `(tactic| walk_at "st") => `(tactic| with_reducible refine i_drop ?_)
local macro_rules | `(tactic| walk_at "st") => `(tactic| with_reducible refine i_asg ?_)
local macro_rules | `(tactic| walk_at "st") => `(tactic| with_reducible refine i_set2 ?_)
local macro_rules | `(tactic| walk_at "st") => `(tactic| with_reducible refine i_set ?_)
local macro_rules | `(tactic| walk_at "st") => `(tactic| with_reducible refine i_seq ?_)
local macro_rules | `(tactic| walk_at "sts") => `(tactic| repeat walk_at "st")
theorem scTail_ok {u : Tr} {inner : List Str} {r : List (Tr × List Str)} {e0 e1 e4 e6 : Option D} {q : Addr} {S1 : Sto} {F : DEnds} (hq : S1 q = some (.lst (r.map vis))) (hr : r.length ≤ 1000)
    (k : ∀ S2, (∀ a c, a ≠ q → S1 a = some c → S2 a = some c) → S2 q = some (.lst ((r ++ u.parts.map fun v => (v, inner)).map vis)) → F.nx [e0, e1, some (.ref q), some u.d, e4, some (.tup (inner.map .str)), e6] S2) :
    dDrop (dExtend (dVar 2) (dLc (iD (dCall sp_parts_of (dCons (dVar 3) dNil))) (gN 6) dYes (dTup (dCons (dVar 6) (dCons (dVar 5) dNil))) [6])) F [e0, e1, some (.ref q), some u.d, e4, some (.tup (inner.map .str)), e6] S1 := by
  walk_at "sts"
  refine ⟨q, _, rfl, hq, ?_⟩
  unfold dLc
  walk_at "sts"
  refine ⟨u, rfl, _, rfl, fun p hp => ?_⟩
  have hqp : q ≠ p := fun e => by subst e; rw [hq] at hp; cases hp
  refine ⟨fun i acc S => acc = (u.parts.take i).map (fun v => vis (v, inner)) ∧ S p = some (.lst acc) ∧ Le S1 S, ⟨by simp, put_same, lePut (Le.refl S1) hp⟩, fun _ _ _ _ _ => trivial, fun i x acc S hx w => ?_, fun acc S w => ?_⟩
  · obtain ⟨ha, hs, hL⟩ := w
    have hlen := parts_len u
    rw [List.getElem?_map] at hx
    obtain ⟨v, hv, rfl⟩ := Option.map_eq_some_iff.mp hx
    have hi : i < u.parts.length := (List.getElem?_eq_some_iff.mp hv).1
    walk_at "sts"
    refine ⟨hs, ?_, ?_, put_same, lePut hL hp⟩
    · rw [ha, List.length_map, List.length_take]
      exact Nat.lt_of_le_of_lt (by omega : _ ≤ 2) (by decide)
    · rw [ha, List.take_add_one, hv, List.map_append]
      rfl
  · obtain ⟨ha, hs, hL⟩ := w
    rw [List.length_map, List.take_length] at ha
    have hlen := parts_len u
    refine ⟨p, _, _, rfl, hL _ _ hq, hs, ?_, ?_⟩
    · rw [ha, List.length_map, List.length_map]
      exact Nat.le_trans (by omega : _ ≤ 1002) (by decide)
    · refine k _ (fun a c h1 h2 => ?_) ?_
      · rw [put_ne h1]; exact hL _ _ h2
      · rw [put_same, ha, List.map_append, List.map_map]
        rfl
theorem unD {te : DTE} {F : DEnds} {e0 e1 e3 e4 e5 e6 : Option D} {q : D} {S : Sto} (h : dDrop (dExtend (dVar 2) te) F [e0, e1, some q, e3, e4, e5, e6] S) :
    ∃ a xs, q = .ref a ∧ S a = some (.lst xs) ∧ te [e0, e1, some q, e3, e4, e5, e6] S fun y S2 => ∃ b ys zs, y = .ref b ∧ S2 a = some (.lst ys) ∧ S2 b = some (.lst zs) ∧ ys.length + zs.length ≤ sizeLine ∧ F.nx [e0, e1, some q, e3, e4, e5, e6] (put S2 a (.lst (ys ++ zs))) := by
  obtain ⟨d, e, h⟩ := h
  cases e
  exact h
structure ScW (t : Tr) (p q : Addr) (S : Sto) (m : Nat) (ε : DL.Env) (S1 : Sto) (fs ws : List (Tr × List Str)) (e3 e4 e5 : Option D) : Prop where
  e : ε = [some t.d, some (.ref p), some (.ref q), e3, e4, e5, none]
  sp : S1 p = some (.lst (fs.map vis))
  sq : S1 q = some (.lst (ws.map vis))
  l : Le S S1
  i : ∀ x, (hit fs x ∨ ∃ w ∈ ws, w.1.free w.2 x) ↔ t.free [] x
  z : fs.length + (ws.map fun w => w.1.sz).sum ≤ 400
  b : ∀ w ∈ ws, w.2.length + w.1.sz ≤ 400
  n : ws.length ≤ fs.length + 1
  m : m = (ws.map fun w => w.1.sz).sum
def ScWe (t : Tr) (p q : Addr) (S : Sto) (m : Nat) (ε : DL.Env) (S1 : Sto) : Prop := ∃ fs ws e3 e4 e5, ScW t p q S m ε S1 fs ws e3 e4 e5
theorem rd_scoped (ds : List D) (S : Sto) (Q : DK) (E : DX) (h : sp_scoped ds S Q E) : t_scoped { nx := fun _ S' => Dn Q .non S', rt := Dn Q } (startD 7 ds) S := by
  obtain ⟨t, rfl, hz, k⟩ := h
  unfold t_scoped
  walk_at "sts"
  intro p hp
  walk_at "sts"
  intro q hq
  have hpq : p ≠ q := fun e => by subst e; rw [put_same] at hq; cases hq
  have hq0 : S q = none := by rw [put_ne (Ne.symm hpq)] at hq; exact hq
  walk_at "sts"
  refine ⟨ScWe t p q S, ⟨_, [], [(t, [])], none, none, none, rfl, (put_ne hpq).trans put_same, put_same, lePut (lePut (Le.refl S) hp) hq0, ?_, ?_, ?_, ?_, rfl⟩, fun m ε S1 w => ?_⟩
  · intro x
    simp [hit]
  · simpa using hz
  · simpa using hz
  · simp
  · obtain ⟨fs, ws, e3, e4, e5, rfl, h1, h2, hL, hi, hz, hb, hn, rfl⟩ := w
    walk_at "sts"
    refine i_truR h2 ?_
    rcases nilOrApp ws with rfl | ⟨r, ⟨u, l⟩, rfl⟩
    · walk_at "sts"
      refine ⟨p, _, rfl, h1, ?_⟩
      walk_at "sts"
      rw [← List.map_reverse]
      refine i_dnL (lePut2 hL) (k p fs.reverse (fun x => ?_) (by rw [List.length_reverse]; omega) hp)
      rw [← hi x]
      simp [hit]
    · refine ifT (by simp) ?_
      walk_at "sts"
      have hd : ((r ++ [(u, l)]).map vis).dropLast = r.map vis := by rw [List.map_append, List.map_singleton, List.dropLast_concat]
      refine ⟨q, _, vis (u, l), rfl, h2, by simp, ?_⟩
      rw [hd]
      rw [List.map_append, List.sum_append, List.map_singleton, List.sum_singleton] at hz ⊢
      rw [List.length_append, List.length_singleton] at hn
      have hu := hb (u, l) (by simp)
      have hus := TR.Tr.sz_pos u
      show gTu _ (.tup [u.d, .tup (l.map .str)]) _ _ _
      simp only at hu hz ⊢
      walk_at "sts"
      refine ⟨p, _, rfl, (put_ne hpq).trans h1, ?_⟩
      walk_at "sts"
      refine ⟨_, (put_ne hpq).trans h1, ?_, ?_⟩
      · rw [List.length_map]
        exact Nat.lt_of_lt_of_le (by omega : fs.length < 1000) (by decide)
      have fin : ∀ inner, inner = u.bind l → dDrop (dExtend (dVar 2) (dLc (iD (dCall sp_parts_of (dCons (dVar 3) dNil))) (gN 6) dYes (dTup (dCons (dVar 6) (dCons (dVar 5) dNil))) [6]))
          { nx := fun ε' S' => ∃ m', m' < (List.map (fun w => w.fst.sz) r).sum + u.sz ∧ ScWe t p q S m' ε' S', rt := Dn Q,
            bk := dSeq (dDrop (dReverse (dVar 1))) (dRet (dVar 1)) { nx := fun x S' => Dn Q D.non S', rt := Dn Q },
            ct := fun ε' S' => ∃ m', m' < (List.map (fun w => w.fst.sz) r).sum + u.sz ∧ ScWe t p q S m' ε' S' }
          [some t.d, some (.ref p), some (.ref q), some u.d, some (.tup (l.map .str)), some (.tup (inner.map .str)), none]
          (put (put S1 q (Cell.lst (List.map vis r))) p (Cell.lst (List.map vis fs ++ [D.tup [u.d, D.tup (List.map D.str l)]]))) := by
        intro inner hin
        refine scTail_ok (r := r) ((put_ne (Ne.symm hpq)).trans put_same) (by omega) fun S2 o2 hq2 => ?_
        have e := TR.Tr.sz_parts u
        have hsum : ((r ++ u.parts.map fun v => (v, inner)).map fun w => w.1.sz).sum = (r.map fun w => w.1.sz).sum + (u.parts.map TR.Tr.sz).sum := by
          rw [List.map_append, List.sum_append, List.map_map]
          rfl
        refine ⟨_, ?_, fs ++ [(u, l)], r ++ u.parts.map (fun v => (v, inner)), _, _, _, rfl, ?_, hq2, ?_, ?_, ?_, ?_, ?_, rfl⟩
        · rw [hsum]; omega
        · refine o2 _ _ hpq ?_
          rw [put_same, List.map_append]
          rfl
        · intro a c ha
          by_cases e1 : a = q
          · subst e1; rw [hq0] at ha; cases ha
          · refine o2 _ _ e1 ?_
            by_cases e2 : a = p
            · subst e2; rw [hp] at ha; cases ha
            · rw [put_ne e2, put_ne e1]; exact hL _ _ ha
        · intro x
          rw [← hi x, hin]
          have fp := free_parts u l x
          constructor
          · rintro (h | ⟨w, hw, h⟩)
            · obtain ⟨l', hl', hx⟩ := h
              rcases List.mem_append.mp hl' with h | h
              · exact .inl ⟨l', h, hx⟩
              · have h := List.mem_singleton.mp h
                cases h
                exact .inr ⟨(.nam x, l), by simp, fp.mpr (.inl ⟨rfl, hx⟩)⟩
            · rcases List.mem_append.mp hw with h' | h'
              · exact .inr ⟨w, by simp [h'], h⟩
              · obtain ⟨v, hv, rfl⟩ := List.mem_map.mp h'
                exact .inr ⟨(u, l), by simp, fp.mpr (.inr ⟨v, hv, h⟩)⟩
          · rintro (⟨l', hl', hx⟩ | ⟨w, hw, h⟩)
            · exact .inl ⟨l', by simp [hl'], hx⟩
            · rcases List.mem_append.mp hw with h' | h'
              · exact .inr ⟨w, by simp [h'], h⟩
              · have h' := List.mem_singleton.mp h'
                subst h'
                rcases fp.mp h with ⟨e, hx⟩ | ⟨v, hv, h⟩
                · subst e
                  exact .inl ⟨l, by simp, hx⟩
                · exact .inr ⟨(v, u.bind l), by simp [hv], h⟩
        · rw [hsum, List.length_append, List.length_singleton]
          omega
        · intro w hw
          rcases List.mem_append.mp hw with h' | h'
          · exact hb w (by simp [h'])
          · obtain ⟨v, hv, rfl⟩ := List.mem_map.mp h'
            have := parts_sz hv
            have := bind_len u l
            rw [hin]
            show (u.bind l).length + v.sz ≤ 400
            omega
        · have := parts_len u
          rw [List.length_append, List.length_append, List.length_map, List.length_singleton]
          omega
      rcases word_q u with ⟨qq, x, a, rfl⟩ | hw
      · cases qq with
        | some =>
          walk_at "sts"
          rw [Tr.d_eq]
          walk_at "sts"
          refine i_niTs ?_
          walk_at "sts"
          refine ifN (fun h => ?_) fun h => ?_
          · walk_at "sts"
            refine i_addT ?_ ?_
            · rw [List.length_map]
              exact Nat.le_trans (by simp only [List.length_singleton]; omega : _ ≤ 1000) (by decide)
            · walk_at "sts"
              rw [← Tr.d_eq, ← List.map_singleton (f := D.str), ← List.map_append]
              exact unD (fin (l ++ [x]) (by show _ = if x ∈ l then l else l ++ [x]; rw [if_neg h]))
          · walk_at "sts"
            rw [← Tr.d_eq]
            exact unD (fin l (by show _ = if x ∈ l then l else l ++ [x]; rw [if_pos h]))
        | all =>
          walk_at "sts"
          rw [Tr.d_eq]
          walk_at "sts"
          refine i_niTs ?_
          walk_at "sts"
          refine ifN (fun h => ?_) fun h => ?_
          · walk_at "sts"
            refine i_addT ?_ ?_
            · rw [List.length_map]
              exact Nat.le_trans (by simp only [List.length_singleton]; omega : _ ≤ 1000) (by decide)
            · walk_at "sts"
              rw [← Tr.d_eq, ← List.map_singleton (f := D.str), ← List.map_append]
              exact unD (fin (l ++ [x]) (by show _ = if x ∈ l then l else l ++ [x]; rw [if_neg h]))
          · walk_at "sts"
            rw [← Tr.d_eq]
            exact unD (fin l (by show _ = if x ∈ l then l else l ++ [x]; rw [if_pos h]))
      · walk_at "sts"
        rw [Tr.d_eq u]
        refine i_ix0 ?_
        walk_at "sts"
        refine ifF hw ?_
        walk_at "sts"
        rw [← Tr.d_eq]
        refine unD (fin l ?_)
        cases u with
        | qn qq x a => cases qq <;> exact (nomatch (show true = false from hw))
        | _ => rfl
end K07
end
section
namespace K07
open PySem L2 DL DLZ TR TS PyProof.Rows
local macro_rules | `(tactic| walk_at "st") => `(tactic| ((with_reducible refine ifT ?he ?_); (case he => rfl)))
local macro_rules | `(tactic| walk_at "st") => `(tactic| ((with_reducible refine ifF ?he ?_); (case he => rfl)))
local macro_rules | `(tactic| walk_at "st") => `(tactic| ((with_reducible refine ifT ?he ?_); (case he => decide +kernel)))
local macro_rules | `(tactic| walk_at "st") => `(tactic| ((with_reducible refine ifF ?he ?_); (case he => decide +kernel)))
local macro_rules | `(tactic| walk_at "st") => `(tactic| ((with_reducible refine i_isiT (T := ?tt) (b := false) ?he ?hf ?_); (case he => rfl); (case hf => decide +kernel)))
local macro_rules | `(tactic| walk_at "st") => `(tactic| ((with_reducible refine i_isi (T := ?tt) (b := false) ?he ?hf ?_); (case he => rfl); (case hf => decide +kernel)))
local macro_rules | `(tactic| walk_at "st") => `(tactic| ((with_reducible refine i_isiT (T := ?tt) (b := true) ?he ?hf ?_); (case he => rfl); (case hf => decide +kernel)))
local macro_rules | `(tactic| walk_at "st") => `(tactic| ((with_reducible refine i_isi (T := ?tt) (b := true) ?he ?hf ?_); (case he => rfl); (case hf => decide +kernel)))
local macro_rules | `(tactic| walk_at "st") => `(tactic| ((with_reducible refine i_len ?he ?_); (case he => rfl)))
local macro_rules | `(tactic| walk_at "st") => `(tactic| ((with_reducible refine i_niT (v := ?vv) (us := ?uu) ?he ?hf ?_); (case he => rfl); (case hf => rfl)))
local macro_rules | `(tactic| walk_at "st") => `(tactic| ((with_reducible refine i_inT (v := ?vv) (us := ?uu) ?he ?hf ?_); (case he => rfl); (case hf => rfl)))
local macro_rules | `(tactic| walk_at "st") => `(tactic| ((with_reducible refine i_ixC (d := ?dd) ?he ?_); (case he => rfl)))
local macro_rules | `(tactic| walk_at "st") => `(tactic| ((with_reducible refine i_ixT (d := ?dd) ?he ?_); (case he => rfl)))
local macro_rules | `(tactic| walk_at "st") => `(tactic| ((with_reducible refine i_aug (x := ?dd) ?he ?_); (case he => rfl)))
local macro_rules | `(tactic| walk_at "st") => `(tactic| ((with_reducible refine i_var (d := ?dd) ?he ?_); (case he => rfl)))
local macro_rules | `(tactic| walk_at "st") => `(tactic| with_reducible refine i_neE ?_)
local macro_rules | `(tactic| walk_at "st") => `(tactic| with_reducible refine i_eqE ?_)
local macro_rules | `(tactic| walk_at "st") => `(tactic| with_reducible refine i_iRev ?_)
local macro_rules | `(tactic| walk_at "st") => `(tactic| with_reducible refine i_iStr ?_)
local macro_rules | `(tactic| walk_at "st") => `(tactic| with_reducible refine i_join ?_)
local macro_rules | `(tactic| walk_at "st") => `(tactic| with_reducible refine i_extendT ?_)
local macro_rules | `(tactic| walk_at "st") => `(tactic| with_reducible refine i_iZip ?_)
local macro_rules | `(tactic| walk_at "st") => `(tactic| with_reducible refine i_delFrom ?_)
local macro_rules | `(tactic| walk_at "st") => `(tactic| with_reducible refine i_max2 ?_)
local macro_rules | `(tactic| walk_at "st") => `(tactic| with_reducible refine i_strS ?_)
local macro_rules | `(tactic| walk_at "st") => `(tactic| with_reducible refine i_fmt ?_)
local macro_rules | `(tactic| walk_at "st") => `(tactic| with_reducible refine i_jnil ?_)
local macro_rules | `(tactic| walk_at "st") => `(tactic| with_reducible refine i_jcons ?_)
local macro_rules | `(tactic| walk_at "st") => `(tactic| with_reducible refine i_joined ?_)
local macro_rules | `(tactic| walk_at "st") => `(tactic| with_reducible refine i_truN ?_)
local macro_rules | `(tactic| walk_at "st") => `(tactic| with_reducible refine i_truT ?_)
local macro_rules | `(tactic| walk_at "st") => `(tactic| with_reducible refine i_truI ?_)
local macro_rules | `(tactic| walk_at "st") => `(tactic| with_reducible refine i_truB ?_)
local macro_rules | `(tactic| walk_at "st") => `(tactic| with_reducible refine i_tupT ?_)
local macro_rules | `(tactic| walk_at "st") => `(tactic| with_reducible refine i_slT ?_)
local macro_rules | `(tactic| walk_at "st") => `(tactic| with_reducible refine i_lenC ?_)
local macro_rules | `(tactic| walk_at "st") => `(tactic| with_reducible refine i_lenT ?_)
local macro_rules | `(tactic| walk_at "st") => `(tactic| with_reducible refine i_int1 ?_)
local macro_rules | `(tactic| walk_at "st") => `(tactic| with_reducible refine i_int ?_)
local macro_rules | `(tactic| walk_at "st") => `(tactic| with_reducible refine i_addII ?_)
local macro_rules | `(tactic| walk_at "st") => `(tactic| with_reducible refine i_addI ?_)
local macro_rules | `(tactic| walk_at "st") => `(tactic| with_reducible refine i_noN ?_)
local macro_rules | `(tactic| walk_at "st") => `(tactic| with_reducible refine i_isN ?_)
local macro_rules | `(tactic| walk_at "st") => `(tactic| with_reducible refine i_neS ?_)
local macro_rules | `(tactic| walk_at "st") => `(tactic| with_reducible refine i_neI ?_)
local macro_rules | `(tactic| walk_at "st") => `(tactic| with_reducible refine i_eqB ?_)
local macro_rules | `(tactic| walk_at "st") => `(tactic| with_reducible refine i_eqS ?_)
local macro_rules | `(tactic| walk_at "st") => `(tactic| with_reducible refine i_eqI ?_)
local macro_rules | `(tactic| walk_at "st") => `(tactic| with_reducible refine i_yes ?_)
local macro_rules | `(tactic| walk_at "st") => `(tactic| with_reducible refine i_gNi ?_)
local macro_rules | `(tactic| walk_at "st") => `(tactic| with_reducible refine i_gCo ?_)
local macro_rules | `(tactic| walk_at "st") => `(tactic| with_reducible refine i_gTu ?_)
local macro_rules | `(tactic| walk_at "st") => `(tactic| with_reducible refine i_gN ?_)
local macro_rules | `(tactic| walk_at "st") => `(tactic| with_reducible refine i_iR1 ?_)
local macro_rules | `(tactic| walk_at "st") => `(tactic| with_reducible refine i_iD ?_)
local macro_rules | `(tactic| walk_at "st") => `(tactic| with_reducible refine i_cdG ?_)
local macro_rules | `(tactic| walk_at "st") => `(tactic| with_reducible refine i_reverse ?_)
local macro_rules | `(tactic| walk_at "st") => `(tactic| with_reducible refine i_pop ?_)
local macro_rules | `(tactic| walk_at "st") => `(tactic| with_reducible refine i_extend ?_)
local macro_rules | `(tactic| walk_at "st") => `(tactic| with_reducible refine i_append ?_)
local macro_rules | `(tactic| walk_at "st") => `(tactic| with_reducible refine i_someP ?_)
local macro_rules | `(tactic| walk_at "st") => `(tactic| with_reducible refine i_noP ?_)
local macro_rules | `(tactic| walk_at "st") => `(tactic| with_reducible refine i_sl ?_)
local macro_rules | `(tactic| walk_at "st") => `(tactic| with_reducible refine i_call ?_)
local macro_rules | `(tactic| walk_at "st") => `(tactic| with_reducible refine i_cb ?_)
local macro_rules | `(tactic| walk_at "st") => `(tactic| with_reducible refine i_neg1 ?_)
local macro_rules | `(tactic| walk_at "st") => `(tactic| with_reducible refine i_neg ?_)
local macro_rules | `(tactic| walk_at "st") => `(tactic| with_reducible refine i_ifE ?_)
local macro_rules | `(tactic| walk_at "st") => `(tactic| with_reducible refine i_notV ?_)
local macro_rules | `(tactic| walk_at "st") => `(tactic| with_reducible refine i_orV ?_)
local macro_rules | `(tactic| walk_at "st") => `(tactic| with_reducible refine i_andV ?_)
local macro_rules | `(tactic| walk_at "st") => `(tactic| with_reducible refine i_not ?_)
local macro_rules | `(tactic| walk_at "st") => `(tactic| with_reducible refine i_or ?_)
local macro_rules | `(tactic| walk_at "st") => `(tactic| with_reducible refine i_and ?_)
local macro_rules | `(tactic| walk_at "st") => `(tactic| with_reducible refine i_tru ?_)
local macro_rules | `(tactic| walk_at "st") => `(tactic| with_reducible refine i_bl ?_)
local macro_rules | `(tactic| walk_at "st") => `(tactic| with_reducible refine i_tb ?_)
local macro_rules | `(tactic| walk_at "st") => `(tactic| with_reducible refine i_cons ?_)
local macro_rules | `(tactic| walk_at "st") => `(tactic| with_reducible refine i_nil ?_)
local macro_rules | `(tactic| walk_at "st") => `(tactic| with_reducible refine i_lst ?_)
local macro_rules | `(tactic| walk_at "st") => `(tactic| with_reducible refine i_tup ?_)
local macro_rules | `(tactic| walk_at "st") => `(tactic| with_reducible refine i_op ?_)
local macro_rules | `(tactic| walk_at "st") => `(tactic| with_reducible refine i_c ?_)
local macro_rules | `(tactic| walk_at "st") => `(tactic| with_reducible refine i_par2 ?_)
local macro_rules | `(tactic| walk_at "st") => `(tactic| with_reducible refine i_par ?_)
local macro_rules | `(tactic| walk_at "st") => `(tactic| with_reducible refine i_setL ?_)
local macro_rules | `(tactic| walk_at "st") => `(tactic| with_reducible refine i_cnt ?_)
local macro_rules | `(tactic| walk_at "st") => `(tactic| with_reducible refine i_brk ?_)
local macro_rules | `(tactic| walk_at "st") => `(tactic| with_reducible refine i_skip ?_)
local macro_rules | `(tactic| walk_at "st") => `(tactic| with_reducible refine i_if ?_)
local macro_rules | `(tactic| walk_at "st") => `(tactic| with_reducible refine i_retN ?_)
local macro_rules | `(tactic| walk_at "st") => `(tactic| with_reducible refine i_ret ?_)
local macro_rules | `(tactic| walk_at "st") => `(tactic| with_reducible refine i_drop ?_)
local macro_rules | `(tactic| walk_at "st") => `(tactic| with_reducible refine i_asg ?_)
local macro_rules | `(tactic| walk_at "st") => `(tactic| with_reducible refine i_set2 ?_)
local macro_rules | `(tactic| walk_at "st") => `(tactic| with_reducible refine i_set ?_)
local macro_rules | `(tactic| walk_at "st") => `(tactic| with_reducible refine i_seq ?_)
local macro_rules | `(tactic| walk_at "sts") => `(tactic| repeat walk_at "st")
theorem word_name {u : Tr} (h : u.word = "name") : ∃ s, u = .nam s := by
  rcases u with n | s | ⟨o, a, b⟩ | ⟨n, a⟩ | ⟨o, a, n⟩ | a | ⟨o, x, a⟩
  · exact absurd h (by decide +kernel : ¬ ("number" : Str) = "name")
  · exact ⟨s, rfl⟩
  · cases o <;> exact absurd h (by show ¬ ((_ : Str) = "name"); simp only [Tr.word, Op2.w]; decide +kernel)
  · exact absurd h (by decide +kernel : ¬ ("times" : Str) = "name")
  · cases o <;> exact absurd h (by show ¬ ((_ : Str) = "name"); simp only [Tr.word, Opd.w]; decide +kernel)
  · exact absurd h (by decide +kernel : ¬ ("not" : Str) = "name")
  · cases o <;> exact absurd h (by show ¬ ((_ : Str) = "name"); simp only [Tr.word, Qn.w]; decide +kernel)
theorem rd_free_names (ds : List D) (S : Sto) (Q : DK) (E : DX) (h : sp_free_names ds S Q E) : t_free_names { nx := fun _ S' => Dn Q .non S', rt := Dn Q } (startD 3 ds) S := by
  obtain ⟨t, rfl, hz, k⟩ := h
  unfold t_free_names
  walk_at "sts"
  unfold dSc
  walk_at "sts"
  refine ⟨t, rfl, hz, fun a ls hl hn ha => ⟨ls.map vis, ?_, fun p hp => ?_⟩⟩
  · show (match put S a _ a with | some (.lst xs) => some xs | _ => none) = _
    rw [put_same]
  have hap : a ≠ p := fun e => by subst e; rw [put_same] at hp; cases hp
  have hp0 : S p = none := by rw [put_ne (Ne.symm hap)] at hp; exact hp
  refine ⟨fun i acc S1 => ∃ ns : List Str, acc = ns.map .str ∧ ns.Nodup ∧ (∀ x, x ∈ ns ↔ hit (ls.take i) x) ∧ ns.length ≤ i ∧ S1 p = some (.set acc) ∧ S1 a = some (.lst (ls.map vis)) ∧ Le S S1,
    ⟨[], rfl, .nil, by simp [hit], by simp, put_same, (put_ne hap).trans put_same, lePut (lePut (Le.refl S) ha) hp0⟩, fun i acc S1 _ w => ?_, fun i x acc S1 hx w => ?_, fun acc S1 w => ?_⟩
  · obtain ⟨ns, _, _, _, _, _, h, _⟩ := w
    exact h
  · obtain ⟨ns, rfl, h1, h2, h3, h4, h5, h6⟩ := w
    rw [List.getElem?_map] at hx
    obtain ⟨⟨u, l⟩, hv, rfl⟩ := Option.map_eq_some_iff.mp hx
    have hi : i < ls.length := (List.getElem?_eq_some_iff.mp hv).1
    have ht : ls.take (i + 1) = ls.take i ++ [(u, l)] := by rw [List.take_add_one, hv]; rfl
    show gTu _ (.tup [u.d, .tup (l.map .str)]) _ _ _
    walk_at "sts"
    rw [Tr.d_eq u]
    refine i_ix0 ?_
    walk_at "sts"
    refine ifD (fun hw => ?_) fun hw => ?_
    · obtain ⟨s, rfl⟩ := word_name hw
      walk_at "sts"
      refine i_niTs ?_
      walk_at "sts"
      refine ifN (fun hs => ?_) fun hs => ?_
      · walk_at "sts"
        refine ⟨h4, rfl, ?_, putS ns s, ?_, putS_nodup h1 s, fun x => ?_, Nat.le_trans putS_len (by omega), put_same, (put_ne hap).trans h5, lePut h6 hp0⟩
        · rw [List.length_map]; exact Nat.lt_of_le_of_lt (by omega : _ ≤ 401) (by decide)
        · rw [putD_str]
        · rw [putS_mem, h2, ht]
          constructor
          · rintro (⟨l', h, hx⟩ | rfl)
            · exact ⟨l', by simp [h], hx⟩
            · exact ⟨l, by simp, hs⟩
          · rintro ⟨l', h, hx⟩
            rcases List.mem_append.mp h with h | h
            · exact .inl ⟨l', h, hx⟩
            · have h := List.mem_singleton.mp h
              cases h
              exact .inr rfl
      · refine ⟨ns, rfl, h1, fun x => ?_, by omega, h4, h5, h6⟩
        rw [h2, ht]
        constructor
        · rintro ⟨l', h, hx⟩
          exact ⟨l', by simp [h], hx⟩
        · rintro ⟨l', h, hx⟩
          rcases List.mem_append.mp h with h | h
          · exact ⟨l', h, hx⟩
          · have h := List.mem_singleton.mp h
            cases h
            exact absurd hs hx
    · refine ⟨ns, rfl, h1, fun x => ?_, by omega, h4, h5, h6⟩
      rw [h2, ht]
      constructor
      · rintro ⟨l', h, hx⟩
        exact ⟨l', by simp [h], hx⟩
      · rintro ⟨l', h, hx⟩
        rcases List.mem_append.mp h with h | h
        · exact ⟨l', h, hx⟩
        · have h := List.mem_singleton.mp h
          cases h
          exact absurd rfl hw
  · obtain ⟨ns, rfl, h1, h2, h3, h4, h5, h6⟩ := w
    rw [List.length_map] at h3
    rw [List.length_map, List.take_length] at h2
    walk_at "sts"
    refine ⟨p, ns, rfl, .inl h4, fun ys q hy hs hq => ?_⟩
    refine ⟨_, ys.map .str, rfl, ?_, ?_⟩
    · show (match put S1 q _ q with | some (.lst xs) => some xs | _ => none) = _
      rw [put_same]
    · refine i_dnL ?_ (k ys ⟨hs, hy.nodup_iff.mpr h1, fun x => ?_⟩ ?_)
      · exact Le.put h6 hq
      · rw [hy.mem_iff, h2, hl]
      · rw [hy.length_eq]; omega
end K07
end
section
namespace K07
open PySem L2 DL DLZ TR TS PyProof.Rows
local macro_rules | `(tactic| walk_at "st") => `(tactic| ((with_reducible refine ifT ?he ?_); (case he => rfl)))
local macro_rules | `(tactic| walk_at "st") => `(tactic| ((with_reducible refine ifF ?he ?_); (case he => rfl)))
local macro_rules | `(tactic| walk_at "st") => `(tactic| ((with_reducible refine ifT ?he ?_); (case he => decide +kernel)))
local macro_rules | `(tactic| walk_at "st") => `(tactic| ((with_reducible refine ifF ?he ?_); (case he => decide +kernel)))
local macro_rules | `(tactic| walk_at "st") => `(tactic| ((with_reducible refine i_isiT (T := ?tt) (b := false) ?he ?hf ?_); (case he => rfl); (case hf => decide +kernel)))
local macro_rules | `(tactic| walk_at "st") => `(tactic| ((with_reducible refine i_isi (T := ?tt) (b := false) ?he ?hf ?_); (case he => rfl); (case hf => decide +kernel)))
local macro_rules | `(tactic| walk_at "st") => `(tactic| ((with_reducible refine i_isiT (T := ?tt) (b := true) ?he ?hf ?_); (case he => rfl); (case hf => decide +kernel)))
local macro_rules | `(tactic| walk_at "st") => `(tactic| ((with_reducible refine i_isi (T := ?tt) (b := true) ?he ?hf ?_); (case he => rfl); (case hf => decide +kernel)))
local macro_rules | `(tactic| walk_at "st") => `(tactic| ((with_reducible refine i_len ?he ?_); (case he => rfl)))
local macro_rules | `(tactic| walk_at "st") => `(tactic| ((with_reducible refine i_niT (v := ?vv) (us := ?uu) ?he ?hf ?_); (case he => rfl); (case hf => rfl)))
local macro_rules | `(tactic| walk_at "st") => `(tactic| ((with_reducible refine i_inT (v := ?vv) (us := ?uu) ?he ?hf ?_); (case he => rfl); (case hf => rfl)))
local macro_rules | `(tactic| walk_at "st") => `(tactic| ((with_reducible refine i_ixC (d := ?dd) ?he ?_); (case he => rfl)))
local macro_rules | `(tactic| walk_at "st") => `(tactic| ((with_reducible refine i_ixT (d := ?dd) ?he ?_); (case he => rfl)))
local macro_rules | `(tactic| walk_at "st") => `(tactic| ((with_reducible refine i_aug (x := ?dd) ?he ?_); (case he => rfl)))
local macro_rules | `(tactic| walk_at "st") => `(tactic| ((with_reducible refine i_var (d := ?dd) ?he ?_); (case he => rfl)))
local macro_rules | `(tactic| walk_at "st") => `(tactic| with_reducible refine i_neE ?_)
local macro_rules | `(tactic| walk_at "st") => `(tactic| with_reducible refine i_eqE ?_)
local macro_rules | `(tactic| walk_at "st") => `(tactic| with_reducible refine i_iRev ?_)
local macro_rules | `(tactic| walk_at "st") => `(tactic| with_reducible refine i_iStr ?_)
local macro_rules | `(tactic| walk_at "st") => `(tactic| with_reducible refine i_join ?_)
local macro_rules | `(tactic| walk_at "st") => `(tactic| with_reducible refine i_extendT ?_)
local macro_rules | `(tactic| walk_at "st") => `(tactic| with_reducible refine i_iZip ?_)
local macro_rules | `(tactic| walk_at "st") => `(tactic| with_reducible refine i_delFrom ?_)
local macro_rules | `(tactic| walk_at "st") => `(tactic| with_reducible refine i_max2 ?_)
local macro_rules | `(tactic| walk_at "st") => `(tactic| with_reducible refine i_strS ?_)
local macro_rules | `(tactic| walk_at "st") => `(tactic| with_reducible refine i_fmt ?_)
local macro_rules | `(tactic| walk_at "st") => `(tactic| with_reducible refine i_jnil ?_)
local macro_rules | `(tactic| walk_at "st") => `(tactic| with_reducible refine i_jcons ?_)
local macro_rules | `(tactic| walk_at "st") => `(tactic| with_reducible refine i_joined ?_)
local macro_rules | `(tactic| walk_at "st") => `(tactic| with_reducible refine i_truN ?_)
local macro_rules | `(tactic| walk_at "st") => `(tactic| with_reducible refine i_truT ?_)
local macro_rules | `(tactic| walk_at "st") => `(tactic| with_reducible refine i_truI ?_)
local macro_rules | `(tactic| walk_at "st") => `(tactic| with_reducible refine i_truB ?_)
local macro_rules | `(tactic| walk_at "st") => `(tactic| with_reducible refine i_tupT ?_)
local macro_rules | `(tactic| walk_at "st") => `(tactic| with_reducible refine i_slT ?_)
local macro_rules | `(tactic| walk_at "st") => `(tactic| with_reducible refine i_lenC ?_)
local macro_rules | `(tactic| walk_at "st") => `(tactic| with_reducible refine i_lenT ?_)
local macro_rules | `(tactic| walk_at "st") => `(tactic| with_reducible refine i_int1 ?_)
local macro_rules | `(tactic| walk_at "st") => `(tactic| with_reducible refine i_int ?_)
local macro_rules | `(tactic| walk_at "st") => `(tactic| with_reducible refine i_addII ?_)
local macro_rules | `(tactic| walk_at "st") => `(tactic| with_reducible refine i_addI ?_)
local macro_rules | `(tactic| walk_at "st") => `(tactic| with_reducible refine i_noN ?_)
local macro_rules | `(tactic| walk_at "st") => `(tactic| with_reducible refine i_isN ?_)
local macro_rules | `(tactic| walk_at "st") => `(tactic| with_reducible refine i_neS ?_)
local macro_rules | `(tactic| walk_at "st") => `(tactic| with_reducible refine i_neI ?_)
local macro_rules | `(tactic| walk_at "st") => `(tactic| with_reducible refine i_eqB ?_)
local macro_rules | `(tactic| walk_at "st") => `(tactic| with_reducible refine i_eqS ?_)
local macro_rules | `(tactic| walk_at "st") => `(tactic| with_reducible refine i_eqI ?_)
local macro_rules | `(tactic| walk_at "st") => `(tactic| with_reducible refine i_yes ?_)
local macro_rules | `(tactic| walk_at "st") => `(tactic| with_reducible refine i_gNi ?_)
local macro_rules | `(tactic| walk_at "st") => `(tactic| with_reducible refine i_gCo ?_)
local macro_rules | `(tactic| walk_at "st") => `(tactic| with_reducible refine i_gTu ?_)
local macro_rules | `(tactic| walk_at "st") => `(tactic| with_reducible refine i_gN ?_)
local macro_rules | `(tactic| walk_at "st") => `(tactic| with_reducible refine i_iR1 ?_)
local macro_rules | `(tactic| walk_at "st") => `(tactic| with_reducible refine i_iD ?_)
local macro_rules | `(tactic| walk_at "st") => `(tactic| with_reducible refine i_cdG ?_)
local macro_rules | `(tactic| walk_at "st") => `(tactic| with_reducible refine i_reverse ?_)
local macro_rules | `(tactic| walk_at "st") => `(tactic| with_reducible refine i_pop ?_)
local macro_rules | `(tactic| walk_at "st") => `(tactic| with_reducible refine i_extend ?_)
local macro_rules | `(tactic| walk_at "st") => `(tactic| with_reducible refine i_append ?_)
local macro_rules | `(tactic| walk_at "st") => `(tactic| with_reducible refine i_someP ?_)
local macro_rules | `(tactic| walk_at "st") => `(tactic| with_reducible refine i_noP ?_)
local macro_rules | `(tactic| walk_at "st") => `(tactic| with_reducible refine i_sl ?_)
local macro_rules | `(tactic| walk_at "st") => `(tactic| with_reducible refine i_call ?_)
local macro_rules | `(tactic| walk_at "st") => `(tactic| with_reducible refine i_cb ?_)
local macro_rules | `(tactic| walk_at "st") => `(tactic| with_reducible refine i_neg1 ?_)
local macro_rules | `(tactic| walk_at "st") => `(tactic| with_reducible refine i_neg ?_)
local macro_rules | `(tactic| walk_at "st") => `(tactic| with_reducible refine i_ifE ?_)
local macro_rules | `(tactic| walk_at "st") => `(tactic| with_reducible refine i_notV ?_)
local macro_rules | `(tactic| walk_at "st") => `(tactic| with_reducible refine i_orV ?_)
local macro_rules | `(tactic| walk_at "st") => `(tactic| with_reducible refine i_andV ?_)
local macro_rules | `(tactic| walk_at "st") => `(tactic| with_reducible refine i_not ?_)
local macro_rules | `(tactic| walk_at "st") => `(tactic| with_reducible refine i_or ?_)
local macro_rules | `(tactic| walk_at "st") => `(tactic| with_reducible refine i_and ?_)
local macro_rules | `(tactic| walk_at "st") => `(tactic| with_reducible refine i_tru ?_)
local macro_rules | `(tactic| walk_at "st") => `(tactic| with_reducible refine i_bl ?_)
local macro_rules | `(tactic| walk_at "st") => `(tactic| with_reducible refine i_tb ?_)
local macro_rules | `(tactic| walk_at "st") => `(tactic| with_reducible refine i_cons ?_)
local macro_rules | `(tactic| walk_at "st") => `(tactic| with_reducible refine i_nil ?_)
local macro_rules | `(tactic| walk_at "st") => `(tactic| with_reducible refine i_lst ?_)
local macro_rules | `(tactic| walk_at "st") => `(tactic| with_reducible refine i_tup ?_)
local macro_rules | `(tactic| walk_at "st") => `(tactic| with_reducible refine i_op ?_)
local macro_rules | `(tactic| walk_at "st") => `(tactic| with_reducible refine i_c ?_)
local macro_rules | `(tactic| walk_at "st") => `(tactic| with_reducible refine i_par2 ?_)
local macro_rules | `(tactic| walk_at "st") => `(tactic| with_reducible refine i_par ?_)
local macro_rules | `(tactic| walk_at "st") => `(tactic| with_reducible refine i_setL ?_)
local macro_rules | `(tactic| walk_at "st") => `(tactic| with_reducible refine i_cnt ?_)
local macro_rules | `(tactic| walk_at "st") => `(tactic| with_reducible refine i_brk ?_)
local macro_rules | `(tactic| walk_at "st") => `(tactic| with_reducible refine i_skip ?_)
local macro_rules | `(tactic| walk_at "st") => `(tactic| with_reducible refine i_if ?_)
local macro_rules | `(tactic| walk_at "st") => `(tactic| with_reducible refine i_retN ?_)
local macro_rules | `(tactic| walk_at "st") => `(tactic| with_reducible refine i_ret ?_)
local macro_rules | `(tactic| walk_at "st") => `(tactic| with_reducible refine i_drop ?_)
local macro_rules | `(tactic| walk_at "st") => `(tactic| with_reducible refine i_asg ?_)
local macro_rules | `(tactic| walk_at "st") => `(tactic| with_reducible refine i_set2 ?_)
local macro_rules | `(tactic| walk_at "st") => `(tactic| with_reducible refine i_set ?_)
local macro_rules | `(tactic| walk_at "st") => `(tactic| with_reducible refine i_seq ?_)
local macro_rules | `(tactic| walk_at "sts") => `(tactic| repeat walk_at "st")
theorem rd_law_take (ds : List D) (S : Sto) (Q : DK) (E : DX) (h : sp_law_take ds S Q E) : t_law_take { nx := fun _ S' => Dn Q .non S', rt := Dn Q } (startD 5 ds) S := by
  obtain ⟨b, g, c, many, rfl, m0, m1, hc, ⟨⟨gs, seed, n, hg, hb, s0, s1, n0, n1⟩, hbg⟩, k⟩ := h
  unfold t_law_take
  walk_at "sts"
  refine i_ixR (d := .int n) hb rfl ?_
  walk_at "sts"
  refine ⟨b, _, 2, 2, rfl, rfl, hb, rfl, ?_⟩
  walk_at "sts"
  refine i_ixR (d := .ref g) put_same rfl ?_
  walk_at "sts"
  have hg1 : put S b (.lst ([.ref g, .int seed, .int n].set 2 (.int (n + 1)))) g = some (.lst (gs.map .int)) := (put_ne (Ne.symm hbg)).trans hg
  refine i_truR hg1 ?_
  rcases gs with _ | ⟨x, gs⟩
  · have fin : ∀ r, 0 ≤ r → r < many → Dn Q (.int r) (put S b (.lst ([.ref g, .int seed, .int n].set 2 (.int (n + 1))))) := fun r r0 r1 =>
      i_dn (k r _ r0 r1 ⟨⟨[], seed, n + 1, hg1, put_same, s0, s1, by omega, by omega⟩, hbg⟩ fun a c h1 h2 h3 => (put_ne h1).trans h3)
    walk_at "sts"
    refine i_ixR (d := .int seed) put_same rfl ?_
    walk_at "sts"
    refine i_ixR (d := .int (n + 1)) put_same rfl ?_
    walk_at "sts"
    refine i_mulS (by omega) (by omega) ?_
    walk_at "sts"
    refine i_modB (by omega) fun x x0 x1 _ => ?_
    walk_at "sts"
    refine i_mulS (by omega) (by omega) ?_
    walk_at "sts"
    refine i_ixR (d := .int (n + 1)) put_same rfl ?_
    walk_at "sts"
    refine i_modB (by omega) fun y y0 y1 _ => ?_
    walk_at "sts"
    refine i_mulS (by omega) (by omega) ?_
    walk_at "sts"
    refine i_mulS (by omega) (by omega) ?_
    walk_at "sts"
    refine i_modB (by omega) fun z z0 z1 _ => ?_
    walk_at "sts"
    refine i_mulS (by omega) (by omega) ?_
    walk_at "sts"
    refine i_ixR (d := .int seed) put_same rfl ?_
    walk_at "sts"
    refine i_modB (by omega) fun w w0 w1 _ => ?_
    walk_at "sts"
    refine i_divS (by omega) (by omega) ?_
    walk_at "sts"
    refine i_modB m0 fun v v0 v1 _ => ?_
    exact fin v v0 v1
  · walk_at "sts"
    refine i_ixR (d := .int x) hg1 atI0 ?_
    walk_at "sts"
    refine i_modB m0 fun v v0 v1 _ => ?_
    walk_at "sts"
    refine i_ixR (d := .int x) hg1 atI0 ?_
    walk_at "sts"
    refine i_divS m0 (by omega) ?_
    walk_at "sts"
    refine ⟨g, _, 0, 0, rfl, rfl, hg1, by unfold ixN; rw [if_pos (by omega), if_pos (by simp)]; rfl, ?_⟩
    walk_at "sts"
    refine i_ixR (d := .int (x / many)) put_same atI0 ?_
    walk_at "sts"
    refine ifD (fun hz => ?_) fun hz => ?_
    · walk_at "sts"
      unfold dPopAt
      walk_at "sts"
      refine ⟨g, _, rfl, put_same, ?_⟩
      walk_at "sts"
      refine ⟨0, 0, _, .int (x / many), rfl, put_same, by decide, by decide, ?_, rfl, ?_⟩
      · unfold seqIndex?
        simp
      · walk_at "sts"
        refine i_dn (k v _ v0 v1 ⟨⟨gs, seed, n + 1, put_same, (put_ne hbg).trans ((put_ne hbg).trans put_same), s0, s1, by omega, by omega⟩, hbg⟩ fun a c h1 h2 h3 => ?_)
        rw [put_ne h2, put_ne h2, put_ne h1]; exact h3
    · walk_at "sts"
      refine i_dn (k v _ v0 v1 ⟨⟨(x / many) :: gs, seed, n + 1, put_same, (put_ne hbg).trans put_same, s0, s1, by omega, by omega⟩, hbg⟩ fun a c h1 h2 h3 => ?_)
      rw [put_ne h2, put_ne h1]; exact h3
theorem rd_law_number (ds : List D) (S : Sto) (Q : DK) (E : DX) (h : sp_law_number ds S Q E) : t_law_number { nx := fun _ S' => Dn Q .non S', rt := Dn Q } (startD 2 ds) S := by
  obtain ⟨b, g, c, rfl, hc, hb, k⟩ := h
  unfold t_law_number
  walk_at "sts"
  refine ⟨b, g, c, 8, rfl, by decide, by decide, by omega, hb, fun r S1 r0 r1 hb1 k1 => ?_⟩
  have up : ∀ S', Bag S' b g (c + 1) → Bag S' b g (c + 2) := fun S' ⟨⟨gs, s, n, a, b, c, d, e, f⟩, z⟩ => ⟨⟨gs, s, n, a, b, c, d, e, by omega⟩, z⟩
  walk_at "sts"
  refine ifD (fun h => ?_) fun h => ?_
  · walk_at "sts"
    exact i_dn (k 0 _ (by omega) (up _ hb1) k1)
  walk_at "sts"
  refine ifD (fun h => ?_) fun h => ?_
  · walk_at "sts"
    refine ⟨b, g, c + 1, 3, rfl, by decide, by decide, by omega, hb1, fun v S2 v0 v1 hb2 k2 => ?_⟩
    walk_at "sts"
    refine i_dn ?_
    have e : (999999 : Int) - v = ((999999 - v).toNat : Int) := by omega
    rw [e]
    exact k _ _ (by omega) hb2 fun a c h1 h2 h3 => k2 a c h1 h2 (k1 a c h1 h2 h3)
  walk_at "sts"
  refine ifD (fun h => ?_) fun h => ?_
  · walk_at "sts"
    refine ⟨b, g, c + 1, 1000000, rfl, by decide, by decide, by omega, hb1, fun v S2 v0 v1 hb2 k2 => ?_⟩
    refine i_dn ?_
    have e : v = (v.toNat : Int) := by omega
    rw [e]
    exact k _ _ (by omega) hb2 fun a c h1 h2 h3 => k2 a c h1 h2 (k1 a c h1 h2 h3)
  walk_at "sts"
  refine ⟨b, g, c + 1, 14, rfl, by decide, by decide, by omega, hb1, fun v S2 v0 v1 hb2 k2 => ?_⟩
  refine i_dn ?_
  have e : v = (v.toNat : Int) := by omega
  rw [e]
  exact k _ _ (by omega) hb2 fun a c h1 h2 h3 => k2 a c h1 h2 (k1 a c h1 h2 h3)
end K07
end
section
namespace K07
open PySem L2 DL DLZ TR TS PyProof.Rows
local macro_rules | `(tactic| walk_at "st") => `(tactic| ((with_reducible refine ifT ?he ?_); (case he => rfl)))
local macro_rules | `(tactic| walk_at "st") => `(tactic| ((with_reducible refine ifF ?he ?_); (case he => rfl)))
local macro_rules | `(tactic| walk_at "st") => `(tactic| ((with_reducible refine ifT ?he ?_); (case he => decide +kernel)))
local macro_rules | `(tactic| walk_at "st") => `(tactic| ((with_reducible refine ifF ?he ?_); (case he => decide +kernel)))
local macro_rules | `(tactic| walk_at "st") => `(tactic| ((with_reducible refine i_isiT (T := ?tt) (b := false) ?he ?hf ?_); (case he => rfl); (case hf => decide +kernel)))
local macro_rules | `(tactic| walk_at "st") => `(tactic| ((with_reducible refine i_isi (T := ?tt) (b := false) ?he ?hf ?_); (case he => rfl); (case hf => decide +kernel)))
local macro_rules | `(tactic| walk_at "st") => `(tactic| ((with_reducible refine i_isiT (T := ?tt) (b := true) ?he ?hf ?_); (case he => rfl); (case hf => decide +kernel)))
local macro_rules | `(tactic| walk_at "st") => `(tactic| ((with_reducible refine i_isi (T := ?tt) (b := true) ?he ?hf ?_); (case he => rfl); (case hf => decide +kernel)))
local macro_rules | `(tactic| walk_at "st") => `(tactic| ((with_reducible refine i_len ?he ?_); (case he => rfl)))
local macro_rules | `(tactic| walk_at "st") => `(tactic| ((with_reducible refine i_niT (v := ?vv) (us := ?uu) ?he ?hf ?_); (case he => rfl); (case hf => rfl)))
local macro_rules | `(tactic| walk_at "st") => `(tactic| ((with_reducible refine i_inT (v := ?vv) (us := ?uu) ?he ?hf ?_); (case he => rfl); (case hf => rfl)))
local macro_rules | `(tactic| walk_at "st") => `(tactic| ((with_reducible refine i_ixC (d := ?dd) ?he ?_); (case he => rfl)))
local macro_rules | `(tactic| walk_at "st") => `(tactic| ((with_reducible refine i_ixT (d := ?dd) ?he ?_); (case he => rfl)))
local macro_rules | `(tactic| walk_at "st") => `(tactic| ((with_reducible refine i_aug (x := ?dd) ?he ?_); (case he => rfl)))
local macro_rules | `(tactic| walk_at "st") => `(tactic| ((with_reducible refine i_var (d := ?dd) ?he ?_); (case he => rfl)))
local macro_rules | `(tactic| walk_at "st") => `(tactic| with_reducible refine i_neE ?_)
local macro_rules | `(tactic| walk_at "st") => `(tactic| with_reducible refine i_eqE ?_)
local macro_rules | `(tactic| walk_at "st") => `(tactic| with_reducible refine i_iRev ?_)
local macro_rules | `(tactic| walk_at "st") => `(tactic| with_reducible refine i_iStr ?_)
local macro_rules | `(tactic| walk_at "st") => `(tactic| with_reducible refine i_join ?_)
local macro_rules | `(tactic| walk_at "st") => `(tactic| with_reducible refine i_extendT ?_)
local macro_rules | `(tactic| walk_at "st") => `(tactic| with_reducible refine i_iZip ?_)
local macro_rules | `(tactic| walk_at "st") => `(tactic| with_reducible refine i_delFrom ?_)
local macro_rules | `(tactic| walk_at "st") => `(tactic| with_reducible refine i_max2 ?_)
local macro_rules | `(tactic| walk_at "st") => `(tactic| with_reducible refine i_strS ?_)
local macro_rules | `(tactic| walk_at "st") => `(tactic| with_reducible refine i_fmt ?_)
local macro_rules | `(tactic| walk_at "st") => `(tactic| with_reducible refine i_jnil ?_)
local macro_rules | `(tactic| walk_at "st") => `(tactic| with_reducible refine i_jcons ?_)
local macro_rules | `(tactic| walk_at "st") => `(tactic| with_reducible refine i_joined ?_)
local macro_rules | `(tactic| walk_at "st") => `(tactic| with_reducible refine i_truN ?_)
local macro_rules | `(tactic| walk_at "st") => `(tactic| with_reducible refine i_truT ?_)
local macro_rules | `(tactic| walk_at "st") => `(tactic| with_reducible refine i_truI ?_)
local macro_rules | `(tactic| walk_at "st") => `(tactic| with_reducible refine i_truB ?_)
local macro_rules | `(tactic| walk_at "st") => `(tactic| with_reducible refine i_tupT ?_)
local macro_rules | `(tactic| walk_at "st") => `(tactic| with_reducible refine i_slT ?_)
local macro_rules | `(tactic| walk_at "st") => `(tactic| with_reducible refine i_lenC ?_)
local macro_rules | `(tactic| walk_at "st") => `(tactic| with_reducible refine i_lenT ?_)
local macro_rules | `(tactic| walk_at "st") => `(tactic| with_reducible refine i_int1 ?_)
local macro_rules | `(tactic| walk_at "st") => `(tactic| with_reducible refine i_int ?_)
local macro_rules | `(tactic| walk_at "st") => `(tactic| with_reducible refine i_addII ?_)
local macro_rules | `(tactic| walk_at "st") => `(tactic| with_reducible refine i_addI ?_)
local macro_rules | `(tactic| walk_at "st") => `(tactic| with_reducible refine i_noN ?_)
local macro_rules | `(tactic| walk_at "st") => `(tactic| with_reducible refine i_isN ?_)
local macro_rules | `(tactic| walk_at "st") => `(tactic| with_reducible refine i_neS ?_)
local macro_rules | `(tactic| walk_at "st") => `(tactic| with_reducible refine i_neI ?_)
local macro_rules | `(tactic| walk_at "st") => `(tactic| with_reducible refine i_eqB ?_)
local macro_rules | `(tactic| walk_at "st") => `(tactic| with_reducible refine i_eqS ?_)
local macro_rules | `(tactic| walk_at "st") => `(tactic| with_reducible refine i_eqI ?_)
local macro_rules | `(tactic| walk_at "st") => `(tactic| with_reducible refine i_yes ?_)
local macro_rules | `(tactic| walk_at "st") => `(tactic| with_reducible refine i_gNi ?_)
local macro_rules | `(tactic| walk_at "st") => `(tactic| with_reducible refine i_gCo ?_)
local macro_rules | `(tactic| walk_at "st") => `(tactic| with_reducible refine i_gTu ?_)
local macro_rules | `(tactic| walk_at "st") => `(tactic| with_reducible refine i_gN ?_)
local macro_rules | `(tactic| walk_at "st") => `(tactic| with_reducible refine i_iR1 ?_)
local macro_rules | `(tactic| walk_at "st") => `(tactic| with_reducible refine i_iD ?_)
local macro_rules | `(tactic| walk_at "st") => `(tactic| with_reducible refine i_cdG ?_)
local macro_rules | `(tactic| walk_at "st") => `(tactic| with_reducible refine i_reverse ?_)
local macro_rules | `(tactic| walk_at "st") => `(tactic| with_reducible refine i_pop ?_)
local macro_rules | `(tactic| walk_at "st") => `(tactic| with_reducible refine i_extend ?_)
local macro_rules | `(tactic| walk_at "st") => `(tactic| with_reducible refine i_append ?_)
local macro_rules | `(tactic| walk_at "st") => `(tactic| with_reducible refine i_someP ?_)
local macro_rules | `(tactic| walk_at "st") => `(tactic| with_reducible refine i_noP ?_)
local macro_rules | `(tactic| walk_at "st") => `(tactic| with_reducible refine i_sl ?_)
local macro_rules | `(tactic| walk_at "st") => `(tactic| with_reducible refine i_call ?_)
local macro_rules | `(tactic| walk_at "st") => `(tactic| with_reducible refine i_cb ?_)
local macro_rules | `(tactic| walk_at "st") => `(tactic| with_reducible refine i_neg1 ?_)
local macro_rules | `(tactic| walk_at "st") => `(tactic| with_reducible refine i_neg ?_)
local macro_rules | `(tactic| walk_at "st") => `(tactic| with_reducible refine i_ifE ?_)
local macro_rules | `(tactic| walk_at "st") => `(tactic| with_reducible refine i_notV ?_)
local macro_rules | `(tactic| walk_at "st") => `(tactic| with_reducible refine i_orV ?_)
local macro_rules | `(tactic| walk_at "st") => `(tactic| with_reducible refine i_andV ?_)
local macro_rules | `(tactic| walk_at "st") => `(tactic| with_reducible refine i_not ?_)
local macro_rules | `(tactic| walk_at "st") => `(tactic| with_reducible refine i_or ?_)
local macro_rules | `(tactic| walk_at "st") => `(tactic| with_reducible refine i_and ?_)
local macro_rules | `(tactic| walk_at "st") => `(tactic| with_reducible refine i_tru ?_)
local macro_rules | `(tactic| walk_at "st") => `(tactic| with_reducible refine i_bl ?_)
local macro_rules | `(tactic| walk_at "st") => `(tactic| with_reducible refine i_tb ?_)
local macro_rules | `(tactic| walk_at "st") => `(tactic| with_reducible refine i_cons ?_)
local macro_rules | `(tactic| walk_at "st") => `(tactic| with_reducible refine i_nil ?_)
local macro_rules | `(tactic| walk_at "st") => `(tactic| with_reducible refine i_lst ?_)
local macro_rules | `(tactic| walk_at "st") => `(tactic| with_reducible refine i_tup ?_)
local macro_rules | `(tactic| walk_at "st") => `(tactic| with_reducible refine i_op ?_)
local macro_rules | `(tactic| walk_at "st") => `(tactic| with_reducible refine i_c ?_)
local macro_rules | `(tactic| walk_at "st") => `(tactic| with_reducible refine i_par2 ?_)
local macro_rules | `(tactic| walk_at "st") => `(tactic| with_reducible refine i_par ?_)
local macro_rules | `(tactic| walk_at "st") => `(tactic| with_reducible refine i_setL ?_)
local macro_rules | `(tactic| walk_at "st") => `(tactic| with_reducible refine i_cnt ?_)
local macro_rules | `(tactic| walk_at "st") => `(tactic| with_reducible refine i_brk ?_)
local macro_rules | `(tactic| walk_at "st") => `(tactic| with_reducible refine i_skip ?_)
local macro_rules | `(tactic| walk_at "st") => `(tactic| with_reducible refine i_if ?_)
local macro_rules | `(tactic| walk_at "st") => `(tactic| with_reducible refine i_retN ?_)
local macro_rules | `(tactic| walk_at "st") => `(tactic| with_reducible refine i_ret ?_)
local macro_rules | `(tactic| walk_at "st") => `(tactic| with_reducible refine i_drop ?_)
local macro_rules | `(tactic| walk_at "st") => `(tactic| with_reducible refine i_asg ?_)
local macro_rules | `(tactic| walk_at "st") => `(tactic| with_reducible refine i_set2 ?_)
local macro_rules | `(tactic| walk_at "st") => `(tactic| with_reducible refine i_set ?_)
local macro_rules | `(tactic| walk_at "st") => `(tactic| with_reducible refine i_seq ?_)
local macro_rules | `(tactic| walk_at "sts") => `(tactic| repeat walk_at "st")
theorem cut_map {α : Type} (f : α → D) (xs : List α) (n : Nat) : ∃ ys : List α, DL.cutD (xs.map f) none (some (n : Int)) = ys.map f ∧ ys.length ≤ n := by
  unfold DL.cutD
  rw [HT.sIx_none, HT.sIx_nat, List.drop_zero, Nat.sub_zero]
  refine ⟨xs.take (min n (xs.map f).length), ?_, ?_⟩
  · rw [List.map_take]
  · rw [List.length_take]; omega
theorem rd_law_bag (ds : List D) (S : Sto) (Q : DK) (E : DX) (h : sp_law_bag ds S Q E) : t_law_bag { nx := fun _ S' => Dn Q .non S', rt := Dn Q } (startD 4 ds) S := by
  obtain ⟨ns, rfl, k⟩ := h
  unfold t_law_bag
  walk_at "sts"
  intro g hg
  walk_at "sts"
  unfold dFor
  walk_at "sts"
  intro p hp
  have hpg : p ≠ g := fun e => by subst e; rw [put_same] at hp; cases hp
  obtain ⟨ms, hms, hl⟩ := cut_map D.int ns 63
  rw [show (63 : Int) = ((63 : Nat) : Int) from rfl, hms]
  refine ⟨ms.map .int, ?_, ?_⟩
  · show (match put _ p _ p with | some (.lst xs) => some xs | _ => none) = _
    rw [put_same]
  refine ⟨fun i ε S1 => ∃ (gs : List Int) (seed : Int) (e3 : Option D), ε = [some (.cl (ns.map .int)), some (.ref g), some (.int seed), e3] ∧ S1 g = some (.lst (gs.map .int)) ∧ S1 p = some (.lst (ms.map .int)) ∧ 0 ≤ seed ∧ seed < 2 ^ 31 ∧ Le S S1 ∧ gs.length ≤ i,
    ⟨[], 11, none, rfl, (put_ne (Ne.symm hpg)).trans put_same, put_same, by decide, by decide, lePut (lePut (Le.refl S) hg) (by rw [put_ne hpg] at hp; exact hp), Nat.le_refl 0⟩, fun i ε S1 _ w => ?_, fun i x ε S1 hx w => ?_, fun ε S1 w => ?_⟩
  · obtain ⟨gs, seed, e3, _, _, h, _⟩ := w
    exact h
  · obtain ⟨gs, seed, e3, rfl, h1, h2, h3, h4, h5, h6⟩ := w
    rw [List.getElem?_map] at hx
    obtain ⟨v, hv, rfl⟩ := Option.map_eq_some_iff.mp hx
    have hi : i < ms.length := (List.getElem?_eq_some_iff.mp hv).1
    walk_at "sts"
    refine i_intC ⟨by decide, by decide +kernel⟩ ?_
    walk_at "sts"
    refine ifD (fun hb => ?_) fun hb => ?_
    · walk_at "sts"
      refine ⟨g, _, rfl, h1, ?_⟩
      walk_at "sts"
      refine i_intC ⟨by decide, by decide +kernel⟩ ?_
      walk_at "sts"
      refine i_intC ⟨by decide, by decide +kernel⟩ ?_
      refine i_modB (by decide +kernel) fun x x0 x1 _ => ?_
      refine ⟨_, h1, ?_, ?_⟩
      · rw [List.length_map]; exact Nat.lt_of_le_of_lt (by omega : _ ≤ 100) (by decide)
      · walk_at "sts"
        refine i_mulS (by omega) (by omega) ?_
        walk_at "sts"
        refine i_modB (by omega) fun y y0 y1 _ => ?_
        walk_at "sts"
        refine i_modB (by omega) fun z z0 z1 _ => ?_
        exact ⟨gs ++ [x], z, _, rfl, by rw [put_same, List.map_append]; rfl, (put_ne hpg).trans h2, z0, by omega, lePut h5 hg, by rw [List.length_append, List.length_singleton]; omega⟩
    · walk_at "sts"
      refine i_mulS (by omega) (by omega) ?_
      walk_at "sts"
      refine i_modB (by omega) fun y y0 y1 _ => ?_
      walk_at "sts"
      refine i_modB (by omega) fun z z0 z1 _ => ?_
      exact ⟨gs, z, _, rfl, h1, h2, z0, by omega, h5, by omega⟩
  · obtain ⟨gs, seed, e3, rfl, h1, h2, h3, h4, h5, h6⟩ := w
    walk_at "sts"
    intro b hb
    have hgb : b ≠ g := fun e => by subst e; rw [h1] at hb; cases hb
    have hSb : S b = none := by
      cases e : S b with
      | none => rfl
      | some c => rw [h5 b c e] at hb; cases hb
    exact i_dn (k b g _ ⟨⟨gs, seed, 0, (put_ne (Ne.symm hgb)).trans h1, put_same, h3, h4, by decide, by decide⟩, hgb⟩ hSb hg fun a c z1 z2 z3 => (put_ne z1).trans (h5 a c z3))
end K07
end
section
namespace K07
open PySem L2 DL DLZ TR TS PyProof.Rows
local macro_rules | `(tactic| walk_at "st") => `(tactic| ((with_reducible refine ifT ?he ?_); (case he => rfl)))
local macro_rules | `(tactic| walk_at "st") => `(tactic| ((with_reducible refine ifF ?he ?_); (case he => rfl)))
local macro_rules | `(tactic| walk_at "st") => `(tactic| ((with_reducible refine ifT ?he ?_); (case he => decide +kernel)))
local macro_rules | `(tactic| walk_at "st") => `(tactic| ((with_reducible refine ifF ?he ?_); (case he => decide +kernel)))
local macro_rules | `(tactic| walk_at "st") => `(tactic| ((with_reducible refine i_isiT (T := ?tt) (b := false) ?he ?hf ?_); (case he => rfl); (case hf => decide +kernel)))
local macro_rules | `(tactic| walk_at "st") => `(tactic| ((with_reducible refine i_isi (T := ?tt) (b := false) ?he ?hf ?_); (case he => rfl); (case hf => decide +kernel)))
local macro_rules | `(tactic| walk_at "st") => `(tactic| ((with_reducible refine i_isiT (T := ?tt) (b := true) ?he ?hf ?_); (case he => rfl); (case hf => decide +kernel)))
local macro_rules | `(tactic| walk_at "st") => `(tactic| ((with_reducible refine i_isi (T := ?tt) (b := true) ?he ?hf ?_); (case he => rfl); (case hf => decide +kernel)))
local macro_rules | `(tactic| walk_at "st") => `(tactic| ((with_reducible refine i_len ?he ?_); (case he => rfl)))
local macro_rules | `(tactic| walk_at "st") => `(tactic| ((with_reducible refine i_niT (v := ?vv) (us := ?uu) ?he ?hf ?_); (case he => rfl); (case hf => rfl)))
local macro_rules | `(tactic| walk_at "st") => `(tactic| ((with_reducible refine i_inT (v := ?vv) (us := ?uu) ?he ?hf ?_); (case he => rfl); (case hf => rfl)))
local macro_rules | `(tactic| walk_at "st") => `(tactic| ((with_reducible refine i_ixC (d := ?dd) ?he ?_); (case he => rfl)))
local macro_rules | `(tactic| walk_at "st") => `(tactic| ((with_reducible refine i_ixT (d := ?dd) ?he ?_); (case he => rfl)))
local macro_rules | `(tactic| walk_at "st") => `(tactic| ((with_reducible refine i_aug (x := ?dd) ?he ?_); (case he => rfl)))
local macro_rules | `(tactic| walk_at "st") => `(tactic| ((with_reducible refine i_var (d := ?dd) ?he ?_); (case he => rfl)))
local macro_rules | `(tactic| walk_at "st") => `(tactic| with_reducible refine i_neE ?_)
local macro_rules | `(tactic| walk_at "st") => `(tactic| with_reducible refine i_eqE ?_)
local macro_rules | `(tactic| walk_at "st") => `(tactic| with_reducible refine i_iRev ?_)
local macro_rules | `(tactic| walk_at "st") => `(tactic| with_reducible refine i_iStr ?_)
local macro_rules | `(tactic| walk_at "st") => `(tactic| with_reducible refine i_join ?_)
local macro_rules | `(tactic| walk_at "st") => `(tactic| with_reducible refine i_extendT ?_)
local macro_rules | `(tactic| walk_at "st") => `(tactic| with_reducible refine i_iZip ?_)
local macro_rules | `(tactic| walk_at "st") => `(tactic| with_reducible refine i_delFrom ?_)
local macro_rules | `(tactic| walk_at "st") => `(tactic| with_reducible refine i_max2 ?_)
local macro_rules | `(tactic| walk_at "st") => `(tactic| with_reducible refine i_strS ?_)
local macro_rules | `(tactic| walk_at "st") => `(tactic| with_reducible refine i_fmt ?_)
local macro_rules | `(tactic| walk_at "st") => `(tactic| with_reducible refine i_jnil ?_)
local macro_rules | `(tactic| walk_at "st") => `(tactic| with_reducible refine i_jcons ?_)
local macro_rules | `(tactic| walk_at "st") => `(tactic| with_reducible refine i_joined ?_)
local macro_rules | `(tactic| walk_at "st") => `(tactic| with_reducible refine i_truN ?_)
local macro_rules | `(tactic| walk_at "st") => `(tactic| with_reducible refine i_truT ?_)
local macro_rules | `(tactic| walk_at "st") => `(tactic| with_reducible refine i_truI ?_)
local macro_rules | `(tactic| walk_at "st") => `(tactic| with_reducible refine i_truB ?_)
local macro_rules | `(tactic| walk_at "st") => `(tactic| with_reducible refine i_tupT ?_)
local macro_rules | `(tactic| walk_at "st") => `(tactic| with_reducible refine i_slT ?_)
local macro_rules | `(tactic| walk_at "st") => `(tactic| with_reducible refine i_lenC ?_)
local macro_rules | `(tactic| walk_at "st") => `(tactic| with_reducible refine i_lenT ?_)
local macro_rules | `(tactic| walk_at "st") => `(tactic| with_reducible refine i_int1 ?_)
local macro_rules | `(tactic| walk_at "st") => `(tactic| with_reducible refine i_int ?_)
local macro_rules | `(tactic| walk_at "st") => `(tactic| with_reducible refine i_addII ?_)
local macro_rules | `(tactic| walk_at "st") => `(tactic| with_reducible refine i_addI ?_)
local macro_rules | `(tactic| walk_at "st") => `(tactic| with_reducible refine i_noN ?_)
local macro_rules | `(tactic| walk_at "st") => `(tactic| with_reducible refine i_isN ?_)
local macro_rules | `(tactic| walk_at "st") => `(tactic| with_reducible refine i_neS ?_)
local macro_rules | `(tactic| walk_at "st") => `(tactic| with_reducible refine i_neI ?_)
local macro_rules | `(tactic| walk_at "st") => `(tactic| with_reducible refine i_eqB ?_)
local macro_rules | `(tactic| walk_at "st") => `(tactic| with_reducible refine i_eqS ?_)
local macro_rules | `(tactic| walk_at "st") => `(tactic| with_reducible refine i_eqI ?_)
local macro_rules | `(tactic| walk_at "st") => `(tactic| with_reducible refine i_yes ?_)
local macro_rules | `(tactic| walk_at "st") => `(tactic| with_reducible refine i_gNi ?_)
local macro_rules | `(tactic| walk_at "st") => `(tactic| with_reducible refine i_gCo ?_)
local macro_rules | `(tactic| walk_at "st") => `(tactic| with_reducible refine i_gTu ?_)
local macro_rules | `(tactic| walk_at "st") => `(tactic| with_reducible refine i_gN ?_)
local macro_rules | `(tactic| walk_at "st") => `(tactic| with_reducible refine i_iR1 ?_)
local macro_rules | `(tactic| walk_at "st") => `(tactic| with_reducible refine i_iD ?_)
local macro_rules | `(tactic| walk_at "st") => `(tactic| with_reducible refine i_cdG ?_)
local macro_rules | `(tactic| walk_at "st") => `(tactic| with_reducible refine i_reverse ?_)
local macro_rules | `(tactic| walk_at "st") => `(tactic| with_reducible refine i_pop ?_)
local macro_rules | `(tactic| walk_at "st") => `(tactic| with_reducible refine i_extend ?_)
local macro_rules | `(tactic| walk_at "st") => `(tactic| with_reducible refine i_append ?_)
local macro_rules | `(tactic| walk_at "st") => `(tactic| with_reducible refine i_someP ?_)
local macro_rules | `(tactic| walk_at "st") => `(tactic| with_reducible refine i_noP ?_)
local macro_rules | `(tactic| walk_at "st") => `(tactic| with_reducible refine i_sl ?_)
local macro_rules | `(tactic| walk_at "st") => `(tactic| with_reducible refine i_call ?_)
local macro_rules | `(tactic| walk_at "st") => `(tactic| with_reducible refine i_cb ?_)
local macro_rules | `(tactic| walk_at "st") => `(tactic| with_reducible refine i_neg1 ?_)
local macro_rules | `(tactic| walk_at "st") => `(tactic| with_reducible refine i_neg ?_)
local macro_rules | `(tactic| walk_at "st") => `(tactic| with_reducible refine i_ifE ?_)
local macro_rules | `(tactic| walk_at "st") => `(tactic| with_reducible refine i_notV ?_)
local macro_rules | `(tactic| walk_at "st") => `(tactic| with_reducible refine i_orV ?_)
local macro_rules | `(tactic| walk_at "st") => `(tactic| with_reducible refine i_andV ?_)
local macro_rules | `(tactic| walk_at "st") => `(tactic| with_reducible refine i_not ?_)
local macro_rules | `(tactic| walk_at "st") => `(tactic| with_reducible refine i_or ?_)
local macro_rules | `(tactic| walk_at "st") => `(tactic| with_reducible refine i_and ?_)
local macro_rules | `(tactic| walk_at "st") => `(tactic| with_reducible refine i_tru ?_)
local macro_rules | `(tactic| walk_at "st") => `(tactic| with_reducible refine i_bl ?_)
local macro_rules | `(tactic| walk_at "st") => `(tactic| with_reducible refine i_tb ?_)
local macro_rules | `(tactic| walk_at "st") => `(tactic| with_reducible refine i_cons ?_)
local macro_rules | `(tactic| walk_at "st") => `(tactic| with_reducible refine i_nil ?_)
local macro_rules | `(tactic| walk_at "st") => `(tactic| with_reducible refine i_lst ?_)
local macro_rules | `(tactic| walk_at "st") => `(tactic| with_reducible refine i_tup ?_)
local macro_rules | `(tactic| walk_at "st") => `(tactic| with_reducible refine i_op ?_)
local macro_rules | `(tactic| walk_at "st") => `(tactic| with_reducible refine i_c ?_)
local macro_rules | `(tactic| walk_at "st") => `(tactic| with_reducible refine i_par2 ?_)
local macro_rules | `(tactic| walk_at "st") => `(tactic| with_reducible refine i_par ?_)
local macro_rules | `(tactic| walk_at "st") => `(tactic| with_reducible refine i_setL ?_)
local macro_rules | `(tactic| walk_at "st") => `(tactic| with_reducible refine i_cnt ?_)
local macro_rules | `(tactic| walk_at "st") => `(tactic| with_reducible refine i_brk ?_)
local macro_rules | `(tactic| walk_at "st") => `(tactic| with_reducible refine i_skip ?_)
local macro_rules | `(tactic| walk_at "st") => `(tactic| with_reducible refine i_if ?_)
local macro_rules | `(tactic| walk_at "st") => `(tactic| with_reducible refine i_retN ?_)
local macro_rules | `(tactic| walk_at "st") => `(tactic| with_reducible refine i_ret ?_)
local macro_rules | `(tactic| walk_at "st") => `(tactic| with_reducible refine i_drop ?_)
local macro_rules | `(tactic| walk_at "st") => `(tactic| with_reducible refine i_asg ?_)
local macro_rules | `(tactic| walk_at "st") => `(tactic| with_reducible refine i_set2 ?_)
local macro_rules | `(tactic| walk_at "st") => `(tactic| with_reducible refine i_set ?_)
local macro_rules | `(tactic| walk_at "st") => `(tactic| with_reducible refine i_seq ?_)
local macro_rules | `(tactic| walk_at "sts") => `(tactic| repeat walk_at "st")
theorem i_ixSm {s : Str} {i : Int} {S : Sto} {Q : DK} (z : s.length ≤ sizeLine) (h0 : 0 ≤ i) (h1 : i < s.cps.toList.length) (h : ∀ c ∈ s.cps.toList, Q (.str ⟨#[c]⟩) S) : ixA (.str s) (.int i) S Q := by
  obtain ⟨c, hc, e⟩ := atI_nat (xs := s.cps.toList) h0 h1
  exact i_ixS z e (h c hc)
theorem pig {α : Type} [DecidableEq α] : ∀ (n : Nat) (f : Nat → α) (m : List α), (∀ j, j < n → f j ∈ m) → (∀ j k, j < n → k < n → f j = f k → j = k) → n ≤ m.length
  | 0, _, _, _, _ => Nat.zero_le _
  | n + 1, f, m, h, g => by
    have h1 := h n (Nat.lt_succ_self n)
    have ih := pig n f (m.erase (f n)) (fun j hj => (List.mem_erase_of_ne fun e => by
      have := g j n (by omega) (by omega) e
      omega).mpr (h j (by omega))) fun j k hj hk e => g j k (by omega) (by omega) e
    rw [List.length_erase_of_mem h1] at ih
    have : 0 < m.length := List.length_pos_of_mem h1
    omega
theorem capp (a b : Str) : cps (a ++ b) = cps a ++ cps b := cp_app a b
/-- a name's beginning -/
structure Stm (s : Str) : Prop where
  row : ∀ c ∈ cps s, c ∈ cps "abcdefghijklmnopqrstuvwxyzABCDEFGHIJKLMNOPQRSTUVWXYZ0123456789_"
  hd : ∃ c, (cps s)[0]? = some c ∧ c ∈ cps "abcdefghijklmnopqrstuvwxyz"
  len : s.length ≤ 11
theorem strK : ∀ k, k < 60 → ((toString ((k : Nat) : Int) : Str)).length ≤ 20 ∧ ∀ c ∈ cps (toString ((k : Nat) : Int)), c ∈ cps "abcdefghijklmnopqrstuvwxyzABCDEFGHIJKLMNOPQRSTUVWXYZ0123456789_" := by decide +kernel
theorem strI : ∀ j, j < 60 → ∀ k, k < 60 → (toString ((j : Nat) : Int) : Str) = toString ((k : Nat) : Int) → j = k := by decide +kernel
def stems : List Str := ["a", "b", "x", "n", "iff", "ends", "anyx", "fun1", "not_", "or0", "somehow", "allB", "keep", "fall", "gives2", "q_", "zZ", "elsewhere", "claims", "whiles", "end_", "andy", "ask", "promise"]
def words : List Str := ["all", "and", "any", "asks", "claim", "else", "end", "falls", "fun", "gives", "if", "keeps", "not", "or", "promises", "some", "while"]
theorem stems_ok : ∀ s ∈ stems, Stm s ∧ s.length ≤ 9 := by
  have h : (stems.all fun s => ((cps s).all fun c => decide (c ∈ cps "abcdefghijklmnopqrstuvwxyzABCDEFGHIJKLMNOPQRSTUVWXYZ0123456789_")) && (match (cps s)[0]? with | some c => decide (c ∈ cps "abcdefghijklmnopqrstuvwxyz") | none => false) && decide (s.length ≤ 9)) = true := by decide +kernel
  intro s hs
  have := List.all_eq_true.mp h s hs
  rw [Bool.and_eq_true, Bool.and_eq_true, List.all_eq_true, decide_eq_true_iff] at this
  obtain ⟨⟨h1, h2⟩, h3⟩ := this
  refine ⟨⟨fun c hc => of_decide_eq_true (h1 c hc), ?_, by omega⟩, h3⟩
  split at h2
  · rename_i c e
    exact ⟨c, e, of_decide_eq_true h2⟩
  · cases h2
theorem Stm.add {s t : Str} (h : Stm s) (g : ∀ c ∈ cps t, c ∈ cps "abcdefghijklmnopqrstuvwxyzABCDEFGHIJKLMNOPQRSTUVWXYZ0123456789_") (l : (s ++ t).length ≤ 11) : Stm (s ++ t) := by
  obtain ⟨c, h1, h2⟩ := h.hd
  refine ⟨fun d hd => ?_, ⟨c, ?_, h2⟩, l⟩
  · rw [show cps (s ++ t) = cps s ++ cps t from cp_app s t] at hd
    rcases List.mem_append.mp hd with z | z
    · exact h.row d z
    · exact g d z
  · rw [show cps (s ++ t) = cps s ++ cps t from cp_app s t, List.getElem?_append_left (List.getElem?_eq_some_iff.mp h1).1]
    exact h1
theorem us : ∀ c ∈ cps (Str.ofString "_"), c ∈ cps "abcdefghijklmnopqrstuvwxyzABCDEFGHIJKLMNOPQRSTUVWXYZ0123456789_" := by decide +kernel
def cand (st : Str) (j : Nat) : Str := if j = 0 then st else st ++ Str.ofString "_" ++ toString ((j : Nat) : Int)
theorem cand_nm {st : Str} (h : Stm st) {j : Nat} (hj : j < 60) (nw : cand st j ∉ words) : IsNm (cand st j) := by
  obtain ⟨c, h1, h2⟩ := h.hd
  have l1 := h.len
  have e1 : (Str.ofString "_").length = 1 := by decide +kernel
  have hne : ∀ {s : Str}, (cps s)[0]? = some c → s ≠ "" := fun e z => by
    subst z
    have e0 : cps (Str.ofString "") = [] := by decide +kernel
    rw [e0] at e
    cases e
  by_cases h0 : j = 0
  · have e : cand st j = st := by unfold cand; rw [if_pos h0]
    rw [e] at nw ⊢
    exact ⟨hne h1, h.row, ⟨c, h1, h2⟩, nw, by omega⟩
  · have e : cand st j = st ++ Str.ofString "_" ++ toString ((j : Nat) : Int) := by unfold cand; rw [if_neg h0]
    obtain ⟨k1, k2⟩ := strK j hj
    rw [e] at nw ⊢
    have ec : cps (st ++ Str.ofString "_" ++ toString ((j : Nat) : Int)) = cps st ++ cps (Str.ofString "_") ++ cps (toString ((j : Nat) : Int)) := by
      rw [show ∀ a b : Str, cps (a ++ b) = cps a ++ cps b from cp_app, show ∀ a b : Str, cps (a ++ b) = cps a ++ cps b from cp_app]
    have hh : (cps (st ++ Str.ofString "_" ++ toString ((j : Nat) : Int)))[0]? = some c := by
      have hp := (List.getElem?_eq_some_iff.mp h1).1
      rw [ec, List.append_assoc, List.getElem?_append_left hp]
      exact h1
    refine ⟨hne hh, fun d hd => ?_, ⟨c, hh, h2⟩, nw, ?_⟩
    · rw [ec] at hd
      rcases List.mem_append.mp hd with z | z
      · rcases List.mem_append.mp z with z | z
        · exact h.row d z
        · exact us d z
      · exact k2 d z
    · rw [len_app, len_app, e1]; omega
theorem cand_inj {st : Str} {j k : Nat} (hj : j < 60) (hk : k < 60) (e : cand st j = cand st k) : j = k := by
  have e1 : (Str.ofString "_").length = 1 := by decide +kernel
  unfold cand at e
  by_cases h0 : j = 0
  · by_cases h1 : k = 0
    · omega
    · rw [if_pos h0, if_neg h1] at e
      have := congrArg Str.length e
      rw [len_app, len_app, e1] at this
      omega
  · by_cases h1 : k = 0
    · rw [if_neg h0, if_pos h1] at e
      have := congrArg Str.length e
      rw [len_app, len_app, e1] at this
      omega
    · rw [if_neg h0, if_neg h1] at e
      have ec := congrArg cps e
      simp only [capp] at ec
      exact strI j hj k hk (str_cps (List.append_cancel_left ec))
structure NmS (S : Sto) (b g u w p : Addr) (xs : List Str) (c : Nat) (S' : Sto) : Prop where
  bag : Bag S' b g c
  w : S' w = some (.lst (words.map .str))
  p : S' p = some (.lst (stems.map .str))
  u : S' u = some (.lst (xs.map .str))
  k : ∀ a c, a ≠ b → a ≠ g → S a = some c → S' a = some c
theorem NmS.step {S : Sto} {b g u w p : Addr} {xs : List Str} {c d : Nat} {S1 S2 : Sto} (h : NmS S b g u w p xs c S1) (hw : w ≠ b ∧ w ≠ g) (hp : p ≠ b ∧ p ≠ g) (hu : u ≠ b ∧ u ≠ g) (b2 : Bag S2 b g d) (k : Kp S1 S2 b g) : NmS S b g u w p xs d S2 :=
  ⟨b2, k _ _ hw.1 hw.2 h.w, k _ _ hp.1 hp.2 h.p, k _ _ hu.1 hu.2 h.u, fun a c h1 h2 h3 => k _ _ h1 h2 (h.k a c h1 h2 h3)⟩
theorem rd_law_name (ds : List D) (S : Sto) (Q : DK) (E : DX) (h : sp_law_name ds S Q E) : t_law_name { nx := fun _ S' => Dn Q .non S', rt := Dn Q } (startD 8 ds) S := by
  obtain ⟨b, g, u, c, xs, rfl, hc, hb, hub, hug, hx, hxl, k⟩ := h
  unfold t_law_name
  walk_at "sts"
  intro w hw
  walk_at "sts"
  intro p hp
  have hwp : w ≠ p := fun e => by subst e; rw [put_same] at hp; cases hp
  have hp0 : S p = none := by rw [put_ne (Ne.symm hwp)] at hp; exact hp
  have nb : ∀ {a : Addr}, S a = none → a ≠ b ∧ a ≠ g := fun h => ⟨fun e => hb.b (e ▸ h), fun e => hb.g (e ▸ h)⟩
  have hwn := nb hw
  have hpn := nb hp0
  have huw : u ≠ w := fun e => by subst e; rw [hx] at hw; cases hw
  have hup : u ≠ p := fun e => by subst e; rw [hx] at hp0; cases hp0
  obtain ⟨S1, hS1⟩ : ∃ S1, S1 = put (put S w (.lst (words.map .str))) p (.lst (stems.map .str)) := ⟨_, rfl⟩
  have n1 : NmS S b g u w p xs c S1 := by
    refine ⟨?_, ?_, ?_, ?_, fun a c h1 h2 h3 => ?_⟩
    · obtain ⟨⟨gs, s, n, a1, a2, a3, a4, a5, a6⟩, z⟩ := hb
      exact ⟨⟨gs, s, n, by rw [hS1, put_ne (Ne.symm hpn.2), put_ne (Ne.symm hwn.2)]; exact a1, by rw [hS1, put_ne (Ne.symm hpn.1), put_ne (Ne.symm hwn.1)]; exact a2, a3, a4, a5, a6⟩, z⟩
    · rw [hS1, put_ne hwp, put_same]
    · rw [hS1, put_same]
    · rw [hS1, put_ne hup, put_ne huw]; exact hx
    · rw [hS1]; exact lePut (lePut (fun _ _ h => h) hw) hp0 _ _ h3
  walk_at "sts"
  show oLen [.ref p] (put (put S w (.lst (words.map .str))) p (.lst (stems.map .str))) _
  rw [← hS1]
  refine i_lenR n1.p ?_
  walk_at "sts"
  refine ⟨b, g, c, 24, rfl, by decide, by decide, by omega, n1.bag, fun r S2 r0 r1 b2 k2 => ?_⟩
  have n2 := n1.step hwn hpn ⟨hub, hug⟩ b2 k2
  refine i_ixRs n2.p r0 r1 fun st hst => ?_
  obtain ⟨hs, hs9⟩ := stems_ok st hst
  walk_at "sts"
  refine ⟨b, g, c + 1, 3, rfl, by decide, by decide, by omega, n2.bag, fun r3 S3 r30 r31 b3 k3 => ?_⟩
  have n3 := n2.step hwn hpn ⟨hub, hug⟩ b3 k3
  have fin : ∀ (st : Str) (S4 : Sto) (e5 : Option D), Stm st → NmS S b g u w p xs (c + 4) S4 → dSeq (dFor (iR1 (dC (.int 60))) (gN 6) (dSeq (dSet 7 (dVar 4)) (dSeq (dIf (dTB (dOp oGt (dVar 6) (dC (.int 0)))) (dSet 7 (dOp oAdd (dOp oAdd (dVar 4) (dC (.str "_"))) (dCB oStrI (dCons (dVar 6) (dNil))))) (dSkip)) (dIf (dAnd (dTB (dOp oNotIn (dVar 7) (dVar 1))) (dTB (dOp oNotIn (dVar 7) (dVar 2)))) (dSeq (dDrop (dAppend (dVar 1) (dVar 7))) (dRet (dVar 7))) (dSkip))))) (dRet (dC (.str "unused")))
      { nx := fun _ S' => Dn Q .non S', rt := Dn Q } [some (.ref b), some (.ref u), some (.ref w), some (.ref p), some (.str st), e5, none, none] S4 := by
    intro st S4 e5 hst n4
    have fk : ∀ a cl, a ≠ b → a ≠ g → a ≠ u → S a = some cl → S4 a = some cl := fun a cl h1 h2 _ h3 => n4.k a cl h1 h2 h3
    walk_at "sts"
    unfold dFor
    walk_at "sts"
    refine ⟨by decide, by decide, fun i ε S5 => S5 = S4 ∧ (∀ j, j < i → cand st j ∈ xs ++ words) ∧ ∃ e6 e7, ε = [some (.ref b), some (.ref u), some (.ref w), some (.ref p), some (.str st), e5, e6, e7], ⟨rfl, fun j hj => absurd hj (Nat.not_lt_zero j), _, _, rfl⟩, fun _ _ _ _ _ => trivial, fun i x ε S5 hx ww => ?_, fun ε S5 ww => ?_⟩
    · obtain ⟨rfl, hall, e6, e7, rfl⟩ := ww
      rw [List.getElem?_map] at hx
      obtain ⟨j, hj, rfl⟩ := Option.map_eq_some_iff.mp hx
      have hi : j < 60 := by
        have := List.mem_of_getElem? hj
        simpa using this
      have hij : j = i := by
        have e1 := (List.getElem?_eq_some_iff.mp hj).1
        rw [List.length_range] at e1
        rw [List.getElem?_range e1] at hj
        exact (Option.some.inj hj).symm
      have hnext : cand st j ∈ xs ++ words → ∀ m, m < i + 1 → cand st m ∈ xs ++ words := fun z m hm => by
        by_cases q : m < i
        · exact hall m q
        · have : m = j := by omega
          rw [this]; exact z
      have body : ∀ (nm : Str) (e : Option D), nm = cand st j → dIf (dAnd (dTB (dOp oNotIn (dVar 7) (dVar 1))) (dTB (dOp oNotIn (dVar 7) (dVar 2)))) (dSeq (dDrop (dAppend (dVar 1) (dVar 7))) (dRet (dVar 7))) (dSkip)
          { nx := fun ε S' => S' = S5 ∧ (∀ m, m < i + 1 → cand st m ∈ xs ++ words) ∧ ∃ e6 e7, ε = [some (.ref b), some (.ref u), some (.ref w), some (.ref p), some (.str st), e5, e6, e7], ct := fun ε S' => S' = S5 ∧ (∀ m, m < i + 1 → cand st m ∈ xs ++ words) ∧ ∃ e6 e7, ε = [some (.ref b), some (.ref u), some (.ref w), some (.ref p), some (.str st), e5, e6, e7], rt := Dn Q, bk := dRet (dC (.str "unused")) { nx := fun _ S' => Dn Q .non S', rt := Dn Q } }
          [some (.ref b), some (.ref u), some (.ref w), some (.ref p), some (.str st), e5, e, some (.str nm)] S5 := by
        intro nm e hnm
        walk_at "sts"
        refine i_niRs n4.u ?_
        walk_at "sts"
        refine ifN (fun h1 => ?_) fun h1 => ?_
        · walk_at "sts"
          refine i_niRs n4.w ?_
          walk_at "sts"
          refine ifN (fun h2 => ?_) fun h2 => ?_
          · walk_at "sts"
            refine ⟨u, _, rfl, n4.u, ?_⟩
            walk_at "sts"
            refine ⟨_, n4.u, ?_, ?_⟩
            · rw [List.length_map]; exact Nat.lt_of_le_of_lt hxl (by decide)
            · walk_at "sts"
              refine i_dn (k nm _ ?_ ?_ (by rw [put_same, List.map_append]; rfl) fun a cl z1 z2 z3 z4 => (put_ne z3).trans (fk a cl z1 z2 z3 z4))
              · have hw2 : cand st j ∉ words := by
                  rw [← hnm]
                  simpa using h2
                rw [hnm]
                exact cand_nm hst hi hw2
              · obtain ⟨⟨gs, s, n, a1, a2, a3, a4, a5, a6⟩, z⟩ := n4.bag
                exact ⟨⟨gs, s, n, (put_ne (Ne.symm hug)).trans a1, (put_ne (Ne.symm hub)).trans a2, a3, a4, a5, a6⟩, z⟩
          · refine ⟨rfl, hnext ?_, _, _, rfl⟩
            rw [← hnm]
            exact List.mem_append.mpr (.inr (by simpa using h2))
        · walk_at "sts"
          refine ⟨rfl, hnext ?_, _, _, rfl⟩
          rw [← hnm]
          exact List.mem_append.mpr (.inl (by simpa using h1))
      walk_at "sts"
      refine ifD (fun h => ?_) fun h => ?_
      · walk_at "sts"
        have zj := (strK j hi).1
        have z1 := hst.len
        have e1 : (st ++ (Str.ofString "_")).length = st.length + 1 := by rw [PySem.Str.length_append]; rfl
        refine i_addS (Nat.le_trans (by show st.length + 1 ≤ 100; omega : _ ≤ 100) (by decide)) ?_
        walk_at "sts"
        refine ⟨_, rfl, ?_, ?_⟩
        · have := log2S (n := ((j : Nat) : Int).natAbs) (by omega)
          omega
        · refine i_addS (Nat.le_trans (by rw [e1]; omega : _ ≤ 100) (by decide)) ?_
          exact body _ _ (by unfold cand; rw [if_neg (by omega)])
      · exact body _ _ (by unfold cand; rw [if_pos (by omega)])
    · obtain ⟨rfl, hall, e6, e7, rfl⟩ := ww
      have hl60 : ((List.range (60 : Int).toNat).map fun (i : Nat) => D.int (i : Int)).length = 60 := by rw [List.length_map, List.length_range]; rfl
      rw [hl60] at hall
      have hp := pig 60 (cand st) (xs ++ words) hall fun j k hj hk e => cand_inj hj hk e
      have hwl : words.length = 17 := rfl
      rw [List.length_append, hwl] at hp
      omega
  walk_at "sts"
  refine ifD (fun h => ?_) fun h => ?_
  · walk_at "sts"
    refine ⟨b, g, c + 2, 63, rfl, by decide, by decide, by omega, n3.bag, fun r4 S4 r40 r41 b4 k4 => ?_⟩
    have n4 := n3.step hwn hpn ⟨hub, hug⟩ b4 k4
    refine i_ixSm (by decide +kernel) r40 (by have e : ((Str.ofString "abcdefghijklmnopqrstuvwxyzABCDEFGHIJKLMNOPQRSTUVWXYZ0123456789_").cps.toList.length) = 63 := by decide +kernel
                                              rw [e]; exact r41) fun c1 hc1 => ?_
    have z1 : (st ++ ⟨#[c1]⟩ : Str).length = st.length + 1 := by rw [PySem.Str.length_append]; rfl
    refine i_addS (Nat.le_trans (by show st.length + 1 ≤ 100; omega : _ ≤ 100) (by decide)) ?_
    walk_at "sts"
    refine ⟨b, g, c + 3, 63, rfl, by decide, by decide, by omega, n4.bag.up (by omega), fun r5 S5 r50 r51 b5 k5 => ?_⟩
    have n5 := n4.step hwn hpn ⟨hub, hug⟩ b5 k5
    refine i_ixSm (by decide +kernel) r50 (by have e : ((Str.ofString "abcdefghijklmnopqrstuvwxyzABCDEFGHIJKLMNOPQRSTUVWXYZ0123456789_").cps.toList.length) = 63 := by decide +kernel
                                              rw [e]; exact r51) fun c2 hc2 => ?_
    have z2 : (st ++ ⟨#[c1]⟩ ++ ⟨#[c2]⟩ : Str).length = st.length + 2 := by rw [PySem.Str.length_append, z1]; rfl
    refine i_addS (Nat.le_trans (by rw [z1]; show st.length + 1 + 1 ≤ 100; omega : _ ≤ 100) (by decide)) ?_
    walk_at "sts"
    have q1 : ∀ c ∈ cps (⟨#[c1]⟩ : Str), c ∈ cps "abcdefghijklmnopqrstuvwxyzABCDEFGHIJKLMNOPQRSTUVWXYZ0123456789_" := fun c hc => by
      have e : c = c1 := by simpa [cps] using hc
      rw [e]; exact hc1
    have q2 : ∀ c ∈ cps (⟨#[c2]⟩ : Str), c ∈ cps "abcdefghijklmnopqrstuvwxyzABCDEFGHIJKLMNOPQRSTUVWXYZ0123456789_" := fun c hc => by
      have e : c = c2 := by simpa [cps] using hc
      rw [e]; exact hc2
    exact fin _ _ _ ((hs.add q1 (by rw [z1]; omega)).add q2 (by rw [z2]; omega)) n5
  · exact fin _ _ _ hs (n3.step hwn hpn ⟨hub, hug⟩ (n3.bag.up (by omega)) fun _ _ _ _ h => h)
end K07
end
section
namespace K07
open PySem L2 DL DLZ TR TS PyProof.Rows
local macro_rules | `(tactic| walk_at "st") => `(tactic| ((with_reducible refine ifT ?he ?_); (case he => rfl)))
local macro_rules | `(tactic| walk_at "st") => `(tactic| ((with_reducible refine ifF ?he ?_); (case he => rfl)))
local macro_rules | `(tactic| walk_at "st") => `(tactic| ((with_reducible refine ifT ?he ?_); (case he => decide +kernel)))
local macro_rules | `(tactic| walk_at "st") => `(tactic| ((with_reducible refine ifF ?he ?_); (case he => decide +kernel)))
local macro_rules | `(tactic| walk_at "st") => `(tactic| ((with_reducible refine i_isiT (T := ?tt) (b := false) ?he ?hf ?_); (case he => rfl); (case hf => decide +kernel)))
local macro_rules | `(tactic| walk_at "st") => `(tactic| ((with_reducible refine i_isi (T := ?tt) (b := false) ?he ?hf ?_); (case he => rfl); (case hf => decide +kernel)))
local macro_rules | `(tactic| walk_at "st") => `(tactic| ((with_reducible refine i_isiT (T := ?tt) (b := true) ?he ?hf ?_); (case he => rfl); (case hf => decide +kernel)))
local macro_rules | `(tactic| walk_at "st") => `(tactic| ((with_reducible refine i_isi (T := ?tt) (b := true) ?he ?hf ?_); (case he => rfl); (case hf => decide +kernel)))
local macro_rules | `(tactic| walk_at "st") => `(tactic| ((with_reducible refine i_len ?he ?_); (case he => rfl)))
local macro_rules | `(tactic| walk_at "st") => `(tactic| ((with_reducible refine i_niT (v := ?vv) (us := ?uu) ?he ?hf ?_); (case he => rfl); (case hf => rfl)))
local macro_rules | `(tactic| walk_at "st") => `(tactic| ((with_reducible refine i_inT (v := ?vv) (us := ?uu) ?he ?hf ?_); (case he => rfl); (case hf => rfl)))
local macro_rules | `(tactic| walk_at "st") => `(tactic| ((with_reducible refine i_ixC (d := ?dd) ?he ?_); (case he => rfl)))
local macro_rules | `(tactic| walk_at "st") => `(tactic| ((with_reducible refine i_ixT (d := ?dd) ?he ?_); (case he => rfl)))
local macro_rules | `(tactic| walk_at "st") => `(tactic| ((with_reducible refine i_aug (x := ?dd) ?he ?_); (case he => rfl)))
local macro_rules | `(tactic| walk_at "st") => `(tactic| ((with_reducible refine i_var (d := ?dd) ?he ?_); (case he => rfl)))
local macro_rules | `(tactic| walk_at "st") => `(tactic| with_reducible refine i_neE ?_)
local macro_rules | `(tactic| walk_at "st") => `(tactic| with_reducible refine i_eqE ?_)
local macro_rules | `(tactic| walk_at "st") => `(tactic| with_reducible refine i_iRev ?_)
local macro_rules | `(tactic| walk_at "st") => `(tactic| with_reducible refine i_iStr ?_)
local macro_rules | `(tactic| walk_at "st") => `(tactic| with_reducible refine i_join ?_)
local macro_rules | `(tactic| walk_at "st") => `(tactic| with_reducible refine i_extendT ?_)
local macro_rules | `(tactic| walk_at "st") => `(tactic| with_reducible refine i_iZip ?_)
local macro_rules | `(tactic| walk_at "st") => `(tactic| with_reducible refine i_delFrom ?_)
local macro_rules | `(tactic| walk_at "st") => `(tactic| with_reducible refine i_max2 ?_)
local macro_rules | `(tactic| walk_at "st") => `(tactic| with_reducible refine i_strS ?_)
local macro_rules | `(tactic| walk_at "st") => `(tactic| with_reducible refine i_fmt ?_)
local macro_rules | `(tactic| walk_at "st") => `(tactic| with_reducible refine i_jnil ?_)
local macro_rules | `(tactic| walk_at "st") => `(tactic| with_reducible refine i_jcons ?_)
local macro_rules | `(tactic| walk_at "st") => `(tactic| with_reducible refine i_joined ?_)
local macro_rules | `(tactic| walk_at "st") => `(tactic| with_reducible refine i_truN ?_)
local macro_rules | `(tactic| walk_at "st") => `(tactic| with_reducible refine i_truT ?_)
local macro_rules | `(tactic| walk_at "st") => `(tactic| with_reducible refine i_truI ?_)
local macro_rules | `(tactic| walk_at "st") => `(tactic| with_reducible refine i_truB ?_)
local macro_rules | `(tactic| walk_at "st") => `(tactic| with_reducible refine i_tupT ?_)
local macro_rules | `(tactic| walk_at "st") => `(tactic| with_reducible refine i_slT ?_)
local macro_rules | `(tactic| walk_at "st") => `(tactic| with_reducible refine i_lenC ?_)
local macro_rules | `(tactic| walk_at "st") => `(tactic| with_reducible refine i_lenT ?_)
local macro_rules | `(tactic| walk_at "st") => `(tactic| with_reducible refine i_int1 ?_)
local macro_rules | `(tactic| walk_at "st") => `(tactic| with_reducible refine i_int ?_)
local macro_rules | `(tactic| walk_at "st") => `(tactic| with_reducible refine i_addII ?_)
local macro_rules | `(tactic| walk_at "st") => `(tactic| with_reducible refine i_addI ?_)
local macro_rules | `(tactic| walk_at "st") => `(tactic| with_reducible refine i_noN ?_)
local macro_rules | `(tactic| walk_at "st") => `(tactic| with_reducible refine i_isN ?_)
local macro_rules | `(tactic| walk_at "st") => `(tactic| with_reducible refine i_neS ?_)
local macro_rules | `(tactic| walk_at "st") => `(tactic| with_reducible refine i_neI ?_)
local macro_rules | `(tactic| walk_at "st") => `(tactic| with_reducible refine i_eqB ?_)
local macro_rules | `(tactic| walk_at "st") => `(tactic| with_reducible refine i_eqS ?_)
local macro_rules | `(tactic| walk_at "st") => `(tactic| with_reducible refine i_eqI ?_)
local macro_rules | `(tactic| walk_at "st") => `(tactic| with_reducible refine i_yes ?_)
local macro_rules | `(tactic| walk_at "st") => `(tactic| with_reducible refine i_gNi ?_)
local macro_rules | `(tactic| walk_at "st") => `(tactic| with_reducible refine i_gCo ?_)
local macro_rules | `(tactic| walk_at "st") => `(tactic| with_reducible refine i_gTu ?_)
local macro_rules | `(tactic| walk_at "st") => `(tactic| with_reducible refine i_gN ?_)
local macro_rules | `(tactic| walk_at "st") => `(tactic| with_reducible refine i_iR1 ?_)
local macro_rules | `(tactic| walk_at "st") => `(tactic| with_reducible refine i_iD ?_)
local macro_rules | `(tactic| walk_at "st") => `(tactic| with_reducible refine i_cdG ?_)
local macro_rules | `(tactic| walk_at "st") => `(tactic| with_reducible refine i_reverse ?_)
local macro_rules | `(tactic| walk_at "st") => `(tactic| with_reducible refine i_pop ?_)
local macro_rules | `(tactic| walk_at "st") => `(tactic| with_reducible refine i_extend ?_)
local macro_rules | `(tactic| walk_at "st") => `(tactic| with_reducible refine i_append ?_)
local macro_rules | `(tactic| walk_at "st") => `(tactic| with_reducible refine i_someP ?_)
local macro_rules | `(tactic| walk_at "st") => `(tactic| with_reducible refine i_noP ?_)
local macro_rules | `(tactic| walk_at "st") => `(tactic| with_reducible refine i_sl ?_)
local macro_rules | `(tactic| walk_at "st") => `(tactic| with_reducible refine i_call ?_)
local macro_rules | `(tactic| walk_at "st") => `(tactic| with_reducible refine i_cb ?_)
local macro_rules | `(tactic| walk_at "st") => `(tactic| with_reducible refine i_neg1 ?_)
local macro_rules | `(tactic| walk_at "st") => `(tactic| with_reducible refine i_neg ?_)
local macro_rules | `(tactic| walk_at "st") => `(tactic| with_reducible refine i_ifE ?_)
local macro_rules | `(tactic| walk_at "st") => `(tactic| with_reducible refine i_notV ?_)
local macro_rules | `(tactic| walk_at "st") => `(tactic| with_reducible refine i_orV ?_)
local macro_rules | `(tactic| walk_at "st") => `(tactic| with_reducible refine i_andV ?_)
local macro_rules | `(tactic| walk_at "st") => `(tactic| with_reducible refine i_not ?_)
local macro_rules | `(tactic| walk_at "st") => `(tactic| with_reducible refine i_or ?_)
local macro_rules | `(tactic| walk_at "st") => `(tactic| with_reducible refine i_and ?_)
local macro_rules | `(tactic| walk_at "st") => `(tactic| with_reducible refine i_tru ?_)
local macro_rules | `(tactic| walk_at "st") => `(tactic| with_reducible refine i_bl ?_)
local macro_rules | `(tactic| walk_at "st") => `(tactic| with_reducible refine i_tb ?_)
local macro_rules | `(tactic| walk_at "st") => `(tactic| with_reducible refine i_cons ?_)
local macro_rules | `(tactic| walk_at "st") => `(tactic| with_reducible refine i_nil ?_)
local macro_rules | `(tactic| walk_at "st") => `(tactic| with_reducible refine i_lst ?_)
local macro_rules | `(tactic| walk_at "st") => `(tactic| with_reducible refine i_tup ?_)
local macro_rules | `(tactic| walk_at "st") => `(tactic| with_reducible refine i_op ?_)
local macro_rules | `(tactic| walk_at "st") => `(tactic| with_reducible refine i_c ?_)
local macro_rules | `(tactic| walk_at "st") => `(tactic| with_reducible refine i_par2 ?_)
local macro_rules | `(tactic| walk_at "st") => `(tactic| with_reducible refine i_par ?_)
local macro_rules | `(tactic| walk_at "st") => `(tactic| with_reducible refine i_setL ?_)
local macro_rules | `(tactic| walk_at "st") => `(tactic| with_reducible refine i_cnt ?_)
local macro_rules | `(tactic| walk_at "st") => `(tactic| with_reducible refine i_brk ?_)
local macro_rules | `(tactic| walk_at "st") => `(tactic| with_reducible refine i_skip ?_)
local macro_rules | `(tactic| walk_at "st") => `(tactic| with_reducible refine i_if ?_)
local macro_rules | `(tactic| walk_at "st") => `(tactic| with_reducible refine i_retN ?_)
local macro_rules | `(tactic| walk_at "st") => `(tactic| with_reducible refine i_ret ?_)
local macro_rules | `(tactic| walk_at "st") => `(tactic| with_reducible refine i_drop ?_)
local macro_rules | `(tactic| walk_at "st") => `(tactic| with_reducible refine i_asg ?_)
local macro_rules | `(tactic| walk_at "st") => `(tactic| with_reducible refine i_set2 ?_)
local macro_rules | `(tactic| walk_at "st") => `(tactic| with_reducible refine i_set ?_)
local macro_rules | `(tactic| walk_at "st") => `(tactic| with_reducible refine i_seq ?_)
local macro_rules | `(tactic| walk_at "sts") => `(tactic| repeat walk_at "st")
def namPrev : Nat → DSp
  | 0 => fun _ _ _ _ => False
  | n + 1 => sp_law_sum_names n
theorem rd_law_sum_names (N k : Nat) (ds : List D) (S : Sto) (Q : DK) (E : DX) (h : sp_law_sum_names N ds S Q E) : t_law_sum_names (namPrev N) k { nx := fun _ S' => Dn Q .non S', rt := Dn Q } (startD 1 ds) S := by
  obtain ⟨t, ht, hw, hk, hz, rfl, K⟩ := h
  unfold t_law_sum_names
  rcases t with n | s | ⟨o, a, b⟩ | ⟨n, a⟩ | ⟨o, a, n⟩ | a | ⟨o, x, a⟩
  · simp only [Tr.d]
    walk_at "sts"
    intro p hp
    exact i_dn (K p [] (fun x => by simp [Tr.free]) (Nat.zero_le _) hp)
  · simp only [Tr.d]
    walk_at "sts"
    intro p hp
    exact i_dn (K p [s] (fun x => by simp [Tr.free, eq_comm]) (Nat.le_refl 1) hp)
  · obtain ⟨M, rfl⟩ : ∃ M, N = M + 1 := ⟨N - 1, by have : (Tr.two o a b).ht = 1 + max a.ht b.ht := rfl; omega⟩
    have e1 : (Tr.two o a b).ht = 1 + max a.ht b.ht := rfl
    have e2 : (Tr.two o a b).sz = 1 + a.sz + b.sz := rfl
    obtain ⟨wa, wb, ka, kb⟩ := hw
    have hne : o = .plus ∨ o = .minus := by
      cases o <;> first | exact .inl rfl | exact .inr rfl | exact absurd hk (by decide +kernel : ¬ ("formula" : Str) = "sum")
    rcases hne with rfl | rfl <;>
    · simp only [Tr.d, Op2.w]
      walk_at "sts"
      refine ⟨a, by omega, wa, ka, by omega, rfl, fun p ys hy yl hp => ?_⟩
      walk_at "sts"
      refine ⟨b, by omega, wb, kb, by omega, rfl, fun q zs hz' zl hq => ?_⟩
      have hpq : p ≠ q := fun e => by subst e; rw [put_same] at hq; cases hq
      have hq0 : S q = none := by rw [put_ne (Ne.symm hpq)] at hq; exact hq
      refine ⟨_, _, (put_ne hpq).trans put_same, put_same, ?_, fun r hr => ?_⟩
      · rw [List.length_map, List.length_map]; exact Nat.le_trans (by omega : _ ≤ 20000) (by decide)
      · have hrp : r ≠ p := fun e => by subst e; rw [put_ne hpq, put_same] at hr; cases hr
        have hrq : r ≠ q := fun e => by subst e; rw [put_same] at hr; cases hr
        have hr0 : S r = none := by rw [put_ne hrq, put_ne hrp] at hr; exact hr
        rw [← List.map_append]
        refine i_dnL (lePut2 (lePut (lePut (Le.refl S) hp) hq0)) (K r (ys ++ zs) (fun x => ?_) (by rw [List.length_append]; omega) hr0)
        rw [List.mem_append, hy, hz']
        rfl
  · obtain ⟨M, rfl⟩ : ∃ M, N = M + 1 := ⟨N - 1, by have : (Tr.times n a).ht = 1 + a.ht := rfl; omega⟩
    have e1 : (Tr.times n a).ht = 1 + a.ht := rfl
    have e2 : (Tr.times n a).sz = 1 + a.sz := rfl
    simp only [Tr.d]
    walk_at "sts"
    exact ⟨a, by omega, hw.2.1, hw.2.2, by omega, rfl, fun p ys hy yl hp => i_dn (K p ys hy (by omega) hp)⟩
  · obtain ⟨M, rfl⟩ : ∃ M, N = M + 1 := ⟨N - 1, by have : (Tr.ovr o a n).ht = 1 + a.ht := rfl; omega⟩
    have e1 : (Tr.ovr o a n).ht = 1 + a.ht := rfl
    have e2 : (Tr.ovr o a n).sz = 1 + a.sz := rfl
    cases o <;>
    · simp only [Tr.d, Opd.w]
      walk_at "sts"
      exact ⟨a, by omega, hw.2.2.1, hw.2.2.2, by omega, rfl, fun p ys hy yl hp => i_dn (K p ys hy (by omega) hp)⟩
  · exact absurd hk (by decide +kernel : ¬ ("formula" : Str) = "sum")
  · exact absurd hk (by decide +kernel : ¬ ("formula" : Str) = "sum")
end K07
end
section
namespace K07
open PySem L2 DL DLZ TR TS PyProof.Rows
local macro_rules | `(tactic| walk_at "st") => `(tactic| ((with_reducible refine ifT ?he ?_); (case he => rfl)))
local macro_rules | `(tactic| walk_at "st") => `(tactic| ((with_reducible refine ifF ?he ?_); (case he => rfl)))
local macro_rules | `(tactic| walk_at "st") => `(tactic| ((with_reducible refine ifT ?he ?_); (case he => decide +kernel)))
local macro_rules | `(tactic| walk_at "st") => `(tactic| ((with_reducible refine ifF ?he ?_); (case he => decide +kernel)))
local macro_rules | `(tactic| walk_at "st") => `(tactic| ((with_reducible refine i_isiT (T := ?tt) (b := false) ?he ?hf ?_); (case he => rfl); (case hf => decide +kernel)))
local macro_rules | `(tactic| walk_at "st") => `(tactic| ((with_reducible refine i_isi (T := ?tt) (b := false) ?he ?hf ?_); (case he => rfl); (case hf => decide +kernel)))
local macro_rules | `(tactic| walk_at "st") => `(tactic| ((with_reducible refine i_isiT (T := ?tt) (b := true) ?he ?hf ?_); (case he => rfl); (case hf => decide +kernel)))
local macro_rules | `(tactic| walk_at "st") => `(tactic| ((with_reducible refine i_isi (T := ?tt) (b := true) ?he ?hf ?_); (case he => rfl); (case hf => decide +kernel)))
local macro_rules | `(tactic| walk_at "st") => `(tactic| ((with_reducible refine i_len ?he ?_); (case he => rfl)))
local macro_rules | `(tactic| walk_at "st") => `(tactic| ((with_reducible refine i_niT (v := ?vv) (us := ?uu) ?he ?hf ?_); (case he => rfl); (case hf => rfl)))
local macro_rules | `(tactic| walk_at "st") => `(tactic| ((with_reducible refine i_inT (v := ?vv) (us := ?uu) ?he ?hf ?_); (case he => rfl); (case hf => rfl)))
local macro_rules | `(tactic| walk_at "st") => `(tactic| ((with_reducible refine i_ixC (d := ?dd) ?he ?_); (case he => rfl)))
local macro_rules | `(tactic| walk_at "st") => `(tactic| ((with_reducible refine i_ixT (d := ?dd) ?he ?_); (case he => rfl)))
local macro_rules | `(tactic| walk_at "st") => `(tactic| ((with_reducible refine i_aug (x := ?dd) ?he ?_); (case he => rfl)))
local macro_rules | `(tactic| walk_at "st") => `(tactic| ((with_reducible refine i_var (d := ?dd) ?he ?_); (case he => rfl)))
local macro_rules | `(tactic| walk_at "st") => `(tactic| with_reducible refine i_neE ?_)
local macro_rules | `(tactic| walk_at "st") => `(tactic| with_reducible refine i_eqE ?_)
local macro_rules | `(tactic| walk_at "st") => `(tactic| with_reducible refine i_iRev ?_)
local macro_rules | `(tactic| walk_at "st") => `(tactic| with_reducible refine i_iStr ?_)
local macro_rules | `(tactic| walk_at "st") => `(tactic| with_reducible refine i_join ?_)
local macro_rules | `(tactic| walk_at "st") => `(tactic| with_reducible refine i_extendT ?_)
local macro_rules | `(tactic| walk_at "st") => `(tactic| with_reducible refine i_iZip ?_)
local macro_rules | `(tactic| walk_at "st") => `(tactic| with_reducible refine i_delFrom ?_)
local macro_rules | `(tactic| walk_at "st") => `(tactic| with_reducible refine i_max2 ?_)
local macro_rules | `(tactic| walk_at "st") => `(tactic| with_reducible refine i_strS ?_)
local macro_rules | `(tactic| walk_at "st") => `(tactic| with_reducible refine i_fmt ?_)
local macro_rules | `(tactic| walk_at "st") => `(tactic| with_reducible refine i_jnil ?_)
local macro_rules | `(tactic| walk_at "st") => `(tactic| with_reducible refine i_jcons ?_)
local macro_rules | `(tactic| walk_at "st") => `(tactic| with_reducible refine i_joined ?_)
local macro_rules | `(tactic| walk_at "st") => `(tactic| with_reducible refine i_truN ?_)
local macro_rules | `(tactic| walk_at "st") => `(tactic| with_reducible refine i_truT ?_)
local macro_rules | `(tactic| walk_at "st") => `(tactic| with_reducible refine i_truI ?_)
local macro_rules | `(tactic| walk_at "st") => `(tactic| with_reducible refine i_truB ?_)
local macro_rules | `(tactic| walk_at "st") => `(tactic| with_reducible refine i_tupT ?_)
local macro_rules | `(tactic| walk_at "st") => `(tactic| with_reducible refine i_slT ?_)
local macro_rules | `(tactic| walk_at "st") => `(tactic| with_reducible refine i_lenC ?_)
local macro_rules | `(tactic| walk_at "st") => `(tactic| with_reducible refine i_lenT ?_)
local macro_rules | `(tactic| walk_at "st") => `(tactic| with_reducible refine i_int1 ?_)
local macro_rules | `(tactic| walk_at "st") => `(tactic| with_reducible refine i_int ?_)
local macro_rules | `(tactic| walk_at "st") => `(tactic| with_reducible refine i_addII ?_)
local macro_rules | `(tactic| walk_at "st") => `(tactic| with_reducible refine i_addI ?_)
local macro_rules | `(tactic| walk_at "st") => `(tactic| with_reducible refine i_noN ?_)
local macro_rules | `(tactic| walk_at "st") => `(tactic| with_reducible refine i_isN ?_)
local macro_rules | `(tactic| walk_at "st") => `(tactic| with_reducible refine i_neS ?_)
local macro_rules | `(tactic| walk_at "st") => `(tactic| with_reducible refine i_neI ?_)
local macro_rules | `(tactic| walk_at "st") => `(tactic| with_reducible refine i_eqB ?_)
local macro_rules | `(tactic| walk_at "st") => `(tactic| with_reducible refine i_eqS ?_)
local macro_rules | `(tactic| walk_at "st") => `(tactic| with_reducible refine i_eqI ?_)
local macro_rules | `(tactic| walk_at "st") => `(tactic| with_reducible refine i_yes ?_)
local macro_rules | `(tactic| walk_at "st") => `(tactic| with_reducible refine i_gNi ?_)
local macro_rules | `(tactic| walk_at "st") => `(tactic| with_reducible refine i_gCo ?_)
local macro_rules | `(tactic| walk_at "st") => `(tactic| with_reducible refine i_gTu ?_)
local macro_rules | `(tactic| walk_at "st") => `(tactic| with_reducible refine i_gN ?_)
local macro_rules | `(tactic| walk_at "st") => `(tactic| with_reducible refine i_iR1 ?_)
local macro_rules | `(tactic| walk_at "st") => `(tactic| with_reducible refine i_iD ?_)
local macro_rules | `(tactic| walk_at "st") => `(tactic| with_reducible refine i_cdG ?_)
local macro_rules | `(tactic| walk_at "st") => `(tactic| with_reducible refine i_reverse ?_)
local macro_rules | `(tactic| walk_at "st") => `(tactic| with_reducible refine i_pop ?_)
local macro_rules | `(tactic| walk_at "st") => `(tactic| with_reducible refine i_extend ?_)
local macro_rules | `(tactic| walk_at "st") => `(tactic| with_reducible refine i_append ?_)
local macro_rules | `(tactic| walk_at "st") => `(tactic| with_reducible refine i_someP ?_)
local macro_rules | `(tactic| walk_at "st") => `(tactic| with_reducible refine i_noP ?_)
local macro_rules | `(tactic| walk_at "st") => `(tactic| with_reducible refine i_sl ?_)
local macro_rules | `(tactic| walk_at "st") => `(tactic| with_reducible refine i_call ?_)
local macro_rules | `(tactic| walk_at "st") => `(tactic| with_reducible refine i_cb ?_)
local macro_rules | `(tactic| walk_at "st") => `(tactic| with_reducible refine i_neg1 ?_)
local macro_rules | `(tactic| walk_at "st") => `(tactic| with_reducible refine i_neg ?_)
local macro_rules | `(tactic| walk_at "st") => `(tactic| with_reducible refine i_ifE ?_)
local macro_rules | `(tactic| walk_at "st") => `(tactic| with_reducible refine i_notV ?_)
local macro_rules | `(tactic| walk_at "st") => `(tactic| with_reducible refine i_orV ?_)
local macro_rules | `(tactic| walk_at "st") => `(tactic| with_reducible refine i_andV ?_)
local macro_rules | `(tactic| walk_at "st") => `(tactic| with_reducible refine i_not ?_)
local macro_rules | `(tactic| walk_at "st") => `(tactic| with_reducible refine i_or ?_)
local macro_rules | `(tactic| walk_at "st") => `(tactic| with_reducible refine i_and ?_)
local macro_rules | `(tactic| walk_at "st") => `(tactic| with_reducible refine i_tru ?_)
local macro_rules | `(tactic| walk_at "st") => `(tactic| with_reducible refine i_bl ?_)
local macro_rules | `(tactic| walk_at "st") => `(tactic| with_reducible refine i_tb ?_)
local macro_rules | `(tactic| walk_at "st") => `(tactic| with_reducible refine i_cons ?_)
local macro_rules | `(tactic| walk_at "st") => `(tactic| with_reducible refine i_nil ?_)
local macro_rules | `(tactic| walk_at "st") => `(tactic| with_reducible refine i_lst ?_)
local macro_rules | `(tactic| walk_at "st") => `(tactic| with_reducible refine i_tup ?_)
local macro_rules | `(tactic| walk_at "st") => `(tactic| with_reducible refine i_op ?_)
local macro_rules | `(tactic| walk_at "st") => `(tactic| with_reducible refine i_c ?_)
local macro_rules | `(tactic| walk_at "st") => `(tactic| with_reducible refine i_par2 ?_)
local macro_rules | `(tactic| walk_at "st") => `(tactic| with_reducible refine i_par ?_)
local macro_rules | `(tactic| walk_at "st") => `(tactic| with_reducible refine i_setL ?_)
local macro_rules | `(tactic| walk_at "st") => `(tactic| with_reducible refine i_cnt ?_)
local macro_rules | `(tactic| walk_at "st") => `(tactic| with_reducible refine i_brk ?_)
local macro_rules | `(tactic| walk_at "st") => `(tactic| with_reducible refine i_skip ?_)
local macro_rules | `(tactic| walk_at "st") => `(tactic| with_reducible refine i_if ?_)
local macro_rules | `(tactic| walk_at "st") => `(tactic| with_reducible refine i_retN ?_)
local macro_rules | `(tactic| walk_at "st") => `(tactic| with_reducible refine i_ret ?_)
local macro_rules | `(tactic| walk_at "st") => `(tactic| with_reducible refine i_drop ?_)
local macro_rules | `(tactic| walk_at "st") => `(tactic| with_reducible refine i_asg ?_)
local macro_rules | `(tactic| walk_at "st") => `(tactic| with_reducible refine i_set2 ?_)
local macro_rules | `(tactic| walk_at "st") => `(tactic| with_reducible refine i_set ?_)
local macro_rules | `(tactic| walk_at "st") => `(tactic| with_reducible refine i_seq ?_)
local macro_rules | `(tactic| walk_at "sts") => `(tactic| repeat walk_at "st")
theorem i_mulW {a b : Int} {S : Sto} {Q : DK} (c : CMulW a b) (h : Q (.int (a * b)) S) : oMul (.int a) (.int b) S Q := ⟨c, h⟩
theorem i_divW {a b : Int} {S : Sto} {Q : DK} (c : CDivW a b) (h : Q (.int (a / b)) S) : oDiv (.int a) (.int b) S Q := ⟨c, h⟩
theorem i_modW {a b : Int} {S : Sto} {Q : DK} (c : 0 < b) (h : Q (.int (a % b)) S) : oMod (.int a) (.int b) S Q := ⟨c, h⟩
theorem cdiv {n : Int} {b : Nat} (h1 : 1 ≤ b) (h2 : b ≤ 999999) : CDivW n (b : Int) := by
  refine ⟨by omega, ?_⟩
  have := (BB.small h2).log (by decide)
  omega
theorem rd_divided (ds : List D) (S : Sto) (Q : DK) (E : DX) (h : sp_divided ds S Q E) : t_divided { nx := fun _ S' => Dn Q .non S', rt := Dn Q } (startD 4 ds) S := by
  obtain ⟨o, n, b, h1, h2, hn, rfl, q⟩ := h
  unfold t_divided
  unfold dv at q
  walk_at "sts"
  refine ifD (fun hs => ?_) fun hs => ?_
  · walk_at "sts"
    rw [if_pos hs] at q
    exact i_dn q
  · rw [if_neg hs] at q
    walk_at "sts"
    refine i_divW (cdiv h1 h2) ?_
    cases o with
    | over =>
      walk_at "sts"
      exact i_dn q
    | rest =>
      walk_at "sts"
      have hd : BB 9000 (n / (b : Int)) := hn.div (by omega)
      refine i_mulW (hd.cmul (BB.small h2) (by decide) (by decide) (by decide)) ?_
      walk_at "sts"
      have e : n - n / (b : Int) * (b : Int) = n % (b : Int) := by
        have := Int.mul_ediv_add_emod n (b : Int)
        rw [Int.mul_comm] at this
        omega
      rw [e]
      exact i_dn q
theorem rd_made_of_one (ds : List D) (S : Sto) (Q : DK) (E : DX) (h : sp_made_of_one ds S Q E) : t_made_of_one { nx := fun _ S' => Dn Q .non S', rt := Dn Q } (startD 3 ds) S := by
  obtain ⟨t, a, n, hn, rfl, ⟨m, rfl, hm, q⟩ | ⟨o, m, rfl, h1, h2, q⟩⟩ := h
  · unfold t_made_of_one
    simp only [Tr.d]
    walk_at "sts"
    refine i_mulW ((BB.small hm).cmul hn (by decide) (by decide) (by decide)) ?_
    exact i_dn q
  · unfold t_made_of_one
    cases o <;>
    · simp only [Tr.d, Opd.w]
      walk_at "sts"
      exact ⟨_, n, m, h1, h2, hn, rfl, i_dn q⟩
theorem rd_made_of_two (ds : List D) (S : Sto) (Q : DK) (E : DX) (h : sp_made_of_two ds S Q E) : t_made_of_two { nx := fun _ S' => Dn Q .non S', rt := Dn Q } (startD 3 ds) S := by
  obtain ⟨o, m, n, rfl, ⟨rfl, q⟩ | ⟨rfl, q⟩⟩ := h
  · unfold t_made_of_two
    simp only [Op2.w]
    walk_at "sts"
    exact i_dn q
  · unfold t_made_of_two
    simp only [Op2.w]
    walk_at "sts"
    exact i_dn q
end K07
end
section
namespace K07
open PySem L2 DL DLZ TR TS PyProof.Rows
local macro_rules | `(tactic| walk_at "st") => `(tactic| ((with_reducible refine ifT ?he ?_); (case he => rfl)))
local macro_rules | `(tactic| walk_at "st") => `(tactic| ((with_reducible refine ifF ?he ?_); (case he => rfl)))
local macro_rules | `(tactic| walk_at "st") => `(tactic| ((with_reducible refine ifT ?he ?_); (case he => decide +kernel)))
local macro_rules | `(tactic| walk_at "st") => `(tactic| ((with_reducible refine ifF ?he ?_); (case he => decide +kernel)))
local macro_rules | `(tactic| walk_at "st") => `(tactic| ((with_reducible refine i_isiT (T := ?tt) (b := false) ?he ?hf ?_); (case he => rfl); (case hf => decide +kernel)))
local macro_rules | `(tactic| walk_at "st") => `(tactic| ((with_reducible refine i_isi (T := ?tt) (b := false) ?he ?hf ?_); (case he => rfl); (case hf => decide +kernel)))
local macro_rules | `(tactic| walk_at "st") => `(tactic| ((with_reducible refine i_isiT (T := ?tt) (b := true) ?he ?hf ?_); (case he => rfl); (case hf => decide +kernel)))
local macro_rules | `(tactic| walk_at "st") => `(tactic| ((with_reducible refine i_isi (T := ?tt) (b := true) ?he ?hf ?_); (case he => rfl); (case hf => decide +kernel)))
local macro_rules | `(tactic| walk_at "st") => `(tactic| ((with_reducible refine i_len ?he ?_); (case he => rfl)))
local macro_rules | `(tactic| walk_at "st") => `(tactic| ((with_reducible refine i_niT (v := ?vv) (us := ?uu) ?he ?hf ?_); (case he => rfl); (case hf => rfl)))
local macro_rules | `(tactic| walk_at "st") => `(tactic| ((with_reducible refine i_inT (v := ?vv) (us := ?uu) ?he ?hf ?_); (case he => rfl); (case hf => rfl)))
local macro_rules | `(tactic| walk_at "st") => `(tactic| ((with_reducible refine i_ixC (d := ?dd) ?he ?_); (case he => rfl)))
local macro_rules | `(tactic| walk_at "st") => `(tactic| ((with_reducible refine i_ixT (d := ?dd) ?he ?_); (case he => rfl)))
local macro_rules | `(tactic| walk_at "st") => `(tactic| ((with_reducible refine i_aug (x := ?dd) ?he ?_); (case he => rfl)))
local macro_rules | `(tactic| walk_at "st") => `(tactic| ((with_reducible refine i_var (d := ?dd) ?he ?_); (case he => rfl)))
local macro_rules | `(tactic| walk_at "st") => `(tactic| with_reducible refine i_neE ?_)
local macro_rules | `(tactic| walk_at "st") => `(tactic| with_reducible refine i_eqE ?_)
local macro_rules | `(tactic| walk_at "st") => `(tactic| with_reducible refine i_iRev ?_)
local macro_rules | `(tactic| walk_at "st") => `(tactic| with_reducible refine i_iStr ?_)
local macro_rules | `(tactic| walk_at "st") => `(tactic| with_reducible refine i_join ?_)
local macro_rules | `(tactic| walk_at "st") => `(tactic| with_reducible refine i_extendT ?_)
local macro_rules | `(tactic| walk_at "st") => `(tactic| with_reducible refine i_iZip ?_)
local macro_rules | `(tactic| walk_at "st") => `(tactic| with_reducible refine i_delFrom ?_)
local macro_rules | `(tactic| walk_at "st") => `(tactic| with_reducible refine i_max2 ?_)
local macro_rules | `(tactic| walk_at "st") => `(tactic| with_reducible refine i_strS ?_)
local macro_rules | `(tactic| walk_at "st") => `(tactic| with_reducible refine i_fmt ?_)
local macro_rules | `(tactic| walk_at "st") => `(tactic| with_reducible refine i_jnil ?_)
local macro_rules | `(tactic| walk_at "st") => `(tactic| with_reducible refine i_jcons ?_)
local macro_rules | `(tactic| walk_at "st") => `(tactic| with_reducible refine i_joined ?_)
local macro_rules | `(tactic| walk_at "st") => `(tactic| with_reducible refine i_truN ?_)
local macro_rules | `(tactic| walk_at "st") => `(tactic| with_reducible refine i_truT ?_)
local macro_rules | `(tactic| walk_at "st") => `(tactic| with_reducible refine i_truI ?_)
local macro_rules | `(tactic| walk_at "st") => `(tactic| with_reducible refine i_truB ?_)
local macro_rules | `(tactic| walk_at "st") => `(tactic| with_reducible refine i_tupT ?_)
local macro_rules | `(tactic| walk_at "st") => `(tactic| with_reducible refine i_slT ?_)
local macro_rules | `(tactic| walk_at "st") => `(tactic| with_reducible refine i_lenC ?_)
local macro_rules | `(tactic| walk_at "st") => `(tactic| with_reducible refine i_lenT ?_)
local macro_rules | `(tactic| walk_at "st") => `(tactic| with_reducible refine i_int1 ?_)
local macro_rules | `(tactic| walk_at "st") => `(tactic| with_reducible refine i_int ?_)
local macro_rules | `(tactic| walk_at "st") => `(tactic| with_reducible refine i_addII ?_)
local macro_rules | `(tactic| walk_at "st") => `(tactic| with_reducible refine i_addI ?_)
local macro_rules | `(tactic| walk_at "st") => `(tactic| with_reducible refine i_noN ?_)
local macro_rules | `(tactic| walk_at "st") => `(tactic| with_reducible refine i_isN ?_)
local macro_rules | `(tactic| walk_at "st") => `(tactic| with_reducible refine i_neS ?_)
local macro_rules | `(tactic| walk_at "st") => `(tactic| with_reducible refine i_neI ?_)
local macro_rules | `(tactic| walk_at "st") => `(tactic| with_reducible refine i_eqB ?_)
local macro_rules | `(tactic| walk_at "st") => `(tactic| with_reducible refine i_eqS ?_)
local macro_rules | `(tactic| walk_at "st") => `(tactic| with_reducible refine i_eqI ?_)
local macro_rules | `(tactic| walk_at "st") => `(tactic| with_reducible refine i_yes ?_)
local macro_rules | `(tactic| walk_at "st") => `(tactic| with_reducible refine i_gNi ?_)
local macro_rules | `(tactic| walk_at "st") => `(tactic| with_reducible refine i_gCo ?_)
local macro_rules | `(tactic| walk_at "st") => `(tactic| with_reducible refine i_gTu ?_)
local macro_rules | `(tactic| walk_at "st") => `(tactic| with_reducible refine i_gN ?_)
local macro_rules | `(tactic| walk_at "st") => `(tactic| with_reducible refine i_iR1 ?_)
local macro_rules | `(tactic| walk_at "st") => `(tactic| with_reducible refine i_iD ?_)
local macro_rules | `(tactic| walk_at "st") => `(tactic| with_reducible refine i_cdG ?_)
local macro_rules | `(tactic| walk_at "st") => `(tactic| with_reducible refine i_reverse ?_)
local macro_rules | `(tactic| walk_at "st") => `(tactic| with_reducible refine i_pop ?_)
local macro_rules | `(tactic| walk_at "st") => `(tactic| with_reducible refine i_extend ?_)
local macro_rules | `(tactic| walk_at "st") => `(tactic| with_reducible refine i_append ?_)
local macro_rules | `(tactic| walk_at "st") => `(tactic| with_reducible refine i_someP ?_)
local macro_rules | `(tactic| walk_at "st") => `(tactic| with_reducible refine i_noP ?_)
local macro_rules | `(tactic| walk_at "st") => `(tactic| with_reducible refine i_sl ?_)
local macro_rules | `(tactic| walk_at "st") => `(tactic| with_reducible refine i_call ?_)
local macro_rules | `(tactic| walk_at "st") => `(tactic| with_reducible refine i_cb ?_)
local macro_rules | `(tactic| walk_at "st") => `(tactic| with_reducible refine i_neg1 ?_)
local macro_rules | `(tactic| walk_at "st") => `(tactic| with_reducible refine i_neg ?_)
local macro_rules | `(tactic| walk_at "st") => `(tactic| with_reducible refine i_ifE ?_)
local macro_rules | `(tactic| walk_at "st") => `(tactic| with_reducible refine i_notV ?_)
local macro_rules | `(tactic| walk_at "st") => `(tactic| with_reducible refine i_orV ?_)
local macro_rules | `(tactic| walk_at "st") => `(tactic| with_reducible refine i_andV ?_)
local macro_rules | `(tactic| walk_at "st") => `(tactic| with_reducible refine i_not ?_)
local macro_rules | `(tactic| walk_at "st") => `(tactic| with_reducible refine i_or ?_)
local macro_rules | `(tactic| walk_at "st") => `(tactic| with_reducible refine i_and ?_)
local macro_rules | `(tactic| walk_at "st") => `(tactic| with_reducible refine i_tru ?_)
local macro_rules | `(tactic| walk_at "st") => `(tactic| with_reducible refine i_bl ?_)
local macro_rules | `(tactic| walk_at "st") => `(tactic| with_reducible refine i_tb ?_)
local macro_rules | `(tactic| walk_at "st") => `(tactic| with_reducible refine i_cons ?_)
local macro_rules | `(tactic| walk_at "st") => `(tactic| with_reducible refine i_nil ?_)
local macro_rules | `(tactic| walk_at "st") => `(tactic| with_reducible refine i_lst ?_)
local macro_rules | `(tactic| walk_at "st") => `(tactic| with_reducible refine i_tup ?_)
local macro_rules | `(tactic| walk_at "st") => `(tactic| with_reducible refine i_op ?_)
local macro_rules | `(tactic| walk_at "st") => `(tactic| with_reducible refine i_c ?_)
local macro_rules | `(tactic| walk_at "st") => `(tactic| with_reducible refine i_par2 ?_)
local macro_rules | `(tactic| walk_at "st") => `(tactic| with_reducible refine i_par ?_)
local macro_rules | `(tactic| walk_at "st") => `(tactic| with_reducible refine i_setL ?_)
local macro_rules | `(tactic| walk_at "st") => `(tactic| with_reducible refine i_cnt ?_)
local macro_rules | `(tactic| walk_at "st") => `(tactic| with_reducible refine i_brk ?_)
local macro_rules | `(tactic| walk_at "st") => `(tactic| with_reducible refine i_skip ?_)
local macro_rules | `(tactic| walk_at "st") => `(tactic| with_reducible refine i_if ?_)
local macro_rules | `(tactic| walk_at "st") => `(tactic| with_reducible refine i_retN ?_)
local macro_rules | `(tactic| walk_at "st") => `(tactic| with_reducible refine i_ret ?_)
local macro_rules | `(tactic| walk_at "st") => `(tactic| with_reducible refine i_drop ?_)
local macro_rules | `(tactic| walk_at "st") => `(tactic| with_reducible refine i_asg ?_)
local macro_rules | `(tactic| walk_at "st") => `(tactic| with_reducible refine i_set2 ?_)
local macro_rules | `(tactic| walk_at "st") => `(tactic| with_reducible refine i_set ?_)
local macro_rules | `(tactic| walk_at "st") => `(tactic| with_reducible refine i_seq ?_)
local macro_rules | `(tactic| walk_at "sts") => `(tactic| repeat walk_at "st")
theorem rpre_sum : ∀ {t u : Tr}, u ∈ t.rpre → t.wf → t.kind = "sum" → u.wf ∧ u.kind = "sum" ∧ u.sz ≤ t.sz ∧ ∀ x, u.free [] x → t.free [] x
  | .num n, u, h, w, k => by simp only [Tr.rpre, List.mem_singleton] at h; subst h; exact ⟨w, k, Nat.le_refl _, fun _ h => h⟩
  | .nam s, u, h, w, k => by simp only [Tr.rpre, List.mem_singleton] at h; subst h; exact ⟨w, k, Nat.le_refl _, fun _ h => h⟩
  | .two o a b, u, h, w, k => by
    have ho := sum_op k
    have hs : o.sub = "sum" := by rcases ho with rfl | rfl <;> rfl
    have e2 : (Tr.two o a b).sz = 1 + a.sz + b.sz := rfl
    simp only [Tr.rpre, List.mem_cons, List.mem_append] at h
    rcases h with rfl | h | h
    · exact ⟨w, k, Nat.le_refl _, fun _ h => h⟩
    · obtain ⟨h1, h2, h3, h4⟩ := rpre_sum h w.2.1 (w.2.2.2.trans hs)
      exact ⟨h1, h2, by omega, fun x hx => .inr (h4 x hx)⟩
    · obtain ⟨h1, h2, h3, h4⟩ := rpre_sum h w.1 (w.2.2.1.trans hs)
      exact ⟨h1, h2, by omega, fun x hx => .inl (h4 x hx)⟩
  | .times n a, u, h, w, k => by
    have e2 : (Tr.times n a).sz = 1 + a.sz := rfl
    simp only [Tr.rpre, List.mem_cons] at h
    rcases h with rfl | h
    · exact ⟨w, k, Nat.le_refl _, fun _ h => h⟩
    · obtain ⟨h1, h2, h3, h4⟩ := rpre_sum h w.2.1 w.2.2
      exact ⟨h1, h2, by omega, h4⟩
  | .ovr o a n, u, h, w, k => by
    have e2 : (Tr.ovr o a n).sz = 1 + a.sz := rfl
    simp only [Tr.rpre, List.mem_cons] at h
    rcases h with rfl | h
    · exact ⟨w, k, Nat.le_refl _, fun _ h => h⟩
    · obtain ⟨h1, h2, h3, h4⟩ := rpre_sum h w.2.2.1 w.2.2.2
      exact ⟨h1, h2, by omega, h4⟩
  | .neg a, u, h, w, k => absurd (show ("formula" : Str) = "sum" from k) (by decide +kernel)
  | .qn q x a, u, h, w, k => absurd (show ("formula" : Str) = "sum" from k) (by decide +kernel)
theorem rd_made_of (ds : List D) (S : Sto) (Q : DK) (E : DX) (h : sp_made_of ds S Q E) : t_made_of { nx := fun _ S' => Dn Q .non S', rt := Dn Q } (startD 7 ds) S := by
  obtain ⟨t, a, l, rfl, hw, hk, hz, ha, hE, k⟩ := h
  unfold t_made_of
  walk_at "sts"
  intro m hm
  walk_at "sts"
  unfold dFor
  walk_at "sts"
  refine ⟨t, rfl, by omega, fun p S1 hp h1 L1 => ?_⟩
  have hpl : t.post.length = t.sz := by unfold Tr.post; rw [List.length_reverse, Tr.rpre_len]
  have hmp : m ≠ p := fun e => by subst e; rw [put_same] at hp; cases hp
  have ham : a ≠ m := fun e => by subst e; rw [hm] at ha; cases ha
  have L0 : Le S S1 := fun a c e => L1 a c (lePut (Le.refl S) hm a c e)
  refine ⟨t.post.map Tr.d, ?_, ?_⟩
  · show (match S1 p with | some (.lst xs) => some xs | _ => none) = _
    rw [h1]
  refine ⟨fun i ε S2 => ∃ (stk : List Tr) (e3 e4 e5 e6 : Option D), ε = [some t.d, some (.ref a), some (.ref m), e3, e4, e5, e6] ∧ S2 m = some (.lst (stk.map fun u => .int (wrt (EV l) u))) ∧ S2 p = some (.lst (t.post.map Tr.d)) ∧ Le S S2 ∧ Runs stk (t.post.drop i) [t] ∧ stk.length ≤ i,
    ⟨[], none, none, none, none, rfl, L1 _ _ put_same, h1, L0, by simpa using runs_post t, Nat.le_refl _⟩, fun i ε S2 _ w => ?_, fun i x ε S2 hx w => ?_, fun ε S2 w => ?_⟩
  · obtain ⟨_, _, _, _, _, _, _, h, _⟩ := w
    exact h
  · obtain ⟨stk, e3, e4, e5, e6, rfl, hS, hP, hL, hR, hl⟩ := w
    rw [List.getElem?_map] at hx
    obtain ⟨u, hu, rfl⟩ := Option.map_eq_some_iff.mp hx
    have hi : i < t.post.length := (List.getElem?_eq_some_iff.mp hu).1
    have hum : u ∈ t.rpre := by
      have := List.mem_of_getElem? hu
      unfold Tr.post at this
      exact List.mem_reverse.mp this
    obtain ⟨uw, uk, uz, uf⟩ := rpre_sum hum hw hk
    have hd : t.post.drop i = u :: t.post.drop (i + 1) := by
      rw [List.drop_eq_getElem_cons hi]
      rw [(List.getElem?_eq_some_iff.mp hu).2]
    rw [hd] at hR
    obtain ⟨s', hs', hR'⟩ : ∃ s', stk = s' ++ u.parts ∧ Runs (s' ++ [u]) (t.post.drop (i + 1)) [t] := by
      generalize hq : u :: t.post.drop (i + 1) = q at hR
      cases hR with
      | nil => cases hq
      | cons h => cases hq; exact ⟨_, rfl, h⟩
    subst hs'
    rw [List.length_append] at hl
    have fin : ∀ (S4 : Sto) (ys : List D), ys = s'.map (fun u => .int (wrt (EV l) u)) → (S4 p = some (.lst (t.post.map Tr.d))) → Le S S4 → ∀ (e3 e4 e5 e6 : Option D) (v : Int), v = wrt (EV l) u → ys.length < sizeLine ∧
        ∃ (stk : List Tr) (e3' e4' e5' e6' : Option D), [some t.d, some (.ref a), some (.ref m), e3, e4, e5, e6] = [some t.d, some (.ref a), some (.ref m), e3', e4', e5', e6'] ∧ put S4 m (.lst (ys ++ [.int v])) m = some (.lst (stk.map fun u => .int (wrt (EV l) u))) ∧ put S4 m (.lst (ys ++ [.int v])) p = some (.lst (t.post.map Tr.d)) ∧ Le S (put S4 m (.lst (ys ++ [.int v]))) ∧ Runs stk (t.post.drop (i + 1)) [t] ∧ stk.length ≤ i + 1 := by
      intro S4 ys hys h4 L4 e3 e4 e5 e6 v hv
      refine ⟨?_, s' ++ [u], _, _, _, _, rfl, ?_, (put_ne (Ne.symm hmp)).trans h4, lePut L4 hm, hR', ?_⟩
      · rw [hys, List.length_map]; exact Nat.lt_of_le_of_lt (by omega : _ ≤ 1000) (by decide)
      · rw [put_same, hys, hv, List.map_append]; rfl
      · rw [List.length_append, List.length_singleton]; omega
    have hbb : ∀ v ∈ u.parts, BB 9000 (wrt (EV l) v) := by
      intro v hv
      have hvv : v.wf ∧ v.kind = "sum" ∧ v.sz ≤ u.sz ∧ ∀ x, v.free [] x → u.free [] x := by
        cases u with
        | num n => cases hv
        | nam s => cases hv
        | two o a b =>
          have ho := sum_op uk
          have hs : o.sub = "sum" := by rcases ho with rfl | rfl <;> rfl
          have e2 : (Tr.two o a b).sz = 1 + a.sz + b.sz := rfl
          rcases List.mem_cons.mp hv with rfl | hv
          · exact ⟨uw.1, uw.2.2.1.trans hs, by omega, fun x h => .inl h⟩
          · rw [List.mem_singleton.mp hv]; exact ⟨uw.2.1, uw.2.2.2.trans hs, by omega, fun x h => .inr h⟩
        | times n a => have e2 : (Tr.times n a).sz = 1 + a.sz := rfl
                       rw [List.mem_singleton.mp hv]; exact ⟨uw.2.1, uw.2.2, by omega, fun x h => h⟩
        | ovr o a n => have e2 : (Tr.ovr o a n).sz = 1 + a.sz := rfl
                       rw [List.mem_singleton.mp hv]; exact ⟨uw.2.2.1, uw.2.2.2, by omega, fun x h => h⟩
        | neg a => exact absurd (show ("formula" : Str) = "sum" from uk) (by decide +kernel)
        | qn q x a => exact absurd (show ("formula" : Str) = "sum" from uk) (by decide +kernel)
      exact (wrt_bb (EV l) v hvv.1 hvv.2.1 fun x hx => (hE x (uf x (hvv.2.2.2 x hx))).ev.2.2).mono (by have := hvv.2.2.1; omega)
    cases u with
    | num n =>
      simp only [Tr.d, Tr.parts, List.append_nil] at *
      walk_at "sts"
      refine ⟨m, _, rfl, hS, ?_⟩
      walk_at "sts"
      refine ⟨_, hS, ?_⟩
      exact fin S2 _ rfl hP hL _ _ _ _ _ rfl
    | nam s =>
      simp only [Tr.d, Tr.parts, List.append_nil] at *
      walk_at "sts"
      refine ⟨m, _, rfl, hS, ?_⟩
      walk_at "sts"
      have := (hE s (uf s ⟨rfl, by simp⟩)).ev
      refine i_ixKs (hL _ _ ha) this.1 ?_
      refine ⟨_, hS, ?_⟩
      exact fin S2 _ rfl hP hL _ _ _ _ _ rfl
    | times n a =>
      simp only [Tr.d, Tr.parts] at *
      walk_at "sts"
      refine ⟨m, _, rfl, hS, ?_⟩
      walk_at "sts"
      refine ⟨m, _, .int (wrt (EV l) a), rfl, hS, by simp, ?_⟩
      walk_at "sts"
      refine ⟨.times n a, a, _, hbb a (by simp), rfl, .inl ⟨n, rfl, uw.1, _, put_same, ?_⟩⟩
      refine fin _ _ (by simp) ((put_ne (Ne.symm hmp)).trans hP) (lePut hL hm) _ _ _ _ _ rfl
    | ovr o a n =>
      cases o with
      | over =>
        simp only [Tr.d, Tr.parts, Opd.w] at *
        walk_at "sts"
        refine ⟨m, _, rfl, hS, ?_⟩
        walk_at "sts"
        refine ⟨m, _, .int (wrt (EV l) a), rfl, hS, by simp, ?_⟩
        walk_at "sts"
        refine ⟨.ovr .over a n, a, _, hbb a (by simp), rfl, .inr ⟨.over, n, rfl, uw.1, uw.2.1, _, put_same, ?_⟩⟩
        refine fin _ _ (by simp) ((put_ne (Ne.symm hmp)).trans hP) (lePut hL hm) _ _ _ _ _ rfl
      | rest =>
        simp only [Tr.d, Tr.parts, Opd.w] at *
        walk_at "sts"
        refine ⟨m, _, rfl, hS, ?_⟩
        walk_at "sts"
        refine ⟨m, _, .int (wrt (EV l) a), rfl, hS, by simp, ?_⟩
        walk_at "sts"
        refine ⟨.ovr .rest a n, a, _, hbb a (by simp), rfl, .inr ⟨.rest, n, rfl, uw.1, uw.2.1, _, put_same, ?_⟩⟩
        refine fin _ _ (by simp) ((put_ne (Ne.symm hmp)).trans hP) (lePut hL hm) _ _ _ _ _ rfl
    | two o a b =>
      have ho := sum_op uk
      rcases ho with rfl | rfl
      · simp only [Tr.d, Tr.parts, Op2.w] at *
        walk_at "sts"
        refine ⟨m, _, .int (wrt (EV l) b), rfl, hS, by simp, ?_⟩
        walk_at "sts"
        refine ⟨m, _, .int (wrt (EV l) a), rfl, put_same, by simp, ?_⟩
        walk_at "sts"
        refine ⟨m, _, rfl, put_same, ?_⟩
        walk_at "sts"
        refine ⟨.plus, _, _, rfl, .inl ⟨rfl, _, put_same, ?_⟩⟩
        refine fin _ _ (by simp) ((put_ne (Ne.symm hmp)).trans ((put_ne (Ne.symm hmp)).trans hP)) (lePut (lePut hL hm) hm) _ _ _ _ _ rfl
      · simp only [Tr.d, Tr.parts, Op2.w] at *
        walk_at "sts"
        refine ⟨m, _, .int (wrt (EV l) b), rfl, hS, by simp, ?_⟩
        walk_at "sts"
        refine ⟨m, _, .int (wrt (EV l) a), rfl, put_same, by simp, ?_⟩
        walk_at "sts"
        refine ⟨m, _, rfl, put_same, ?_⟩
        walk_at "sts"
        refine ⟨.minus, _, _, rfl, .inr ⟨rfl, _, put_same, ?_⟩⟩
        refine fin _ _ (by simp) ((put_ne (Ne.symm hmp)).trans ((put_ne (Ne.symm hmp)).trans hP)) (lePut (lePut hL hm) hm) _ _ _ _ _ rfl
    | neg a => exact absurd (show ("formula" : Str) = "sum" from uk) (by decide +kernel)
    | qn q x a => exact absurd (show ("formula" : Str) = "sum" from uk) (by decide +kernel)
  · obtain ⟨stk, e3, e4, e5, e6, rfl, hS, hP, hL, hR, hl⟩ := w
    rw [List.length_map, List.drop_length] at hR
    cases hR
    walk_at "sts"
    refine i_ixR hS (d := .int (wrt (EV l) t)) rfl ?_
    exact i_dn (k _ hL)
theorem rd_worth (ds : List D) (S : Sto) (Q : DK) (E : DX) (h : sp_worth ds S Q E) : t_worth { nx := fun _ S' => Dn Q .non S', rt := Dn Q } (startD 2 ds) S := by
  obtain ⟨t, a, l, rfl, hw, hk, hz, ha, hE, k⟩ := h
  unfold t_worth
  walk_at "sts"
  exact ⟨t, a, l, rfl, hw, hk, hz, ha, hE, fun S' L => i_dn (k S' L)⟩
end K07
end
section
namespace K07
open PySem L2 DL DLZ TR TS PyProof.Rows
local macro_rules | `(tactic| walk_at "st") => `(tactic| ((with_reducible refine ifT ?he ?_); (case he => rfl)))
local macro_rules | `(tactic| walk_at "st") => `(tactic| ((with_reducible refine ifF ?he ?_); (case he => rfl)))
local macro_rules | `(tactic| walk_at "st") => `(tactic| ((with_reducible refine ifT ?he ?_); (case he => decide +kernel)))
local macro_rules | `(tactic| walk_at "st") => `(tactic| ((with_reducible refine ifF ?he ?_); (case he => decide +kernel)))
local macro_rules | `(tactic| walk_at "st") => `(tactic| ((with_reducible refine i_isiT (T := ?tt) (b := false) ?he ?hf ?_); (case he => rfl); (case hf => decide +kernel)))
local macro_rules | `(tactic| walk_at "st") => `(tactic| ((with_reducible refine i_isi (T := ?tt) (b := false) ?he ?hf ?_); (case he => rfl); (case hf => decide +kernel)))
local macro_rules | `(tactic| walk_at "st") => `(tactic| ((with_reducible refine i_isiT (T := ?tt) (b := true) ?he ?hf ?_); (case he => rfl); (case hf => decide +kernel)))
local macro_rules | `(tactic| walk_at "st") => `(tactic| ((with_reducible refine i_isi (T := ?tt) (b := true) ?he ?hf ?_); (case he => rfl); (case hf => decide +kernel)))
local macro_rules | `(tactic| walk_at "st") => `(tactic| ((with_reducible refine i_len ?he ?_); (case he => rfl)))
local macro_rules | `(tactic| walk_at "st") => `(tactic| ((with_reducible refine i_niT (v := ?vv) (us := ?uu) ?he ?hf ?_); (case he => rfl); (case hf => rfl)))
local macro_rules | `(tactic| walk_at "st") => `(tactic| ((with_reducible refine i_inT (v := ?vv) (us := ?uu) ?he ?hf ?_); (case he => rfl); (case hf => rfl)))
local macro_rules | `(tactic| walk_at "st") => `(tactic| ((with_reducible refine i_ixC (d := ?dd) ?he ?_); (case he => rfl)))
local macro_rules | `(tactic| walk_at "st") => `(tactic| ((with_reducible refine i_ixT (d := ?dd) ?he ?_); (case he => rfl)))
local macro_rules | `(tactic| walk_at "st") => `(tactic| ((with_reducible refine i_aug (x := ?dd) ?he ?_); (case he => rfl)))
local macro_rules | `(tactic| walk_at "st") => `(tactic| ((with_reducible refine i_var (d := ?dd) ?he ?_); (case he => rfl)))
local macro_rules | `(tactic| walk_at "st") => `(tactic| with_reducible refine i_neE ?_)
local macro_rules | `(tactic| walk_at "st") => `(tactic| with_reducible refine i_eqE ?_)
local macro_rules | `(tactic| walk_at "st") => `(tactic| with_reducible refine i_iRev ?_)
local macro_rules | `(tactic| walk_at "st") => `(tactic| with_reducible refine i_iStr ?_)
local macro_rules | `(tactic| walk_at "st") => `(tactic| with_reducible refine i_join ?_)
local macro_rules | `(tactic| walk_at "st") => `(tactic| with_reducible refine i_extendT ?_)
local macro_rules | `(tactic| walk_at "st") => `(tactic| with_reducible refine i_iZip ?_)
local macro_rules | `(tactic| walk_at "st") => `(tactic| with_reducible refine i_delFrom ?_)
local macro_rules | `(tactic| walk_at "st") => `(tactic| with_reducible refine i_max2 ?_)
local macro_rules | `(tactic| walk_at "st") => `(tactic| with_reducible refine i_strS ?_)
local macro_rules | `(tactic| walk_at "st") => `(tactic| with_reducible refine i_fmt ?_)
local macro_rules | `(tactic| walk_at "st") => `(tactic| with_reducible refine i_jnil ?_)
local macro_rules | `(tactic| walk_at "st") => `(tactic| with_reducible refine i_jcons ?_)
local macro_rules | `(tactic| walk_at "st") => `(tactic| with_reducible refine i_joined ?_)
local macro_rules | `(tactic| walk_at "st") => `(tactic| with_reducible refine i_truN ?_)
local macro_rules | `(tactic| walk_at "st") => `(tactic| with_reducible refine i_truT ?_)
local macro_rules | `(tactic| walk_at "st") => `(tactic| with_reducible refine i_truI ?_)
local macro_rules | `(tactic| walk_at "st") => `(tactic| with_reducible refine i_truB ?_)
local macro_rules | `(tactic| walk_at "st") => `(tactic| with_reducible refine i_tupT ?_)
local macro_rules | `(tactic| walk_at "st") => `(tactic| with_reducible refine i_slT ?_)
local macro_rules | `(tactic| walk_at "st") => `(tactic| with_reducible refine i_lenC ?_)
local macro_rules | `(tactic| walk_at "st") => `(tactic| with_reducible refine i_lenT ?_)
local macro_rules | `(tactic| walk_at "st") => `(tactic| with_reducible refine i_int1 ?_)
local macro_rules | `(tactic| walk_at "st") => `(tactic| with_reducible refine i_int ?_)
local macro_rules | `(tactic| walk_at "st") => `(tactic| with_reducible refine i_addII ?_)
local macro_rules | `(tactic| walk_at "st") => `(tactic| with_reducible refine i_addI ?_)
local macro_rules | `(tactic| walk_at "st") => `(tactic| with_reducible refine i_noN ?_)
local macro_rules | `(tactic| walk_at "st") => `(tactic| with_reducible refine i_isN ?_)
local macro_rules | `(tactic| walk_at "st") => `(tactic| with_reducible refine i_neS ?_)
local macro_rules | `(tactic| walk_at "st") => `(tactic| with_reducible refine i_neI ?_)
local macro_rules | `(tactic| walk_at "st") => `(tactic| with_reducible refine i_eqB ?_)
local macro_rules | `(tactic| walk_at "st") => `(tactic| with_reducible refine i_eqS ?_)
local macro_rules | `(tactic| walk_at "st") => `(tactic| with_reducible refine i_eqI ?_)
local macro_rules | `(tactic| walk_at "st") => `(tactic| with_reducible refine i_yes ?_)
local macro_rules | `(tactic| walk_at "st") => `(tactic| with_reducible refine i_gNi ?_)
local macro_rules | `(tactic| walk_at "st") => `(tactic| with_reducible refine i_gCo ?_)
local macro_rules | `(tactic| walk_at "st") => `(tactic| with_reducible refine i_gTu ?_)
local macro_rules | `(tactic| walk_at "st") => `(tactic| with_reducible refine i_gN ?_)
local macro_rules | `(tactic| walk_at "st") => `(tactic| with_reducible refine i_iR1 ?_)
local macro_rules | `(tactic| walk_at "st") => `(tactic| with_reducible refine i_iD ?_)
local macro_rules | `(tactic| walk_at "st") => `(tactic| with_reducible refine i_cdG ?_)
local macro_rules | `(tactic| walk_at "st") => `(tactic| with_reducible refine i_reverse ?_)
local macro_rules | `(tactic| walk_at "st") => `(tactic| with_reducible refine i_pop ?_)
local macro_rules | `(tactic| walk_at "st") => `(tactic| with_reducible refine i_extend ?_)
local macro_rules | `(tactic| walk_at "st") => `(tactic| with_reducible refine i_append ?_)
local macro_rules | `(tactic| walk_at "st") => `(tactic| with_reducible refine i_someP ?_)
local macro_rules | `(tactic| walk_at "st") => `(tactic| with_reducible refine i_noP ?_)
local macro_rules | `(tactic| walk_at "st") => `(tactic| with_reducible refine i_sl ?_)
local macro_rules | `(tactic| walk_at "st") => `(tactic| with_reducible refine i_call ?_)
local macro_rules | `(tactic| walk_at "st") => `(tactic| with_reducible refine i_cb ?_)
local macro_rules | `(tactic| walk_at "st") => `(tactic| with_reducible refine i_neg1 ?_)
local macro_rules | `(tactic| walk_at "st") => `(tactic| with_reducible refine i_neg ?_)
local macro_rules | `(tactic| walk_at "st") => `(tactic| with_reducible refine i_ifE ?_)
local macro_rules | `(tactic| walk_at "st") => `(tactic| with_reducible refine i_notV ?_)
local macro_rules | `(tactic| walk_at "st") => `(tactic| with_reducible refine i_orV ?_)
local macro_rules | `(tactic| walk_at "st") => `(tactic| with_reducible refine i_andV ?_)
local macro_rules | `(tactic| walk_at "st") => `(tactic| with_reducible refine i_not ?_)
local macro_rules | `(tactic| walk_at "st") => `(tactic| with_reducible refine i_or ?_)
local macro_rules | `(tactic| walk_at "st") => `(tactic| with_reducible refine i_and ?_)
local macro_rules | `(tactic| walk_at "st") => `(tactic| with_reducible refine i_tru ?_)
local macro_rules | `(tactic| walk_at "st") => `(tactic| with_reducible refine i_bl ?_)
local macro_rules | `(tactic| walk_at "st") => `(tactic| with_reducible refine i_tb ?_)
local macro_rules | `(tactic| walk_at "st") => `(tactic| with_reducible refine i_cons ?_)
local macro_rules | `(tactic| walk_at "st") => `(tactic| with_reducible refine i_nil ?_)
local macro_rules | `(tactic| walk_at "st") => `(tactic| with_reducible refine i_lst ?_)
local macro_rules | `(tactic| walk_at "st") => `(tactic| with_reducible refine i_tup ?_)
local macro_rules | `(tactic| walk_at "st") => `(tactic| with_reducible refine i_op ?_)
local macro_rules | `(tactic| walk_at "st") => `(tactic| with_reducible refine i_c ?_)
local macro_rules | `(tactic| walk_at "st") => `(tactic| with_reducible refine i_par2 ?_)
local macro_rules | `(tactic| walk_at "st") => `(tactic| with_reducible refine i_par ?_)
local macro_rules | `(tactic| walk_at "st") => `(tactic| with_reducible refine i_setL ?_)
local macro_rules | `(tactic| walk_at "st") => `(tactic| with_reducible refine i_cnt ?_)
local macro_rules | `(tactic| walk_at "st") => `(tactic| with_reducible refine i_brk ?_)
local macro_rules | `(tactic| walk_at "st") => `(tactic| with_reducible refine i_skip ?_)
local macro_rules | `(tactic| walk_at "st") => `(tactic| with_reducible refine i_if ?_)
local macro_rules | `(tactic| walk_at "st") => `(tactic| with_reducible refine i_retN ?_)
local macro_rules | `(tactic| walk_at "st") => `(tactic| with_reducible refine i_ret ?_)
local macro_rules | `(tactic| walk_at "st") => `(tactic| with_reducible refine i_drop ?_)
local macro_rules | `(tactic| walk_at "st") => `(tactic| with_reducible refine i_asg ?_)
local macro_rules | `(tactic| walk_at "st") => `(tactic| with_reducible refine i_set2 ?_)
local macro_rules | `(tactic| walk_at "st") => `(tactic| with_reducible refine i_set ?_)
local macro_rules | `(tactic| walk_at "st") => `(tactic| with_reducible refine i_seq ?_)
local macro_rules | `(tactic| walk_at "sts") => `(tactic| repeat walk_at "st")
theorem isw_int {S : Sto} {d : D} {b : Bool} (h : IsW S d b) : b = true ↔ ∃ v : Int, d = .int v ∧ 0 ≤ v := by
  cases h with
  | int n => simp
  | non => simp
  | bl b => simp
  | str s => simp
  | lst h => simp
theorem rd_check_at (cA : Addr) (ds : List D) (S : Sto) (Q : DK) (E : DX) (h : sp_check_at cA ds S Q E) : t_check_at cA (EXO E) { nx := fun _ S' => Dn Q .non S', rt := Dn Q } (startD 3 ds) S := by
  obtain ⟨xs, a, l, rfl, ha, hn, hx, k1, k2⟩ := h
  unfold t_check_at
  walk_at "sts"
  refine i_isi (T := "dict") (b := true) (by show (match S a with | some (.lst _) => some "list" | some (.dic _ _) => some "dict" | _ => none) = _; rw [ha]; rfl) (by decide +kernel) ?_
  walk_at "sts"
  unfold dFor
  walk_at "sts"
  refine ⟨xs.map .str, rfl, fun i ε S2 => S2 = S ∧ (∀ x ∈ xs.take i, OkI l x) ∧ ∃ e, ε = [some (.tup (xs.map .str)), some (.ref a), e], ⟨rfl, fun x h => by simp at h, _, rfl⟩, fun _ _ _ _ _ => trivial, fun i x ε S2 hx' w => ?_, fun ε S2 w => ?_⟩
  · obtain ⟨rfl, h1, e, rfl⟩ := w
    rw [List.getElem?_map] at hx'
    obtain ⟨x, hv, rfl⟩ := Option.map_eq_some_iff.mp hx'
    have hm : x ∈ xs := List.mem_of_getElem? hv
    obtain ⟨hl, hw⟩ := hx x hm
    have raise : ∀ D0 : DEnds, ¬ OkI l x → dRaise cA (EXO E) (dCons (dJoined [dC (.str "no whole number for "), dFmt (dVar 2)]) dNil) D0 [some (.tup (xs.map .str)), some (.ref a), some (.str x)] S2 := by
      intro D0 hno
      refine i_raise ?_
      walk_at "sts"
      have e1 : ((Str.empty : Str) ++ Str.ofString "no whole number for ").length = 20 := by decide +kernel
      refine i_jS (Nat.le_trans (Nat.le_of_eq e1) (by decide)) ?_
      walk_at "sts"
      refine i_fmtS (Nat.le_trans hl (by decide)) (i_jS (Nat.le_trans (by rw [len_app, e1]; omega : _ ≤ 200) (by decide)) ?_)
      walk_at "sts"
      exact ⟨_, Le.refl _, k2 ⟨x, hm, hno⟩⟩
    have go : OkI l x → S2 = S2 ∧ (∀ x ∈ xs.take (i + 1), OkI l x) ∧ ∃ e, ([some (.tup (xs.map .str)), some (.ref a), some (.str x)] : DL.Env) = [some (.tup (xs.map .str)), some (.ref a), e] := by
      intro hok
      refine ⟨rfl, fun y hy => ?_, _, rfl⟩
      rw [List.take_add_one, hv] at hy
      rcases List.mem_append.mp hy with h | h
      · exact h1 y h
      · have : y = x := by simpa using h
        rw [this]; exact hok
    walk_at "sts"
    refine i_ninKs ha ?_
    cases hg : kGet l (.inr x) with
    | none =>
      walk_at "sts"
      refine raise _ fun ⟨v, e, _⟩ => ?_
      rw [hg] at e; cases e
    | some d =>
      obtain ⟨b, hb⟩ := hw d hg
      walk_at "sts"
      refine i_ixKs ha hg ?_
      walk_at "sts"
      refine ⟨d, b, hb, rfl, ?_⟩
      cases b with
      | true =>
        walk_at "sts"
        obtain ⟨v, rfl, h0⟩ := (isw_int hb).mp rfl
        exact go ⟨v, hg, h0⟩
      | false =>
        walk_at "sts"
        refine raise _ fun ⟨v, e, h0⟩ => ?_
        rw [hg] at e
        cases e
        exact Bool.noConfusion ((isw_int hb).mpr ⟨v, rfl, h0⟩)
  · obtain ⟨rfl, h1, e, rfl⟩ := w
    rw [List.length_map, List.take_length] at h1
    exact i_dn (k1 h1)
end K07
end
section
namespace K07
open PySem L2 DL DLZ TR TS PyProof.Rows
local macro_rules | `(tactic| walk_at "st") => `(tactic| ((with_reducible refine ifT ?he ?_); (case he => rfl)))
local macro_rules | `(tactic| walk_at "st") => `(tactic| ((with_reducible refine ifF ?he ?_); (case he => rfl)))
local macro_rules | `(tactic| walk_at "st") => `(tactic| ((with_reducible refine ifT ?he ?_); (case he => decide +kernel)))
local macro_rules | `(tactic| walk_at "st") => `(tactic| ((with_reducible refine ifF ?he ?_); (case he => decide +kernel)))
local macro_rules | `(tactic| walk_at "st") => `(tactic| ((with_reducible refine i_isiT (T := ?tt) (b := false) ?he ?hf ?_); (case he => rfl); (case hf => decide +kernel)))
local macro_rules | `(tactic| walk_at "st") => `(tactic| ((with_reducible refine i_isi (T := ?tt) (b := false) ?he ?hf ?_); (case he => rfl); (case hf => decide +kernel)))
local macro_rules | `(tactic| walk_at "st") => `(tactic| ((with_reducible refine i_isiT (T := ?tt) (b := true) ?he ?hf ?_); (case he => rfl); (case hf => decide +kernel)))
local macro_rules | `(tactic| walk_at "st") => `(tactic| ((with_reducible refine i_isi (T := ?tt) (b := true) ?he ?hf ?_); (case he => rfl); (case hf => decide +kernel)))
local macro_rules | `(tactic| walk_at "st") => `(tactic| ((with_reducible refine i_len ?he ?_); (case he => rfl)))
local macro_rules | `(tactic| walk_at "st") => `(tactic| ((with_reducible refine i_niT (v := ?vv) (us := ?uu) ?he ?hf ?_); (case he => rfl); (case hf => rfl)))
local macro_rules | `(tactic| walk_at "st") => `(tactic| ((with_reducible refine i_inT (v := ?vv) (us := ?uu) ?he ?hf ?_); (case he => rfl); (case hf => rfl)))
local macro_rules | `(tactic| walk_at "st") => `(tactic| ((with_reducible refine i_ixC (d := ?dd) ?he ?_); (case he => rfl)))
local macro_rules | `(tactic| walk_at "st") => `(tactic| ((with_reducible refine i_ixT (d := ?dd) ?he ?_); (case he => rfl)))
local macro_rules | `(tactic| walk_at "st") => `(tactic| ((with_reducible refine i_aug (x := ?dd) ?he ?_); (case he => rfl)))
local macro_rules | `(tactic| walk_at "st") => `(tactic| ((with_reducible refine i_var (d := ?dd) ?he ?_); (case he => rfl)))
local macro_rules | `(tactic| walk_at "st") => `(tactic| with_reducible refine i_neE ?_)
local macro_rules | `(tactic| walk_at "st") => `(tactic| with_reducible refine i_eqE ?_)
local macro_rules | `(tactic| walk_at "st") => `(tactic| with_reducible refine i_iRev ?_)
local macro_rules | `(tactic| walk_at "st") => `(tactic| with_reducible refine i_iStr ?_)
local macro_rules | `(tactic| walk_at "st") => `(tactic| with_reducible refine i_join ?_)
local macro_rules | `(tactic| walk_at "st") => `(tactic| with_reducible refine i_extendT ?_)
local macro_rules | `(tactic| walk_at "st") => `(tactic| with_reducible refine i_iZip ?_)
local macro_rules | `(tactic| walk_at "st") => `(tactic| with_reducible refine i_delFrom ?_)
local macro_rules | `(tactic| walk_at "st") => `(tactic| with_reducible refine i_max2 ?_)
local macro_rules | `(tactic| walk_at "st") => `(tactic| with_reducible refine i_strS ?_)
local macro_rules | `(tactic| walk_at "st") => `(tactic| with_reducible refine i_fmt ?_)
local macro_rules | `(tactic| walk_at "st") => `(tactic| with_reducible refine i_jnil ?_)
local macro_rules | `(tactic| walk_at "st") => `(tactic| with_reducible refine i_jcons ?_)
local macro_rules | `(tactic| walk_at "st") => `(tactic| with_reducible refine i_joined ?_)
local macro_rules | `(tactic| walk_at "st") => `(tactic| with_reducible refine i_truN ?_)
local macro_rules | `(tactic| walk_at "st") => `(tactic| with_reducible refine i_truT ?_)
local macro_rules | `(tactic| walk_at "st") => `(tactic| with_reducible refine i_truI ?_)
local macro_rules | `(tactic| walk_at "st") => `(tactic| with_reducible refine i_truB ?_)
local macro_rules | `(tactic| walk_at "st") => `(tactic| with_reducible refine i_tupT ?_)
local macro_rules | `(tactic| walk_at "st") => `(tactic| with_reducible refine i_slT ?_)
local macro_rules | `(tactic| walk_at "st") => `(tactic| with_reducible refine i_lenC ?_)
local macro_rules | `(tactic| walk_at "st") => `(tactic| with_reducible refine i_lenT ?_)
local macro_rules | `(tactic| walk_at "st") => `(tactic| with_reducible refine i_int1 ?_)
local macro_rules | `(tactic| walk_at "st") => `(tactic| with_reducible refine i_int ?_)
local macro_rules | `(tactic| walk_at "st") => `(tactic| with_reducible refine i_addII ?_)
local macro_rules | `(tactic| walk_at "st") => `(tactic| with_reducible refine i_addI ?_)
local macro_rules | `(tactic| walk_at "st") => `(tactic| with_reducible refine i_noN ?_)
local macro_rules | `(tactic| walk_at "st") => `(tactic| with_reducible refine i_isN ?_)
local macro_rules | `(tactic| walk_at "st") => `(tactic| with_reducible refine i_neS ?_)
local macro_rules | `(tactic| walk_at "st") => `(tactic| with_reducible refine i_neI ?_)
local macro_rules | `(tactic| walk_at "st") => `(tactic| with_reducible refine i_eqB ?_)
local macro_rules | `(tactic| walk_at "st") => `(tactic| with_reducible refine i_eqS ?_)
local macro_rules | `(tactic| walk_at "st") => `(tactic| with_reducible refine i_eqI ?_)
local macro_rules | `(tactic| walk_at "st") => `(tactic| with_reducible refine i_yes ?_)
local macro_rules | `(tactic| walk_at "st") => `(tactic| with_reducible refine i_gNi ?_)
local macro_rules | `(tactic| walk_at "st") => `(tactic| with_reducible refine i_gCo ?_)
local macro_rules | `(tactic| walk_at "st") => `(tactic| with_reducible refine i_gTu ?_)
local macro_rules | `(tactic| walk_at "st") => `(tactic| with_reducible refine i_gN ?_)
local macro_rules | `(tactic| walk_at "st") => `(tactic| with_reducible refine i_iR1 ?_)
local macro_rules | `(tactic| walk_at "st") => `(tactic| with_reducible refine i_iD ?_)
local macro_rules | `(tactic| walk_at "st") => `(tactic| with_reducible refine i_cdG ?_)
local macro_rules | `(tactic| walk_at "st") => `(tactic| with_reducible refine i_reverse ?_)
local macro_rules | `(tactic| walk_at "st") => `(tactic| with_reducible refine i_pop ?_)
local macro_rules | `(tactic| walk_at "st") => `(tactic| with_reducible refine i_extend ?_)
local macro_rules | `(tactic| walk_at "st") => `(tactic| with_reducible refine i_append ?_)
local macro_rules | `(tactic| walk_at "st") => `(tactic| with_reducible refine i_someP ?_)
local macro_rules | `(tactic| walk_at "st") => `(tactic| with_reducible refine i_noP ?_)
local macro_rules | `(tactic| walk_at "st") => `(tactic| with_reducible refine i_sl ?_)
local macro_rules | `(tactic| walk_at "st") => `(tactic| with_reducible refine i_call ?_)
local macro_rules | `(tactic| walk_at "st") => `(tactic| with_reducible refine i_cb ?_)
local macro_rules | `(tactic| walk_at "st") => `(tactic| with_reducible refine i_neg1 ?_)
local macro_rules | `(tactic| walk_at "st") => `(tactic| with_reducible refine i_neg ?_)
local macro_rules | `(tactic| walk_at "st") => `(tactic| with_reducible refine i_ifE ?_)
local macro_rules | `(tactic| walk_at "st") => `(tactic| with_reducible refine i_notV ?_)
local macro_rules | `(tactic| walk_at "st") => `(tactic| with_reducible refine i_orV ?_)
local macro_rules | `(tactic| walk_at "st") => `(tactic| with_reducible refine i_andV ?_)
local macro_rules | `(tactic| walk_at "st") => `(tactic| with_reducible refine i_not ?_)
local macro_rules | `(tactic| walk_at "st") => `(tactic| with_reducible refine i_or ?_)
local macro_rules | `(tactic| walk_at "st") => `(tactic| with_reducible refine i_and ?_)
local macro_rules | `(tactic| walk_at "st") => `(tactic| with_reducible refine i_tru ?_)
local macro_rules | `(tactic| walk_at "st") => `(tactic| with_reducible refine i_bl ?_)
local macro_rules | `(tactic| walk_at "st") => `(tactic| with_reducible refine i_tb ?_)
local macro_rules | `(tactic| walk_at "st") => `(tactic| with_reducible refine i_cons ?_)
local macro_rules | `(tactic| walk_at "st") => `(tactic| with_reducible refine i_nil ?_)
local macro_rules | `(tactic| walk_at "st") => `(tactic| with_reducible refine i_lst ?_)
local macro_rules | `(tactic| walk_at "st") => `(tactic| with_reducible refine i_tup ?_)
local macro_rules | `(tactic| walk_at "st") => `(tactic| with_reducible refine i_op ?_)
local macro_rules | `(tactic| walk_at "st") => `(tactic| with_reducible refine i_c ?_)
local macro_rules | `(tactic| walk_at "st") => `(tactic| with_reducible refine i_par2 ?_)
local macro_rules | `(tactic| walk_at "st") => `(tactic| with_reducible refine i_par ?_)
local macro_rules | `(tactic| walk_at "st") => `(tactic| with_reducible refine i_setL ?_)
local macro_rules | `(tactic| walk_at "st") => `(tactic| with_reducible refine i_cnt ?_)
local macro_rules | `(tactic| walk_at "st") => `(tactic| with_reducible refine i_brk ?_)
local macro_rules | `(tactic| walk_at "st") => `(tactic| with_reducible refine i_skip ?_)
local macro_rules | `(tactic| walk_at "st") => `(tactic| with_reducible refine i_if ?_)
local macro_rules | `(tactic| walk_at "st") => `(tactic| with_reducible refine i_retN ?_)
local macro_rules | `(tactic| walk_at "st") => `(tactic| with_reducible refine i_ret ?_)
local macro_rules | `(tactic| walk_at "st") => `(tactic| with_reducible refine i_drop ?_)
local macro_rules | `(tactic| walk_at "st") => `(tactic| with_reducible refine i_asg ?_)
local macro_rules | `(tactic| walk_at "st") => `(tactic| with_reducible refine i_set2 ?_)
local macro_rules | `(tactic| walk_at "st") => `(tactic| with_reducible refine i_set ?_)
local macro_rules | `(tactic| walk_at "st") => `(tactic| with_reducible refine i_seq ?_)
local macro_rules | `(tactic| walk_at "sts") => `(tactic| repeat walk_at "st")
theorem leNone {S S' : Sto} {p : Addr} (l : Le S S') (h : S' p = none) : S p = none := by
  cases q : S p with
  | none => rfl
  | some c => rw [l _ _ q] at h; cases h
theorem rd_value (cA : Addr) (ds : List D) (S : Sto) (Q : DK) (E : DX) (h : sp_value cA ds S Q E) : t_value cA (EXO E) { nx := fun _ S' => Dn Q .non S', rt := Dn Q } (startD 2 ds) S := by
  obtain ⟨t, a, l, A, rfl, ha, k1, k2⟩ := h
  unfold t_value
  walk_at "sts"
  refine ⟨t, A.g, rfl, ?_⟩
  walk_at "sts"
  refine i_callX ?_
  walk_at "sts"
  refine ⟨t, rfl, A.g.sz, fun ys hy hl => ?_⟩
  walk_at "sts"
  refine ⟨ys, a, l, rfl, ha, hl, fun x hx => ?_, fun hok => ?_, fun hno => ?_⟩
  · have := A.n x ((hy.m x).mp hx)
    exact ⟨this.1, this.2.1⟩
  · walk_at "sts"
    have hf : ∀ x, t.free [] x → OkI l x := fun x hx => hok x ((hy.m x).mpr hx)
    refine ⟨t, a, l, rfl, A.g.wf, A.g.kind, A.sz, ha, fun x hx => ?_, fun S' L => i_dn (k1 hf S' L)⟩
    obtain ⟨v, e, h0⟩ := hf x hx
    exact ⟨v, e, h0, (A.n x hx).2.2 v e⟩
  · obtain ⟨x, hx, hn⟩ := hno
    exact ⟨_, Le.refl _, k2 ⟨x, (hy.m x).mp hx, hn⟩ S (Le.refl S)⟩
theorem rd_law_told (K : PySem.W.Frag) (cA cW : Addr) (hx : PySem.W.exmOne K (.ref cA) (.ref cA) = some true) (ds : List D) (S : Sto) (Q : DK) (E : DX) (h : sp_law_told ds S Q E) : t_law_told K cA cW { nx := fun _ S' => Dn Q .non S', rt := Dn Q } (startD 2 ds) S := by
  obtain ⟨t, a, l, A, rfl, ha, k1, k2⟩ := h
  unfold t_law_told
  refine i_try ?_
  walk_at "sts"
  refine i_callX ?_
  walk_at "sts"
  refine ⟨t, a, l, A, rfl, ha, fun hok S' L => i_dn (k1 hok S' L), fun hno S' L => ?_⟩
  refine ⟨true, hx, fun _ => ?_, fun z => by cases z⟩
  walk_at "sts"
  intro p hp
  exact i_dn (k2 hno p _ (leNone L hp) put_same (L.put hp))
theorem rd_law_kind_same (ds : List D) (S : Sto) (Q : DK) (E : DX) (h : sp_law_kind_same ds S Q E) : t_law_kind_same { nx := fun _ S' => Dn Q .non S', rt := Dn Q } (startD 6 ds) S := by
  unfold t_law_kind_same
  rcases h with ⟨n, rfl, q⟩ | ⟨a, b, ha, hb, rfl, q⟩
  · walk_at "sts"
    intro p hp
    walk_at "sts"
    refine ⟨fun m ε S1 => ∃ e3 e4, ε = [some (.int n), some (.int n), some (.ref p), e3, e4, none] ∧ Le S S1 ∧ (m = 1 ∧ S1 p = some (.lst [.tup [.int n, .int n]]) ∨ m = 0 ∧ S1 p = some (.lst [])), ⟨1, _, _, rfl, lePut (Le.refl S) hp, .inl ⟨rfl, put_same⟩⟩, fun m ε S1 w => ?_⟩
    obtain ⟨e3, e4, rfl, hL, ⟨rfl, h1⟩ | ⟨rfl, h1⟩⟩ := w
    · walk_at "sts"
      refine i_truR h1 ?_
      refine ifT (by simp) ?_
      walk_at "sts"
      refine ⟨p, _, .tup [.int n, .int n], rfl, h1, rfl, ?_⟩
      show gTu _ (.tup [.int n, .int n]) _ _ _
      walk_at "sts"
      refine ifF (by simp) ?_
      walk_at "sts"
      exact ⟨0, by decide, _, _, rfl, lePut hL hp, .inr ⟨rfl, put_same⟩⟩
    · walk_at "sts"
      refine i_truR h1 ?_
      refine ifF (by simp) ?_
      walk_at "sts"
      exact i_dn (q _ hL)
  · have tyL : ∀ {S : Sto} {a : Addr} {xs : List D}, S a = some (.lst xs) → tyD (.ref a) S = some "list" := fun {S a xs} h => by
      show (match S a with | some (.lst _) => some "list" | some (.dic _ _) => some "dict" | _ => none) = _
      rw [h]
    walk_at "sts"
    intro p hp
    walk_at "sts"
    have hpa : a ≠ p := fun e => by subst e; unfold AtL at ha; rw [hp] at ha; cases ha
    have hpb : b ≠ p := fun e => by subst e; unfold AtL at hb; rw [hp] at hb; cases hb
    refine ⟨fun m ε S1 => ∃ r e3 e4 e5, ε = [some (.ref a), some (.ref b), some (.ref r), e3, e4, e5] ∧ Le S S1 ∧ S r = none ∧ (m = 2 ∧ S1 r = some (.lst [.tup [.ref a, .ref b]]) ∨ m = 1 ∧ S1 r = some (.lst [.tup [.str "at", .str "at"]]) ∨ m = 0 ∧ S1 r = some (.lst [])), ⟨2, _, _, _, _, rfl, lePut (Le.refl S) hp, hp, .inl ⟨rfl, put_same⟩⟩, fun m ε S1 w => ?_⟩
    obtain ⟨r, e3, e4, e5, rfl, hL, hr, ⟨rfl, h1⟩ | ⟨rfl, h1⟩ | ⟨rfl, h1⟩⟩ := w
    · have hra : a ≠ r := fun e => by subst e; unfold AtL at ha; rw [hr] at ha; cases ha
      have hrb : b ≠ r := fun e => by subst e; unfold AtL at hb; rw [hr] at hb; cases hb
      have ha1 := hL _ _ ha
      have hb1 := hL _ _ hb
      walk_at "sts"
      refine i_truR h1 ?_
      refine ifT (by simp) ?_
      walk_at "sts"
      refine ⟨r, _, .tup [.ref a, .ref b], rfl, h1, rfl, ?_⟩
      show gTu _ (.tup [.ref a, .ref b]) _ _ _
      have ha2 : put S1 r (.lst []) a = some (.lst [.str "at"]) := (put_ne hra).trans ha1
      have hb2 : put S1 r (.lst []) b = some (.lst [.str "at"]) := (put_ne hrb).trans hb1
      show gTu _ (.tup [.ref a, .ref b]) _ (put S1 r (.lst [])) _
      generalize hS2 : put S1 r (.lst []) = S2 at ha2 hb2 ⊢
      walk_at "sts"
      refine i_isiT (T := "list") (b := true) (tyL hb2) (by decide +kernel) ?_
      walk_at "sts"
      refine i_isiT (T := "list") (b := true) (tyL ha2) (by decide +kernel) ?_
      walk_at "sts"
      refine i_isi (T := "list") (b := true) (tyL ha2) (by decide +kernel) ?_
      walk_at "sts"
      refine i_isi (T := "list") (b := true) (tyL hb2) (by decide +kernel) ?_
      walk_at "sts"
      refine i_ne (v := .bl true) (w := .bl true) rfl rfl rfl ?_
      walk_at "sts"
      refine i_lenR ha2 ?_
      walk_at "sts"
      refine i_lenR hb2 ?_
      walk_at "sts"
      unfold dLc
      walk_at "sts"
      refine i_lenR hb2 ?_
      walk_at "sts"
      refine ⟨by decide, by decide, fun v hv => ?_⟩
      have hrS2 : S2 r = some (.lst []) := by rw [← hS2]; exact put_same
      have hL2 : Le S S2 := by rw [← hS2]; exact lePut hL hr
      have hrv : r ≠ v := fun e => by subst e; rw [hrS2] at hv; cases hv
      have hv0 : S v = none := leNone hL2 hv
      have hav : a ≠ v := fun e => by subst e; rw [ha2] at hv; cases hv
      have hbv : b ≠ v := fun e => by subst e; rw [hb2] at hv; cases hv
      refine ⟨fun i acc S3 => acc = [D.tup [.str "at", .str "at"]].take i ∧ S3 v = some (.lst acc) ∧ S3 r = some (.lst []) ∧ S3 a = some (.lst [.str "at"]) ∧ S3 b = some (.lst [.str "at"]) ∧ Le S S3, ⟨rfl, put_same, (put_ne hrv).trans hrS2, (put_ne hav).trans ha2, (put_ne hbv).trans hb2, lePut hL2 hv0⟩, fun _ _ _ _ _ => trivial, fun i x acc S3 hx' w => ?_, fun acc S3 w => ?_⟩
      · obtain ⟨rfl, g1, g2, g3, g4, g5⟩ := w
        have hi : i = 0 ∧ x = .int 0 := by
          rcases i with _ | i
          · exact ⟨rfl, (Option.some.inj hx').symm⟩
          · cases hx'
        obtain ⟨rfl, rfl⟩ := hi
        walk_at "sts"
        refine i_ixR g3 (d := .str "at") rfl ?_
        walk_at "sts"
        refine i_ixR g4 (d := .str "at") rfl ?_
        walk_at "sts"
        exact ⟨g1, by decide, rfl, put_same, (put_ne hrv).trans g2, (put_ne hav).trans g3, (put_ne hbv).trans g4, lePut g5 hv0⟩
      · obtain ⟨rfl, g1, g2, g3, g4, g5⟩ := w
        refine ⟨_, _, g2, g1, by decide, fun z hz => ?_⟩
        have hz0 : S z = none := leNone g5 hz
        walk_at "sts"
        exact ⟨1, by decide, z, _, _, _, rfl, lePut g5 hz0, hz0, .inr (.inl ⟨rfl, put_same⟩)⟩
    · walk_at "sts"
      refine i_truR h1 ?_
      refine ifT (by simp) ?_
      walk_at "sts"
      refine ⟨r, _, .tup [.str "at", .str "at"], rfl, h1, rfl, ?_⟩
      show gTu _ (.tup [.str "at", .str "at"]) _ _ _
      walk_at "sts"
      exact ⟨0, by decide, _, _, _, _, rfl, lePut hL hr, hr, .inr (.inr ⟨rfl, put_same⟩)⟩
    · walk_at "sts"
      refine i_truR h1 ?_
      refine ifF (by simp) ?_
      walk_at "sts"
      exact i_dn (q _ hL)
end K07
end
section
namespace K07
open PySem L2 DL DLZ TR TS PyProof.Rows
local macro_rules | `(tactic| walk_at "st") => `(tactic| ((with_reducible refine ifT ?he ?_); (case he => rfl)))
local macro_rules | `(tactic| walk_at "st") => `(tactic| ((with_reducible refine ifF ?he ?_); (case he => rfl)))
local macro_rules | `(tactic| walk_at "st") => `(tactic| ((with_reducible refine ifT ?he ?_); (case he => decide +kernel)))
local macro_rules | `(tactic| walk_at "st") => `(tactic| ((with_reducible refine ifF ?he ?_); (case he => decide +kernel)))
local macro_rules | `(tactic| walk_at "st") => `(tactic| ((with_reducible refine i_isiT (T := ?tt) (b := false) ?he ?hf ?_); (case he => rfl); (case hf => decide +kernel)))
local macro_rules | `(tactic| walk_at "st") => `(tactic| ((with_reducible refine i_isi (T := ?tt) (b := false) ?he ?hf ?_); (case he => rfl); (case hf => decide +kernel)))
local macro_rules | `(tactic| walk_at "st") => `(tactic| ((with_reducible refine i_isiT (T := ?tt) (b := true) ?he ?hf ?_); (case he => rfl); (case hf => decide +kernel)))
local macro_rules | `(tactic| walk_at "st") => `(tactic| ((with_reducible refine i_isi (T := ?tt) (b := true) ?he ?hf ?_); (case he => rfl); (case hf => decide +kernel)))
local macro_rules | `(tactic| walk_at "st") => `(tactic| ((with_reducible refine i_len ?he ?_); (case he => rfl)))
local macro_rules | `(tactic| walk_at "st") => `(tactic| ((with_reducible refine i_niT (v := ?vv) (us := ?uu) ?he ?hf ?_); (case he => rfl); (case hf => rfl)))
local macro_rules | `(tactic| walk_at "st") => `(tactic| ((with_reducible refine i_inT (v := ?vv) (us := ?uu) ?he ?hf ?_); (case he => rfl); (case hf => rfl)))
local macro_rules | `(tactic| walk_at "st") => `(tactic| ((with_reducible refine i_ixC (d := ?dd) ?he ?_); (case he => rfl)))
local macro_rules | `(tactic| walk_at "st") => `(tactic| ((with_reducible refine i_ixT (d := ?dd) ?he ?_); (case he => rfl)))
local macro_rules | `(tactic| walk_at "st") => `(tactic| ((with_reducible refine i_aug (x := ?dd) ?he ?_); (case he => rfl)))
local macro_rules | `(tactic| walk_at "st") => `(tactic| ((with_reducible refine i_var (d := ?dd) ?he ?_); (case he => rfl)))
local macro_rules | `(tactic| walk_at "st") => `(tactic| with_reducible refine i_neE ?_)
local macro_rules | `(tactic| walk_at "st") => `(tactic| with_reducible refine i_eqE ?_)
local macro_rules | `(tactic| walk_at "st") => `(tactic| with_reducible refine i_iRev ?_)
local macro_rules | `(tactic| walk_at "st") => `(tactic| with_reducible refine i_iStr ?_)
local macro_rules | `(tactic| walk_at "st") => `(tactic| with_reducible refine i_join ?_)
local macro_rules | `(tactic| walk_at "st") => `(tactic| with_reducible refine i_extendT ?_)
local macro_rules | `(tactic| walk_at "st") => `(tactic| with_reducible refine i_iZip ?_)
local macro_rules | `(tactic| walk_at "st") => `(tactic| with_reducible refine i_delFrom ?_)
local macro_rules | `(tactic| walk_at "st") => `(tactic| with_reducible refine i_max2 ?_)
local macro_rules | `(tactic| walk_at "st") => `(tactic| with_reducible refine i_strS ?_)
local macro_rules | `(tactic| walk_at "st") => `(tactic| with_reducible refine i_fmt ?_)
local macro_rules | `(tactic| walk_at "st") => `(tactic| with_reducible refine i_jnil ?_)
local macro_rules | `(tactic| walk_at "st") => `(tactic| with_reducible refine i_jcons ?_)
local macro_rules | `(tactic| walk_at "st") => `(tactic| with_reducible refine i_joined ?_)
local macro_rules | `(tactic| walk_at "st") => `(tactic| with_reducible refine i_truN ?_)
local macro_rules | `(tactic| walk_at "st") => `(tactic| with_reducible refine i_truT ?_)
local macro_rules | `(tactic| walk_at "st") => `(tactic| with_reducible refine i_truI ?_)
local macro_rules | `(tactic| walk_at "st") => `(tactic| with_reducible refine i_truB ?_)
local macro_rules | `(tactic| walk_at "st") => `(tactic| with_reducible refine i_tupT ?_)
local macro_rules | `(tactic| walk_at "st") => `(tactic| with_reducible refine i_slT ?_)
local macro_rules | `(tactic| walk_at "st") => `(tactic| with_reducible refine i_lenC ?_)
local macro_rules | `(tactic| walk_at "st") => `(tactic| with_reducible refine i_lenT ?_)
local macro_rules | `(tactic| walk_at "st") => `(tactic| with_reducible refine i_int1 ?_)
local macro_rules | `(tactic| walk_at "st") => `(tactic| with_reducible refine i_int ?_)
local macro_rules | `(tactic| walk_at "st") => `(tactic| with_reducible refine i_addII ?_)
local macro_rules | `(tactic| walk_at "st") => `(tactic| with_reducible refine i_addI ?_)
local macro_rules | `(tactic| walk_at "st") => `(tactic| with_reducible refine i_noN ?_)
local macro_rules | `(tactic| walk_at "st") => `(tactic| with_reducible refine i_isN ?_)
local macro_rules | `(tactic| walk_at "st") => `(tactic| with_reducible refine i_neS ?_)
local macro_rules | `(tactic| walk_at "st") => `(tactic| with_reducible refine i_neI ?_)
local macro_rules | `(tactic| walk_at "st") => `(tactic| with_reducible refine i_eqB ?_)
local macro_rules | `(tactic| walk_at "st") => `(tactic| with_reducible refine i_eqS ?_)
local macro_rules | `(tactic| walk_at "st") => `(tactic| with_reducible refine i_eqI ?_)
local macro_rules | `(tactic| walk_at "st") => `(tactic| with_reducible refine i_yes ?_)
local macro_rules | `(tactic| walk_at "st") => `(tactic| with_reducible refine i_gNi ?_)
local macro_rules | `(tactic| walk_at "st") => `(tactic| with_reducible refine i_gCo ?_)
local macro_rules | `(tactic| walk_at "st") => `(tactic| with_reducible refine i_gTu ?_)
local macro_rules | `(tactic| walk_at "st") => `(tactic| with_reducible refine i_gN ?_)
local macro_rules | `(tactic| walk_at "st") => `(tactic| with_reducible refine i_iR1 ?_)
local macro_rules | `(tactic| walk_at "st") => `(tactic| with_reducible refine i_iD ?_)
local macro_rules | `(tactic| walk_at "st") => `(tactic| with_reducible refine i_cdG ?_)
local macro_rules | `(tactic| walk_at "st") => `(tactic| with_reducible refine i_reverse ?_)
local macro_rules | `(tactic| walk_at "st") => `(tactic| with_reducible refine i_pop ?_)
local macro_rules | `(tactic| walk_at "st") => `(tactic| with_reducible refine i_extend ?_)
local macro_rules | `(tactic| walk_at "st") => `(tactic| with_reducible refine i_append ?_)
local macro_rules | `(tactic| walk_at "st") => `(tactic| with_reducible refine i_someP ?_)
local macro_rules | `(tactic| walk_at "st") => `(tactic| with_reducible refine i_noP ?_)
local macro_rules | `(tactic| walk_at "st") => `(tactic| with_reducible refine i_sl ?_)
local macro_rules | `(tactic| walk_at "st") => `(tactic| with_reducible refine i_call ?_)
local macro_rules | `(tactic| walk_at "st") => `(tactic| with_reducible refine i_cb ?_)
local macro_rules | `(tactic| walk_at "st") => `(tactic| with_reducible refine i_neg1 ?_)
local macro_rules | `(tactic| walk_at "st") => `(tactic| with_reducible refine i_neg ?_)
local macro_rules | `(tactic| walk_at "st") => `(tactic| with_reducible refine i_ifE ?_)
local macro_rules | `(tactic| walk_at "st") => `(tactic| with_reducible refine i_notV ?_)
local macro_rules | `(tactic| walk_at "st") => `(tactic| with_reducible refine i_orV ?_)
local macro_rules | `(tactic| walk_at "st") => `(tactic| with_reducible refine i_andV ?_)
local macro_rules | `(tactic| walk_at "st") => `(tactic| with_reducible refine i_not ?_)
local macro_rules | `(tactic| walk_at "st") => `(tactic| with_reducible refine i_or ?_)
local macro_rules | `(tactic| walk_at "st") => `(tactic| with_reducible refine i_and ?_)
local macro_rules | `(tactic| walk_at "st") => `(tactic| with_reducible refine i_tru ?_)
local macro_rules | `(tactic| walk_at "st") => `(tactic| with_reducible refine i_bl ?_)
local macro_rules | `(tactic| walk_at "st") => `(tactic| with_reducible refine i_tb ?_)
local macro_rules | `(tactic| walk_at "st") => `(tactic| with_reducible refine i_cons ?_)
local macro_rules | `(tactic| walk_at "st") => `(tactic| with_reducible refine i_nil ?_)
local macro_rules | `(tactic| walk_at "st") => `(tactic| with_reducible refine i_lst ?_)
local macro_rules | `(tactic| walk_at "st") => `(tactic| with_reducible refine i_tup ?_)
local macro_rules | `(tactic| walk_at "st") => `(tactic| with_reducible refine i_op ?_)
local macro_rules | `(tactic| walk_at "st") => `(tactic| with_reducible refine i_c ?_)
local macro_rules | `(tactic| walk_at "st") => `(tactic| with_reducible refine i_par2 ?_)
local macro_rules | `(tactic| walk_at "st") => `(tactic| with_reducible refine i_par ?_)
local macro_rules | `(tactic| walk_at "st") => `(tactic| with_reducible refine i_setL ?_)
local macro_rules | `(tactic| walk_at "st") => `(tactic| with_reducible refine i_cnt ?_)
local macro_rules | `(tactic| walk_at "st") => `(tactic| with_reducible refine i_brk ?_)
local macro_rules | `(tactic| walk_at "st") => `(tactic| with_reducible refine i_skip ?_)
local macro_rules | `(tactic| walk_at "st") => `(tactic| with_reducible refine i_if ?_)
local macro_rules | `(tactic| walk_at "st") => `(tactic| with_reducible refine i_retN ?_)
local macro_rules | `(tactic| walk_at "st") => `(tactic| with_reducible refine i_ret ?_)
local macro_rules | `(tactic| walk_at "st") => `(tactic| with_reducible refine i_drop ?_)
local macro_rules | `(tactic| walk_at "st") => `(tactic| with_reducible refine i_asg ?_)
local macro_rules | `(tactic| walk_at "st") => `(tactic| with_reducible refine i_set2 ?_)
local macro_rules | `(tactic| walk_at "st") => `(tactic| with_reducible refine i_set ?_)
local macro_rules | `(tactic| walk_at "st") => `(tactic| with_reducible refine i_seq ?_)
local macro_rules | `(tactic| walk_at "sts") => `(tactic| repeat walk_at "st")
def worPrev : Nat → DSp
  | 0 => fun _ _ _ _ => False
  | n + 1 => sp_law_worth n
theorem rd_law_worth (N k : Nat) (ds : List D) (S : Sto) (Q : DK) (E : DX) (h : sp_law_worth N ds S Q E) : t_law_worth (worPrev N) k { nx := fun _ S' => Dn Q .non S', rt := Dn Q } (startD 4 ds) S := by
  obtain ⟨t, a, l, ht, hw, hk, hz, rfl, ha, hE, q⟩ := h
  unfold t_law_worth
  rcases t with n | s | ⟨o, u, v⟩ | ⟨n, u⟩ | ⟨o, u, n⟩ | u | ⟨o, x, u⟩
  · simp only [Tr.d]
    walk_at "sts"
    exact i_dn q
  · simp only [Tr.d]
    walk_at "sts"
    exact i_ixKs ha (hE s ⟨rfl, by simp⟩).ev.1 (i_dn q)
  · obtain ⟨M, rfl⟩ : ∃ M, N = M + 1 := ⟨N - 1, by have : (Tr.two o u v).ht = 1 + max u.ht v.ht := rfl; omega⟩
    have e1 : (Tr.two o u v).ht = 1 + max u.ht v.ht := rfl
    have e2 : (Tr.two o u v).sz = 1 + u.sz + v.sz := rfl
    have ho := sum_op hk
    have hs : o.sub = "sum" := by rcases ho with rfl | rfl <;> rfl
    obtain ⟨wa, wb, ka, kb⟩ := hw
    rw [hs] at ka kb
    rcases ho with rfl | rfl <;>
    · simp only [Tr.d, Op2.w]
      walk_at "sts"
      refine ⟨u, a, l, by omega, wa, ka, by omega, rfl, ha, fun x hx => hE x (.inl hx), ?_⟩
      walk_at "sts"
      refine ⟨v, a, l, by omega, wb, kb, by omega, rfl, ha, fun x hx => hE x (.inr hx), ?_⟩
      exact i_dn q
  · obtain ⟨M, rfl⟩ : ∃ M, N = M + 1 := ⟨N - 1, by have : (Tr.times n u).ht = 1 + u.ht := rfl; omega⟩
    have e1 : (Tr.times n u).ht = 1 + u.ht := rfl
    have e2 : (Tr.times n u).sz = 1 + u.sz := rfl
    have hb := wrt_bb (EV l) u hw.2.1 hw.2.2 fun x hx => (hE x hx).ev.2.2
    simp only [Tr.d]
    walk_at "sts"
    refine ⟨u, a, l, by omega, hw.2.1, hw.2.2, by omega, rfl, ha, hE, ?_⟩
    refine i_mulW ((BB.small hw.1).cmul hb (by decide) (by omega) (by omega)) ?_
    exact i_dn q
  · obtain ⟨M, rfl⟩ : ∃ M, N = M + 1 := ⟨N - 1, by have : (Tr.ovr o u n).ht = 1 + u.ht := rfl; omega⟩
    have e1 : (Tr.ovr o u n).ht = 1 + u.ht := rfl
    have e2 : (Tr.ovr o u n).sz = 1 + u.sz := rfl
    have q' : Q (.int (dv o (wrt (EV l) u) n)) S := q
    unfold dv at q'
    have h1 : 1 ≤ n := hw.1
    cases o with
    | over =>
      simp only [Tr.d, Opd.w]
      walk_at "sts"
      refine ⟨u, a, l, by omega, hw.2.2.1, hw.2.2.2, by omega, rfl, ha, hE, ?_⟩
      walk_at "sts"
      refine ifD (fun h => ?_) fun h => ?_
      · walk_at "sts"
        rw [if_pos h] at q'
        exact i_dn q'
      · rw [if_neg h] at q'
        walk_at "sts"
        refine i_divW (cdiv h1 hw.2.1) ?_
        exact i_dn q'
    | rest =>
      simp only [Tr.d, Opd.w]
      walk_at "sts"
      refine ⟨u, a, l, by omega, hw.2.2.1, hw.2.2.2, by omega, rfl, ha, hE, ?_⟩
      walk_at "sts"
      refine ifD (fun h => ?_) fun h => ?_
      · walk_at "sts"
        rw [if_pos h] at q'
        exact i_dn q'
      · rw [if_neg h] at q'
        walk_at "sts"
        refine i_modW (by omega) ?_
        exact i_dn q'
  · exact absurd (show ("formula" : Str) = "sum" from hk) (by decide +kernel)
  · exact absurd (show ("formula" : Str) = "sum" from hk) (by decide +kernel)
end K07
end
section
namespace K07
open PySem L2 DL DLZ TR TS PyProof.Rows
local macro_rules | `(tactic| walk_at "st") => `(tactic| ((with_reducible refine ifT ?he ?_); (case he => rfl)))
local macro_rules | `(tactic| walk_at "st") => `(tactic| ((with_reducible refine ifF ?he ?_); (case he => rfl)))
local macro_rules | `(tactic| walk_at "st") => `(tactic| ((with_reducible refine ifT ?he ?_); (case he => decide +kernel)))
local macro_rules | `(tactic| walk_at "st") => `(tactic| ((with_reducible refine ifF ?he ?_); (case he => decide +kernel)))
local macro_rules | `(tactic| walk_at "st") => `(tactic| ((with_reducible refine i_isiT (T := ?tt) (b := false) ?he ?hf ?_); (case he => rfl); (case hf => decide +kernel)))
local macro_rules | `(tactic| walk_at "st") => `(tactic| ((with_reducible refine i_isi (T := ?tt) (b := false) ?he ?hf ?_); (case he => rfl); (case hf => decide +kernel)))
local macro_rules | `(tactic| walk_at "st") => `(tactic| ((with_reducible refine i_isiT (T := ?tt) (b := true) ?he ?hf ?_); (case he => rfl); (case hf => decide +kernel)))
local macro_rules | `(tactic| walk_at "st") => `(tactic| ((with_reducible refine i_isi (T := ?tt) (b := true) ?he ?hf ?_); (case he => rfl); (case hf => decide +kernel)))
local macro_rules | `(tactic| walk_at "st") => `(tactic| ((with_reducible refine i_len ?he ?_); (case he => rfl)))
local macro_rules | `(tactic| walk_at "st") => `(tactic| ((with_reducible refine i_niT (v := ?vv) (us := ?uu) ?he ?hf ?_); (case he => rfl); (case hf => rfl)))
local macro_rules | `(tactic| walk_at "st") => `(tactic| ((with_reducible refine i_inT (v := ?vv) (us := ?uu) ?he ?hf ?_); (case he => rfl); (case hf => rfl)))
local macro_rules | `(tactic| walk_at "st") => `(tactic| ((with_reducible refine i_ixC (d := ?dd) ?he ?_); (case he => rfl)))
local macro_rules | `(tactic| walk_at "st") => `(tactic| ((with_reducible refine i_ixT (d := ?dd) ?he ?_); (case he => rfl)))
local macro_rules | `(tactic| walk_at "st") => `(tactic| ((with_reducible refine i_aug (x := ?dd) ?he ?_); (case he => rfl)))
local macro_rules | `(tactic| walk_at "st") => `(tactic| ((with_reducible refine i_var (d := ?dd) ?he ?_); (case he => rfl)))
local macro_rules | `(tactic| walk_at "st") => `(tactic| with_reducible refine i_neE ?_)
local macro_rules | `(tactic| walk_at "st") => `(tactic| with_reducible refine i_eqE ?_)
local macro_rules | `(tactic| walk_at "st") => `(tactic| with_reducible refine i_iRev ?_)
local macro_rules | `(tactic| walk_at "st") => `(tactic| with_reducible refine i_iStr ?_)
local macro_rules | `(tactic| walk_at "st") => `(tactic| with_reducible refine i_join ?_)
local macro_rules | `(tactic| walk_at "st") => `(tactic| with_reducible refine i_extendT ?_)
local macro_rules | `(tactic| walk_at "st") => `(tactic| with_reducible refine i_iZip ?_)
local macro_rules | `(tactic| walk_at "st") => `(tactic| with_reducible refine i_delFrom ?_)
local macro_rules | `(tactic| walk_at "st") => `(tactic| with_reducible refine i_max2 ?_)
local macro_rules | `(tactic| walk_at "st") => `(tactic| with_reducible refine i_strS ?_)
local macro_rules | `(tactic| walk_at "st") => `(tactic| with_reducible refine i_fmt ?_)
local macro_rules | `(tactic| walk_at "st") => `(tactic| with_reducible refine i_jnil ?_)
local macro_rules | `(tactic| walk_at "st") => `(tactic| with_reducible refine i_jcons ?_)
local macro_rules | `(tactic| walk_at "st") => `(tactic| with_reducible refine i_joined ?_)
local macro_rules | `(tactic| walk_at "st") => `(tactic| with_reducible refine i_truN ?_)
local macro_rules | `(tactic| walk_at "st") => `(tactic| with_reducible refine i_truT ?_)
local macro_rules | `(tactic| walk_at "st") => `(tactic| with_reducible refine i_truI ?_)
local macro_rules | `(tactic| walk_at "st") => `(tactic| with_reducible refine i_truB ?_)
local macro_rules | `(tactic| walk_at "st") => `(tactic| with_reducible refine i_tupT ?_)
local macro_rules | `(tactic| walk_at "st") => `(tactic| with_reducible refine i_slT ?_)
local macro_rules | `(tactic| walk_at "st") => `(tactic| with_reducible refine i_lenC ?_)
local macro_rules | `(tactic| walk_at "st") => `(tactic| with_reducible refine i_lenT ?_)
local macro_rules | `(tactic| walk_at "st") => `(tactic| with_reducible refine i_int1 ?_)
local macro_rules | `(tactic| walk_at "st") => `(tactic| with_reducible refine i_int ?_)
local macro_rules | `(tactic| walk_at "st") => `(tactic| with_reducible refine i_addII ?_)
local macro_rules | `(tactic| walk_at "st") => `(tactic| with_reducible refine i_addI ?_)
local macro_rules | `(tactic| walk_at "st") => `(tactic| with_reducible refine i_noN ?_)
local macro_rules | `(tactic| walk_at "st") => `(tactic| with_reducible refine i_isN ?_)
local macro_rules | `(tactic| walk_at "st") => `(tactic| with_reducible refine i_neS ?_)
local macro_rules | `(tactic| walk_at "st") => `(tactic| with_reducible refine i_neI ?_)
local macro_rules | `(tactic| walk_at "st") => `(tactic| with_reducible refine i_eqB ?_)
local macro_rules | `(tactic| walk_at "st") => `(tactic| with_reducible refine i_eqS ?_)
local macro_rules | `(tactic| walk_at "st") => `(tactic| with_reducible refine i_eqI ?_)
local macro_rules | `(tactic| walk_at "st") => `(tactic| with_reducible refine i_yes ?_)
local macro_rules | `(tactic| walk_at "st") => `(tactic| with_reducible refine i_gNi ?_)
local macro_rules | `(tactic| walk_at "st") => `(tactic| with_reducible refine i_gCo ?_)
local macro_rules | `(tactic| walk_at "st") => `(tactic| with_reducible refine i_gTu ?_)
local macro_rules | `(tactic| walk_at "st") => `(tactic| with_reducible refine i_gN ?_)
local macro_rules | `(tactic| walk_at "st") => `(tactic| with_reducible refine i_iR1 ?_)
local macro_rules | `(tactic| walk_at "st") => `(tactic| with_reducible refine i_iD ?_)
local macro_rules | `(tactic| walk_at "st") => `(tactic| with_reducible refine i_cdG ?_)
local macro_rules | `(tactic| walk_at "st") => `(tactic| with_reducible refine i_reverse ?_)
local macro_rules | `(tactic| walk_at "st") => `(tactic| with_reducible refine i_pop ?_)
local macro_rules | `(tactic| walk_at "st") => `(tactic| with_reducible refine i_extend ?_)
local macro_rules | `(tactic| walk_at "st") => `(tactic| with_reducible refine i_append ?_)
local macro_rules | `(tactic| walk_at "st") => `(tactic| with_reducible refine i_someP ?_)
local macro_rules | `(tactic| walk_at "st") => `(tactic| with_reducible refine i_noP ?_)
local macro_rules | `(tactic| walk_at "st") => `(tactic| with_reducible refine i_sl ?_)
local macro_rules | `(tactic| walk_at "st") => `(tactic| with_reducible refine i_call ?_)
local macro_rules | `(tactic| walk_at "st") => `(tactic| with_reducible refine i_cb ?_)
local macro_rules | `(tactic| walk_at "st") => `(tactic| with_reducible refine i_neg1 ?_)
local macro_rules | `(tactic| walk_at "st") => `(tactic| with_reducible refine i_neg ?_)
local macro_rules | `(tactic| walk_at "st") => `(tactic| with_reducible refine i_ifE ?_)
local macro_rules | `(tactic| walk_at "st") => `(tactic| with_reducible refine i_notV ?_)
local macro_rules | `(tactic| walk_at "st") => `(tactic| with_reducible refine i_orV ?_)
local macro_rules | `(tactic| walk_at "st") => `(tactic| with_reducible refine i_andV ?_)
local macro_rules | `(tactic| walk_at "st") => `(tactic| with_reducible refine i_not ?_)
local macro_rules | `(tactic| walk_at "st") => `(tactic| with_reducible refine i_or ?_)
local macro_rules | `(tactic| walk_at "st") => `(tactic| with_reducible refine i_and ?_)
local macro_rules | `(tactic| walk_at "st") => `(tactic| with_reducible refine i_tru ?_)
local macro_rules | `(tactic| walk_at "st") => `(tactic| with_reducible refine i_bl ?_)
local macro_rules | `(tactic| walk_at "st") => `(tactic| with_reducible refine i_tb ?_)
local macro_rules | `(tactic| walk_at "st") => `(tactic| with_reducible refine i_cons ?_)
local macro_rules | `(tactic| walk_at "st") => `(tactic| with_reducible refine i_nil ?_)
local macro_rules | `(tactic| walk_at "st") => `(tactic| with_reducible refine i_lst ?_)
local macro_rules | `(tactic| walk_at "st") => `(tactic| with_reducible refine i_tup ?_)
local macro_rules | `(tactic| walk_at "st") => `(tactic| with_reducible refine i_op ?_)
local macro_rules | `(tactic| walk_at "st") => `(tactic| with_reducible refine i_c ?_)
local macro_rules | `(tactic| walk_at "st") => `(tactic| with_reducible refine i_par2 ?_)
local macro_rules | `(tactic| walk_at "st") => `(tactic| with_reducible refine i_par ?_)
local macro_rules | `(tactic| walk_at "st") => `(tactic| with_reducible refine i_setL ?_)
local macro_rules | `(tactic| walk_at "st") => `(tactic| with_reducible refine i_cnt ?_)
local macro_rules | `(tactic| walk_at "st") => `(tactic| with_reducible refine i_brk ?_)
local macro_rules | `(tactic| walk_at "st") => `(tactic| with_reducible refine i_skip ?_)
local macro_rules | `(tactic| walk_at "st") => `(tactic| with_reducible refine i_if ?_)
local macro_rules | `(tactic| walk_at "st") => `(tactic| with_reducible refine i_retN ?_)
local macro_rules | `(tactic| walk_at "st") => `(tactic| with_reducible refine i_ret ?_)
local macro_rules | `(tactic| walk_at "st") => `(tactic| with_reducible refine i_drop ?_)
local macro_rules | `(tactic| walk_at "st") => `(tactic| with_reducible refine i_asg ?_)
local macro_rules | `(tactic| walk_at "st") => `(tactic| with_reducible refine i_set2 ?_)
local macro_rules | `(tactic| walk_at "st") => `(tactic| with_reducible refine i_set ?_)
local macro_rules | `(tactic| walk_at "st") => `(tactic| with_reducible refine i_seq ?_)
local macro_rules | `(tactic| walk_at "sts") => `(tactic| repeat walk_at "st")
def dsPrev : Nat → DSp
  | 0 => fun _ _ _ _ => False
  | n + 1 => sp_law_deep_sum n
theorem rd_law_deep_sum (N k : Nat) (ds : List D) (S : Sto) (Q : DK) (E : DX) (h : sp_law_deep_sum N ds S Q E) : t_law_deep_sum (dsPrev N) k { nx := fun _ S' => Dn Q .non S', rt := Dn Q } (startD 5 ds) S := by
  obtain ⟨n, b, g, u, c, xs, hn, rfl, hc, hb, hub, hug, hx, hxl, hxe, K⟩ := h
  have p2 : 1 ≤ 2 ^ n := Nat.one_le_two_pow
  have p3 : 1 ≤ 3 ^ n := Nat.one_le_pow _ _ (by decide)
  have e2 : 2 ^ (n + 1) = 2 * 2 ^ n := by rw [Nat.pow_succ]; omega
  have done : ∀ t S' c', SumT n t → (∀ x, t.free [] x → x ∈ xs) → Bag S' b g c' → c' ≤ c + 6 * 3 ^ n → Kp S S' b g → Dn Q t.d S' := fun t S' c' h1 h5 h2 h3 h4 => i_dn (K t S' h1 h5 (h2.up h3) h4)
  unfold t_law_deep_sum
  walk_at "sts"
  refine ⟨b, g, c, 8, rfl, by decide, by decide, by omega, hb, fun kd S1 k0 k1 b1 q1 => ?_⟩
  have hx1 := q1 u _ hub hug hx
  have leaf : ∀ F : DEnds, F.rt = Dn Q → dRet (dOp ixA (dLst (dCons (dTup (dCons (dC (.str "name")) (dCons (dOp ixA (dVar 1) (dCall (sp_law_take) (dCons (dVar 0) (dCons (dCB oLen (dCons (dVar 1) (dNil))) (dNil))))) (dNil)))) (dCons (dTup (dCons (dC (.str "number")) (dCons (dCall (sp_law_number) (dCons (dVar 0) (dNil))) (dNil)))) (dNil)))) (dOp oDiv (dCall (sp_law_take) (dCons (dVar 0) (dCons (dC (.int 4)) (dNil)))) (dC (.int 3))))
      F [some (.ref b), some (.ref u), some (.int n), some (.int kd), none] S1 := by
    intro F hF
    refine i_ret ?_
    rw [hF]
    walk_at "sts"
    refine i_lenR hx1 ?_
    walk_at "sts"
    rw [List.length_map, hxl]
    refine ⟨b, g, c + 1, 3, rfl, by decide, by decide, by omega, b1, fun v S2 v0 v1 b2 q2 => ?_⟩
    refine i_ixRs (q2 u _ hub hug hx1) v0 (by rw [hxl]; exact v1) fun x hx' => ?_
    walk_at "sts"
    refine ⟨b, g, c + 2, rfl, by omega, b2, fun r S3 hr b3 q3 => ?_⟩
    walk_at "sts"
    intro p hp
    walk_at "sts"
    refine ⟨b, g, c + 4, 4, rfl, by decide, by decide, by omega, b3.put' hp, fun w S4 w0 w1 b4 q4 => ?_⟩
    have hpb := b3.fresh hp
    have h4 := q4 p _ hpb.1 hpb.2 put_same
    have kk := ((q1.trans (q2.trans q3)).put' hp).trans q4
    walk_at "sts"
    refine i_divS (by decide) (by decide) ?_
    have hw : w / 3 = 0 ∨ w / 3 = 1 := by omega
    rcases hw with e | e
    · rw [e]
      refine i_ixR h4 (d := (Tr.nam x).d) rfl ?_
      exact done (.nam x) _ _ ⟨hxe x hx', rfl, by show 1 ≤ n + 1; omega, by show 1 + 1 ≤ _; omega⟩ (fun y hy => hy.1 ▸ hx') b4 (by omega) kk
    · rw [e]
      refine i_ixR h4 (d := (Tr.num r).d) rfl ?_
      exact done (.num r) _ _ ⟨hr, rfl, by show 1 ≤ n + 1; omega, by show 1 + 1 ≤ _; omega⟩ (fun y hy => hy.elim) b4 (by omega) kk
  walk_at "sts"
  refine ifD (fun h => ifT rfl (leaf _ rfl)) fun h0 => ?_
  walk_at "sts"
  refine ifD (fun h => leaf _ rfl) fun h3 => ?_
  obtain ⟨m, rfl⟩ : ∃ m, n = m + 1 := ⟨n - 1, by omega⟩
  obtain ⟨M, rfl⟩ : ∃ M, N = M + 1 := ⟨N - 1, by omega⟩
  have e3 : 3 ^ (m + 1) = 3 * 3 ^ m := by rw [Nat.pow_succ]; omega
  have p3m : 1 ≤ 3 ^ m := Nat.one_le_pow _ _ (by decide)
  have f2 : 2 ^ (m + 1) = 2 * 2 ^ m := by rw [Nat.pow_succ]; omega
  have hm : ((m + 1 : Nat) : Int) - 1 = (m : Int) := by omega
  walk_at "sts"
  rw [hm]
  refine ⟨m, b, g, u, c + 1, xs, by omega, rfl, by omega, b1, hub, hug, hx1, hxl, hxe, fun ta S2 hta fa b2 q2 => ?_⟩
  have hx2 := q2 u _ hub hug hx1
  have ha1 := hta.ht
  have ha2 := hta.sz
  walk_at "sts"
  refine ifD (fun h => ?_) fun h6 => ?_
  · walk_at "sts"
    rw [hm]
    refine ⟨m, b, g, u, c + 1 + 6 * 3 ^ m, xs, by omega, rfl, by omega, b2, hub, hug, hx2, hxl, hxe, fun tb S3 htb fb b3 q3 => ?_⟩
    have hb1 := htb.ht
    have hb2 := htb.sz
    walk_at "sts"
    exact done (.two .plus ta tb) _ _ ⟨⟨hta.wf, htb.wf, hta.kind, htb.kind⟩, rfl, by show 1 + max ta.ht tb.ht ≤ _; omega, by show 1 + ta.sz + tb.sz + 1 ≤ _; omega⟩ (fun x hx => hx.elim (fa x) (fb x)) b3 (by omega) ((q1.trans q2).trans q3)
  walk_at "sts"
  refine ifD (fun h => ?_) fun h7 => ?_
  · walk_at "sts"
    rw [hm]
    refine ⟨m, b, g, u, c + 1 + 6 * 3 ^ m, xs, by omega, rfl, by omega, b2, hub, hug, hx2, hxl, hxe, fun tb S3 htb fb b3 q3 => ?_⟩
    have hb1 := htb.ht
    have hb2 := htb.sz
    walk_at "sts"
    exact done (.two .minus ta tb) _ _ ⟨⟨hta.wf, htb.wf, hta.kind, htb.kind⟩, rfl, by show 1 + max ta.ht tb.ht ≤ _; omega, by show 1 + ta.sz + tb.sz + 1 ≤ _; omega⟩ (fun x hx => hx.elim (fa x) (fb x)) b3 (by omega) ((q1.trans q2).trans q3)
  walk_at "sts"
  refine ifD (fun h => ?_) fun h8 => ?_
  · walk_at "sts"
    refine ⟨b, g, c + 1 + 6 * 3 ^ m, rfl, by omega, b2, fun r S3 hr b3 q3 => ?_⟩
    walk_at "sts"
    exact done (.times r ta) _ _ ⟨⟨hr, hta.wf, hta.kind⟩, rfl, by show 1 + ta.ht ≤ _; omega, by show 1 + ta.sz + 1 ≤ _; omega⟩ fa b3 (by omega) ((q1.trans q2).trans q3)
  walk_at "sts"
  intro p hp
  walk_at "sts"
  have hpb := b2.fresh hp
  have hk : kd - 6 = 0 ∨ kd - 6 = 1 := by omega
  rcases hk with e | e
  · rw [e]
    refine i_ixR put_same (d := .str "over") rfl ?_
    walk_at "sts"
    refine ⟨b, g, c + 1 + 6 * 3 ^ m, rfl, by omega, b2.put' hp, fun r S3 hr b3 q3 => ?_⟩
    walk_at "sts"
    refine i_divS (by decide) (by decide) ?_
    walk_at "sts"
    rw [show (1 : Int) + (r : Int) / 2 = ((1 + r / 2 : Nat) : Int) by omega]
    exact done (.ovr .over ta (1 + r / 2)) _ _ ⟨⟨by omega, by omega, hta.wf, hta.kind⟩, rfl, by show 1 + ta.ht ≤ _; omega, by show 1 + ta.sz + 1 ≤ _; omega⟩ fa b3 (by omega) (((q1.trans q2).put' hp).trans q3)
  · rw [e]
    refine i_ixR put_same (d := .str "rest") rfl ?_
    walk_at "sts"
    refine ⟨b, g, c + 1 + 6 * 3 ^ m, rfl, by omega, b2.put' hp, fun r S3 hr b3 q3 => ?_⟩
    walk_at "sts"
    refine i_divS (by decide) (by decide) ?_
    walk_at "sts"
    rw [show (1 : Int) + (r : Int) / 2 = ((1 + r / 2 : Nat) : Int) by omega]
    exact done (.ovr .rest ta (1 + r / 2)) _ _ ⟨⟨by omega, by omega, hta.wf, hta.kind⟩, rfl, by show 1 + ta.ht ≤ _; omega, by show 1 + ta.sz + 1 ≤ _; omega⟩ fa b3 (by omega) (((q1.trans q2).put' hp).trans q3)
end K07
end
section
namespace K07
open PySem L2 DL DLZ TR TS PyProof.Rows
local macro_rules | `(tactic| walk_at "st") => `(tactic| ((with_reducible refine ifT ?he ?_); (case he => rfl)))
local macro_rules | `(tactic| walk_at "st") => `(tactic| ((with_reducible refine ifF ?he ?_); (case he => rfl)))
local macro_rules | `(tactic| walk_at "st") => `(tactic| ((with_reducible refine ifT ?he ?_); (case he => decide +kernel)))
local macro_rules | `(tactic| walk_at "st") => `(tactic| ((with_reducible refine ifF ?he ?_); (case he => decide +kernel)))
local macro_rules | `(tactic| walk_at "st") => `(tactic| ((with_reducible refine i_isiT (T := ?tt) (b := false) ?he ?hf ?_); (case he => rfl); (case hf => decide +kernel)))
local macro_rules | `(tactic| walk_at "st") => `(tactic| ((with_reducible refine i_isi (T := ?tt) (b := false) ?he ?hf ?_); (case he => rfl); (case hf => decide +kernel)))
local macro_rules | `(tactic| walk_at "st") => `(tactic| ((with_reducible refine i_isiT (T := ?tt) (b := true) ?he ?hf ?_); (case he => rfl); (case hf => decide +kernel)))
local macro_rules | `(tactic| walk_at "st") => `(tactic| ((with_reducible refine i_isi (T := ?tt) (b := true) ?he ?hf ?_); (case he => rfl); (case hf => decide +kernel)))
local macro_rules | `(tactic| walk_at "st") => `(tactic| ((with_reducible refine i_len ?he ?_); (case he => rfl)))
local macro_rules | `(tactic| walk_at "st") => `(tactic| ((with_reducible refine i_niT (v := ?vv) (us := ?uu) ?he ?hf ?_); (case he => rfl); (case hf => rfl)))
local macro_rules | `(tactic| walk_at "st") => `(tactic| ((with_reducible refine i_inT (v := ?vv) (us := ?uu) ?he ?hf ?_); (case he => rfl); (case hf => rfl)))
local macro_rules | `(tactic| walk_at "st") => `(tactic| ((with_reducible refine i_ixC (d := ?dd) ?he ?_); (case he => rfl)))
local macro_rules | `(tactic| walk_at "st") => `(tactic| ((with_reducible refine i_ixT (d := ?dd) ?he ?_); (case he => rfl)))
local macro_rules | `(tactic| walk_at "st") => `(tactic| ((with_reducible refine i_aug (x := ?dd) ?he ?_); (case he => rfl)))
local macro_rules | `(tactic| walk_at "st") => `(tactic| ((with_reducible refine i_var (d := ?dd) ?he ?_); (case he => rfl)))
local macro_rules | `(tactic| walk_at "st") => `(tactic| with_reducible refine i_neE ?_)
local macro_rules | `(tactic| walk_at "st") => `(tactic| with_reducible refine i_eqE ?_)
local macro_rules | `(tactic| walk_at "st") => `(tactic| with_reducible refine i_iRev ?_)
local macro_rules | `(tactic| walk_at "st") => `(tactic| with_reducible refine i_iStr ?_)
local macro_rules | `(tactic| walk_at "st") => `(tactic| with_reducible refine i_join ?_)
local macro_rules | `(tactic| walk_at "st") => `(tactic| with_reducible refine i_extendT ?_)
local macro_rules | `(tactic| walk_at "st") => `(tactic| with_reducible refine i_iZip ?_)
local macro_rules | `(tactic| walk_at "st") => `(tactic| with_reducible refine i_delFrom ?_)
local macro_rules | `(tactic| walk_at "st") => `(tactic| with_reducible refine i_max2 ?_)
local macro_rules | `(tactic| walk_at "st") => `(tactic| with_reducible refine i_strS ?_)
local macro_rules | `(tactic| walk_at "st") => `(tactic| with_reducible refine i_fmt ?_)
local macro_rules | `(tactic| walk_at "st") => `(tactic| with_reducible refine i_jnil ?_)
local macro_rules | `(tactic| walk_at "st") => `(tactic| with_reducible refine i_jcons ?_)
local macro_rules | `(tactic| walk_at "st") => `(tactic| with_reducible refine i_joined ?_)
local macro_rules | `(tactic| walk_at "st") => `(tactic| with_reducible refine i_truN ?_)
local macro_rules | `(tactic| walk_at "st") => `(tactic| with_reducible refine i_truT ?_)
local macro_rules | `(tactic| walk_at "st") => `(tactic| with_reducible refine i_truI ?_)
local macro_rules | `(tactic| walk_at "st") => `(tactic| with_reducible refine i_truB ?_)
local macro_rules | `(tactic| walk_at "st") => `(tactic| with_reducible refine i_tupT ?_)
local macro_rules | `(tactic| walk_at "st") => `(tactic| with_reducible refine i_slT ?_)
local macro_rules | `(tactic| walk_at "st") => `(tactic| with_reducible refine i_lenC ?_)
local macro_rules | `(tactic| walk_at "st") => `(tactic| with_reducible refine i_lenT ?_)
local macro_rules | `(tactic| walk_at "st") => `(tactic| with_reducible refine i_int1 ?_)
local macro_rules | `(tactic| walk_at "st") => `(tactic| with_reducible refine i_int ?_)
local macro_rules | `(tactic| walk_at "st") => `(tactic| with_reducible refine i_addII ?_)
local macro_rules | `(tactic| walk_at "st") => `(tactic| with_reducible refine i_addI ?_)
local macro_rules | `(tactic| walk_at "st") => `(tactic| with_reducible refine i_noN ?_)
local macro_rules | `(tactic| walk_at "st") => `(tactic| with_reducible refine i_isN ?_)
local macro_rules | `(tactic| walk_at "st") => `(tactic| with_reducible refine i_neS ?_)
local macro_rules | `(tactic| walk_at "st") => `(tactic| with_reducible refine i_neI ?_)
local macro_rules | `(tactic| walk_at "st") => `(tactic| with_reducible refine i_eqB ?_)
local macro_rules | `(tactic| walk_at "st") => `(tactic| with_reducible refine i_eqS ?_)
local macro_rules | `(tactic| walk_at "st") => `(tactic| with_reducible refine i_eqI ?_)
local macro_rules | `(tactic| walk_at "st") => `(tactic| with_reducible refine i_yes ?_)
local macro_rules | `(tactic| walk_at "st") => `(tactic| with_reducible refine i_gNi ?_)
local macro_rules | `(tactic| walk_at "st") => `(tactic| with_reducible refine i_gCo ?_)
local macro_rules | `(tactic| walk_at "st") => `(tactic| with_reducible refine i_gTu ?_)
local macro_rules | `(tactic| walk_at "st") => `(tactic| with_reducible refine i_gN ?_)
local macro_rules | `(tactic| walk_at "st") => `(tactic| with_reducible refine i_iR1 ?_)
local macro_rules | `(tactic| walk_at "st") => `(tactic| with_reducible refine i_iD ?_)
local macro_rules | `(tactic| walk_at "st") => `(tactic| with_reducible refine i_cdG ?_)
local macro_rules | `(tactic| walk_at "st") => `(tactic| with_reducible refine i_reverse ?_)
local macro_rules | `(tactic| walk_at "st") => `(tactic| with_reducible refine i_pop ?_)
local macro_rules | `(tactic| walk_at "st") => `(tactic| with_reducible refine i_extend ?_)
local macro_rules | `(tactic| walk_at "st") => `(tactic| with_reducible refine i_append ?_)
local macro_rules | `(tactic| walk_at "st") => `(tactic| with_reducible refine i_someP ?_)
local macro_rules | `(tactic| walk_at "st") => `(tactic| with_reducible refine i_noP ?_)
local macro_rules | `(tactic| walk_at "st") => `(tactic| with_reducible refine i_sl ?_)
local macro_rules | `(tactic| walk_at "st") => `(tactic| with_reducible refine i_call ?_)
local macro_rules | `(tactic| walk_at "st") => `(tactic| with_reducible refine i_cb ?_)
local macro_rules | `(tactic| walk_at "st") => `(tactic| with_reducible refine i_neg1 ?_)
local macro_rules | `(tactic| walk_at "st") => `(tactic| with_reducible refine i_neg ?_)
local macro_rules | `(tactic| walk_at "st") => `(tactic| with_reducible refine i_ifE ?_)
local macro_rules | `(tactic| walk_at "st") => `(tactic| with_reducible refine i_notV ?_)
local macro_rules | `(tactic| walk_at "st") => `(tactic| with_reducible refine i_orV ?_)
local macro_rules | `(tactic| walk_at "st") => `(tactic| with_reducible refine i_andV ?_)
local macro_rules | `(tactic| walk_at "st") => `(tactic| with_reducible refine i_not ?_)
local macro_rules | `(tactic| walk_at "st") => `(tactic| with_reducible refine i_or ?_)
local macro_rules | `(tactic| walk_at "st") => `(tactic| with_reducible refine i_and ?_)
local macro_rules | `(tactic| walk_at "st") => `(tactic| with_reducible refine i_tru ?_)
local macro_rules | `(tactic| walk_at "st") => `(tactic| with_reducible refine i_bl ?_)
local macro_rules | `(tactic| walk_at "st") => `(tactic| with_reducible refine i_tb ?_)
local macro_rules | `(tactic| walk_at "st") => `(tactic| with_reducible refine i_cons ?_)
local macro_rules | `(tactic| walk_at "st") => `(tactic| with_reducible refine i_nil ?_)
local macro_rules | `(tactic| walk_at "st") => `(tactic| with_reducible refine i_lst ?_)
local macro_rules | `(tactic| walk_at "st") => `(tactic| with_reducible refine i_tup ?_)
local macro_rules | `(tactic| walk_at "st") => `(tactic| with_reducible refine i_op ?_)
local macro_rules | `(tactic| walk_at "st") => `(tactic| with_reducible refine i_c ?_)
local macro_rules | `(tactic| walk_at "st") => `(tactic| with_reducible refine i_par2 ?_)
local macro_rules | `(tactic| walk_at "st") => `(tactic| with_reducible refine i_par ?_)
local macro_rules | `(tactic| walk_at "st") => `(tactic| with_reducible refine i_setL ?_)
local macro_rules | `(tactic| walk_at "st") => `(tactic| with_reducible refine i_cnt ?_)
local macro_rules | `(tactic| walk_at "st") => `(tactic| with_reducible refine i_brk ?_)
local macro_rules | `(tactic| walk_at "st") => `(tactic| with_reducible refine i_skip ?_)
local macro_rules | `(tactic| walk_at "st") => `(tactic| with_reducible refine i_if ?_)
local macro_rules | `(tactic| walk_at "st") => `(tactic| with_reducible refine i_retN ?_)
local macro_rules | `(tactic| walk_at "st") => `(tactic| with_reducible refine i_ret ?_)
local macro_rules | `(tactic| walk_at "st") => `(tactic| with_reducible refine i_drop ?_)
local macro_rules | `(tactic| walk_at "st") => `(tactic| with_reducible refine i_asg ?_)
local macro_rules | `(tactic| walk_at "st") => `(tactic| with_reducible refine i_set2 ?_)
local macro_rules | `(tactic| walk_at "st") => `(tactic| with_reducible refine i_set ?_)
local macro_rules | `(tactic| walk_at "st") => `(tactic| with_reducible refine i_seq ?_)
local macro_rules | `(tactic| walk_at "sts") => `(tactic| repeat walk_at "st")
theorem wrt_congr {E F : Str → Int} : ∀ t : Tr, (∀ x, t.free [] x → E x = F x) → wrt E t = wrt F t
  | .num n, _ => rfl
  | .nam s, h => h s ⟨rfl, by simp⟩
  | .two o a b, h => by
    have ha := wrt_congr a fun x hx => h x (.inl hx)
    have hb := wrt_congr b fun x hx => h x (.inr hx)
    unfold wrt
    rw [ha, hb]
  | .times n a, h => by
    have ha := wrt_congr a h
    unfold wrt
    rw [ha]
  | .ovr o a n, h => by
    have ha := wrt_congr a h
    unfold wrt
    rw [ha]
  | .neg _, _ => rfl
  | .qn _ _ _, _ => rfl
theorem Kp.wr {S S1 : Sto} {b g p : Addr} {cl : Cell} (h : Kp S S1 b g) (hp : S p = none) : Kp S (put S1 p cl) b g := fun a c h1 h2 h3 => by
  by_cases e : a = p
  · subst e; rw [hp] at h3; cases h3
  · rw [put_ne e]; exact h a c h1 h2 h3
/-- what stands for the name is no whole number, all else is as it was -/
structure Unf (S : Sto) (l l' : KD) (x : Str) : Prop where
  o : ∀ y, y ≠ x → kGet l' (.inr y) = kGet l (.inr y)
  n : ∀ d, kGet l' (.inr x) = some d → IsW S d false ∧ ∀ v, d = .int v → BB 600 v
theorem rd_law_unfit (ds : List D) (S : Sto) (Q : DK) (E : DX) (h : sp_law_unfit ds S Q E) : t_law_unfit { nx := fun _ S' => Dn Q .non S', rt := Dn Q } (startD 7 ds) S := by
  obtain ⟨b, g, a, c, t, l, x, rfl, T, hc, hb, hab, hag, ha, hl, hE, hx, K⟩ := h
  have tz : t.sz ≤ 63 := by have := T.sz; omega
  unfold t_law_unfit
  walk_at "sts"
  refine i_dict ha fun p hp => ?_
  have hap : a ≠ p := fun e => by subst e; rw [hp] at ha; cases ha
  walk_at "sts"
  have hpb := hb.fresh hp
  refine ⟨b, g, c, 6, rfl, by decide, by decide, by omega, hb.put' hp, fun w S2 w0 w1 b2 q2 => ?_⟩
  have kp2 : Kp S S2 b g := fun z cl h1 h2 h3 => q2 z cl h1 h2 (lePut (Le.refl S) hp z cl h3)
  have hp2 : S2 p = some (dcell l) := q2 p _ hpb.1 hpb.2 put_same
  have fin : ∀ (F : DEnds) (S3 : Sto) (l' : KD), F.rt = Dn Q → S3 p = some (dcell l') → Bag S3 b g (c + 1) → Kp S S3 b g → Unf S3 l l' x →
      dSeq (dSet 6 (dLst (dCons (dC (.str "at")) (dNil)))) (dSeq (dIf (dTB (dOp oNotIn (dVar 3) (dCall ((sp_law_sum_names 6)) (dCons (dVar 1) (dNil))))) (dSet 6 (dCall ((sp_law_worth 6)) (dCons (dVar 1) (dCons (dVar 2) (dNil))))) (dSkip)) (dRet (dCall (sp_law_kind_same) (dCons (dCall (sp_law_told) (dCons (dVar 1) (dCons (dVar 4) (dNil)))) (dCons (dVar 6) (dNil))))))
        F [some (.ref b), some t.d, some (.ref a), some (.str x), some (.ref p), some (.int w), none] S3 := by
    intro F S3 l' hF hp3 b3 k3 U
    have ha3 : S3 a = some (dcell l) := k3 a _ hab hag ha
    have done : ∀ S4, Le S3 S4 → Dn Q (.bl true) S4 := fun S4 L => i_dn (K S4 (b3.le L) (k3.le L))
    have asked : ∀ S4, Le S3 S4 → Asked S4 t l' := fun S4 L => ⟨⟨T.wf, T.kind, by omega⟩, by omega, fun y hy => ⟨(hE y hy).2, fun d hd => ?_, fun v hv => ?_⟩⟩
    rotate_left
    · by_cases e : y = x
      · subst e; exact ⟨_, (U.n d hd).1.mono L⟩
      · rw [U.o y e, (hE y hy).1.ev.1] at hd
        cases hd
        exact ⟨_, .int _⟩
    · by_cases e : y = x
      · subst e; exact (U.n _ hv).2 v rfl
      · rw [U.o y e, (hE y hy).1.ev.1] at hv
        cases hv
        exact (hE y hy).1.ev.2.2
    walk_at "sts"
    intro r hr
    have hr3 : put S3 r (.lst [.str "at"]) r = some (.lst [.str "at"]) := put_same
    have L4 : Le S3 (put S3 r (.lst [.str "at"])) := lePut (Le.refl S3) hr
    generalize put S3 r (.lst [.str "at"]) = S4 at hr3 L4 ⊢
    walk_at "sts"
    refine ⟨t, T.ht, T.wf, T.kind, by omega, rfl, fun q ys hy yl hq => ?_⟩
    have L5 : Le S3 (put S4 q (.lst (ys.map .str))) := L4.put hq
    have hr5 : put S4 q (.lst (ys.map .str)) r = some (.lst [.str "at"]) := lePut (Le.refl S4) hq _ _ hr3
    refine i_niRs put_same ?_
    walk_at "sts"
    generalize put S4 q (.lst (ys.map .str)) = S5 at L5 hr5 ⊢
    refine ifN (fun hn => ?_) fun hn => ?_
    · have hf : ∀ y, t.free [] y → y ≠ x := fun y hy' e => hn (by rw [← e]; exact (hy y).mpr hy')
      have hev : ∀ y, t.free [] y → EV l' y = EV l y := fun y hy' => by unfold EV; rw [U.o y (hf y hy')]
      walk_at "sts"
      refine ⟨t, a, l, T.ht, T.wf, T.kind, by omega, rfl, L5 _ _ ha3, fun y hy' => (hE y hy').1, ?_⟩
      walk_at "sts"
      rw [hF]
      refine ⟨t, p, l', asked S5 L5, rfl, L5 _ _ hp3, fun _ S6 L6 => ?_, fun ⟨y, hy', hno⟩ => ?_⟩
      · walk_at "sts"
        rw [wrt_congr t hev]
        exact .inl ⟨_, rfl, fun S7 L7 => done S7 ((L5.trans L6).trans L7)⟩
      · exfalso
        refine hno ?_
        have := (hE y hy').1.ev
        exact ⟨_, (U.o y (hf y hy')).trans this.1, this.2.1⟩
    · have hm : t.free [] x := (hy x).mp (by simpa using hn)
      have hno : ¬ OkI l' x := fun ⟨v, e, h0⟩ => by
        have := (isw_int (U.n _ e).1).mpr ⟨v, rfl, h0⟩
        cases this
      walk_at "sts"
      rw [hF]
      refine ⟨t, p, l', asked S5 L5, rfl, L5 _ _ hp3, fun hall => (hno (hall x hm)).elim, fun _ z S6 hz hzl L6 => ?_⟩
      walk_at "sts"
      exact .inr ⟨z, r, hzl, L6 _ _ hr5, rfl, fun S7 L7 => done S7 ((L5.trans L6).trans L7)⟩
  walk_at "sts"
  refine ifD (fun h => ?_) fun h => ?_
  · walk_at "sts"
    refine i_popK ?_
    walk_at "sts"
    refine ⟨p, l, rfl, hp2, ?_⟩
    walk_at "sts"
    refine ⟨.inr x, l, _, rfl, hp2, hx.ev.1, ?_⟩
    exact fin _ _ (kDel l (.inr x)) rfl put_same (b2.wr hpb.1 hpb.2) (kp2.wr hp) ⟨fun y hy => by rw [kGet_del, if_neg (fun e => hy (Sum.inr.inj e))], fun d hd => by rw [kGet_del, if_pos rfl] at hd; cases hd⟩
  · walk_at "sts"
    refine i_setK ?_
    walk_at "sts"
    intro q hq
    walk_at "sts"
    intro r hr
    have hqr : q ≠ r := fun e => by subst e; rw [put_same] at hr; cases hr
    have hpq : p ≠ q := fun e => by subst e; rw [hp2] at hq; cases hq
    have hpr : p ≠ r := fun e => by subst e; rw [put_ne hpq, hp2] at hr; cases hr
    have hr2 : S2 r = none := by rw [put_ne (Ne.symm hqr)] at hr; exact hr
    have b3 := (b2.put' hq).put' (cl := .lst [.non, .int (-1), .bl true, .str "7", .ref q]) hr
    have k3 := (kp2.put' hq).put' (cl := .lst [.non, .int (-1), .bl true, .str "7", .ref q]) hr
    have hp3 : put (put S2 q (.lst [.int 1])) r (.lst [.non, .int (-1), .bl true, .str "7", .ref q]) p = some (dcell l) := (put_ne hpr).trans ((put_ne hpq).trans hp2)
    have hq3 : put (put S2 q (.lst [.int 1])) r (.lst [.non, .int (-1), .bl true, .str "7", .ref q]) q = some (.lst [.int 1]) := (put_ne hqr).trans put_same
    have hr3 : put (put S2 q (.lst [.int 1])) r (.lst [.non, .int (-1), .bl true, .str "7", .ref q]) r = some (.lst [.non, .int (-1), .bl true, .str "7", .ref q]) := put_same
    walk_at "sts"
    show ixA (.ref r) (.int w) (put (put S2 q (.lst [.int 1])) r (.lst [.non, .int (-1), .bl true, .str "7", .ref q])) _
    generalize put (put S2 q (.lst [.int 1])) r (.lst [.non, .int (-1), .bl true, .str "7", .ref q]) = S3 at b3 k3 hp3 hq3 hr3 ⊢
    have U : ∀ d : D, IsW (put S3 p (dcell (kPut l (.inr x) d))) d false → (∀ v, d = .int v → BB 600 v) → Unf (put S3 p (dcell (kPut l (.inr x) d))) l (kPut l (.inr x) d) x := fun d h1 h2 =>
      ⟨fun y hy => by rw [kGet_put, if_neg (fun e => hy (Sum.inr.inj e))], fun d' hd => by
        rw [kGet_put, if_pos rfl] at hd
        cases hd
        exact ⟨h1, h2⟩⟩
    have hls : l.length < sizeLine := Nat.lt_of_le_of_lt hl (by decide)
    have hw : w = 0 ∨ w = 1 ∨ w = 2 ∨ w = 3 ∨ w = 4 := by omega
    rcases hw with rfl | rfl | rfl | rfl | rfl
    · refine i_ixR hr3 (d := .non) rfl ?_
      walk_at "sts"
      refine ⟨p, l, .inr x, rfl, rfl, hp3, hls, ?_⟩
      exact fin _ _ _ rfl put_same (b3.wr hpb.1 hpb.2) (k3.wr hp) (U _ .non fun v e => by cases e)
    · refine i_ixR hr3 (d := .int (-1)) rfl ?_
      walk_at "sts"
      refine ⟨p, l, .inr x, rfl, rfl, hp3, hls, ?_⟩
      exact fin _ _ _ rfl put_same (b3.wr hpb.1 hpb.2) (k3.wr hp) (U _ (.int (-1)) fun v e => by cases e; exact BB.mono (m := 1) (show (-1 : Int).natAbs < 2 ^ 1 by decide) (by decide))
    · refine i_ixR hr3 (d := .bl true) rfl ?_
      walk_at "sts"
      refine ⟨p, l, .inr x, rfl, rfl, hp3, hls, ?_⟩
      exact fin _ _ _ rfl put_same (b3.wr hpb.1 hpb.2) (k3.wr hp) (U _ (.bl true) fun v e => by cases e)
    · refine i_ixR hr3 (d := .str "7") rfl ?_
      walk_at "sts"
      refine ⟨p, l, .inr x, rfl, rfl, hp3, hls, ?_⟩
      exact fin _ _ _ rfl put_same (b3.wr hpb.1 hpb.2) (k3.wr hp) (U _ (.str "7") fun v e => by cases e)
    · refine i_ixR hr3 (d := .ref q) rfl ?_
      walk_at "sts"
      refine ⟨p, l, .inr x, rfl, rfl, hp3, hls, ?_⟩
      exact fin _ _ _ rfl put_same (b3.wr hpb.1 hpb.2) (k3.wr hp) (U _ (.lst ((put_ne (Ne.symm hpq)).trans hq3)) fun v e => by cases e)
end K07
end
section
namespace K07
open PySem L2 DL DLZ TR TS PyProof.Rows
local macro_rules | `(tactic| walk_at "st") => `(tactic| ((with_reducible refine ifT ?he ?_); (case he => rfl)))
local macro_rules | `(tactic| walk_at "st") => `(tactic| ((with_reducible refine ifF ?he ?_); (case he => rfl)))
local macro_rules | `(tactic| walk_at "st") => `(tactic| ((with_reducible refine ifT ?he ?_); (case he => decide +kernel)))
local macro_rules | `(tactic| walk_at "st") => `(tactic| ((with_reducible refine ifF ?he ?_); (case he => decide +kernel)))
local macro_rules | `(tactic| walk_at "st") => `(tactic| ((with_reducible refine i_isiT (T := ?tt) (b := false) ?he ?hf ?_); (case he => rfl); (case hf => decide +kernel)))
local macro_rules | `(tactic| walk_at "st") => `(tactic| ((with_reducible refine i_isi (T := ?tt) (b := false) ?he ?hf ?_); (case he => rfl); (case hf => decide +kernel)))
local macro_rules | `(tactic| walk_at "st") => `(tactic| ((with_reducible refine i_isiT (T := ?tt) (b := true) ?he ?hf ?_); (case he => rfl); (case hf => decide +kernel)))
local macro_rules | `(tactic| walk_at "st") => `(tactic| ((with_reducible refine i_isi (T := ?tt) (b := true) ?he ?hf ?_); (case he => rfl); (case hf => decide +kernel)))
local macro_rules | `(tactic| walk_at "st") => `(tactic| ((with_reducible refine i_len ?he ?_); (case he => rfl)))
local macro_rules | `(tactic| walk_at "st") => `(tactic| ((with_reducible refine i_niT (v := ?vv) (us := ?uu) ?he ?hf ?_); (case he => rfl); (case hf => rfl)))
local macro_rules | `(tactic| walk_at "st") => `(tactic| ((with_reducible refine i_inT (v := ?vv) (us := ?uu) ?he ?hf ?_); (case he => rfl); (case hf => rfl)))
local macro_rules | `(tactic| walk_at "st") => `(tactic| ((with_reducible refine i_ixC (d := ?dd) ?he ?_); (case he => rfl)))
local macro_rules | `(tactic| walk_at "st") => `(tactic| ((with_reducible refine i_ixT (d := ?dd) ?he ?_); (case he => rfl)))
local macro_rules | `(tactic| walk_at "st") => `(tactic| ((with_reducible refine i_aug (x := ?dd) ?he ?_); (case he => rfl)))
local macro_rules | `(tactic| walk_at "st") => `(tactic| ((with_reducible refine i_var (d := ?dd) ?he ?_); (case he => rfl)))
local macro_rules | `(tactic| walk_at "st") => `(tactic| with_reducible refine i_neE ?_)
local macro_rules | `(tactic| walk_at "st") => `(tactic| with_reducible refine i_eqE ?_)
local macro_rules | `(tactic| walk_at "st") => `(tactic| with_reducible refine i_iRev ?_)
local macro_rules | `(tactic| walk_at "st") => `(tactic| with_reducible refine i_iStr ?_)
local macro_rules | `(tactic| walk_at "st") => `(tactic| with_reducible refine i_join ?_)
local macro_rules | `(tactic| walk_at "st") => `(tactic| with_reducible refine i_extendT ?_)
local macro_rules | `(tactic| walk_at "st") => `(tactic| with_reducible refine i_iZip ?_)
local macro_rules | `(tactic| walk_at "st") => `(tactic| with_reducible refine i_delFrom ?_)
local macro_rules | `(tactic| walk_at "st") => `(tactic| with_reducible refine i_max2 ?_)
local macro_rules | `(tactic| walk_at "st") => `(tactic| with_reducible refine i_strS ?_)
local macro_rules | `(tactic| walk_at "st") => `(tactic| with_reducible refine i_fmt ?_)
local macro_rules | `(tactic| walk_at "st") => `(tactic| with_reducible refine i_jnil ?_)
local macro_rules | `(tactic| walk_at "st") => `(tactic| with_reducible refine i_jcons ?_)
local macro_rules | `(tactic| walk_at "st") => `(tactic| with_reducible refine i_joined ?_)
local macro_rules | `(tactic| walk_at "st") => `(tactic| with_reducible refine i_truN ?_)
local macro_rules | `(tactic| walk_at "st") => `(tactic| with_reducible refine i_truT ?_)
local macro_rules | `(tactic| walk_at "st") => `(tactic| with_reducible refine i_truI ?_)
local macro_rules | `(tactic| walk_at "st") => `(tactic| with_reducible refine i_truB ?_)
local macro_rules | `(tactic| walk_at "st") => `(tactic| with_reducible refine i_tupT ?_)
local macro_rules | `(tactic| walk_at "st") => `(tactic| with_reducible refine i_slT ?_)
local macro_rules | `(tactic| walk_at "st") => `(tactic| with_reducible refine i_lenC ?_)
local macro_rules | `(tactic| walk_at "st") => `(tactic| with_reducible refine i_lenT ?_)
local macro_rules | `(tactic| walk_at "st") => `(tactic| with_reducible refine i_int1 ?_)
local macro_rules | `(tactic| walk_at "st") => `(tactic| with_reducible refine i_int ?_)
local macro_rules | `(tactic| walk_at "st") => `(tactic| with_reducible refine i_addII ?_)
local macro_rules | `(tactic| walk_at "st") => `(tactic| with_reducible refine i_addI ?_)
local macro_rules | `(tactic| walk_at "st") => `(tactic| with_reducible refine i_noN ?_)
local macro_rules | `(tactic| walk_at "st") => `(tactic| with_reducible refine i_isN ?_)
local macro_rules | `(tactic| walk_at "st") => `(tactic| with_reducible refine i_neS ?_)
local macro_rules | `(tactic| walk_at "st") => `(tactic| with_reducible refine i_neI ?_)
local macro_rules | `(tactic| walk_at "st") => `(tactic| with_reducible refine i_eqB ?_)
local macro_rules | `(tactic| walk_at "st") => `(tactic| with_reducible refine i_eqS ?_)
local macro_rules | `(tactic| walk_at "st") => `(tactic| with_reducible refine i_eqI ?_)
local macro_rules | `(tactic| walk_at "st") => `(tactic| with_reducible refine i_yes ?_)
local macro_rules | `(tactic| walk_at "st") => `(tactic| with_reducible refine i_gNi ?_)
local macro_rules | `(tactic| walk_at "st") => `(tactic| with_reducible refine i_gCo ?_)
local macro_rules | `(tactic| walk_at "st") => `(tactic| with_reducible refine i_gTu ?_)
local macro_rules | `(tactic| walk_at "st") => `(tactic| with_reducible refine i_gN ?_)
local macro_rules | `(tactic| walk_at "st") => `(tactic| with_reducible refine i_iR1 ?_)
local macro_rules | `(tactic| walk_at "st") => `(tactic| with_reducible refine i_iD ?_)
local macro_rules | `(tactic| walk_at "st") => `(tactic| with_reducible refine i_cdG ?_)
local macro_rules | `(tactic| walk_at "st") => `(tactic| with_reducible refine i_reverse ?_)
local macro_rules | `(tactic| walk_at "st") => `(tactic| with_reducible refine i_pop ?_)
local macro_rules | `(tactic| walk_at "st") => `(tactic| with_reducible refine i_extend ?_)
local macro_rules | `(tactic| walk_at "st") => `(tactic| with_reducible refine i_append ?_)
local macro_rules | `(tactic| walk_at "st") => `(tactic| with_reducible refine i_someP ?_)
local macro_rules | `(tactic| walk_at "st") => `(tactic| with_reducible refine i_noP ?_)
local macro_rules | `(tactic| walk_at "st") => `(tactic| with_reducible refine i_sl ?_)
local macro_rules | `(tactic| walk_at "st") => `(tactic| with_reducible refine i_call ?_)
local macro_rules | `(tactic| walk_at "st") => `(tactic| with_reducible refine i_cb ?_)
local macro_rules | `(tactic| walk_at "st") => `(tactic| with_reducible refine i_neg1 ?_)
local macro_rules | `(tactic| walk_at "st") => `(tactic| with_reducible refine i_neg ?_)
local macro_rules | `(tactic| walk_at "st") => `(tactic| with_reducible refine i_ifE ?_)
local macro_rules | `(tactic| walk_at "st") => `(tactic| with_reducible refine i_notV ?_)
local macro_rules | `(tactic| walk_at "st") => `(tactic| with_reducible refine i_orV ?_)
local macro_rules | `(tactic| walk_at "st") => `(tactic| with_reducible refine i_andV ?_)
local macro_rules | `(tactic| walk_at "st") => `(tactic| with_reducible refine i_not ?_)
local macro_rules | `(tactic| walk_at "st") => `(tactic| with_reducible refine i_or ?_)
local macro_rules | `(tactic| walk_at "st") => `(tactic| with_reducible refine i_and ?_)
local macro_rules | `(tactic| walk_at "st") => `(tactic| with_reducible refine i_tru ?_)
local macro_rules | `(tactic| walk_at "st") => `(tactic| with_reducible refine i_bl ?_)
local macro_rules | `(tactic| walk_at "st") => `(tactic| with_reducible refine i_tb ?_)
local macro_rules | `(tactic| walk_at "st") => `(tactic| with_reducible refine i_cons ?_)
local macro_rules | `(tactic| walk_at "st") => `(tactic| with_reducible refine i_nil ?_)
local macro_rules | `(tactic| walk_at "st") => `(tactic| with_reducible refine i_lst ?_)
local macro_rules | `(tactic| walk_at "st") => `(tactic| with_reducible refine i_tup ?_)
local macro_rules | `(tactic| walk_at "st") => `(tactic| with_reducible refine i_op ?_)
local macro_rules | `(tactic| walk_at "st") => `(tactic| with_reducible refine i_c ?_)
local macro_rules | `(tactic| walk_at "st") => `(tactic| with_reducible refine i_par2 ?_)
local macro_rules | `(tactic| walk_at "st") => `(tactic| with_reducible refine i_par ?_)
local macro_rules | `(tactic| walk_at "st") => `(tactic| with_reducible refine i_setL ?_)
local macro_rules | `(tactic| walk_at "st") => `(tactic| with_reducible refine i_cnt ?_)
local macro_rules | `(tactic| walk_at "st") => `(tactic| with_reducible refine i_brk ?_)
local macro_rules | `(tactic| walk_at "st") => `(tactic| with_reducible refine i_skip ?_)
local macro_rules | `(tactic| walk_at "st") => `(tactic| with_reducible refine i_if ?_)
local macro_rules | `(tactic| walk_at "st") => `(tactic| with_reducible refine i_retN ?_)
local macro_rules | `(tactic| walk_at "st") => `(tactic| with_reducible refine i_ret ?_)
local macro_rules | `(tactic| walk_at "st") => `(tactic| with_reducible refine i_drop ?_)
local macro_rules | `(tactic| walk_at "st") => `(tactic| with_reducible refine i_asg ?_)
local macro_rules | `(tactic| walk_at "st") => `(tactic| with_reducible refine i_set2 ?_)
local macro_rules | `(tactic| walk_at "st") => `(tactic| with_reducible refine i_set ?_)
local macro_rules | `(tactic| walk_at "st") => `(tactic| with_reducible refine i_seq ?_)
local macro_rules | `(tactic| walk_at "sts") => `(tactic| repeat walk_at "st")
theorem i_disp {t : List (DTE × DTE)} {ε : DL.Env} {S : Sto} {Q : DK} (h : ∀ p, S p = none → dPairs t ε (put S p (dcell [])) fun ps S2 => S2 p = some (dcell []) ∧ ∃ l : KD, ps = l.map (fun q => (kD q.1, q.2)) ∧ l.length ≤ 15 ∧ Q (.ref p) (put S2 p (dcell (kMerge [] l)))) : dDisp t ε S Q := h
theorem i_pn {ε : DL.Env} {S : Sto} {R : List (D × D) → Sto → Prop} (h : R [] S) : dPairs [] ε S R := h
theorem i_pc {tk tv : DTE} {r : List (DTE × DTE)} {ε : DL.Env} {S : Sto} {R : List (D × D) → Sto → Prop} (h : tk ε S fun x S1 => tv ε S1 fun y S2 => dPairs r ε S2 fun ps S3 => R ((x, y) :: ps) S3) : dPairs ((tk, tv) :: r) ε S R := h
/-- a dict of scalars -/
structure DOk (l : KD) (n : Nat) : Prop where
  n : l.length ≤ n
  k : (l.map (·.1)).Nodup
  s : ∀ p ∈ l, (scV p.2).isSome = true
theorem kRepl_mem : ∀ {l : KD} {k : Key} {d : D} {p : Key × D}, p ∈ kRepl l k d → p ∈ l ∨ p.2 = d
  | [], _, _, _, h => by cases h
  | q :: r, k, d, p, h => by
    unfold kRepl at h
    rcases List.mem_cons.mp h with e | e
    · by_cases c : q.1 = k
      · rw [if_pos c] at e; rw [e]; exact .inr rfl
      · rw [if_neg c] at e; rw [e]; exact .inl List.mem_cons_self
    · rcases kRepl_mem e with z | z
      · exact .inl (List.mem_cons_of_mem _ z)
      · exact .inr z
theorem DOk.put {l : KD} {n : Nat} {k : Key} {d : D} (h : DOk l n) (hd : (scV d).isSome = true) : DOk (kPut l k d) (n + 1) := by
  refine ⟨Nat.le_trans (kPut_len l k d) (by have := h.n; omega), kPut_nodup h.k, fun p hp => ?_⟩
  unfold kPut at hp
  split at hp
  · rcases kRepl_mem hp with z | z
    · exact h.s p z
    · rw [z]; exact hd
  · rcases List.mem_append.mp hp with z | z
    · exact h.s p z
    · have e : p = (k, d) := by simpa using z
      rw [e]; exact hd
theorem big_bb {r : Int} (h0 : 0 ≤ r) (h1 : r < 10 ^ 9) : 0 ≤ (10 ^ 60 * 10 ^ 60 * 10 ^ 60 + r : Int) ∧ BB 600 (10 ^ 60 * 10 ^ 60 * 10 ^ 60 + r) := by
  obtain ⟨n, rfl⟩ := Int.eq_ofNat_of_zero_le h0
  have e : (10 ^ 60 * 10 ^ 60 * 10 ^ 60 + (n : Int) : Int) = ((10 ^ 60 * 10 ^ 60 * 10 ^ 60 + n : Nat) : Int) := by
    rw [Int.natCast_add]
    rfl
  rw [e]
  refine ⟨Int.natCast_nonneg _, ?_⟩
  unfold BB
  rw [Int.natAbs_natCast]
  have hn : n < 10 ^ 9 := by omega
  exact Nat.lt_of_lt_of_le (Nat.add_lt_add_left hn _) (by decide +kernel)
/-- the law's state -/
structure St7 (S S1 : Sto) (b g u : Addr) (c : Nat) (xs : List Str) : Prop where
  bag : Bag S1 b g c
  u : S1 u = some (.lst (xs.map .str))
  le : Le S S1
structure Fx (S : Sto) (b g u : Addr) : Prop where
  hb : S b = none
  hg : S g = none
  hu : S u = none
  ub : u ≠ b
  ug : u ≠ g
theorem St7.kp {S S1 S2 : Sto} {b g u : Addr} {c d : Nat} {xs : List Str} (h : St7 S S1 b g u c xs) (f : Fx S b g u) (b2 : Bag S2 b g d) (k : Kp S1 S2 b g) : St7 S S2 b g u d xs :=
  ⟨b2, k _ _ f.ub f.ug h.u, fun a c e => k a c (fun z => by subst z; rw [f.hb] at e; cases e) (fun z => by subst z; rw [f.hg] at e; cases e) (h.le a c e)⟩
theorem St7.up {S S1 S2 : Sto} {b g u : Addr} {c : Nat} {xs : List Str} (h : St7 S S1 b g u c xs) (l : Le S1 S2) : St7 S S2 b g u c xs :=
  ⟨h.bag.le l, l _ _ h.u, h.le.trans l⟩
theorem St7.wr {S S1 : Sto} {b g u p : Addr} {c : Nat} {xs : List Str} {cl : Cell} (h : St7 S S1 b g u c xs) (hb : p ≠ b) (hg : p ≠ g) (hu : p ≠ u) (hS : S p = none) : St7 S (put S1 p cl) b g u c xs :=
  ⟨h.bag.wr hb hg, (put_ne (Ne.symm hu)).trans h.u, lePut h.le hS⟩
theorem St7.c {S S1 : Sto} {b g u : Addr} {c d : Nat} {xs : List Str} (h : St7 S S1 b g u c xs) (l : c ≤ d) : St7 S S1 b g u d xs := ⟨h.bag.up l, h.u, h.le⟩
theorem St7.new {S S1 : Sto} {b g u p : Addr} {c : Nat} {xs : List Str} (h : St7 S S1 b g u c xs) (hp : S1 p = none) : p ≠ b ∧ p ≠ g ∧ p ≠ u ∧ S p = none :=
  ⟨(h.bag.fresh hp).1, (h.bag.fresh hp).2, fun e => (by subst e; rw [h.u] at hp; cases hp), leNone h.le hp⟩
theorem rd_law (cA : Addr) (ds : List D) (S : Sto) (Q : DK) (E : DX) (h : sp_law ds S Q E) : t_law cA { nx := fun _ S' => Dn Q .non S', rt := Dn Q } (startD 10 ds) S := by
  obtain ⟨ns, rfl, k⟩ := h
  unfold t_law
  walk_at "sts"
  refine ⟨ns, rfl, fun b g S1 b1 hb hg k1 => ?_⟩
  walk_at "sts"
  intro u hu
  have L1 : Le S S1 := fun a c e => k1 a c (fun z => by subst z; rw [hb] at e; cases e) (fun z => by subst z; rw [hg] at e; cases e) e
  have hub := b1.fresh hu
  have f : Fx S b g u := ⟨hb, hg, leNone L1 hu, hub.1, hub.2⟩
  have s2 : St7 S (put S1 u (.lst [])) b g u 0 [] := ⟨b1.put' hu, put_same, L1.put hu⟩
  generalize put S1 u (.lst []) = S2 at s2 ⊢
  walk_at "sts"
  unfold dFor
  walk_at "sts"
  refine ⟨by decide, by decide, fun i ε S3 => ∃ xs e3, ε = [some (.cl (ns.map .int)), some (.ref b), some (.ref u), e3, none, none, none, none, none, none] ∧ St7 S S3 b g u (4 * i) xs ∧ xs.length = i ∧ (∀ x ∈ xs, IsNm x), ⟨[], none, rfl, s2, rfl, fun x h => by cases h⟩, fun _ _ _ _ _ => trivial, fun i x ε S3 hx w => ?_, fun ε S3 w => ?_⟩
  · obtain ⟨xs, e3, rfl, s3, hl, hn⟩ := w
    have hi : i < 3 := by
      have := (List.getElem?_eq_some_iff.mp hx).1
      simpa using this
    walk_at "sts"
    refine ⟨b, g, u, 4 * i, xs, rfl, by omega, s3.bag, f.ub, f.ug, s3.u, by omega, fun nm S4 hnm b4 u4 k4 => ?_⟩
    refine ⟨xs ++ [nm], _, rfl, ⟨b4.up (by omega), u4, fun a c e => k4 a c (fun z => by subst z; rw [f.hb] at e; cases e) (fun z => by subst z; rw [f.hg] at e; cases e) (fun z => by subst z; rw [f.hu] at e; cases e) (s3.le a c e)⟩, by rw [List.length_append, List.length_singleton, hl], fun y hy => ?_⟩
    rcases List.mem_append.mp hy with h | h
    · exact hn y h
    · have : y = nm := by simpa using h
      rw [this]; exact hnm
  obtain ⟨xs, e3, rfl, s3, hl, hn⟩ := w
  have hl3 : xs.length = 3 := by rw [hl]; rfl
  have hc12 : 4 * ((List.range (3 : Int).toNat).map fun (i : Nat) => D.int (i : Int)).length = 12 := rfl
  rw [hc12] at s3
  clear hl hc12
  walk_at "sts"
  refine ⟨u, _, 2, 2, rfl, rfl, s3.u, by rw [List.length_map, hl3]; rfl, ?_⟩
  obtain ⟨ys, hys⟩ : ∃ ys : List Str, ys = xs.set 2 "x'7" := ⟨_, rfl⟩
  have hyl : ys.length = 3 := by rw [hys, List.length_set]; exact hl3
  have hyn : ∀ x ∈ ys, x ≠ "" ∧ x.length ≤ 100 := by
    intro x hx
    rw [hys] at hx
    rcases List.mem_or_eq_of_mem_set hx with h | h
    · exact ⟨(hn x h).ne, Nat.le_trans (hn x h).len (by decide)⟩
    · rw [h]; exact ⟨by decide +kernel, by decide +kernel⟩
  have s4 : St7 S (put S3 u (.lst ((xs.map D.str).set 2 (.str "x'7")))) b g u 12 ys := by
    refine ⟨s3.bag.wr f.ub f.ug, ?_, lePut s3.le f.hu⟩
    rw [put_same, hys, List.map_set]
  generalize put S3 u (.lst ((xs.map D.str).set 2 (.str "x'7"))) = S4 at s4 ⊢
  clear hn hys s3 hl3
  walk_at "sts"
  refine ⟨by decide, by decide, fun i ε S5 => ∃ e4 e5 e6 e7 e8 e9, ε = [some (.cl (ns.map .int)), some (.ref b), some (.ref u), e3, e4, e5, e6, e7, e8, e9] ∧ St7 S S5 b g u (12 + 1600 * i) ys, ⟨_, _, _, _, _, _, rfl, s4⟩, fun _ _ _ _ _ => trivial, fun i x ε S5 hx w => ?_, fun ε S5 w => ?_⟩
  rotate_left
  · obtain ⟨e4, e5, e6, e7, e8, e9, rfl, s5⟩ := w
    walk_at "sts"
    exact i_dnL s5.le k
  obtain ⟨e4, e5, e6, e7, e8, e9, rfl, s5⟩ := w
  have hi : i < 4 := by
    have := (List.getElem?_eq_some_iff.mp hx).1
    simpa using this
  walk_at "sts"
  refine ⟨5, b, g, u, 12 + 1600 * i, ys, by decide, rfl, by omega, s5.bag, f.ub, f.ug, s5.u, hyl, fun x hx => (hyn x hx).1, fun t S6 T hf b6 k6 => ?_⟩
  have s6 := s5.kp f b6 k6
  have tz : t.sz ≤ 63 := by have := T.sz; omega
  walk_at "sts"
  refine i_disp fun p hp => ?_
  have hpn := s6.new hp
  refine i_pc ?_
  walk_at "sts"
  refine i_pc ?_
  walk_at "sts"
  refine i_pn ?_
  refine ⟨put_same, [(.inr "", .non), (.inr "other", .int (-1))], rfl, by decide, ?_⟩
  have d0 : DOk (kMerge [] [(.inr "", .non), (.inr "other", .int (-1))]) 2 := ((show DOk [] 0 from ⟨Nat.le_refl 0, .nil, fun p h => by cases h⟩).put (k := .inr "") (d := .non) rfl).put (k := .inr "other") (d := .int (-1)) rfl
  generalize kMerge [] [(.inr "", .non), (.inr "other", .int (-1))] = l0 at d0 ⊢
  have s7 : St7 S (put (put S6 p (dcell [])) p (dcell l0)) b g u (12 + 1600 * i + 6 * 3 ^ 5) ys := (s6.wr hpn.1 hpn.2.1 hpn.2.2.1 hpn.2.2.2).wr hpn.1 hpn.2.1 hpn.2.2.1 hpn.2.2.2
  have hp7 : put (put S6 p (dcell [])) p (dcell l0) p = some (dcell l0) := put_same
  generalize put (put S6 p (dcell [])) p (dcell l0) = S7 at s7 hp7 ⊢
  have h35 : 6 * 3 ^ 5 = 1458 := by decide
  rw [h35] at s7
  walk_at "sts"
  refine ⟨ys.map .str, by show (match S7 u with | some (.lst xs) => some xs | _ => none) = _; rw [s7.u], ?_⟩
  refine ⟨fun j ε S8 => ∃ l e7, ε = [some (.cl (ns.map .int)), some (.ref b), some (.ref u), e3, some x, some t.d, some (.ref p), e7, e8, e9] ∧ S8 p = some (dcell l) ∧ DOk l (2 + j) ∧ (∀ y ∈ ys.take j, OkE l y) ∧ St7 S S8 b g u (12 + 1600 * i + 1458 + 6 * j) ys,
    ⟨l0, _, rfl, hp7, d0, fun y h => by simp at h, s7⟩, fun j ε S8 _ w => ?_, fun j z ε S8 hz w => ?_, fun ε S8 w => ?_⟩
  · obtain ⟨l, e7, _, _, _, _, h⟩ := w
    exact h.u
  · obtain ⟨l, e7, rfl, hp8, hd, hok, s8⟩ := w
    rw [List.getElem?_map] at hz
    obtain ⟨y, hy, rfl⟩ := Option.map_eq_some_iff.mp hz
    have hj : j < 3 := by
      have := (List.getElem?_eq_some_iff.mp hy).1
      rw [hyl] at this
      exact this
    have fin : ∀ (v : Int) (S9 : Sto), 0 ≤ v → BB 600 v → S9 p = some (dcell l) → St7 S S9 b g u (12 + 1600 * i + 1458 + 6 * j + 6) ys →
        ∃ l' e7, ([some (.cl (ns.map .int)), some (.ref b), some (.ref u), e3, some x, some t.d, some (.ref p), some (.str y), e8, e9] : DL.Env) = [some (.cl (ns.map .int)), some (.ref b), some (.ref u), e3, some x, some t.d, some (.ref p), e7, e8, e9] ∧ put S9 p (dcell (kPut l (.inr y) (.int v))) p = some (dcell l') ∧ DOk l' (2 + (j + 1)) ∧ (∀ y ∈ ys.take (j + 1), OkE l' y) ∧ St7 S (put S9 p (dcell (kPut l (.inr y) (.int v)))) b g u (12 + 1600 * i + 1458 + 6 * (j + 1)) ys := by
      intro v S9 h0 hb h9 s9
      refine ⟨_, _, rfl, put_same, hd.put rfl, fun z hz' => ?_, (s9.wr hpn.1 hpn.2.1 hpn.2.2.1 hpn.2.2.2).c (by omega)⟩
      by_cases e : z = y
      · subst e
        exact ⟨v, by rw [kGet_put, if_pos rfl], h0, hb⟩
      · rw [List.take_add_one, hy] at hz'
        rcases List.mem_append.mp hz' with h | h
        · obtain ⟨v', a1, a2, a3⟩ := hok z h
          exact ⟨v', by rw [kGet_put, if_neg (fun q => e (Sum.inr.inj q))]; exact a1, a2, a3⟩
        · exact absurd (by simpa using h) e
    refine i_setK ?_
    walk_at "sts"
    refine ⟨b, g, 12 + 1600 * i + 1458 + 6 * j, 20, rfl, by decide, by decide, by omega, s8.bag, fun r1 S9 r10 r11 b9 k9 => ?_⟩
    have s9 := s8.kp f b9 k9
    have hp9 := k9 p _ hpn.1 hpn.2.1 hp8
    walk_at "sts"
    refine i_intC ⟨by decide, by decide +kernel⟩ ?_
    walk_at "sts"
    refine i_intC ⟨by decide, by decide +kernel⟩ ?_
    refine i_intC (by unfold CMulW; decide +kernel) ?_
    walk_at "sts"
    refine i_intC ⟨by decide, by decide +kernel⟩ ?_
    refine i_intC (by unfold CMulW; decide +kernel) ?_
    walk_at "sts"
    refine i_intC ⟨by decide, by decide +kernel⟩ ?_
    walk_at "sts"
    refine ⟨b, g, _, _, rfl, by decide +kernel, by decide +kernel, ?_, s9.bag, fun r2 S10 r20 r21 b10 k10 => ?_⟩
    · omega
    have s10 := s9.kp f b10 k10
    have hp10 := k10 p _ hpn.1 hpn.2.1 hp9
    walk_at "sts"
    refine ⟨b, g, _, rfl, ?_, s10.bag, fun r3 S11 hr3 b11 k11 => ?_⟩
    · omega
    have s11 := s10.kp f b11 k11
    have hp11 := k11 p _ hpn.1 hpn.2.1 hp10
    walk_at "sts"
    intro q hq
    walk_at "sts"
    have s12 := s11.wr (cl := .lst [.int r1, .int (10 ^ 60 * 10 ^ 60 * 10 ^ 60 + r2), .int r3]) (s11.new hq).1 (s11.new hq).2.1 (s11.new hq).2.2.1 (s11.new hq).2.2.2
    have hqp : q ≠ p := fun e => by subst e; rw [hp11] at hq; cases hq
    have hp12 : put S11 q (.lst [.int r1, .int (10 ^ 60 * 10 ^ 60 * 10 ^ 60 + r2), .int r3]) p = some (dcell l) := (put_ne (Ne.symm hqp)).trans hp11
    have hq12 : put S11 q (.lst [.int r1, .int (10 ^ 60 * 10 ^ 60 * 10 ^ 60 + r2), .int r3]) q = some (.lst [.int r1, .int (10 ^ 60 * 10 ^ 60 * 10 ^ 60 + r2), .int r3]) := put_same
    have hqn := s11.new hq
    generalize hS12 : put S11 q (.lst [.int r1, .int (10 ^ 60 * 10 ^ 60 * 10 ^ 60 + r2), .int r3]) = S12 at s12 hp12 hq12
    refine ⟨b, g, _, 3, rfl, by decide, by decide, ?_, (by rw [← hS12] at s12; exact s12.bag), fun w S13 w0 w1 b13 k13 => ?_⟩
    · omega
    have k13' : Kp S12 S13 b g := by rw [← hS12]; exact k13
    have s13 := s12.kp f b13 k13'
    have hp13 := k13' p _ hpn.1 hpn.2.1 hp12
    have hq13 := k13' q _ hqn.1 hqn.2.1 hq12
    have hls : l.length < sizeLine := Nat.lt_of_le_of_lt hd.n (Nat.lt_of_le_of_lt (by omega : _ ≤ 100) (by decide))
    have hw : w = 0 ∨ w = 1 ∨ w = 2 := by omega
    have hbig := big_bb r20 (by exact r21)
    rcases hw with rfl | rfl | rfl
    · refine i_ixR hq13 (d := .int r1) rfl ?_
      walk_at "sts"
      refine ⟨p, l, .inr y, rfl, rfl, hp13, hls, ?_⟩
      exact fin r1 S13 r10 ((show BB 20 r1 from by unfold BB; omega).mono (by decide)) hp13 (s13.c (by omega))
    · refine i_ixR hq13 (d := .int (10 ^ 60 * 10 ^ 60 * 10 ^ 60 + r2)) rfl ?_
      walk_at "sts"
      refine ⟨p, l, .inr y, rfl, rfl, hp13, hls, ?_⟩
      exact fin _ S13 hbig.1 hbig.2 hp13 (s13.c (by omega))
    · refine i_ixR hq13 (d := .int r3) rfl ?_
      walk_at "sts"
      refine ⟨p, l, .inr y, rfl, rfl, hp13, hls, ?_⟩
      exact fin _ S13 (Int.natCast_nonneg _) ((BB.small hr3).mono (by decide)) hp13 (s13.c (by omega))
  obtain ⟨l, e7', rfl, hp8, hd, hok, s8⟩ := w
  rw [List.length_map, hyl] at hd s8
  rw [List.length_map, List.take_length] at hok
  have hE : ∀ z, t.free [] z → OkE l z ∧ z.length ≤ 100 := fun z hz => ⟨hok z (hf z hz), (hyn z (hf z hz)).2⟩
  have A : ∀ S', Asked S' t l := fun S' => ⟨⟨T.wf, T.kind, by omega⟩, by omega, fun z hz => ⟨(hE z hz).2, fun d e => ?_, fun v e => ?_⟩⟩
  rotate_left
  · rw [(hE z hz).1.ev.1] at e; cases e; exact ⟨_, .int _⟩
  · rw [(hE z hz).1.ev.1] at e; cases e; exact (hE z hz).1.ev.2.2
  walk_at "sts"
  refine i_dict hp8 fun p2 hp2 => ?_
  have s9 := s8.up (lePut (Le.refl S8) (c := dcell l) hp2)
  have hpp : p ≠ p2 := fun e => by subst e; rw [hp8] at hp2; cases hp2
  have hp9 : put S8 p2 (dcell l) p = some (dcell l) := (put_ne hpp).trans hp8
  have hp29 : put S8 p2 (dcell l) p2 = some (dcell l) := put_same
  have hp2n := s8.new hp2
  generalize put S8 p2 (dcell l) = S9 at s9 hp9 hp29 ⊢
  walk_at "sts"
  refine ⟨t, p, l, T.ht, T.wf, T.kind, by omega, rfl, hp9, fun z hz => (hE z hz).1, ?_⟩
  walk_at "sts"
  refine ⟨t, p, l, A _, rfl, hp9, fun _ S10 L10 => ?_, fun ⟨z, hz, hno⟩ => (hno (hE z hz).1.i).elim⟩
  walk_at "sts"
  refine .inl ⟨_, rfl, fun S11 L11 => ?_⟩
  walk_at "sts"
  refine i_callK2 ?_
  walk_at "sts"
  have L911 := L10.trans L11
  refine ⟨t.d, .ref p, rfl, t, p, l, A _, rfl, L911 _ _ hp9, fun _ S12 L12 => ?_, fun ⟨z, hz, hno⟩ => (hno (hE z hz).1.i).elim⟩
  walk_at "sts"
  refine .inl ⟨_, rfl, fun S13 L13 => ?_⟩
  have L := (L911.trans L12).trans L13
  have s13 := s9.up L
  have hp13 := L _ _ hp9
  have hp213 := L _ _ hp29
  walk_at "sts"
  refine i_neK hp13 hp213 hd.k hd.s ?_
  walk_at "sts"
  refine ⟨b, g, _, 3, rfl, by decide, by decide, ?_, s13.bag, fun w S14 w0 w1 b14 k14 => ?_⟩
  · omega
  have s14 := s13.kp f b14 k14
  have hp14 := k14 p _ hpn.1 hpn.2.1 hp13
  refine i_ixRs s14.u w0 (by rw [hyl]; exact w1) fun y hy => ?_
  walk_at "sts"
  refine ⟨b, g, p, _, t, l, y, rfl, T, ?_, s14.bag, hpn.1, hpn.2.1, hp14, Nat.le_trans hd.n (by decide), hE, hok y hy, fun S15 b15 k15 => ?_⟩
  · omega
  have s15 := s14.kp f b15 k15
  walk_at "sts"
  exact ⟨_, _, _, _, _, _, rfl, s15.c (by omega)⟩
end K07
end
section
namespace K07
open PySem PySem.Spec PyProof.Rows L2 DL DLZ TR TS
def topS (i : Nat) : Stmt := PySem.Challenge.pw_sumwarden_k07_values_of_sums.main.body.getD i (.Pass ⟨0, 0, 0, 0⟩)
abbrev s_is_number : Stmt := topS 18
abbrev N_is_number : List Str := ["value", "least", "most"]
theorem sc_is_number : FnScope N_is_number ["value", "least", "most"] (defScope s_is_number) := ⟨rfl, rfl, rfl, by decide +kernel, rfl, by decide +kernel, by decide +kernel⟩
abbrev s_is_whole : Stmt := topS 19
abbrev N_is_whole : List Str := ["value"]
theorem sc_is_whole : FnScope N_is_whole ["value"] (defScope s_is_whole) := ⟨rfl, rfl, rfl, by decide +kernel, rfl, by decide +kernel, by decide +kernel⟩
abbrev s_is_leaf : Stmt := topS 20
abbrev N_is_leaf : List Str := ["value", "kind", "of_text"]
theorem sc_is_leaf : FnScope N_is_leaf ["value", "kind", "of_text"] (defScope s_is_leaf) := ⟨rfl, rfl, rfl, by decide +kernel, rfl, by decide +kernel, by decide +kernel⟩
abbrev s_fields_of : Stmt := topS 21
abbrev N_fields_of : List Str := ["value", "kind", "fields"]
theorem sc_fields_of : FnScope N_fields_of ["value", "kind"] (defScope s_fields_of) := ⟨rfl, rfl, rfl, by decide +kernel, rfl, by decide +kernel, by decide +kernel⟩
abbrev s_is_shaped : Stmt := topS 22
abbrev N_is_shaped : List Str := ["value", "kind", "of_text", "trees", "statements", "met_trees", "met_statements", "left", "part", "told", "member_kind", "member", "fields"]
theorem sc_is_shaped : FnScope N_is_shaped ["value", "kind", "of_text", "trees", "statements"] (defScope s_is_shaped) := ⟨rfl, rfl, rfl, by decide +kernel, rfl, by decide +kernel, by decide +kernel⟩
abbrev s_is_sum : Stmt := topS 23
abbrev N_is_sum : List Str := ["value"]
theorem sc_is_sum : FnScope N_is_sum ["value"] (defScope s_is_sum) := ⟨rfl, rfl, rfl, by decide +kernel, rfl, by decide +kernel, by decide +kernel⟩
abbrev s_parts_of : Stmt := topS 30
abbrev N_parts_of : List Str := ["tree", "word"]
theorem sc_parts_of : FnScope N_parts_of ["tree"] (defScope s_parts_of) := ⟨rfl, rfl, rfl, by decide +kernel, rfl, by decide +kernel, by decide +kernel⟩
abbrev s_ordered : Stmt := topS 31
abbrev N_ordered : List Str := ["tree", "found", "left", "part"]
theorem sc_ordered : FnScope N_ordered ["tree"] (defScope s_ordered) := ⟨rfl, rfl, rfl, by decide +kernel, rfl, by decide +kernel, by decide +kernel⟩
abbrev s_scoped : Stmt := topS 32
abbrev N_scoped : List Str := ["tree", "found", "left", "part", "told", "inner", "below"]
theorem sc_scoped : FnScope N_scoped ["tree"] (defScope s_scoped) := ⟨rfl, rfl, rfl, by decide +kernel, rfl, by decide +kernel, by decide +kernel⟩
abbrev s_free_names : Stmt := topS 33
abbrev N_free_names : List Str := ["tree", "part", "told"]
theorem sc_free_names : FnScope N_free_names ["tree"] (defScope s_free_names) := ⟨rfl, rfl, rfl, by decide +kernel, rfl, by decide +kernel, by decide +kernel⟩
abbrev s_divided : Stmt := topS 35
abbrev N_divided : List Str := ["word", "number", "by", "quotient"]
theorem sc_divided : FnScope N_divided ["word", "number", "by"] (defScope s_divided) := ⟨rfl, rfl, rfl, by decide +kernel, rfl, by decide +kernel, by decide +kernel⟩
abbrev s_made_of_one : Stmt := topS 37
abbrev N_made_of_one : List Str := ["part", "below", "word"]
theorem sc_made_of_one : FnScope N_made_of_one ["part", "below"] (defScope s_made_of_one) := ⟨rfl, rfl, rfl, by decide +kernel, rfl, by decide +kernel, by decide +kernel⟩
abbrev s_made_of_two : Stmt := topS 38
abbrev N_made_of_two : List Str := ["word", "left", "right"]
theorem sc_made_of_two : FnScope N_made_of_two ["word", "left", "right"] (defScope s_made_of_two) := ⟨rfl, rfl, rfl, by decide +kernel, rfl, by decide +kernel, by decide +kernel⟩
abbrev s_made_of : Stmt := topS 39
abbrev N_made_of : List Str := ["tree", "at", "made", "part", "word", "right", "left"]
theorem sc_made_of : FnScope N_made_of ["tree", "at"] (defScope s_made_of) := ⟨rfl, rfl, rfl, by decide +kernel, rfl, by decide +kernel, by decide +kernel⟩
abbrev s_worth : Stmt := topS 40
abbrev N_worth : List Str := ["amount", "at"]
theorem sc_worth : FnScope N_worth ["amount", "at"] (defScope s_worth) := ⟨rfl, rfl, rfl, by decide +kernel, rfl, by decide +kernel, by decide +kernel⟩
abbrev s_check_sum : Stmt := topS 42
abbrev N_check_sum : List Str := ["amount"]
theorem sc_check_sum : FnScope N_check_sum ["amount"] (defScope s_check_sum) := ⟨rfl, rfl, rfl, by decide +kernel, rfl, by decide +kernel, by decide +kernel⟩
abbrev s_check_at : Stmt := topS 43
abbrev N_check_at : List Str := ["names", "at", "name"]
theorem sc_check_at : FnScope N_check_at ["names", "at"] (defScope s_check_at) := ⟨rfl, rfl, rfl, by decide +kernel, rfl, by decide +kernel, by decide +kernel⟩
abbrev s_value : Stmt := topS 44
abbrev N_value : List Str := ["amount", "at"]
theorem sc_value : FnScope N_value ["amount", "at"] (defScope s_value) := ⟨rfl, rfl, rfl, by decide +kernel, rfl, by decide +kernel, by decide +kernel⟩
abbrev s_law_bag : Stmt := topS 46
abbrev N_law_bag : List Str := ["script", "great", "seed", "cell"]
theorem sc_law_bag : FnScope N_law_bag ["script"] (defScope s_law_bag) := ⟨rfl, rfl, rfl, by decide +kernel, rfl, by decide +kernel, by decide +kernel⟩
abbrev s_law_take : Stmt := topS 47
abbrev N_law_take : List Str := ["bag", "many", "great", "got", "mixed"]
theorem sc_law_take : FnScope N_law_take ["bag", "many"] (defScope s_law_take) := ⟨rfl, rfl, rfl, by decide +kernel, rfl, by decide +kernel, by decide +kernel⟩
abbrev s_law_kind_same : Stmt := topS 48
abbrev N_law_kind_same : List Str := ["told", "due", "pairs", "one", "two", "k"]
theorem sc_law_kind_same : FnScope N_law_kind_same ["told", "due"] (defScope s_law_kind_same) := ⟨rfl, rfl, rfl, by decide +kernel, rfl, by decide +kernel, by decide +kernel⟩
abbrev s_law_worth : Stmt := topS 49
abbrev N_law_worth : List Str := ["amount", "env", "kind", "inner"]
theorem sc_law_worth : FnScope N_law_worth ["amount", "env"] (defScope s_law_worth) := ⟨rfl, rfl, rfl, by decide +kernel, rfl, by decide +kernel, by decide +kernel⟩
abbrev s_law_number : Stmt := topS 50
abbrev N_law_number : List Str := ["bag", "kind"]
theorem sc_law_number : FnScope N_law_number ["bag"] (defScope s_law_number) := ⟨rfl, rfl, rfl, by decide +kernel, rfl, by decide +kernel, by decide +kernel⟩
abbrev s_law_name : Stmt := topS 51
abbrev N_law_name : List Str := ["bag", "used", "words", "stems", "stem", "signs", "k", "name"]
theorem sc_law_name : FnScope N_law_name ["bag", "used"] (defScope s_law_name) := ⟨rfl, rfl, rfl, by decide +kernel, rfl, by decide +kernel, by decide +kernel⟩
abbrev s_law_sum_names : Stmt := topS 52
abbrev N_law_sum_names : List Str := ["amount"]
theorem sc_law_sum_names : FnScope N_law_sum_names ["amount"] (defScope s_law_sum_names) := ⟨rfl, rfl, rfl, by decide +kernel, rfl, by decide +kernel, by decide +kernel⟩
abbrev s_law_deep_sum : Stmt := topS 53
abbrev N_law_deep_sum : List Str := ["bag", "names", "deep", "kind", "inner"]
theorem sc_law_deep_sum : FnScope N_law_deep_sum ["bag", "names", "deep"] (defScope s_law_deep_sum) := ⟨rfl, rfl, rfl, by decide +kernel, rfl, by decide +kernel, by decide +kernel⟩
abbrev s_law_told : Stmt := topS 54
abbrev N_law_told : List Str := ["amount", "at"]
theorem sc_law_told : FnScope N_law_told ["amount", "at"] (defScope s_law_told) := ⟨rfl, rfl, rfl, by decide +kernel, rfl, by decide +kernel, by decide +kernel⟩
abbrev s_law_unfit : Stmt := topS 55
abbrev N_law_unfit : List Str := ["bag", "amount", "at", "name", "inner", "wrong", "due"]
theorem sc_law_unfit : FnScope N_law_unfit ["bag", "amount", "at", "name"] (defScope s_law_unfit) := ⟨rfl, rfl, rfl, by decide +kernel, rfl, by decide +kernel, by decide +kernel⟩
abbrev s_law : Stmt := topS 56
abbrev N_law : List Str := ["script", "bag", "names", "k", "turn", "amount", "at", "name", "kept", "due"]
theorem sc_law : FnScope N_law ["script"] (defScope s_law) := ⟨rfl, rfl, rfl, by decide +kernel, rfl, by decide +kernel, by decide +kernel⟩
theorem drv_is_number {C : Wd}  {fa : Addr} (z_isinstance : C.mg "isinstance" = none) (z_bool : C.mg "bool" = none) (z_int : C.mg "int" = none) (cdv : Value) (A : Around) (outer : List PySem.Env) (s : Shared) (H : Hp) (E : XK) (hr : Room 0 (A.deeper (envOfC "is_number" (defScope s_is_number) s.heap.objs.size fa cdv))) :
    DSs (XC C N_is_number "is_number" s_is_number fa cdv A outer s H E) (defBody s_is_number) (t_is_number ) := by
  have hu := hu_of hr
  exact dss_cons (ds_if (DW.dt (dw_or (dt_not (dt_tru (de_callB dcl_isi (by rfl) z_isinstance (by decide +kernel) (da_cons (DL.dv 0) (da_cons (de_bltn (by rfl) z_int (by decide +kernel)) (da_nil)))))) (dw_or1 (dt_tru (de_callB dcl_isi (by rfl) z_isinstance (by decide +kernel) (da_cons (DL.dv 0) (da_cons (de_bltn (by rfl) z_bool (by decide +kernel)) (da_nil)))))))) (dss_one (ds_ret (de_bl))) (dss_nil))
      (dss_one (ds_ret (de_and (de_cmp (dop_le) (DL.dv 1) (DL.dv 0) (nomark _)) (de_one (de_or (de_cmp (dop_isN) (DL.dv 2) (de_non) (nomark _)) (de_one (de_cmp (dop_le) (DL.dv 0) (DL.dv 2) (nomark _))))))))
theorem drv_is_whole {C : Wd}  {fa : Addr} (h_is_number : Okf C "is_number" ["value", "least", "most"] 1 (sp_is_number)) (cdv : Value) (A : Around) (outer : List PySem.Env) (s : Shared) (H : Hp) (E : XK) (hr : Room 1 (A.deeper (envOfC "is_whole" (defScope s_is_whole) s.heap.objs.size fa cdv))) :
    DSs (XC C N_is_whole "is_whole" s_is_whole fa cdv A outer s H E) (defBody s_is_whole) (t_is_whole ) := by
  have hu := hu_of hr
  exact dss_one (ds_ret (de_callO h_is_number (hr.mono (by omega)) (by rfl) (da_cons (DL.dv 0) (da_cons (de_int) (da_cons (de_non) (da_nil))))))
theorem drv_is_leaf {C : Wd}  {fa : Addr} (h_is_number : Okf C "is_number" ["value", "least", "most"] 1 (sp_is_number)) (c_MOST_NUMBER : GD ⟨C.P, C.w, C.K⟩ C.mg "MOST_NUMBER" D_MOST_NUMBER) (z_isinstance : C.mg "isinstance" = none) (z_str : C.mg "str" = none) (cdv : Value) (A : Around) (outer : List PySem.Env) (s : Shared) (H : Hp) (E : XK) (hr : Room 1 (A.deeper (envOfC "is_leaf" (defScope s_is_leaf) s.heap.objs.size fa cdv))) :
    DSs (XC C N_is_leaf "is_leaf" s_is_leaf fa cdv A outer s H E) (defBody s_is_leaf) (t_is_leaf ) := by
  have hu := hu_of hr
  exact dss_cons (ds_if (dt_cmp (dop_eq) (DL.dv 1) (de_str) (nomark _)) (dss_one (ds_ret (de_callO h_is_number (hr.mono (by omega)) (by rfl) (da_cons (DL.dv 0) (da_cons (de_int) (da_cons (de_glob c_MOST_NUMBER (by rfl)) (da_nil))))))) (dss_nil))
      (dss_cons (ds_if (dt_cmp (dop_eq) (DL.dv 1) (de_str) (nomark _)) (dss_one (ds_ret (de_callO h_is_number (hr.mono (by omega)) (by rfl) (da_cons (DL.dv 0) (da_cons (de_ifE (dt_tru (DL.dv 2)) (de_int) (de_int)) (da_cons (de_glob c_MOST_NUMBER (by rfl)) (da_nil))))))) (dss_nil))
      (dss_cons (ds_if (dt_tru (DL.dv 2)) (dss_nev) (dss_nil))
      (dss_one (ds_ret (de_and (de_callB dcl_isi (by rfl) z_isinstance (by decide +kernel) (da_cons (DL.dv 0) (da_cons (de_bltn (by rfl) z_str (by decide +kernel)) (da_nil)))) (de_one (de_cmp (dop_ne) (DL.dv 0) (de_str) (nomark _))))))))
theorem drv_fields_of {C : Wd}  {fa : Addr} (c_FIELDS : GD ⟨C.P, C.w, C.K⟩ C.mg "FIELDS" D_FIELDS) (z_isinstance : C.mg "isinstance" = none) (z_str : C.mg "str" = none) (z_len : C.mg "len" = none) (z_tuple : C.mg "tuple" = none) (cdv : Value) (A : Around) (outer : List PySem.Env) (s : Shared) (H : Hp) (E : XK) (hr : Room 0 (A.deeper (envOfC "fields_of" (defScope s_fields_of) s.heap.objs.size fa cdv))) :
    DSs (XC C N_fields_of "fields_of" s_fields_of fa cdv A outer s H E) (defBody s_fields_of) (t_fields_of ) := by
  have hu := hu_of hr
  exact dss_cons (ds_if (DW.dt (dw_or (dt_not (dt_tru (de_callB dcl_isi (by rfl) z_isinstance (by decide +kernel) (da_cons (DL.dv 0) (da_cons (de_bltn (by rfl) z_tuple (by decide +kernel)) (da_nil)))))) (dw_or (dt_cmp (dop_lt) (de_callB dcl_len (by rfl) z_len PySem.boot_len (da_cons (DL.dv 0) (da_nil))) (de_int) (nomark _)) (dw_or1 (dt_not (dt_tru (de_callB dcl_isi (by rfl) z_isinstance (by decide +kernel) (da_cons (de_ixA hu (DL.dv 0) (de_int) (fun _ _ => rfl)) (da_cons (de_bltn (by rfl) z_str (by decide +kernel)) (da_nil)))))))))) (dss_one (ds_ret (de_non))) (dss_nil))
      (dss_cons (ds_set (i := 2) sc_fields_of.nd rfl (by first | exact Or.inl rfl | exact Or.inr rfl) (de_cdget hu (de_glob c_FIELDS (by rfl)) (de_tup (da_cons (DL.dv 1) (da_cons (de_ixA hu (DL.dv 0) (de_int) (fun _ _ => rfl)) (da_nil))))))
      (dss_cons (ds_if (DW.dt (dw_or (dt_cmp (dop_isN) (DL.dv 2) (de_non) (nomark _)) (dw_or1 (dt_cmp (dop_ne) (de_op dop_add (de_callB dcl_len (by rfl) z_len PySem.boot_len (da_cons (DL.dv 2) (da_nil))) (de_int)) (de_callB dcl_len (by rfl) z_len PySem.boot_len (da_cons (DL.dv 0) (da_nil))) (nomark _))))) (dss_one (ds_ret (de_non))) (dss_nil))
      (dss_one (ds_ret (DL.dv 2)))))
theorem drv_is_shaped {C : Wd}  {fa : Addr} (h_is_leaf : Okf C "is_leaf" ["value", "kind", "of_text"] 2 (sp_is_leaf)) (h_fields_of : Okf C "fields_of" ["value", "kind"] 1 (sp_fields_of)) (c_LEAF_KINDS : GD ⟨C.P, C.w, C.K⟩ C.mg "LEAF_KINDS" D_LEAF_KINDS) (c_ROWS : GD ⟨C.P, C.w, C.K⟩ C.mg "ROWS" D_ROWS) (c_MAYBES : GD ⟨C.P, C.w, C.K⟩ C.mg "MAYBES" D_MAYBES) (z_isinstance : C.mg "isinstance" = none) (z_tuple : C.mg "tuple" = none) (z_list : C.mg "list" = none) (z_zip : C.mg "zip" = none) (cdv : Value) (A : Around) (outer : List PySem.Env) (s : Shared) (H : Hp) (E : XK) (hr : Room 2 (A.deeper (envOfC "is_shaped" (defScope s_is_shaped) s.heap.objs.size fa cdv))) :
    DSs (XC C N_is_shaped "is_shaped" s_is_shaped fa cdv A outer s H E) (defBody s_is_shaped) (t_is_shaped ) := by
  have hu := hu_of hr
  exact dss_cons (ds_set2 (i := 5) (j := 6) sc_is_shaped.nd rfl rfl (by first | exact Or.inl rfl | exact Or.inr rfl) (by first | exact Or.inl rfl | exact Or.inr rfl) (de_int))
      (dss_cons (ds_set (i := 7) sc_is_shaped.nd rfl (by first | exact Or.inl rfl | exact Or.inr rfl) (de_lst (da_cons (de_tup (da_cons (DL.dv 0) (da_cons (DL.dv 1) (da_nil)))) (da_nil))))
      (dss_cons (ds_while PassesOwn.never (dt_tru (DL.dv 7)) (dss_cons (ds_asg (vs := [8, 9]) (de_pop (DL.dv 7)) (dg_tup rfl (dgs_cons (dg_name (i := 8) sc_is_shaped.nd rfl (by first | exact Or.inl rfl | exact Or.inr rfl) (by decide)) (dgs_cons (dg_name (i := 9) sc_is_shaped.nd rfl (by first | exact Or.inl rfl | exact Or.inr rfl) (by decide)) (dgs_nil))) (gLen_cons (gLen_cons gLen_nil))))
      (dss_one (ds_if (dt_cmp (dop_in hu) (DL.dv 9) (de_glob c_LEAF_KINDS (by rfl)) rfl) (dss_one (ds_if (dt_not (dt_tru (de_callO h_is_leaf (hr.mono (by omega)) (by rfl) (da_cons (DL.dv 8) (da_cons (DL.dv 9) (da_cons (DL.dv 2) (da_nil))))))) (dss_one (ds_ret (de_bl))) (dss_nil))) (dss_one (ds_if (dt_cmp (dop_in hu) (DL.dv 9) (de_glob c_ROWS (by rfl)) rfl) (dss_cons (ds_if (dt_not (dt_tru (de_callB dcl_isi (by rfl) z_isinstance (by decide +kernel) (da_cons (DL.dv 8) (da_cons (de_bltn (by rfl) z_tuple (by decide +kernel)) (da_nil)))))) (dss_one (ds_ret (de_bl))) (dss_nil))
      (dss_cons (ds_set (i := 10) sc_is_shaped.nd rfl (by first | exact Or.inl rfl | exact Or.inr rfl) (de_ixA hu (de_glob c_ROWS (by rfl)) (DL.dv 9) (fun _ _ => rfl)))
      (dss_one (ds_expr (de_extend (DL.dv 7) (de_lc rfl (own := [("member", 11)]) sc_is_shaped.nd (di_d (DL.dv 8)) (blkOk_by (show blkC N_is_shaped (defScope s_is_shaped) _ _ = true from by decide +kernel)) (fun _ _ _ _ _ => dg_name (i := 11) sc_is_shaped.nd rfl (by first | exact Or.inl rfl | exact Or.inr rfl) (by decide)) (fun _ _ _ _ _ => dts_nil) (fun _ _ _ _ _ => de_tup (da_cons (DL.dv 11) (da_cons (DL.dv 10) (da_nil)))))))))) (dss_one (ds_if (dt_cmp (dop_in hu) (DL.dv 9) (de_glob c_MAYBES (by rfl)) rfl) (dss_one (ds_if (dt_cmp (dop_notN) (DL.dv 8) (de_non) (nomark _)) (dss_one (ds_expr (de_append (DL.dv 7) (de_tup (da_cons (DL.dv 8) (da_cons (de_ixA hu (de_glob c_MAYBES (by rfl)) (DL.dv 9) (fun _ _ => rfl)) (da_nil))))))) (dss_nil))) (dss_cons (ds_set (i := 12) sc_is_shaped.nd rfl (by first | exact Or.inl rfl | exact Or.inr rfl) (de_callO h_fields_of (hr.mono (by omega)) (by rfl) (da_cons (DL.dv 8) (da_cons (DL.dv 9) (da_nil)))))
      (dss_cons (ds_if (dt_cmp (dop_isN) (DL.dv 12) (de_non) (nomark _)) (dss_one (ds_ret (de_bl))) (dss_nil))
      (dss_cons (ds_aug (i := 6) sc_is_shaped.nd rfl (by first | exact Or.inl rfl | exact Or.inr rfl) (de_ifE (dt_cmp (dop_eq) (DL.dv 9) (de_str) (nomark _)) (de_int) (de_int)) dop_iadd)
      (dss_cons (ds_aug (i := 5) sc_is_shaped.nd rfl (by first | exact Or.inl rfl | exact Or.inr rfl) (de_ifE (dt_cmp (dop_in hu) (DL.dv 9) (de_tup (da_cons (de_str) (da_cons (de_str) (da_nil)))) rfl) (de_int) (de_int)) dop_iadd)
      (dss_cons (ds_if (DW.dt (dw_or (DW.dt (dw_and (dt_cmp (dop_notN) (DL.dv 3) (de_non) (nomark _)) (dw_and1 (dt_cmp (dop_gt) (DL.dv 5) (DL.dv 3) (nomark _))))) (dw_or1 (DW.dt (dw_and (dt_cmp (dop_notN) (DL.dv 4) (de_non) (nomark _)) (dw_and1 (dt_cmp (dop_gt) (DL.dv 6) (DL.dv 4) (nomark _)))))))) (dss_one (ds_ret (de_bl))) (dss_nil))
      (dss_one (ds_expr (de_extend (DL.dv 7) (de_listzip rfl (by rfl) z_list (by rfl) z_zip (da_cons (de_sl (DL.dv 8) (do_some (de_int)) do_none) (da_cons (DL.dv 12) (da_nil))))))))))))))))))))
      (dss_one (ds_ret (de_bl)))))
theorem drv_is_sum {C : Wd}  {fa : Addr} (h_is_shaped : Okf C "is_shaped" ["value", "kind", "of_text", "trees", "statements"] 3 (sp_is_shaped)) (c_MOST_TREES : GD ⟨C.P, C.w, C.K⟩ C.mg "MOST_TREES" D_MOST_TREES) (cdv : Value) (A : Around) (outer : List PySem.Env) (s : Shared) (H : Hp) (E : XK) (hr : Room 3 (A.deeper (envOfC "is_sum" (defScope s_is_sum) s.heap.objs.size fa cdv))) :
    DSs (XC C N_is_sum "is_sum" s_is_sum fa cdv A outer s H E) (defBody s_is_sum) (t_is_sum ) := by
  have hu := hu_of hr
  exact dss_one (ds_ret (de_callO h_is_shaped (hr.mono (by omega)) (by rfl) (da_cons (DL.dv 0) (da_cons (de_str) (da_cons (de_bl) (da_cons (de_glob c_MOST_TREES (by rfl)) (da_cons (de_non) (da_nil))))))))
theorem drv_parts_of {C : Wd}  {fa : Addr} (c_LEAVES : GD ⟨C.P, C.w, C.K⟩ C.mg "LEAVES" D_LEAVES) (c_SECOND : GD ⟨C.P, C.w, C.K⟩ C.mg "SECOND" D_SECOND) (c_FIRST : GD ⟨C.P, C.w, C.K⟩ C.mg "FIRST" D_FIRST) (cdv : Value) (A : Around) (outer : List PySem.Env) (s : Shared) (H : Hp) (E : XK) (hr : Room 0 (A.deeper (envOfC "parts_of" (defScope s_parts_of) s.heap.objs.size fa cdv))) :
    DSs (XC C N_parts_of "parts_of" s_parts_of fa cdv A outer s H E) (defBody s_parts_of) (t_parts_of ) := by
  have hu := hu_of hr
  exact dss_cons (ds_set (i := 1) sc_parts_of.nd rfl (by first | exact Or.inl rfl | exact Or.inr rfl) (de_ixA hu (DL.dv 0) (de_int) (fun _ _ => rfl)))
      (dss_cons (ds_if (dt_cmp (dop_in hu) (DL.dv 1) (de_glob c_LEAVES (by rfl)) rfl) (dss_one (ds_ret (de_tup (da_nil)))) (dss_nil))
      (dss_cons (ds_if (dt_cmp (dop_in hu) (DL.dv 1) (de_glob c_SECOND (by rfl)) rfl) (dss_one (ds_ret (de_tup (da_cons (de_ixA hu (DL.dv 0) (de_int) (fun _ _ => rfl)) (da_nil))))) (dss_nil))
      (dss_cons (ds_if (dt_cmp (dop_in hu) (DL.dv 1) (de_glob c_FIRST (by rfl)) rfl) (dss_one (ds_ret (de_tup (da_cons (de_ixA hu (DL.dv 0) (de_int) (fun _ _ => rfl)) (da_nil))))) (dss_nil))
      (dss_one (ds_ret (de_tup (da_cons (de_ixA hu (DL.dv 0) (de_int) (fun _ _ => rfl)) (da_cons (de_ixA hu (DL.dv 0) (de_int) (fun _ _ => rfl)) (da_nil)))))))))
theorem drv_ordered {C : Wd}  {fa : Addr} (h_parts_of : Okf C "parts_of" ["tree"] 1 (sp_parts_of)) (cdv : Value) (A : Around) (outer : List PySem.Env) (s : Shared) (H : Hp) (E : XK) (hr : Room 1 (A.deeper (envOfC "ordered" (defScope s_ordered) s.heap.objs.size fa cdv))) :
    DSs (XC C N_ordered "ordered" s_ordered fa cdv A outer s H E) (defBody s_ordered) (t_ordered ) := by
  have hu := hu_of hr
  exact dss_cons (ds_set (i := 1) sc_ordered.nd rfl (by first | exact Or.inl rfl | exact Or.inr rfl) (de_lst (da_nil)))
      (dss_cons (ds_set (i := 2) sc_ordered.nd rfl (by first | exact Or.inl rfl | exact Or.inr rfl) (de_lst (da_cons (DL.dv 0) (da_nil))))
      (dss_cons (ds_while PassesOwn.never (dt_tru (DL.dv 2)) (dss_cons (ds_set (i := 3) sc_ordered.nd rfl (by first | exact Or.inl rfl | exact Or.inr rfl) (de_pop (DL.dv 2)))
      (dss_cons (ds_expr (de_append (DL.dv 1) (DL.dv 3)))
      (dss_one (ds_expr (de_extendT (DL.dv 2) (de_callO h_parts_of (hr.mono (by omega)) (by rfl) (da_cons (DL.dv 3) (da_nil)))))))))
      (dss_cons (ds_expr (de_reverse (DL.dv 1)))
      (dss_one (ds_ret (DL.dv 1))))))
theorem drv_scoped {C : Wd}  {fa : Addr} (h_parts_of : Okf C "parts_of" ["tree"] 1 (sp_parts_of)) (c_QUANTIFIERS : GD ⟨C.P, C.w, C.K⟩ C.mg "QUANTIFIERS" D_QUANTIFIERS) (cdv : Value) (A : Around) (outer : List PySem.Env) (s : Shared) (H : Hp) (E : XK) (hr : Room 1 (A.deeper (envOfC "scoped" (defScope s_scoped) s.heap.objs.size fa cdv))) :
    DSs (XC C N_scoped "scoped" s_scoped fa cdv A outer s H E) (defBody s_scoped) (t_scoped ) := by
  have hu := hu_of hr
  exact dss_cons (ds_set (i := 1) sc_scoped.nd rfl (by first | exact Or.inl rfl | exact Or.inr rfl) (de_lst (da_nil)))
      (dss_cons (ds_set (i := 2) sc_scoped.nd rfl (by first | exact Or.inl rfl | exact Or.inr rfl) (de_lst (da_cons (de_tup (da_cons (DL.dv 0) (da_cons (de_tup (da_nil)) (da_nil)))) (da_nil))))
      (dss_cons (ds_while PassesOwn.never (dt_tru (DL.dv 2)) (dss_cons (ds_asg (vs := [3, 4]) (de_pop (DL.dv 2)) (dg_tup rfl (dgs_cons (dg_name (i := 3) sc_scoped.nd rfl (by first | exact Or.inl rfl | exact Or.inr rfl) (by decide)) (dgs_cons (dg_name (i := 4) sc_scoped.nd rfl (by first | exact Or.inl rfl | exact Or.inr rfl) (by decide)) (dgs_nil))) (gLen_cons (gLen_cons gLen_nil))))
      (dss_cons (ds_expr (de_append (DL.dv 1) (de_tup (da_cons (DL.dv 3) (da_cons (DL.dv 4) (da_nil))))))
      (dss_cons (ds_set (i := 5) sc_scoped.nd rfl (by first | exact Or.inl rfl | exact Or.inr rfl) (DL.dv 4))
      (dss_cons (ds_if (DW.dt (dw_and (dt_cmp (dop_in hu) (de_ixA hu (DL.dv 3) (de_int) (fun _ _ => rfl)) (de_glob c_QUANTIFIERS (by rfl)) rfl) (dw_and1 (dt_cmp (dop_notin hu) (de_ixA hu (DL.dv 3) (de_int) (fun _ _ => rfl)) (DL.dv 4) rfl)))) (dss_one (ds_set (i := 5) sc_scoped.nd rfl (by first | exact Or.inl rfl | exact Or.inr rfl) (de_op dop_add (DL.dv 4) (de_tup (da_cons (de_ixA hu (DL.dv 3) (de_int) (fun _ _ => rfl)) (da_nil)))))) (dss_nil))
      (dss_one (ds_expr (de_extend (DL.dv 2) (de_lc rfl (own := [("below", 6)]) sc_scoped.nd (di_d (de_callO h_parts_of (hr.mono (by omega)) (by rfl) (da_cons (DL.dv 3) (da_nil)))) (blkOk_by (show blkC N_scoped (defScope s_scoped) _ _ = true from by decide +kernel)) (fun _ _ _ _ _ => dg_name (i := 6) sc_scoped.nd rfl (by first | exact Or.inl rfl | exact Or.inr rfl) (by decide)) (fun _ _ _ _ _ => dts_nil) (fun _ _ _ _ _ => de_tup (da_cons (DL.dv 6) (da_cons (DL.dv 5) (da_nil)))))))))))))
      (dss_cons (ds_expr (de_reverse (DL.dv 1)))
      (dss_one (ds_ret (DL.dv 1))))))
theorem drv_free_names {C : Wd}  {fa : Addr} (h_scoped : Okf C "scoped" ["tree"] 2 (sp_scoped)) (z_tuple : C.mg "tuple" = none) (z_sorted : C.mg "sorted" = none) (cdv : Value) (A : Around) (outer : List PySem.Env) (s : Shared) (H : Hp) (E : XK) (hr : Room 2 (A.deeper (envOfC "free_names" (defScope s_free_names) s.heap.objs.size fa cdv))) :
    DSs (XC C N_free_names "free_names" s_free_names fa cdv A outer s H E) (defBody s_free_names) (t_free_names ) := by
  have hu := hu_of hr
  exact dss_one (ds_ret (de_callTy dcl_tuple (by rfl) z_tuple (by decide +kernel) (da_cons (de_callB (dcl_sorted rfl) (by rfl) z_sorted (by decide +kernel) (da_cons (de_sc rfl (own := [("part", 1), ("told", 2)]) sc_free_names.nd (di_d (de_callO h_scoped (hr.mono (by omega)) (by rfl) (da_cons (DL.dv 0) (da_nil)))) (blkOk_by (show blkC N_free_names (defScope s_free_names) _ _ = true from by decide +kernel)) (fun _ _ _ _ _ => dg_tup rfl (dgs_cons (dg_name (i := 1) sc_free_names.nd rfl (by first | exact Or.inl rfl | exact Or.inr rfl) (by decide)) (dgs_cons (dg_name (i := 2) sc_free_names.nd rfl (by first | exact Or.inl rfl | exact Or.inr rfl) (by decide)) (dgs_nil))) (gLen_cons (gLen_cons gLen_nil))) (fun _ _ _ _ _ => dts_one (DW.dt (dw_and (dt_cmp (dop_eq) (de_ixA hu (DL.dv 1) (de_int) (fun _ _ => rfl)) (de_str) (nomark _)) (dw_and1 (dt_cmp (dop_notin hu) (de_ixA hu (DL.dv 1) (de_int) (fun _ _ => rfl)) (DL.dv 2) rfl))))) (fun _ _ _ _ _ => de_ixA hu (DL.dv 1) (de_int) (fun _ _ => rfl))) (da_nil))) (da_nil))))
theorem drv_divided {C : Wd}  {fa : Addr}  (cdv : Value) (A : Around) (outer : List PySem.Env) (s : Shared) (H : Hp) (E : XK) (hr : Room 0 (A.deeper (envOfC "divided" (defScope s_divided) s.heap.objs.size fa cdv))) :
    DSs (XC C N_divided "divided" s_divided fa cdv A outer s H E) (defBody s_divided) (t_divided ) := by
  have hu := hu_of hr
  exact dss_cons (ds_if (dt_cmp (dop_lt) (DL.dv 1) (de_int) (nomark _)) (dss_one (ds_ret (de_int))) (dss_nil))
      (dss_cons (ds_set (i := 3) sc_divided.nd rfl (by first | exact Or.inl rfl | exact Or.inr rfl) (de_op dop_div (DL.dv 1) (DL.dv 2)))
      (dss_cons (ds_if (dt_cmp (dop_eq) (DL.dv 0) (de_str) (nomark _)) (dss_one (ds_ret (DL.dv 3))) (dss_nil))
      (dss_one (ds_ret (de_op dop_sub (DL.dv 1) (de_op dop_mul (DL.dv 3) (DL.dv 2)))))))
theorem drv_made_of_one {C : Wd}  {fa : Addr} (h_divided : Okf C "divided" ["word", "number", "by"] 1 (sp_divided)) (cdv : Value) (A : Around) (outer : List PySem.Env) (s : Shared) (H : Hp) (E : XK) (hr : Room 1 (A.deeper (envOfC "made_of_one" (defScope s_made_of_one) s.heap.objs.size fa cdv))) :
    DSs (XC C N_made_of_one "made_of_one" s_made_of_one fa cdv A outer s H E) (defBody s_made_of_one) (t_made_of_one ) := by
  have hu := hu_of hr
  exact dss_cons (ds_set (i := 2) sc_made_of_one.nd rfl (by first | exact Or.inl rfl | exact Or.inr rfl) (de_ixA hu (DL.dv 0) (de_int) (fun _ _ => rfl)))
      (dss_cons (ds_if (dt_cmp (dop_eq) (DL.dv 2) (de_str) (nomark _)) (dss_one (ds_ret (de_op dop_mul (de_ixA hu (DL.dv 0) (de_int) (fun _ _ => rfl)) (DL.dv 1)))) (dss_nil))
      (dss_cons (ds_if (dt_cmp (dop_eq) (DL.dv 2) (de_str) (nomark _)) (dss_nev) (dss_nil))
      (dss_one (ds_ret (de_callO h_divided (hr.mono (by omega)) (by rfl) (da_cons (DL.dv 2) (da_cons (DL.dv 1) (da_cons (de_ixA hu (DL.dv 0) (de_int) (fun _ _ => rfl)) (da_nil)))))))))
theorem drv_made_of_two {C : Wd}  {fa : Addr} (c_COMPARISONS : GD ⟨C.P, C.w, C.K⟩ C.mg "COMPARISONS" D_COMPARISONS) (cdv : Value) (A : Around) (outer : List PySem.Env) (s : Shared) (H : Hp) (E : XK) (hr : Room 0 (A.deeper (envOfC "made_of_two" (defScope s_made_of_two) s.heap.objs.size fa cdv))) :
    DSs (XC C N_made_of_two "made_of_two" s_made_of_two fa cdv A outer s H E) (defBody s_made_of_two) (t_made_of_two ) := by
  have hu := hu_of hr
  exact dss_cons (ds_if (dt_cmp (dop_in hu) (DL.dv 0) (de_glob c_COMPARISONS (by rfl)) rfl) (dss_nev) (dss_nil))
      (dss_cons (ds_if (dt_cmp (dop_eq) (DL.dv 0) (de_str) (nomark _)) (dss_one (ds_ret (de_op dop_add (DL.dv 1) (DL.dv 2)))) (dss_nil))
      (dss_cons (ds_if (dt_cmp (dop_eq) (DL.dv 0) (de_str) (nomark _)) (dss_one (ds_ret (de_op dop_sub (DL.dv 1) (DL.dv 2)))) (dss_nil))
      (dss_cons (ds_nev)
      (dss_one (ds_nev)))))
theorem drv_made_of {C : Wd}  {fa : Addr} (h_ordered : Okf C "ordered" ["tree"] 2 (sp_ordered)) (h_made_of_one : Okf C "made_of_one" ["part", "below"] 2 (sp_made_of_one)) (h_made_of_two : Okf C "made_of_two" ["word", "left", "right"] 1 (sp_made_of_two)) (cdv : Value) (A : Around) (outer : List PySem.Env) (s : Shared) (H : Hp) (E : XK) (hr : Room 2 (A.deeper (envOfC "made_of" (defScope s_made_of) s.heap.objs.size fa cdv))) :
    DSs (XC C N_made_of "made_of" s_made_of fa cdv A outer s H E) (defBody s_made_of) (t_made_of ) := by
  have hu := hu_of hr
  exact dss_cons (ds_set (i := 2) sc_made_of.nd rfl (by first | exact Or.inl rfl | exact Or.inr rfl) (de_lst (da_nil)))
      (dss_cons (ds_for (vs := [3]) PassesOwn.never rfl (di_d (de_callO h_ordered (hr.mono (by omega)) (by rfl) (da_cons (DL.dv 0) (da_nil)))) (dg_name (i := 3) sc_made_of.nd rfl (by first | exact Or.inl rfl | exact Or.inr rfl) (by decide)) (dss_cons (ds_set (i := 4) sc_made_of.nd rfl (by first | exact Or.inl rfl | exact Or.inr rfl) (de_ixA hu (DL.dv 3) (de_int) (fun _ _ => rfl)))
      (dss_one (ds_if (dt_cmp (dop_eq) (DL.dv 4) (de_str) (nomark _)) (dss_one (ds_expr (de_append (DL.dv 2) (de_ixA hu (DL.dv 3) (de_int) (fun _ _ => rfl))))) (dss_one (ds_if (dt_cmp (dop_eq) (DL.dv 4) (de_str) (nomark _)) (dss_one (ds_expr (de_append (DL.dv 2) (de_ixK hu (DL.dv 1) (de_ixA hu (DL.dv 3) (de_int) (fun _ _ => rfl)) (fun _ _ => rfl))))) (dss_one (ds_if (dt_cmp (dop_in hu) (DL.dv 4) (de_tup (da_cons (de_str) (da_cons (de_str) (da_cons (de_str) (da_cons (de_str) (da_nil)))))) rfl) (dss_one (ds_expr (de_append (DL.dv 2) (de_callO h_made_of_one (hr.mono (by omega)) (by rfl) (da_cons (DL.dv 3) (da_cons (de_pop (DL.dv 2)) (da_nil))))))) (dss_cons (ds_set (i := 5) sc_made_of.nd rfl (by first | exact Or.inl rfl | exact Or.inr rfl) (de_pop (DL.dv 2)))
      (dss_cons (ds_set (i := 6) sc_made_of.nd rfl (by first | exact Or.inl rfl | exact Or.inr rfl) (de_pop (DL.dv 2)))
      (dss_one (ds_expr (de_append (DL.dv 2) (de_callO h_made_of_two (hr.mono (by omega)) (by rfl) (da_cons (DL.dv 4) (da_cons (DL.dv 6) (da_cons (DL.dv 5) (da_nil))))))))))))))))))
      (dss_one (ds_ret (de_ixA hu (DL.dv 2) (de_int) (fun _ _ => rfl)))))
theorem drv_worth {C : Wd}  {fa : Addr} (h_made_of : Okf C "made_of" ["tree", "at"] 3 (sp_made_of)) (cdv : Value) (A : Around) (outer : List PySem.Env) (s : Shared) (H : Hp) (E : XK) (hr : Room 3 (A.deeper (envOfC "worth" (defScope s_worth) s.heap.objs.size fa cdv))) :
    DSs (XC C N_worth "worth" s_worth fa cdv A outer s H E) (defBody s_worth) (t_worth ) := by
  have hu := hu_of hr
  exact dss_one (ds_ret (de_callO h_made_of (hr.mono (by omega)) (by rfl) (da_cons (DL.dv 0) (da_cons (DL.dv 1) (da_nil)))))
theorem drv_check_sum {C : Wd}  {fa : Addr} (h_is_sum : Okf C "is_sum" ["value"] 4 (sp_is_sum)) (cdv : Value) (A : Around) (outer : List PySem.Env) (s : Shared) (H : Hp) (E : XK) (hr : Room 4 (A.deeper (envOfC "check_sum" (defScope s_check_sum) s.heap.objs.size fa cdv))) :
    DSs (XC C N_check_sum "check_sum" s_check_sum fa cdv A outer s H E) (defBody s_check_sum) (t_check_sum ) := by
  have hu := hu_of hr
  exact dss_one (ds_if (dt_not (dt_tru (de_callO h_is_sum (hr.mono (by omega)) (by rfl) (da_cons (DL.dv 0) (da_nil))))) (dss_one (ds_nev)) (dss_nil))
theorem drv_check_at {C : Wd} (cA : Addr) {fa : Addr} (h_is_whole : Okf C "is_whole" ["value"] 2 (sp_is_whole)) (xx_BadAt : ExcOf C "BadAt" cA) (z_isinstance : C.mg "isinstance" = none) (z_dict : C.mg "dict" = none) (cdv : Value) (A : Around) (outer : List PySem.Env) (s : Shared) (H : Hp) (E : XK) (EX : DXE) (tk : DTk (XX C N_check_at "check_at" s_check_at fa cdv A outer s H E) EX) (hr : Room 2 (A.deeper (envOfC "check_at" (defScope s_check_at) s.heap.objs.size fa cdv))) :
    DSs (XX C N_check_at "check_at" s_check_at fa cdv A outer s H E) (defBody s_check_at) (t_check_at cA EX) := by
  have hu := hu_of hr
  exact dss_cons (ds_if (dt_not (dt_tru (de_callB dcl_isi (by rfl) z_isinstance (by decide +kernel) (da_cons (DL.dv 1) (da_cons (de_bltn (by rfl) z_dict (by decide +kernel)) (da_nil)))))) (dss_one (ds_raise rfl tk xx_BadAt (by rfl) (da_cons (de_str) (da_nil)))) (dss_nil))
      (dss_one (ds_for (vs := [2]) (passes_of rfl) rfl (di_d (DL.dv 0)) (dg_name (i := 2) sc_check_at.nd rfl (by first | exact Or.inl rfl | exact Or.inr rfl) (by decide)) (dss_one (ds_if (DW.dt (dw_or (dt_cmp ((dop_ninK hu)) (DL.dv 2) (DL.dv 1) rfl) (dw_or1 (dt_not (dt_tru (de_callO h_is_whole (hr.mono (by omega)) (by rfl) (da_cons (de_ixK hu (DL.dv 1) (DL.dv 2) (fun _ _ => rfl)) (da_nil)))))))) (dss_one (ds_raise rfl tk xx_BadAt (by rfl) (da_cons (de_joined (dj_cons (de_str) (dj_cons (de_fmt (DL.dv 2)) (dj_nil)))) (da_nil)))) (dss_nil)))))
theorem drv_value {C : Wd} (cA : Addr) {fa : Addr} (h_check_sum : Okf C "check_sum" ["amount"] 5 (sp_check_sum)) (h_check_at : Okf C "check_at" ["names", "at"] 3 ((sp_check_at cA))) (h_free_names : Okf C "free_names" ["tree"] 3 (sp_free_names)) (h_worth : Okf C "worth" ["amount", "at"] 4 (sp_worth)) (cdv : Value) (A : Around) (outer : List PySem.Env) (s : Shared) (H : Hp) (E : XK) (EX : DXE) (tk : DTk (XX C N_value "value" s_value fa cdv A outer s H E) EX) (hr : Room 5 (A.deeper (envOfC "value" (defScope s_value) s.heap.objs.size fa cdv))) :
    DSs (XX C N_value "value" s_value fa cdv A outer s H E) (defBody s_value) (t_value cA EX) := by
  have hu := hu_of hr
  exact dss_cons (ds_expr (de_callO h_check_sum (hr.mono (by omega)) (by rfl) (da_cons (DL.dv 0) (da_nil))))
      (dss_cons (ds_expr (de_callX tk h_check_at (hr.mono (by omega)) (by rfl) (da_cons (de_callO h_free_names (hr.mono (by omega)) (by rfl) (da_cons (DL.dv 0) (da_nil))) (da_cons (DL.dv 1) (da_nil)))))
      (dss_one (ds_ret (de_callO h_worth (hr.mono (by omega)) (by rfl) (da_cons (DL.dv 0) (da_cons (DL.dv 1) (da_nil)))))))
theorem drv_law_bag {C : Wd}  {fa : Addr} (z_int : C.mg "int" = none) (cdv : Value) (A : Around) (outer : List PySem.Env) (s : Shared) (H : Hp) (E : XK) (hr : Room 0 (A.deeper (envOfC "_law_bag" (defScope s_law_bag) s.heap.objs.size fa cdv))) :
    DSs (XC C N_law_bag "_law_bag" s_law_bag fa cdv A outer s H E) (defBody s_law_bag) (t_law_bag ) := by
  have hu := hu_of hr
  exact dss_cons (ds_set (i := 1) sc_law_bag.nd rfl (by first | exact Or.inl rfl | exact Or.inr rfl) (de_lst (da_nil)))
      (dss_cons (ds_set (i := 2) sc_law_bag.nd rfl (by first | exact Or.inl rfl | exact Or.inr rfl) (de_int))
      (dss_cons (ds_for (vs := [3]) PassesOwn.never rfl (di_d (de_sl (DL.dv 0) do_none (do_some (de_int)))) (dg_name (i := 3) sc_law_bag.nd rfl (by first | exact Or.inl rfl | exact Or.inr rfl) (by decide)) (dss_cons (ds_if (dt_cmp (dop_ge) (DL.dv 3) (de_op dop_pow (de_int) (de_int)) (nomark _)) (dss_one (ds_expr (de_append (DL.dv 1) (de_op dop_mod (de_callTy dcl_int1 (by rfl) z_int (by decide +kernel) (da_cons (DL.dv 3) (da_nil))) (de_op dop_pow (de_op dop_pow (de_int) (de_int)) (de_int)))))) (dss_nil))
      (dss_one (ds_set (i := 2) sc_law_bag.nd rfl (by first | exact Or.inl rfl | exact Or.inr rfl) (de_op dop_mod (de_callTy dcl_int1 (by rfl) z_int (by decide +kernel) (da_cons (de_op dop_add (de_op dop_add (de_op dop_mul (DL.dv 2) (de_int)) (de_op dop_mod (de_callTy dcl_int1 (by rfl) z_int (by decide +kernel) (da_cons (DL.dv 3) (da_nil))) (de_int))) (de_int)) (da_nil))) (de_int))))))
      (dss_one (ds_ret (de_lst (da_cons (DL.dv 1) (da_cons (DL.dv 2) (da_cons (de_int) (da_nil)))))))))
theorem drv_law_take {C : Wd}  {fa : Addr} (z_int : C.mg "int" = none) (cdv : Value) (A : Around) (outer : List PySem.Env) (s : Shared) (H : Hp) (E : XK) (hr : Room 0 (A.deeper (envOfC "_law_take" (defScope s_law_take) s.heap.objs.size fa cdv))) :
    DSs (XC C N_law_take "_law_take" s_law_take fa cdv A outer s H E) (defBody s_law_take) (t_law_take ) := by
  have hu := hu_of hr
  exact dss_cons (ds_setL (de_op dop_add (de_ixA hu (DL.dv 0) (de_int) (fun _ _ => rfl)) (de_int)) (DL.dv 0) (de_int))
      (dss_cons (ds_set (i := 2) sc_law_take.nd rfl (by first | exact Or.inl rfl | exact Or.inr rfl) (de_ixA hu (DL.dv 0) (de_int) (fun _ _ => rfl)))
      (dss_cons (ds_if (dt_tru (DL.dv 2)) (dss_cons (ds_set (i := 3) sc_law_take.nd rfl (by first | exact Or.inl rfl | exact Or.inr rfl) (de_op dop_mod (de_callTy dcl_int1 (by rfl) z_int (by decide +kernel) (da_cons (de_ixA hu (DL.dv 2) (de_int) (fun _ _ => rfl)) (da_nil))) (DL.dv 1)))
      (dss_cons (ds_setL (de_op dop_div (de_callTy dcl_int1 (by rfl) z_int (by decide +kernel) (da_cons (de_ixA hu (DL.dv 2) (de_int) (fun _ _ => rfl)) (da_nil))) (DL.dv 1)) (DL.dv 2) (de_int))
      (dss_cons (ds_if (dt_cmp (dop_eq) (de_ixA hu (DL.dv 2) (de_int) (fun _ _ => rfl)) (de_int) (nomark _)) (dss_one (ds_expr (de_popAt (DL.dv 2) (de_int)))) (dss_nil))
      (dss_one (ds_ret (DL.dv 3)))))) (dss_nil))
      (dss_cons (ds_set (i := 4) sc_law_take.nd rfl (by first | exact Or.inl rfl | exact Or.inr rfl) (de_op dop_mod (de_callTy dcl_int1 (by rfl) z_int (by decide +kernel) (da_cons (de_op dop_add (de_ixA hu (DL.dv 0) (de_int) (fun _ _ => rfl)) (de_op dop_mul (de_ixA hu (DL.dv 0) (de_int) (fun _ _ => rfl)) (de_int))) (da_nil))) (de_int)))
      (dss_cons (ds_set (i := 4) sc_law_take.nd rfl (by first | exact Or.inl rfl | exact Or.inr rfl) (de_op dop_mod (de_callTy dcl_int1 (by rfl) z_int (by decide +kernel) (da_cons (de_op dop_add (de_op dop_mul (DL.dv 4) (de_int)) (de_ixA hu (DL.dv 0) (de_int) (fun _ _ => rfl))) (da_nil))) (de_int)))
      (dss_cons (ds_set (i := 4) sc_law_take.nd rfl (by first | exact Or.inl rfl | exact Or.inr rfl) (de_op dop_mod (de_callTy dcl_int1 (by rfl) z_int (by decide +kernel) (da_cons (de_op dop_add (de_op dop_add (de_op dop_mul (DL.dv 4) (DL.dv 4)) (de_op dop_mul (DL.dv 4) (de_int))) (de_int)) (da_nil))) (de_int)))
      (dss_cons (ds_set (i := 4) sc_law_take.nd rfl (by first | exact Or.inl rfl | exact Or.inr rfl) (de_op dop_mod (de_callTy dcl_int1 (by rfl) z_int (by decide +kernel) (da_cons (de_op dop_add (de_op dop_mul (DL.dv 4) (DL.dv 4)) (de_ixA hu (DL.dv 0) (de_int) (fun _ _ => rfl))) (da_nil))) (de_int)))
      (dss_one (ds_ret (de_op dop_mod (de_callTy dcl_int1 (by rfl) z_int (by decide +kernel) (da_cons (de_op dop_div (DL.dv 4) (de_int)) (da_nil))) (DL.dv 1))))))))))
theorem drv_law_kind_same {C : Wd}  {fa : Addr} (z_isinstance : C.mg "isinstance" = none) (z_list : C.mg "list" = none) (z_tuple : C.mg "tuple" = none) (z_len : C.mg "len" = none) (z_range : C.mg "range" = none) (z_bool : C.mg "bool" = none) (z_int : C.mg "int" = none) (z_str : C.mg "str" = none) (cdv : Value) (A : Around) (outer : List PySem.Env) (s : Shared) (H : Hp) (E : XK) (hr : Room 0 (A.deeper (envOfC "_law_kind_same" (defScope s_law_kind_same) s.heap.objs.size fa cdv))) :
    DSs (XC C N_law_kind_same "_law_kind_same" s_law_kind_same fa cdv A outer s H E) (defBody s_law_kind_same) (t_law_kind_same ) := by
  have hu := hu_of hr
  exact dss_cons (ds_set (i := 2) sc_law_kind_same.nd rfl (by first | exact Or.inl rfl | exact Or.inr rfl) (de_lst (da_cons (de_tup (da_cons (DL.dv 0) (da_cons (DL.dv 1) (da_nil)))) (da_nil))))
      (dss_cons (ds_while PassesOwn.never (dt_tru (DL.dv 2)) (dss_cons (ds_asg (vs := [3, 4]) (de_pop (DL.dv 2)) (dg_tup rfl (dgs_cons (dg_name (i := 3) sc_law_kind_same.nd rfl (by first | exact Or.inl rfl | exact Or.inr rfl) (by decide)) (dgs_cons (dg_name (i := 4) sc_law_kind_same.nd rfl (by first | exact Or.inl rfl | exact Or.inr rfl) (by decide)) (dgs_nil))) (gLen_cons (gLen_cons gLen_nil))))
      (dss_one (ds_if (dt_tru (de_callB dcl_isi (by rfl) z_isinstance (by decide +kernel) (da_cons (DL.dv 4) (da_cons (de_tup (da_cons (de_bltn (by rfl) z_tuple (by decide +kernel)) (da_cons (de_bltn (by rfl) z_list (by decide +kernel)) (da_nil)))) (da_nil))))) (dss_cons (ds_if (DW.dt (dw_or (dt_not (dt_tru (de_callB dcl_isi (by rfl) z_isinstance (by decide +kernel) (da_cons (DL.dv 3) (da_cons (de_tup (da_cons (de_bltn (by rfl) z_tuple (by decide +kernel)) (da_cons (de_bltn (by rfl) z_list (by decide +kernel)) (da_nil)))) (da_nil)))))) (dw_or (dt_cmp (dop_ne) (de_callB dcl_isi (by rfl) z_isinstance (by decide +kernel) (da_cons (DL.dv 3) (da_cons (de_bltn (by rfl) z_list (by decide +kernel)) (da_nil)))) (de_callB dcl_isi (by rfl) z_isinstance (by decide +kernel) (da_cons (DL.dv 4) (da_cons (de_bltn (by rfl) z_list (by decide +kernel)) (da_nil)))) (nomark _)) (dw_or1 (dt_cmp (dop_ne) (de_callB dcl_len (by rfl) z_len PySem.boot_len (da_cons (DL.dv 3) (da_nil))) (de_callB dcl_len (by rfl) z_len PySem.boot_len (da_cons (DL.dv 4) (da_nil))) (nomark _)))))) (dss_one (ds_ret (de_bl))) (dss_nil))
      (dss_one (ds_set (i := 2) sc_law_kind_same.nd rfl (by first | exact Or.inl rfl | exact Or.inr rfl) (de_op dop_add (DL.dv 2) (de_lc rfl (own := [("k", 5)]) sc_law_kind_same.nd (di_r1 (by rfl) z_range (de_callB dcl_len (by rfl) z_len PySem.boot_len (da_cons (DL.dv 4) (da_nil)))) (blkOk_by (show blkC N_law_kind_same (defScope s_law_kind_same) _ _ = true from by decide +kernel)) (fun _ _ _ _ _ => dg_name (i := 5) sc_law_kind_same.nd rfl (by first | exact Or.inl rfl | exact Or.inr rfl) (by decide)) (fun _ _ _ _ _ => dts_nil) (fun _ _ _ _ _ => de_tup (da_cons (de_ixA hu (DL.dv 3) (DL.dv 5) (fun _ _ => rfl)) (da_cons (de_ixA hu (DL.dv 4) (DL.dv 5) (fun _ _ => rfl)) (da_nil))))))))) (dss_one (ds_if (DW.dt (dw_or (dt_cmp (dop_isN) (DL.dv 4) (de_non) (nomark _)) (dw_or1 (dt_tru (de_callB dcl_isi (by rfl) z_isinstance (by decide +kernel) (da_cons (DL.dv 4) (da_cons (de_bltn (by rfl) z_bool (by decide +kernel)) (da_nil)))))))) (dss_one (ds_if (DW.dt (dw_and (dt_not (DW.dt (dw_and (dt_cmp (dop_isN) (DL.dv 3) (de_non) (nomark _)) (dw_and1 (dt_cmp (dop_isN) (DL.dv 4) (de_non) (nomark _)))))) (dw_and1 (dt_not (DW.dt (dw_and (dt_tru (de_callB dcl_isi (by rfl) z_isinstance (by decide +kernel) (da_cons (DL.dv 3) (da_cons (de_bltn (by rfl) z_bool (by decide +kernel)) (da_nil))))) (dw_and1 (dt_cmp (dop_eq) (DL.dv 3) (DL.dv 4) (nomark _))))))))) (dss_one (ds_ret (de_bl))) (dss_nil))) (dss_one (ds_if (dt_tru (de_callB dcl_isi (by rfl) z_isinstance (by decide +kernel) (da_cons (DL.dv 4) (da_cons (de_bltn (by rfl) z_int (by decide +kernel)) (da_nil))))) (dss_one (ds_if (DW.dt (dw_or (dt_tru (de_callB dcl_isi (by rfl) z_isinstance (by decide +kernel) (da_cons (DL.dv 3) (da_cons (de_bltn (by rfl) z_bool (by decide +kernel)) (da_nil))))) (dw_or (dt_not (dt_tru (de_callB dcl_isi (by rfl) z_isinstance (by decide +kernel) (da_cons (DL.dv 3) (da_cons (de_bltn (by rfl) z_int (by decide +kernel)) (da_nil)))))) (dw_or1 (dt_cmp (dop_ne) (DL.dv 3) (DL.dv 4) (nomark _)))))) (dss_one (ds_ret (de_bl))) (dss_nil))) (dss_one (ds_if (DW.dt (dw_or (dt_not (dt_tru (de_callB dcl_isi (by rfl) z_isinstance (by decide +kernel) (da_cons (DL.dv 3) (da_cons (de_bltn (by rfl) z_str (by decide +kernel)) (da_nil)))))) (dw_or1 (dt_cmp (dop_ne) (DL.dv 3) (DL.dv 4) (nomark _))))) (dss_one (ds_ret (de_bl))) (dss_nil)))))))))))
      (dss_one (ds_ret (de_bl))))
theorem drv_law_worth {C : Wd} (sp_law_worth : DSp) (k : Nat) {fa : Addr} (h_law_worth : Okf C "_law_worth" ["amount", "env"] (k) (sp_law_worth)) (z_int : C.mg "int" = none) (cdv : Value) (A : Around) (outer : List PySem.Env) (s : Shared) (H : Hp) (E : XK) (hr : Room ((k + 1) - 1) (A.deeper (envOfC "_law_worth" (defScope s_law_worth) s.heap.objs.size fa cdv))) :
    DSs (XC C N_law_worth "_law_worth" s_law_worth fa cdv A outer s H E) (defBody s_law_worth) (t_law_worth sp_law_worth k) := by
  have hu := hu_of hr
  exact dss_cons (ds_set (i := 2) sc_law_worth.nd rfl (by first | exact Or.inl rfl | exact Or.inr rfl) (de_ixA hu (DL.dv 0) (de_int) (fun _ _ => rfl)))
      (dss_cons (ds_if (dt_cmp (dop_eq) (DL.dv 2) (de_str) (nomark _)) (dss_one (ds_ret (de_ixA hu (DL.dv 0) (de_int) (fun _ _ => rfl)))) (dss_nil))
      (dss_cons (ds_if (dt_cmp (dop_eq) (DL.dv 2) (de_str) (nomark _)) (dss_one (ds_ret (de_ixK hu (DL.dv 1) (de_ixA hu (DL.dv 0) (de_int) (fun _ _ => rfl)) (fun _ _ => rfl)))) (dss_nil))
      (dss_cons (ds_if (dt_cmp (dop_eq) (DL.dv 2) (de_str) (nomark _)) (dss_one (ds_ret (de_op dop_add (de_callO h_law_worth (hr.mono (by omega)) (by rfl) (da_cons (de_ixA hu (DL.dv 0) (de_int) (fun _ _ => rfl)) (da_cons (DL.dv 1) (da_nil)))) (de_callO h_law_worth (hr.mono (by omega)) (by rfl) (da_cons (de_ixA hu (DL.dv 0) (de_int) (fun _ _ => rfl)) (da_cons (DL.dv 1) (da_nil))))))) (dss_nil))
      (dss_cons (ds_if (dt_cmp (dop_eq) (DL.dv 2) (de_str) (nomark _)) (dss_one (ds_ret (de_op dop_sub (de_callO h_law_worth (hr.mono (by omega)) (by rfl) (da_cons (de_ixA hu (DL.dv 0) (de_int) (fun _ _ => rfl)) (da_cons (DL.dv 1) (da_nil)))) (de_callO h_law_worth (hr.mono (by omega)) (by rfl) (da_cons (de_ixA hu (DL.dv 0) (de_int) (fun _ _ => rfl)) (da_cons (DL.dv 1) (da_nil))))))) (dss_nil))
      (dss_cons (ds_if (dt_cmp (dop_eq) (DL.dv 2) (de_str) (nomark _)) (dss_one (ds_ret (de_op dop_mul (de_ixA hu (DL.dv 0) (de_int) (fun _ _ => rfl)) (de_callO h_law_worth (hr.mono (by omega)) (by rfl) (da_cons (de_ixA hu (DL.dv 0) (de_int) (fun _ _ => rfl)) (da_cons (DL.dv 1) (da_nil))))))) (dss_nil))
      (dss_cons (ds_set (i := 3) sc_law_worth.nd rfl (by first | exact Or.inl rfl | exact Or.inr rfl) (de_callO h_law_worth (hr.mono (by omega)) (by rfl) (da_cons (de_ixA hu (DL.dv 0) (de_int) (fun _ _ => rfl)) (da_cons (DL.dv 1) (da_nil)))))
      (dss_cons (ds_if (dt_cmp (dop_lt) (DL.dv 3) (de_int) (nomark _)) (dss_one (ds_ret (de_int))) (dss_nil))
      (dss_cons (ds_if (dt_cmp (dop_eq) (DL.dv 2) (de_str) (nomark _)) (dss_one (ds_ret (de_op dop_div (DL.dv 3) (de_ixA hu (DL.dv 0) (de_int) (fun _ _ => rfl))))) (dss_nil))
      (dss_one (ds_ret (de_op dop_mod (de_callTy dcl_int1 (by rfl) z_int (by decide +kernel) (da_cons (DL.dv 3) (da_nil))) (de_ixA hu (DL.dv 0) (de_int) (fun _ _ => rfl)))))))))))))
theorem drv_law_number {C : Wd}  {fa : Addr} (h_law_take : Okf C "_law_take" ["bag", "many"] 1 (sp_law_take)) (cdv : Value) (A : Around) (outer : List PySem.Env) (s : Shared) (H : Hp) (E : XK) (hr : Room 1 (A.deeper (envOfC "_law_number" (defScope s_law_number) s.heap.objs.size fa cdv))) :
    DSs (XC C N_law_number "_law_number" s_law_number fa cdv A outer s H E) (defBody s_law_number) (t_law_number ) := by
  have hu := hu_of hr
  exact dss_cons (ds_set (i := 1) sc_law_number.nd rfl (by first | exact Or.inl rfl | exact Or.inr rfl) (de_callO h_law_take (hr.mono (by omega)) (by rfl) (da_cons (DL.dv 0) (da_cons (de_int) (da_nil)))))
      (dss_cons (ds_if (dt_cmp (dop_eq) (DL.dv 1) (de_int) (nomark _)) (dss_one (ds_ret (de_int))) (dss_nil))
      (dss_cons (ds_if (dt_cmp (dop_eq) (DL.dv 1) (de_int) (nomark _)) (dss_one (ds_ret (de_op dop_sub (de_int) (de_callO h_law_take (hr.mono (by omega)) (by rfl) (da_cons (DL.dv 0) (da_cons (de_int) (da_nil))))))) (dss_nil))
      (dss_cons (ds_if (dt_cmp (dop_eq) (DL.dv 1) (de_int) (nomark _)) (dss_one (ds_ret (de_callO h_law_take (hr.mono (by omega)) (by rfl) (da_cons (DL.dv 0) (da_cons (de_int) (da_nil)))))) (dss_nil))
      (dss_one (ds_ret (de_callO h_law_take (hr.mono (by omega)) (by rfl) (da_cons (DL.dv 0) (da_cons (de_int) (da_nil)))))))))
theorem drv_law_name {C : Wd}  {fa : Addr} (h_law_take : Okf C "_law_take" ["bag", "many"] 1 (sp_law_take)) (z_len : C.mg "len" = none) (z_range : C.mg "range" = none) (z_str : C.mg "str" = none) (cdv : Value) (A : Around) (outer : List PySem.Env) (s : Shared) (H : Hp) (E : XK) (hr : Room 1 (A.deeper (envOfC "_law_name" (defScope s_law_name) s.heap.objs.size fa cdv))) :
    DSs (XC C N_law_name "_law_name" s_law_name fa cdv A outer s H E) (defBody s_law_name) (t_law_name ) := by
  have hu := hu_of hr
  exact dss_cons (ds_set (i := 2) sc_law_name.nd rfl (by first | exact Or.inl rfl | exact Or.inr rfl) (de_lst (da_cons (de_str) (da_cons (de_str) (da_cons (de_str) (da_cons (de_str) (da_cons (de_str) (da_cons (de_str) (da_cons (de_str) (da_cons (de_str) (da_cons (de_str) (da_cons (de_str) (da_cons (de_str) (da_cons (de_str) (da_cons (de_str) (da_cons (de_str) (da_cons (de_str) (da_cons (de_str) (da_cons (de_str) (da_nil))))))))))))))))))))
      (dss_cons (ds_set (i := 3) sc_law_name.nd rfl (by first | exact Or.inl rfl | exact Or.inr rfl) (de_lst (da_cons (de_str) (da_cons (de_str) (da_cons (de_str) (da_cons (de_str) (da_cons (de_str) (da_cons (de_str) (da_cons (de_str) (da_cons (de_str) (da_cons (de_str) (da_cons (de_str) (da_cons (de_str) (da_cons (de_str) (da_cons (de_str) (da_cons (de_str) (da_cons (de_str) (da_cons (de_str) (da_cons (de_str) (da_cons (de_str) (da_cons (de_str) (da_cons (de_str) (da_cons (de_str) (da_cons (de_str) (da_cons (de_str) (da_cons (de_str) (da_nil)))))))))))))))))))))))))))
      (dss_cons (ds_set (i := 4) sc_law_name.nd rfl (by first | exact Or.inl rfl | exact Or.inr rfl) (de_ixA hu (DL.dv 3) (de_callO h_law_take (hr.mono (by omega)) (by rfl) (da_cons (DL.dv 0) (da_cons (de_callB dcl_len (by rfl) z_len PySem.boot_len (da_cons (DL.dv 3) (da_nil))) (da_nil)))) (fun _ _ => rfl)))
      (dss_cons (ds_if (dt_cmp (dop_eq) (de_callO h_law_take (hr.mono (by omega)) (by rfl) (da_cons (DL.dv 0) (da_cons (de_int) (da_nil)))) (de_int) (nomark _)) (dss_cons (ds_set (i := 5) sc_law_name.nd rfl (by first | exact Or.inl rfl | exact Or.inr rfl) (de_str))
      (dss_one (ds_set (i := 4) sc_law_name.nd rfl (by first | exact Or.inl rfl | exact Or.inr rfl) (de_op dop_add (de_op dop_add (DL.dv 4) (de_ixA hu (DL.dv 5) (de_callO h_law_take (hr.mono (by omega)) (by rfl) (da_cons (DL.dv 0) (da_cons (de_int) (da_nil)))) (fun _ _ => rfl))) (de_ixA hu (DL.dv 5) (de_callO h_law_take (hr.mono (by omega)) (by rfl) (da_cons (DL.dv 0) (da_cons (de_int) (da_nil)))) (fun _ _ => rfl)))))) (dss_nil))
      (dss_cons (ds_for (vs := [6]) PassesOwn.never rfl (di_r1 (by rfl) z_range (de_int)) (dg_name (i := 6) sc_law_name.nd rfl (by first | exact Or.inl rfl | exact Or.inr rfl) (by decide)) (dss_cons (ds_set (i := 7) sc_law_name.nd rfl (by first | exact Or.inl rfl | exact Or.inr rfl) (DL.dv 4))
      (dss_cons (ds_if (dt_cmp (dop_gt) (DL.dv 6) (de_int) (nomark _)) (dss_one (ds_set (i := 7) sc_law_name.nd rfl (by first | exact Or.inl rfl | exact Or.inr rfl) (de_op dop_add (de_op dop_add (DL.dv 4) (de_str)) (de_callTy dcl_strI (by rfl) z_str (by decide +kernel) (da_cons (DL.dv 6) (da_nil)))))) (dss_nil))
      (dss_one (ds_if (DW.dt (dw_and (dt_cmp (dop_notin hu) (DL.dv 7) (DL.dv 1) rfl) (dw_and1 (dt_cmp (dop_notin hu) (DL.dv 7) (DL.dv 2) rfl)))) (dss_cons (ds_expr (de_append (DL.dv 1) (DL.dv 7)))
      (dss_one (ds_ret (DL.dv 7)))) (dss_nil))))))
      (dss_one (ds_ret (de_str)))))))
theorem drv_law_sum_names {C : Wd} (sp_law_sum_names : DSp) (k : Nat) {fa : Addr} (h_law_sum_names : Okf C "_law_sum_names" ["amount"] (k) (sp_law_sum_names)) (cdv : Value) (A : Around) (outer : List PySem.Env) (s : Shared) (H : Hp) (E : XK) (hr : Room ((k + 1) - 1) (A.deeper (envOfC "_law_sum_names" (defScope s_law_sum_names) s.heap.objs.size fa cdv))) :
    DSs (XC C N_law_sum_names "_law_sum_names" s_law_sum_names fa cdv A outer s H E) (defBody s_law_sum_names) (t_law_sum_names sp_law_sum_names k) := by
  have hu := hu_of hr
  exact dss_cons (ds_if (dt_cmp (dop_eq) (de_ixA hu (DL.dv 0) (de_int) (fun _ _ => rfl)) (de_str) (nomark _)) (dss_one (ds_ret (de_lst (da_nil)))) (dss_nil))
      (dss_cons (ds_if (dt_cmp (dop_eq) (de_ixA hu (DL.dv 0) (de_int) (fun _ _ => rfl)) (de_str) (nomark _)) (dss_one (ds_ret (de_lst (da_cons (de_ixA hu (DL.dv 0) (de_int) (fun _ _ => rfl)) (da_nil))))) (dss_nil))
      (dss_cons (ds_if (dt_cmp (dop_eq) (de_ixA hu (DL.dv 0) (de_int) (fun _ _ => rfl)) (de_str) (nomark _)) (dss_one (ds_ret (de_callO h_law_sum_names (hr.mono (by omega)) (by rfl) (da_cons (de_ixA hu (DL.dv 0) (de_int) (fun _ _ => rfl)) (da_nil))))) (dss_nil))
      (dss_cons (ds_if (DW.dt (dw_or (dt_cmp (dop_eq) (de_ixA hu (DL.dv 0) (de_int) (fun _ _ => rfl)) (de_str) (nomark _)) (dw_or1 (dt_cmp (dop_eq) (de_ixA hu (DL.dv 0) (de_int) (fun _ _ => rfl)) (de_str) (nomark _))))) (dss_one (ds_ret (de_callO h_law_sum_names (hr.mono (by omega)) (by rfl) (da_cons (de_ixA hu (DL.dv 0) (de_int) (fun _ _ => rfl)) (da_nil))))) (dss_nil))
      (dss_one (ds_ret (de_op dop_add (de_callO h_law_sum_names (hr.mono (by omega)) (by rfl) (da_cons (de_ixA hu (DL.dv 0) (de_int) (fun _ _ => rfl)) (da_nil))) (de_callO h_law_sum_names (hr.mono (by omega)) (by rfl) (da_cons (de_ixA hu (DL.dv 0) (de_int) (fun _ _ => rfl)) (da_nil)))))))))
theorem drv_law_deep_sum {C : Wd} (sp_law_deep_sum : DSp) (k : Nat) {fa : Addr} (h_law_take : Okf C "_law_take" ["bag", "many"] 1 (sp_law_take)) (h_law_number : Okf C "_law_number" ["bag"] 2 (sp_law_number)) (h_law_deep_sum : Okf C "_law_deep_sum" ["bag", "names", "deep"] ((k + 2)) (sp_law_deep_sum)) (z_len : C.mg "len" = none) (cdv : Value) (A : Around) (outer : List PySem.Env) (s : Shared) (H : Hp) (E : XK) (hr : Room ((k + 3) - 1) (A.deeper (envOfC "_law_deep_sum" (defScope s_law_deep_sum) s.heap.objs.size fa cdv))) :
    DSs (XC C N_law_deep_sum "_law_deep_sum" s_law_deep_sum fa cdv A outer s H E) (defBody s_law_deep_sum) (t_law_deep_sum sp_law_deep_sum k) := by
  have hu := hu_of hr
  exact dss_cons (ds_set (i := 3) sc_law_deep_sum.nd rfl (by first | exact Or.inl rfl | exact Or.inr rfl) (de_callO h_law_take (hr.mono (by omega)) (by rfl) (da_cons (DL.dv 0) (da_cons (de_int) (da_nil)))))
      (dss_cons (ds_if (DW.dt (dw_or (dt_cmp (dop_eq) (DL.dv 2) (de_int) (nomark _)) (dw_or1 (dt_cmp (dop_eq) (DL.dv 3) (de_int) (nomark _))))) (dss_one (ds_ret (de_ixA hu (de_lst (da_cons (de_tup (da_cons (de_str) (da_cons (de_ixA hu (DL.dv 1) (de_callO h_law_take (hr.mono (by omega)) (by rfl) (da_cons (DL.dv 0) (da_cons (de_callB dcl_len (by rfl) z_len PySem.boot_len (da_cons (DL.dv 1) (da_nil))) (da_nil)))) (fun _ _ => rfl)) (da_nil)))) (da_cons (de_tup (da_cons (de_str) (da_cons (de_callO h_law_number (hr.mono (by omega)) (by rfl) (da_cons (DL.dv 0) (da_nil))) (da_nil)))) (da_nil)))) (de_op dop_div (de_callO h_law_take (hr.mono (by omega)) (by rfl) (da_cons (DL.dv 0) (da_cons (de_int) (da_nil)))) (de_int)) (fun _ _ => rfl)))) (dss_nil))
      (dss_cons (ds_set (i := 4) sc_law_deep_sum.nd rfl (by first | exact Or.inl rfl | exact Or.inr rfl) (de_callO h_law_deep_sum (hr.mono (by omega)) (by rfl) (da_cons (DL.dv 0) (da_cons (DL.dv 1) (da_cons (de_op dop_sub (DL.dv 2) (de_int)) (da_nil))))))
      (dss_cons (ds_if (dt_cmp (dop_eq) (DL.dv 3) (de_int) (nomark _)) (dss_one (ds_ret (de_tup (da_cons (de_str) (da_cons (DL.dv 4) (da_cons (de_callO h_law_deep_sum (hr.mono (by omega)) (by rfl) (da_cons (DL.dv 0) (da_cons (DL.dv 1) (da_cons (de_op dop_sub (DL.dv 2) (de_int)) (da_nil))))) (da_nil))))))) (dss_nil))
      (dss_cons (ds_if (dt_cmp (dop_lt) (DL.dv 3) (de_int) (nomark _)) (dss_one (ds_ret (de_tup (da_cons (de_str) (da_cons (DL.dv 4) (da_cons (de_callO h_law_deep_sum (hr.mono (by omega)) (by rfl) (da_cons (DL.dv 0) (da_cons (DL.dv 1) (da_cons (de_op dop_sub (DL.dv 2) (de_int)) (da_nil))))) (da_nil))))))) (dss_nil))
      (dss_cons (ds_if (dt_cmp (dop_eq) (DL.dv 3) (de_int) (nomark _)) (dss_one (ds_ret (de_tup (da_cons (de_str) (da_cons (de_callO h_law_number (hr.mono (by omega)) (by rfl) (da_cons (DL.dv 0) (da_nil))) (da_cons (DL.dv 4) (da_nil))))))) (dss_nil))
      (dss_one (ds_ret (de_tup (da_cons (de_ixA hu (de_lst (da_cons (de_str) (da_cons (de_str) (da_nil)))) (de_op dop_sub (DL.dv 3) (de_int)) (fun _ _ => rfl)) (da_cons (DL.dv 4) (da_cons (de_op dop_add (de_int) (de_op dop_div (de_callO h_law_number (hr.mono (by omega)) (by rfl) (da_cons (DL.dv 0) (da_nil))) (de_int))) (da_nil))))))))))))
theorem drv_law_told {C : Wd} (cA cW : Addr) {fa : Addr} (h_value : Okf C "value" ["amount", "at"] 6 ((sp_value cA))) (m_WardenError : C.mg "WardenError" = some (.ref cW)) (m_BadAt : C.mg "BadAt" = some (.ref cA)) (cdv : Value) (A : Around) (outer : List PySem.Env) (s : Shared) (H : Hp) (E : XK) (hr : Room 6 (A.deeper (envOfC "_law_told" (defScope s_law_told) s.heap.objs.size fa cdv))) :
    DSs0 (XC C N_law_told "_law_told" s_law_told fa cdv A outer s H E) (defBody s_law_told) (t_law_told C.K cA cW) := by
  have hu := hu_of hr
  exact dss0_one (ds0_try rfl rfl dtk_no (fun EX pn xe tk pw => dss_one (ds_ret (de_callX tk h_value (hr.mono (by omega)) (by rfl) (da_cons (DL.dv 0) (da_cons (DL.dv 1) (da_nil)))))) (.cons ⟨by rfl, by decide, .inl m_BadAt⟩ (fun _ _ _ => dss_one (ds_ret (de_lst (da_cons (de_str) (da_nil))))) (.cons ⟨by rfl, by decide, .inl m_WardenError⟩ (fun _ _ _ => dss_one (ds_ret (de_lst (da_cons (de_str) (da_nil))))) .nil)))
theorem drv_law_unfit {C : Wd}  {fa : Addr} (h_law_take : Okf C "_law_take" ["bag", "many"] 1 (sp_law_take)) (h_law_sum_names : Okf C "_law_sum_names" ["amount"] (10) ((sp_law_sum_names 6))) (h_law_worth : Okf C "_law_worth" ["amount", "env"] (10) ((sp_law_worth 6))) (h_law_kind_same : Okf C "_law_kind_same" ["told", "due"] 1 (sp_law_kind_same)) (h_law_told : Okf C "_law_told" ["amount", "at"] 7 (sp_law_told)) (z_dict : C.mg "dict" = none) (cdv : Value) (A : Around) (outer : List PySem.Env) (s : Shared) (H : Hp) (E : XK) (hr : Room 19 (A.deeper (envOfC "_law_unfit" (defScope s_law_unfit) s.heap.objs.size fa cdv))) :
    DSs (XC C N_law_unfit "_law_unfit" s_law_unfit fa cdv A outer s H E) (defBody s_law_unfit) (t_law_unfit ) := by
  have hu := hu_of hr
  exact dss_cons (ds_set (i := 4) sc_law_unfit.nd rfl (by first | exact Or.inl rfl | exact Or.inr rfl) (de_callTy dcl_dict (by rfl) z_dict (by decide +kernel) (da_cons (DL.dv 2) (da_nil))))
      (dss_cons (ds_set (i := 5) sc_law_unfit.nd rfl (by first | exact Or.inl rfl | exact Or.inr rfl) (de_callO h_law_take (hr.mono (by omega)) (by rfl) (da_cons (DL.dv 0) (da_cons (de_int) (da_nil)))))
      (dss_cons (ds_if (dt_cmp (dop_eq) (DL.dv 5) (de_int) (nomark _)) (dss_one (ds_expr (de_popK (DL.dv 4) (DL.dv 3)))) (dss_one (ds_setK hu (de_ixA hu (de_lst (da_cons (de_non) (da_cons (de_neg (de_int)) (da_cons (de_bl) (da_cons (de_str) (da_cons (de_lst (da_cons (de_int) (da_nil))) (da_nil))))))) (DL.dv 5) (fun _ _ => rfl)) (DL.dv 4) (DL.dv 3))))
      (dss_cons (ds_set (i := 6) sc_law_unfit.nd rfl (by first | exact Or.inl rfl | exact Or.inr rfl) (de_lst (da_cons (de_str) (da_nil))))
      (dss_cons (ds_if (dt_cmp (dop_notin hu) (DL.dv 3) (de_callO h_law_sum_names (hr.mono (by omega)) (by rfl) (da_cons (DL.dv 1) (da_nil))) rfl) (dss_one (ds_set (i := 6) sc_law_unfit.nd rfl (by first | exact Or.inl rfl | exact Or.inr rfl) (de_callO h_law_worth (hr.mono (by omega)) (by rfl) (da_cons (DL.dv 1) (da_cons (DL.dv 2) (da_nil)))))) (dss_nil))
      (dss_one (ds_ret (de_callO h_law_kind_same (hr.mono (by omega)) (by rfl) (da_cons (de_callO h_law_told (hr.mono (by omega)) (by rfl) (da_cons (DL.dv 1) (da_cons (DL.dv 4) (da_nil)))) (da_cons (DL.dv 6) (da_nil))))))))))
theorem drv_law {C : Wd} (cA : Addr) {fa : Addr} (h_law_bag : Okf C "_law_bag" ["script"] 1 (sp_law_bag)) (h_law_name : Okf C "_law_name" ["bag", "used"] 2 (sp_law_name)) (h_law_deep_sum : Okf C "_law_deep_sum" ["bag", "names", "deep"] (10) ((sp_law_deep_sum 5))) (h_law_number : Okf C "_law_number" ["bag"] 2 (sp_law_number)) (h_law_take : Okf C "_law_take" ["bag", "many"] 1 (sp_law_take)) (h_law_worth : Okf C "_law_worth" ["amount", "env"] (10) ((sp_law_worth 6))) (h_law_kind_same : Okf C "_law_kind_same" ["told", "due"] 1 (sp_law_kind_same)) (h_law_told : Okf C "_law_told" ["amount", "at"] 7 (sp_law_told)) (h_law_unfit : Okf C "_law_unfit" ["bag", "amount", "at", "name"] 20 (sp_law_unfit)) (hk_value : OkfK2 C "value" "amount" "at" 6 ((sp_value cA))) (z_range : C.mg "range" = none) (z_dict : C.mg "dict" = none) (cdv : Value) (A : Around) (outer : List PySem.Env) (s : Shared) (H : Hp) (E : XK) (hr : Room 29 (A.deeper (envOfC "law" (defScope s_law) s.heap.objs.size fa cdv))) :
    DSs (XC C N_law "law" s_law fa cdv A outer s H E) (defBody s_law) (t_law cA) := by
  have hu := hu_of hr
  exact dss_cons (ds_set (i := 1) sc_law.nd rfl (by first | exact Or.inl rfl | exact Or.inr rfl) (de_callO h_law_bag (hr.mono (by omega)) (by rfl) (da_cons (DL.dv 0) (da_nil))))
      (dss_cons (ds_set (i := 2) sc_law.nd rfl (by first | exact Or.inl rfl | exact Or.inr rfl) (de_lst (da_nil)))
      (dss_cons (ds_for (vs := [3]) PassesOwn.never rfl (di_r1 (by rfl) z_range (de_int)) (dg_name (i := 3) sc_law.nd rfl (by first | exact Or.inl rfl | exact Or.inr rfl) (by decide)) (dss_one (ds_expr (de_callO h_law_name (hr.mono (by omega)) (by rfl) (da_cons (DL.dv 1) (da_cons (DL.dv 2) (da_nil)))))))
      (dss_cons (ds_setL (de_str) (DL.dv 2) (de_int))
      (dss_cons (ds_for (vs := [4]) PassesOwn.never rfl (di_r1 (by rfl) z_range (de_int)) (dg_name (i := 4) sc_law.nd rfl (by first | exact Or.inl rfl | exact Or.inr rfl) (by decide)) (dss_cons (ds_set (i := 5) sc_law.nd rfl (by first | exact Or.inl rfl | exact Or.inr rfl) (de_callO h_law_deep_sum (hr.mono (by omega)) (by rfl) (da_cons (DL.dv 1) (da_cons (DL.dv 2) (da_cons (de_int) (da_nil))))))
      (dss_cons (ds_set (i := 6) sc_law.nd rfl (by first | exact Or.inl rfl | exact Or.inr rfl) (de_disp (dps_cons (de_str) (de_non) (dps_cons (de_str) (de_neg (de_int)) (dps_nil)))))
      (dss_cons (ds_for (vs := [7]) PassesOwn.never rfl (di_d (DL.dv 2)) (dg_name (i := 7) sc_law.nd rfl (by first | exact Or.inl rfl | exact Or.inr rfl) (by decide)) (dss_one (ds_setK hu (de_ixA hu (de_lst (da_cons (de_callO h_law_take (hr.mono (by omega)) (by rfl) (da_cons (DL.dv 1) (da_cons (de_int) (da_nil)))) (da_cons (de_op dop_add (de_op dop_mul (de_op dop_mul (de_op dop_pow (de_int) (de_int)) (de_op dop_pow (de_int) (de_int))) (de_op dop_pow (de_int) (de_int))) (de_callO h_law_take (hr.mono (by omega)) (by rfl) (da_cons (DL.dv 1) (da_cons (de_op dop_pow (de_int) (de_int)) (da_nil))))) (da_cons (de_callO h_law_number (hr.mono (by omega)) (by rfl) (da_cons (DL.dv 1) (da_nil))) (da_nil))))) (de_callO h_law_take (hr.mono (by omega)) (by rfl) (da_cons (DL.dv 1) (da_cons (de_int) (da_nil)))) (fun _ _ => rfl)) (DL.dv 6) (DL.dv 7))))
      (dss_cons (ds_set (i := 8) sc_law.nd rfl (by first | exact Or.inl rfl | exact Or.inr rfl) (de_callTy dcl_dict (by rfl) z_dict (by decide +kernel) (da_cons (DL.dv 6) (da_nil))))
      (dss_cons (ds_set (i := 9) sc_law.nd rfl (by first | exact Or.inl rfl | exact Or.inr rfl) (de_callO h_law_worth (hr.mono (by omega)) (by rfl) (da_cons (DL.dv 5) (da_cons (DL.dv 6) (da_nil)))))
      (dss_cons (ds_if (DW.dt (dw_or (dt_not (dt_tru (de_callO h_law_kind_same (hr.mono (by omega)) (by rfl) (da_cons (de_callO h_law_told (hr.mono (by omega)) (by rfl) (da_cons (DL.dv 5) (da_cons (DL.dv 6) (da_nil)))) (da_cons (DL.dv 9) (da_nil)))))) (dw_or1 (dt_not (dt_tru (de_callO h_law_kind_same (hr.mono (by omega)) (by rfl) (da_cons (de_callK2 hk_value (hr.mono (by omega)) (by rfl) (dk_cons (DL.dv 6) (dk_cons (DL.dv 5) (dk_nil)))) (da_cons (DL.dv 9) (da_nil))))))))) (dss_one (ds_ret (de_bl))) (dss_nil))
      (dss_one (ds_if (DW.dt (dw_or (dt_cmp ((dop_neK (Nat.lt_of_succ_lt hu))) (DL.dv 6) (DL.dv 8) (nomark _)) (dw_or1 (dt_not (dt_tru (de_callO h_law_unfit (hr.mono (by omega)) (by rfl) (da_cons (DL.dv 1) (da_cons (DL.dv 5) (da_cons (DL.dv 6) (da_cons (de_ixA hu (DL.dv 2) (de_callO h_law_take (hr.mono (by omega)) (by rfl) (da_cons (DL.dv 1) (da_cons (de_int) (da_nil)))) (fun _ _ => rfl)) (da_nil))))))))))) (dss_one (ds_ret (de_bl))) (dss_nil))))))))))
      (dss_one (ds_ret (de_bl)))))))
end K07
end
section
namespace K07
open PySem PySem.Spec PyProof.Rows L2 DL DLZ TR TS
structure Facts (C : Wd) : Prop where
  d_is_number : Def C "is_number" s_is_number
  d_is_whole : Def C "is_whole" s_is_whole
  d_is_leaf : Def C "is_leaf" s_is_leaf
  d_fields_of : Def C "fields_of" s_fields_of
  d_is_shaped : Def C "is_shaped" s_is_shaped
  d_is_sum : Def C "is_sum" s_is_sum
  d_parts_of : Def C "parts_of" s_parts_of
  d_ordered : Def C "ordered" s_ordered
  d_scoped : Def C "scoped" s_scoped
  d_free_names : Def C "free_names" s_free_names
  d_divided : Def C "divided" s_divided
  d_made_of_one : Def C "made_of_one" s_made_of_one
  d_made_of_two : Def C "made_of_two" s_made_of_two
  d_made_of : Def C "made_of" s_made_of
  d_worth : Def C "worth" s_worth
  d_check_sum : Def C "check_sum" s_check_sum
  d_check_at : Def C "check_at" s_check_at
  d_value : Def C "value" s_value
  d_law_bag : Def C "_law_bag" s_law_bag
  d_law_take : Def C "_law_take" s_law_take
  d_law_kind_same : Def C "_law_kind_same" s_law_kind_same
  d_law_worth : Def C "_law_worth" s_law_worth
  d_law_number : Def C "_law_number" s_law_number
  d_law_name : Def C "_law_name" s_law_name
  d_law_sum_names : Def C "_law_sum_names" s_law_sum_names
  d_law_deep_sum : Def C "_law_deep_sum" s_law_deep_sum
  d_law_told : Def C "_law_told" s_law_told
  d_law_unfit : Def C "_law_unfit" s_law_unfit
  d_law : Def C "law" s_law
  z_isinstance : C.mg "isinstance" = none
  z_bool : C.mg "bool" = none
  z_int : C.mg "int" = none
  c_MOST_NUMBER : GD ⟨C.P, C.w, C.K⟩ C.mg "MOST_NUMBER" D_MOST_NUMBER
  z_str : C.mg "str" = none
  c_FIELDS : GD ⟨C.P, C.w, C.K⟩ C.mg "FIELDS" D_FIELDS
  z_len : C.mg "len" = none
  z_tuple : C.mg "tuple" = none
  c_LEAF_KINDS : GD ⟨C.P, C.w, C.K⟩ C.mg "LEAF_KINDS" D_LEAF_KINDS
  c_ROWS : GD ⟨C.P, C.w, C.K⟩ C.mg "ROWS" D_ROWS
  c_MAYBES : GD ⟨C.P, C.w, C.K⟩ C.mg "MAYBES" D_MAYBES
  z_list : C.mg "list" = none
  z_zip : C.mg "zip" = none
  c_MOST_TREES : GD ⟨C.P, C.w, C.K⟩ C.mg "MOST_TREES" D_MOST_TREES
  c_LEAVES : GD ⟨C.P, C.w, C.K⟩ C.mg "LEAVES" D_LEAVES
  c_SECOND : GD ⟨C.P, C.w, C.K⟩ C.mg "SECOND" D_SECOND
  c_FIRST : GD ⟨C.P, C.w, C.K⟩ C.mg "FIRST" D_FIRST
  c_QUANTIFIERS : GD ⟨C.P, C.w, C.K⟩ C.mg "QUANTIFIERS" D_QUANTIFIERS
  z_sorted : C.mg "sorted" = none
  c_COMPARISONS : GD ⟨C.P, C.w, C.K⟩ C.mg "COMPARISONS" D_COMPARISONS
  z_dict : C.mg "dict" = none
  z_range : C.mg "range" = none
  x_BadAt : ExcOf C "BadAt" (clsA C "BadAt")
  m_BadAt : C.mg "BadAt" = some (.ref (clsA C "BadAt"))
  m_WardenError : C.mg "WardenError" = some (.ref (clsA C "WardenError"))
  e_BadAt : PySem.W.exmOne C.K (.ref (clsA C "BadAt")) (.ref (clsA C "BadAt")) = some true
theorem ln0 {us : List Value} (h : us.length = 0) : us = [] := List.length_eq_zero_iff.mp h
theorem ln1 {us : List Value} (h : us.length = 1) : ∃ a, us = [a] := by
  match us, h with
  | [a], _ => exact ⟨a, rfl⟩
theorem ln2 {us : List Value} (h : us.length = 2) : ∃ a b, us = [a, b] := by
  match us, h with
  | [a, b], _ => exact ⟨a, b, rfl⟩
theorem ln3 {us : List Value} (h : us.length = 3) : ∃ a b c, us = [a, b, c] := by
  match us, h with
  | [a, b, c], _ => exact ⟨a, b, c, rfl⟩
theorem ln4 {us : List Value} (h : us.length = 4) : ∃ a b c d, us = [a, b, c, d] := by
  match us, h with
  | [a, b, c, d], _ => exact ⟨a, b, c, d, rfl⟩
theorem ln5 {us : List Value} (h : us.length = 5) : ∃ a b c d e, us = [a, b, c, d, e] := by
  match us, h with
  | [a, b, c, d, e], _ => exact ⟨a, b, c, d, e, rfl⟩
theorem Okf.none {C : Wd} {x : Str} {st : Stmt} {ps : List Str} {k : Nat} (T : Def C x st)
    (bnd : ∀ (kV doc pm : Value) (an : Option Addr) (cdv ct : Value) (us : List Value), us.length = ps.length → bindArgs (PySem.W.fnOf x x (defArgs st) (defBody st) (defScope st) .none kV doc pm an cdv ct) ⟨us, []⟩ = pure (ps.zip us)) : Okf C x ps k (fun _ _ _ _ => False) := by
  obtain ⟨fa, fd, F, hm⟩ := T.ex
  exact ⟨fa, fd, hm, F.kp, F.bindsN bnd, F.bindsA bnd, ⟨fun vs H Q E h => (by obtain ⟨_, _, _, _, _, _, z, _⟩ := h; exact z.elim), fun A outer s H args us vs Q E hr he hb hv h => (by obtain ⟨_, _, _, _, _, _, z, _⟩ := h; exact z.elim)⟩⟩
theorem bnd_is_number (kV doc pm : Value) (an : Option Addr) (cdv ct : Value) (us : List Value) (h : us.length = 3) : bindArgs (PySem.W.fnOf "is_number" "is_number" (defArgs s_is_number) (defBody s_is_number) (defScope s_is_number) .none kV doc pm an cdv ct) ⟨us, []⟩ = pure (List.zip (["value", "least", "most"] : List Str) us) := by obtain ⟨a, b, c, rfl⟩ := ln3 h; kernel_rfl
theorem bnd_is_whole (kV doc pm : Value) (an : Option Addr) (cdv ct : Value) (us : List Value) (h : us.length = 1) : bindArgs (PySem.W.fnOf "is_whole" "is_whole" (defArgs s_is_whole) (defBody s_is_whole) (defScope s_is_whole) .none kV doc pm an cdv ct) ⟨us, []⟩ = pure (List.zip (["value"] : List Str) us) := by obtain ⟨a, rfl⟩ := ln1 h; kernel_rfl
theorem bnd_is_leaf (kV doc pm : Value) (an : Option Addr) (cdv ct : Value) (us : List Value) (h : us.length = 3) : bindArgs (PySem.W.fnOf "is_leaf" "is_leaf" (defArgs s_is_leaf) (defBody s_is_leaf) (defScope s_is_leaf) .none kV doc pm an cdv ct) ⟨us, []⟩ = pure (List.zip (["value", "kind", "of_text"] : List Str) us) := by obtain ⟨a, b, c, rfl⟩ := ln3 h; kernel_rfl
theorem bnd_fields_of (kV doc pm : Value) (an : Option Addr) (cdv ct : Value) (us : List Value) (h : us.length = 2) : bindArgs (PySem.W.fnOf "fields_of" "fields_of" (defArgs s_fields_of) (defBody s_fields_of) (defScope s_fields_of) .none kV doc pm an cdv ct) ⟨us, []⟩ = pure (List.zip (["value", "kind"] : List Str) us) := by obtain ⟨a, b, rfl⟩ := ln2 h; kernel_rfl
theorem bnd_is_shaped (kV doc pm : Value) (an : Option Addr) (cdv ct : Value) (us : List Value) (h : us.length = 5) : bindArgs (PySem.W.fnOf "is_shaped" "is_shaped" (defArgs s_is_shaped) (defBody s_is_shaped) (defScope s_is_shaped) .none kV doc pm an cdv ct) ⟨us, []⟩ = pure (List.zip (["value", "kind", "of_text", "trees", "statements"] : List Str) us) := by obtain ⟨a, b, c, d, e, rfl⟩ := ln5 h; kernel_rfl
theorem bnd_is_sum (kV doc pm : Value) (an : Option Addr) (cdv ct : Value) (us : List Value) (h : us.length = 1) : bindArgs (PySem.W.fnOf "is_sum" "is_sum" (defArgs s_is_sum) (defBody s_is_sum) (defScope s_is_sum) .none kV doc pm an cdv ct) ⟨us, []⟩ = pure (List.zip (["value"] : List Str) us) := by obtain ⟨a, rfl⟩ := ln1 h; kernel_rfl
theorem bnd_parts_of (kV doc pm : Value) (an : Option Addr) (cdv ct : Value) (us : List Value) (h : us.length = 1) : bindArgs (PySem.W.fnOf "parts_of" "parts_of" (defArgs s_parts_of) (defBody s_parts_of) (defScope s_parts_of) .none kV doc pm an cdv ct) ⟨us, []⟩ = pure (List.zip (["tree"] : List Str) us) := by obtain ⟨a, rfl⟩ := ln1 h; kernel_rfl
theorem bnd_ordered (kV doc pm : Value) (an : Option Addr) (cdv ct : Value) (us : List Value) (h : us.length = 1) : bindArgs (PySem.W.fnOf "ordered" "ordered" (defArgs s_ordered) (defBody s_ordered) (defScope s_ordered) .none kV doc pm an cdv ct) ⟨us, []⟩ = pure (List.zip (["tree"] : List Str) us) := by obtain ⟨a, rfl⟩ := ln1 h; kernel_rfl
theorem bnd_scoped (kV doc pm : Value) (an : Option Addr) (cdv ct : Value) (us : List Value) (h : us.length = 1) : bindArgs (PySem.W.fnOf "scoped" "scoped" (defArgs s_scoped) (defBody s_scoped) (defScope s_scoped) .none kV doc pm an cdv ct) ⟨us, []⟩ = pure (List.zip (["tree"] : List Str) us) := by obtain ⟨a, rfl⟩ := ln1 h; kernel_rfl
theorem bnd_free_names (kV doc pm : Value) (an : Option Addr) (cdv ct : Value) (us : List Value) (h : us.length = 1) : bindArgs (PySem.W.fnOf "free_names" "free_names" (defArgs s_free_names) (defBody s_free_names) (defScope s_free_names) .none kV doc pm an cdv ct) ⟨us, []⟩ = pure (List.zip (["tree"] : List Str) us) := by obtain ⟨a, rfl⟩ := ln1 h; kernel_rfl
theorem bnd_divided (kV doc pm : Value) (an : Option Addr) (cdv ct : Value) (us : List Value) (h : us.length = 3) : bindArgs (PySem.W.fnOf "divided" "divided" (defArgs s_divided) (defBody s_divided) (defScope s_divided) .none kV doc pm an cdv ct) ⟨us, []⟩ = pure (List.zip (["word", "number", "by"] : List Str) us) := by obtain ⟨a, b, c, rfl⟩ := ln3 h; kernel_rfl
theorem bnd_made_of_one (kV doc pm : Value) (an : Option Addr) (cdv ct : Value) (us : List Value) (h : us.length = 2) : bindArgs (PySem.W.fnOf "made_of_one" "made_of_one" (defArgs s_made_of_one) (defBody s_made_of_one) (defScope s_made_of_one) .none kV doc pm an cdv ct) ⟨us, []⟩ = pure (List.zip (["part", "below"] : List Str) us) := by obtain ⟨a, b, rfl⟩ := ln2 h; kernel_rfl
theorem bnd_made_of_two (kV doc pm : Value) (an : Option Addr) (cdv ct : Value) (us : List Value) (h : us.length = 3) : bindArgs (PySem.W.fnOf "made_of_two" "made_of_two" (defArgs s_made_of_two) (defBody s_made_of_two) (defScope s_made_of_two) .none kV doc pm an cdv ct) ⟨us, []⟩ = pure (List.zip (["word", "left", "right"] : List Str) us) := by obtain ⟨a, b, c, rfl⟩ := ln3 h; kernel_rfl
theorem bnd_made_of (kV doc pm : Value) (an : Option Addr) (cdv ct : Value) (us : List Value) (h : us.length = 2) : bindArgs (PySem.W.fnOf "made_of" "made_of" (defArgs s_made_of) (defBody s_made_of) (defScope s_made_of) .none kV doc pm an cdv ct) ⟨us, []⟩ = pure (List.zip (["tree", "at"] : List Str) us) := by obtain ⟨a, b, rfl⟩ := ln2 h; kernel_rfl
theorem bnd_worth (kV doc pm : Value) (an : Option Addr) (cdv ct : Value) (us : List Value) (h : us.length = 2) : bindArgs (PySem.W.fnOf "worth" "worth" (defArgs s_worth) (defBody s_worth) (defScope s_worth) .none kV doc pm an cdv ct) ⟨us, []⟩ = pure (List.zip (["amount", "at"] : List Str) us) := by obtain ⟨a, b, rfl⟩ := ln2 h; kernel_rfl
theorem bnd_check_sum (kV doc pm : Value) (an : Option Addr) (cdv ct : Value) (us : List Value) (h : us.length = 1) : bindArgs (PySem.W.fnOf "check_sum" "check_sum" (defArgs s_check_sum) (defBody s_check_sum) (defScope s_check_sum) .none kV doc pm an cdv ct) ⟨us, []⟩ = pure (List.zip (["amount"] : List Str) us) := by obtain ⟨a, rfl⟩ := ln1 h; kernel_rfl
theorem bnd_check_at (kV doc pm : Value) (an : Option Addr) (cdv ct : Value) (us : List Value) (h : us.length = 2) : bindArgs (PySem.W.fnOf "check_at" "check_at" (defArgs s_check_at) (defBody s_check_at) (defScope s_check_at) .none kV doc pm an cdv ct) ⟨us, []⟩ = pure (List.zip (["names", "at"] : List Str) us) := by obtain ⟨a, b, rfl⟩ := ln2 h; kernel_rfl
theorem bnd_value (kV doc pm : Value) (an : Option Addr) (cdv ct : Value) (us : List Value) (h : us.length = 2) : bindArgs (PySem.W.fnOf "value" "value" (defArgs s_value) (defBody s_value) (defScope s_value) .none kV doc pm an cdv ct) ⟨us, []⟩ = pure (List.zip (["amount", "at"] : List Str) us) := by obtain ⟨a, b, rfl⟩ := ln2 h; kernel_rfl
theorem bnd_law_bag (kV doc pm : Value) (an : Option Addr) (cdv ct : Value) (us : List Value) (h : us.length = 1) : bindArgs (PySem.W.fnOf "_law_bag" "_law_bag" (defArgs s_law_bag) (defBody s_law_bag) (defScope s_law_bag) .none kV doc pm an cdv ct) ⟨us, []⟩ = pure (List.zip (["script"] : List Str) us) := by obtain ⟨a, rfl⟩ := ln1 h; kernel_rfl
theorem bnd_law_take (kV doc pm : Value) (an : Option Addr) (cdv ct : Value) (us : List Value) (h : us.length = 2) : bindArgs (PySem.W.fnOf "_law_take" "_law_take" (defArgs s_law_take) (defBody s_law_take) (defScope s_law_take) .none kV doc pm an cdv ct) ⟨us, []⟩ = pure (List.zip (["bag", "many"] : List Str) us) := by obtain ⟨a, b, rfl⟩ := ln2 h; kernel_rfl
theorem bnd_law_kind_same (kV doc pm : Value) (an : Option Addr) (cdv ct : Value) (us : List Value) (h : us.length = 2) : bindArgs (PySem.W.fnOf "_law_kind_same" "_law_kind_same" (defArgs s_law_kind_same) (defBody s_law_kind_same) (defScope s_law_kind_same) .none kV doc pm an cdv ct) ⟨us, []⟩ = pure (List.zip (["told", "due"] : List Str) us) := by obtain ⟨a, b, rfl⟩ := ln2 h; kernel_rfl
theorem bnd_law_worth (kV doc pm : Value) (an : Option Addr) (cdv ct : Value) (us : List Value) (h : us.length = 2) : bindArgs (PySem.W.fnOf "_law_worth" "_law_worth" (defArgs s_law_worth) (defBody s_law_worth) (defScope s_law_worth) .none kV doc pm an cdv ct) ⟨us, []⟩ = pure (List.zip (["amount", "env"] : List Str) us) := by obtain ⟨a, b, rfl⟩ := ln2 h; kernel_rfl
theorem bnd_law_number (kV doc pm : Value) (an : Option Addr) (cdv ct : Value) (us : List Value) (h : us.length = 1) : bindArgs (PySem.W.fnOf "_law_number" "_law_number" (defArgs s_law_number) (defBody s_law_number) (defScope s_law_number) .none kV doc pm an cdv ct) ⟨us, []⟩ = pure (List.zip (["bag"] : List Str) us) := by obtain ⟨a, rfl⟩ := ln1 h; kernel_rfl
theorem bnd_law_name (kV doc pm : Value) (an : Option Addr) (cdv ct : Value) (us : List Value) (h : us.length = 2) : bindArgs (PySem.W.fnOf "_law_name" "_law_name" (defArgs s_law_name) (defBody s_law_name) (defScope s_law_name) .none kV doc pm an cdv ct) ⟨us, []⟩ = pure (List.zip (["bag", "used"] : List Str) us) := by obtain ⟨a, b, rfl⟩ := ln2 h; kernel_rfl
theorem bnd_law_sum_names (kV doc pm : Value) (an : Option Addr) (cdv ct : Value) (us : List Value) (h : us.length = 1) : bindArgs (PySem.W.fnOf "_law_sum_names" "_law_sum_names" (defArgs s_law_sum_names) (defBody s_law_sum_names) (defScope s_law_sum_names) .none kV doc pm an cdv ct) ⟨us, []⟩ = pure (List.zip (["amount"] : List Str) us) := by obtain ⟨a, rfl⟩ := ln1 h; kernel_rfl
theorem bnd_law_deep_sum (kV doc pm : Value) (an : Option Addr) (cdv ct : Value) (us : List Value) (h : us.length = 3) : bindArgs (PySem.W.fnOf "_law_deep_sum" "_law_deep_sum" (defArgs s_law_deep_sum) (defBody s_law_deep_sum) (defScope s_law_deep_sum) .none kV doc pm an cdv ct) ⟨us, []⟩ = pure (List.zip (["bag", "names", "deep"] : List Str) us) := by obtain ⟨a, b, c, rfl⟩ := ln3 h; kernel_rfl
theorem bnd_law_told (kV doc pm : Value) (an : Option Addr) (cdv ct : Value) (us : List Value) (h : us.length = 2) : bindArgs (PySem.W.fnOf "_law_told" "_law_told" (defArgs s_law_told) (defBody s_law_told) (defScope s_law_told) .none kV doc pm an cdv ct) ⟨us, []⟩ = pure (List.zip (["amount", "at"] : List Str) us) := by obtain ⟨a, b, rfl⟩ := ln2 h; kernel_rfl
theorem bnd_law_unfit (kV doc pm : Value) (an : Option Addr) (cdv ct : Value) (us : List Value) (h : us.length = 4) : bindArgs (PySem.W.fnOf "_law_unfit" "_law_unfit" (defArgs s_law_unfit) (defBody s_law_unfit) (defScope s_law_unfit) .none kV doc pm an cdv ct) ⟨us, []⟩ = pure (List.zip (["bag", "amount", "at", "name"] : List Str) us) := by obtain ⟨a, b, c, d, rfl⟩ := ln4 h; kernel_rfl
theorem bnd_law (kV doc pm : Value) (an : Option Addr) (cdv ct : Value) (us : List Value) (h : us.length = 1) : bindArgs (PySem.W.fnOf "law" "law" (defArgs s_law) (defBody s_law) (defScope s_law) .none kV doc pm an cdv ct) ⟨us, []⟩ = pure (List.zip (["script"] : List Str) us) := by obtain ⟨a, rfl⟩ := ln1 h; kernel_rfl
theorem ok_is_number {C : Wd} (F : Facts C) : Okf C "is_number" ["value", "least", "most"] 1 sp_is_number := okF (k := 0) F.d_is_number sc_is_number bnd_is_number (fun ds S Q E h => by (unfold sp_is_number at h; rcases h with ⟨_, _, _, h, _⟩ | ⟨_, _, _, h, _⟩ <;> (subst h; rfl))) (fun fa cdv A outer s H E hr => drv_is_number F.z_isinstance F.z_bool F.z_int cdv A outer s H E hr) rd_is_number
theorem ok_is_whole {C : Wd} (F : Facts C) : Okf C "is_whole" ["value"] 2 sp_is_whole := okF (k := 1) F.d_is_whole sc_is_whole bnd_is_whole (fun ds S Q E h => by (unfold sp_is_whole at h; (repeat (obtain ⟨_, h⟩ := h)); subst_vars; rfl)) (fun fa cdv A outer s H E hr => drv_is_whole (ok_is_number F) cdv A outer s H E hr) rd_is_whole
theorem ok_is_leaf {C : Wd} (F : Facts C) : Okf C "is_leaf" ["value", "kind", "of_text"] 2 sp_is_leaf := okF (k := 1) F.d_is_leaf sc_is_leaf bnd_is_leaf (fun ds S Q E h => by (unfold sp_is_leaf at h; (repeat (obtain ⟨_, h⟩ := h)); subst_vars; rfl)) (fun fa cdv A outer s H E hr => drv_is_leaf (ok_is_number F) F.c_MOST_NUMBER F.z_isinstance F.z_str cdv A outer s H E hr) rd_is_leaf
theorem ok_fields_of {C : Wd} (F : Facts C) : Okf C "fields_of" ["value", "kind"] 1 sp_fields_of := okF (k := 0) F.d_fields_of sc_fields_of bnd_fields_of (fun ds S Q E h => by (unfold sp_fields_of at h; (repeat (obtain ⟨_, h⟩ := h)); subst_vars; rfl)) (fun fa cdv A outer s H E hr => drv_fields_of F.c_FIELDS F.z_isinstance F.z_str F.z_len F.z_tuple cdv A outer s H E hr) rd_fields_of
theorem ok_is_shaped {C : Wd} (F : Facts C) : Okf C "is_shaped" ["value", "kind", "of_text", "trees", "statements"] 3 sp_is_shaped := okF (k := 2) F.d_is_shaped sc_is_shaped bnd_is_shaped (fun ds S Q E h => by (unfold sp_is_shaped at h; (repeat (obtain ⟨_, h⟩ := h)); subst_vars; rfl)) (fun fa cdv A outer s H E hr => drv_is_shaped (ok_is_leaf F) (ok_fields_of F) F.c_LEAF_KINDS F.c_ROWS F.c_MAYBES F.z_isinstance F.z_tuple F.z_list F.z_zip cdv A outer s H E hr) rd_is_shaped
theorem ok_is_sum {C : Wd} (F : Facts C) : Okf C "is_sum" ["value"] 4 sp_is_sum := okF (k := 3) F.d_is_sum sc_is_sum bnd_is_sum (fun ds S Q E h => by (unfold sp_is_sum at h; (repeat (obtain ⟨_, h⟩ := h)); subst_vars; rfl)) (fun fa cdv A outer s H E hr => drv_is_sum (ok_is_shaped F) F.c_MOST_TREES cdv A outer s H E hr) rd_is_sum
theorem ok_parts_of {C : Wd} (F : Facts C) : Okf C "parts_of" ["tree"] 1 sp_parts_of := okF (k := 0) F.d_parts_of sc_parts_of bnd_parts_of (fun ds S Q E h => by (unfold sp_parts_of at h; (repeat (obtain ⟨_, h⟩ := h)); subst_vars; rfl)) (fun fa cdv A outer s H E hr => drv_parts_of F.c_LEAVES F.c_SECOND F.c_FIRST cdv A outer s H E hr) rd_parts_of
theorem ok_ordered {C : Wd} (F : Facts C) : Okf C "ordered" ["tree"] 2 sp_ordered := okF (k := 1) F.d_ordered sc_ordered bnd_ordered (fun ds S Q E h => by (unfold sp_ordered at h; (repeat (obtain ⟨_, h⟩ := h)); subst_vars; rfl)) (fun fa cdv A outer s H E hr => drv_ordered (ok_parts_of F) cdv A outer s H E hr) rd_ordered
theorem ok_scoped {C : Wd} (F : Facts C) : Okf C "scoped" ["tree"] 2 sp_scoped := okF (k := 1) F.d_scoped sc_scoped bnd_scoped (fun ds S Q E h => by (unfold sp_scoped at h; (repeat (obtain ⟨_, h⟩ := h)); subst_vars; rfl)) (fun fa cdv A outer s H E hr => drv_scoped (ok_parts_of F) F.c_QUANTIFIERS cdv A outer s H E hr) rd_scoped
theorem ok_free_names {C : Wd} (F : Facts C) : Okf C "free_names" ["tree"] 3 sp_free_names := okF (k := 2) F.d_free_names sc_free_names bnd_free_names (fun ds S Q E h => by (unfold sp_free_names at h; (repeat (obtain ⟨_, h⟩ := h)); subst_vars; rfl)) (fun fa cdv A outer s H E hr => drv_free_names (ok_scoped F) F.z_tuple F.z_sorted cdv A outer s H E hr) rd_free_names
theorem ok_divided {C : Wd} (F : Facts C) : Okf C "divided" ["word", "number", "by"] 1 sp_divided := okF (k := 0) F.d_divided sc_divided bnd_divided (fun ds S Q E h => by (unfold sp_divided at h; (repeat (obtain ⟨_, h⟩ := h)); subst_vars; rfl)) (fun fa cdv A outer s H E hr => drv_divided  cdv A outer s H E hr) rd_divided
theorem ok_made_of_one {C : Wd} (F : Facts C) : Okf C "made_of_one" ["part", "below"] 2 sp_made_of_one := okF (k := 1) F.d_made_of_one sc_made_of_one bnd_made_of_one (fun ds S Q E h => by (unfold sp_made_of_one at h; obtain ⟨_, _, _, _, h, _⟩ := h; subst h; rfl)) (fun fa cdv A outer s H E hr => drv_made_of_one (ok_divided F) cdv A outer s H E hr) rd_made_of_one
theorem ok_made_of_two {C : Wd} (F : Facts C) : Okf C "made_of_two" ["word", "left", "right"] 1 sp_made_of_two := okF (k := 0) F.d_made_of_two sc_made_of_two bnd_made_of_two (fun ds S Q E h => by (unfold sp_made_of_two at h; obtain ⟨_, _, _, h, _⟩ := h; subst h; rfl)) (fun fa cdv A outer s H E hr => drv_made_of_two F.c_COMPARISONS cdv A outer s H E hr) rd_made_of_two
theorem ok_made_of {C : Wd} (F : Facts C) : Okf C "made_of" ["tree", "at"] 3 sp_made_of := okF (k := 2) F.d_made_of sc_made_of bnd_made_of (fun ds S Q E h => by (unfold sp_made_of at h; (repeat (obtain ⟨_, h⟩ := h)); subst_vars; rfl)) (fun fa cdv A outer s H E hr => drv_made_of (ok_ordered F) (ok_made_of_one F) (ok_made_of_two F) cdv A outer s H E hr) rd_made_of
theorem ok_worth {C : Wd} (F : Facts C) : Okf C "worth" ["amount", "at"] 4 sp_worth := okF (k := 3) F.d_worth sc_worth bnd_worth (fun ds S Q E h => by (unfold sp_worth at h; (repeat (obtain ⟨_, h⟩ := h)); subst_vars; rfl)) (fun fa cdv A outer s H E hr => drv_worth (ok_made_of F) cdv A outer s H E hr) rd_worth
theorem ok_check_sum {C : Wd} (F : Facts C) : Okf C "check_sum" ["amount"] 5 sp_check_sum := okF (k := 4) F.d_check_sum sc_check_sum bnd_check_sum (fun ds S Q E h => by (unfold sp_check_sum at h; (repeat (obtain ⟨_, h⟩ := h)); subst_vars; rfl)) (fun fa cdv A outer s H E hr => drv_check_sum (ok_is_sum F) cdv A outer s H E hr) rd_check_sum
theorem ok_check_at {C : Wd} (F : Facts C) : Okf C "check_at" ["names", "at"] 3 (sp_check_at (clsA C "BadAt")) := okFX (k := 2) F.d_check_at sc_check_at bnd_check_at (fun ds S Q E h => by (unfold sp_check_at at h; (repeat (obtain ⟨_, h⟩ := h)); subst_vars; rfl)) (fun fa cdv A outer s H E EX tk hr => drv_check_at _ (ok_is_whole F) F.x_BadAt F.z_isinstance F.z_dict cdv A outer s H E EX tk hr) (rd_check_at _)
theorem ok_value {C : Wd} (F : Facts C) : Okf C "value" ["amount", "at"] 6 (sp_value (clsA C "BadAt")) := okFX (k := 5) F.d_value sc_value bnd_value (fun ds S Q E h => by (unfold sp_value at h; (repeat (obtain ⟨_, h⟩ := h)); subst_vars; rfl)) (fun fa cdv A outer s H E EX tk hr => drv_value _ (ok_check_sum F) (ok_check_at F) (ok_free_names F) (ok_worth F) cdv A outer s H E EX tk hr) (rd_value _)
theorem bndk_value (kV doc pm : Value) (an : Option Addr) (cdv ct a b : Value) : bindArgs (PySem.W.fnOf "value" "value" (defArgs s_value) (defBody s_value) (defScope s_value) .none kV doc pm an cdv ct) ⟨[], ([("at", b), ("amount", a)] : List (Str × Value))⟩ = pure ([("amount", a), ("at", b)] : List (Str × Value)) := by kernel_rfl
theorem okk_value {C : Wd} (F : Facts C) : OkfK2 C "value" "amount" "at" 6 (sp_value (clsA C "BadAt")) := okFXK2 (k := 5) F.d_value sc_value bndk_value (fun ds S Q E h => by (unfold sp_value at h; (repeat (obtain ⟨_, h⟩ := h)); subst_vars; rfl)) (fun fa cdv A outer s H E EX tk hr => drv_value _ (ok_check_sum F) (ok_check_at F) (ok_free_names F) (ok_worth F) cdv A outer s H E EX tk hr) (rd_value _)
theorem ok_law_bag {C : Wd} (F : Facts C) : Okf C "_law_bag" ["script"] 1 sp_law_bag := okF (k := 0) F.d_law_bag sc_law_bag bnd_law_bag (fun ds S Q E h => by (unfold sp_law_bag at h; (repeat (obtain ⟨_, h⟩ := h)); subst_vars; rfl)) (fun fa cdv A outer s H E hr => drv_law_bag F.z_int cdv A outer s H E hr) rd_law_bag
theorem ok_law_take {C : Wd} (F : Facts C) : Okf C "_law_take" ["bag", "many"] 1 sp_law_take := okF (k := 0) F.d_law_take sc_law_take bnd_law_take (fun ds S Q E h => by (unfold sp_law_take at h; (repeat (obtain ⟨_, h⟩ := h)); subst_vars; rfl)) (fun fa cdv A outer s H E hr => drv_law_take F.z_int cdv A outer s H E hr) rd_law_take
theorem ok_law_kind_same {C : Wd} (F : Facts C) : Okf C "_law_kind_same" ["told", "due"] 1 sp_law_kind_same := okF (k := 0) F.d_law_kind_same sc_law_kind_same bnd_law_kind_same (fun ds S Q E h => by (unfold sp_law_kind_same at h; rcases h with ⟨_, h, _⟩ | ⟨_, _, _, _, h, _⟩ <;> (subst h; rfl))) (fun fa cdv A outer s H E hr => drv_law_kind_same F.z_isinstance F.z_list F.z_tuple F.z_len F.z_range F.z_bool F.z_int F.z_str cdv A outer s H E hr) rd_law_kind_same
theorem ok_law_worth {C : Wd} (F : Facts C) : ∀ N : Nat, Okf C "_law_worth" ["amount", "env"] (N + 1) (sp_law_worth N)
  | 0 => okF (k := 0) F.d_law_worth sc_law_worth bnd_law_worth (fun ds S Q E h => by (unfold sp_law_worth at h; (repeat (obtain ⟨_, h⟩ := h)); subst_vars; rfl)) (fun fa cdv A outer s H E hr => drv_law_worth (worPrev 0) 0 (Okf.none F.d_law_worth bnd_law_worth) F.z_int cdv A outer s H E hr) (rd_law_worth 0 0)
  | N + 1 => okF (k := N + 1) F.d_law_worth sc_law_worth bnd_law_worth (fun ds S Q E h => by (unfold sp_law_worth at h; (repeat (obtain ⟨_, h⟩ := h)); subst_vars; rfl)) (fun fa cdv A outer s H E hr => drv_law_worth (worPrev (N + 1)) (N + 1) (ok_law_worth F N) F.z_int cdv A outer s H E hr) (rd_law_worth (N + 1) (N + 1))
theorem ok_law_number {C : Wd} (F : Facts C) : Okf C "_law_number" ["bag"] 2 sp_law_number := okF (k := 1) F.d_law_number sc_law_number bnd_law_number (fun ds S Q E h => by (unfold sp_law_number at h; (repeat (obtain ⟨_, h⟩ := h)); subst_vars; rfl)) (fun fa cdv A outer s H E hr => drv_law_number (ok_law_take F) cdv A outer s H E hr) rd_law_number
theorem ok_law_name {C : Wd} (F : Facts C) : Okf C "_law_name" ["bag", "used"] 2 sp_law_name := okF (k := 1) F.d_law_name sc_law_name bnd_law_name (fun ds S Q E h => by (unfold sp_law_name at h; (repeat (obtain ⟨_, h⟩ := h)); subst_vars; rfl)) (fun fa cdv A outer s H E hr => drv_law_name (ok_law_take F) F.z_len F.z_range F.z_str cdv A outer s H E hr) rd_law_name
theorem ok_law_sum_names {C : Wd} (F : Facts C) : ∀ N : Nat, Okf C "_law_sum_names" ["amount"] (N + 1) (sp_law_sum_names N)
  | 0 => okF (k := 0) F.d_law_sum_names sc_law_sum_names bnd_law_sum_names (fun ds S Q E h => by (unfold sp_law_sum_names at h; (repeat (obtain ⟨_, h⟩ := h)); subst_vars; rfl)) (fun fa cdv A outer s H E hr => drv_law_sum_names (namPrev 0) 0 (Okf.none F.d_law_sum_names bnd_law_sum_names) cdv A outer s H E hr) (rd_law_sum_names 0 0)
  | N + 1 => okF (k := N + 1) F.d_law_sum_names sc_law_sum_names bnd_law_sum_names (fun ds S Q E h => by (unfold sp_law_sum_names at h; (repeat (obtain ⟨_, h⟩ := h)); subst_vars; rfl)) (fun fa cdv A outer s H E hr => drv_law_sum_names (namPrev (N + 1)) (N + 1) (ok_law_sum_names F N) cdv A outer s H E hr) (rd_law_sum_names (N + 1) (N + 1))
theorem ok_law_deep_sum {C : Wd} (F : Facts C) : ∀ N : Nat, Okf C "_law_deep_sum" ["bag", "names", "deep"] (N + 3) (sp_law_deep_sum N)
  | 0 => okF (k := 2) F.d_law_deep_sum sc_law_deep_sum bnd_law_deep_sum (fun ds S Q E h => by (unfold sp_law_deep_sum at h; (repeat (obtain ⟨_, h⟩ := h)); subst_vars; rfl)) (fun fa cdv A outer s H E hr => drv_law_deep_sum (dsPrev 0) 0 (ok_law_take F) (ok_law_number F) (Okf.none F.d_law_deep_sum bnd_law_deep_sum) F.z_len cdv A outer s H E hr) (rd_law_deep_sum 0 0)
  | N + 1 => okF (k := N + 3) F.d_law_deep_sum sc_law_deep_sum bnd_law_deep_sum (fun ds S Q E h => by (unfold sp_law_deep_sum at h; (repeat (obtain ⟨_, h⟩ := h)); subst_vars; rfl)) (fun fa cdv A outer s H E hr => drv_law_deep_sum (dsPrev (N + 1)) (N + 1) (ok_law_take F) (ok_law_number F) (ok_law_deep_sum F N) F.z_len cdv A outer s H E hr) (rd_law_deep_sum (N + 1) (N + 1))
theorem ok_law_told {C : Wd} (F : Facts C) : Okf C "_law_told" ["amount", "at"] 7 sp_law_told := okF0 (k := 6) F.d_law_told sc_law_told bnd_law_told (fun ds S Q E h => by (unfold sp_law_told at h; (repeat (obtain ⟨_, h⟩ := h)); subst_vars; rfl)) (fun fa cdv A outer s H E hr => drv_law_told _ _ (ok_value F) F.m_WardenError F.m_BadAt cdv A outer s H E hr) (rd_law_told C.K _ _ F.e_BadAt)
theorem ok_law_unfit {C : Wd} (F : Facts C) : Okf C "_law_unfit" ["bag", "amount", "at", "name"] 20 sp_law_unfit := okF (k := 19) F.d_law_unfit sc_law_unfit bnd_law_unfit (fun ds S Q E h => by (unfold sp_law_unfit at h; (repeat (obtain ⟨_, h⟩ := h)); subst_vars; rfl)) (fun fa cdv A outer s H E hr => drv_law_unfit (ok_law_take F) ((ok_law_sum_names F 6).mono (by decide)) ((ok_law_worth F 6).mono (by decide)) (ok_law_kind_same F) (ok_law_told F) F.z_dict cdv A outer s H E hr) rd_law_unfit
theorem ok_law {C : Wd} (F : Facts C) : Okf C "law" ["script"] 30 sp_law := okF (k := 29) F.d_law sc_law bnd_law (fun ds S Q E h => by (unfold sp_law at h; (repeat (obtain ⟨_, h⟩ := h)); subst_vars; rfl)) (fun fa cdv A outer s H E hr => drv_law _ (ok_law_bag F) (ok_law_name F) ((ok_law_deep_sum F 5).mono (by decide)) (ok_law_number F) (ok_law_take F) ((ok_law_worth F 6).mono (by decide)) (ok_law_kind_same F) (ok_law_told F) (ok_law_unfit F) (okk_value F) F.z_range F.z_dict cdv A outer s H E hr) (rd_law _)
end K07
end
section
namespace LW
open PySem PySem.W PySem.Calls PyProof.Rows HandSHeadRun HR L2 DL
theorem facts {w : World} {K : PySem.W.Frag} {h : Heap} {mg : PySem.Str → Option Value} {base : Heap} (X : K.In h) (G : h.Ns mainGlobals mg) (c : SaysC P0 fa fn cn w K) : K07.Facts ⟨P0, w, K, mg, base⟩ where
  d_is_number := by
    obtain ⟨fd, F⟩ := c.d.def_ 2 (d := f_is_number) rfl
    exact ⟨_, fd, F, He.glo_ok X G (c.d.fact 2 (f := .glo "is_number") rfl)⟩
  d_is_whole := by
    obtain ⟨fd, F⟩ := c.d.def_ 3 (d := f_is_whole) rfl
    exact ⟨_, fd, F, He.glo_ok X G (c.d.fact 3 (f := .glo "is_whole") rfl)⟩
  d_is_leaf := by
    obtain ⟨fd, F⟩ := c.d.def_ 4 (d := f_is_leaf) rfl
    exact ⟨_, fd, F, He.glo_ok X G (c.d.fact 4 (f := .glo "is_leaf") rfl)⟩
  d_fields_of := by
    obtain ⟨fd, F⟩ := c.d.def_ 5 (d := f_fields_of) rfl
    exact ⟨_, fd, F, He.glo_ok X G (c.d.fact 5 (f := .glo "fields_of") rfl)⟩
  d_is_shaped := by
    obtain ⟨fd, F⟩ := c.d.def_ 6 (d := f_is_shaped) rfl
    exact ⟨_, fd, F, He.glo_ok X G (c.d.fact 6 (f := .glo "is_shaped") rfl)⟩
  d_is_sum := by
    obtain ⟨fd, F⟩ := c.d.def_ 7 (d := f_is_sum) rfl
    exact ⟨_, fd, F, He.glo_ok X G (c.d.fact 7 (f := .glo "is_sum") rfl)⟩
  d_parts_of := by
    obtain ⟨fd, F⟩ := c.d.def_ 8 (d := f_parts_of) rfl
    exact ⟨_, fd, F, He.glo_ok X G (c.d.fact 8 (f := .glo "parts_of") rfl)⟩
  d_ordered := by
    obtain ⟨fd, F⟩ := c.d.def_ 9 (d := f_ordered) rfl
    exact ⟨_, fd, F, He.glo_ok X G (c.d.fact 9 (f := .glo "ordered") rfl)⟩
  d_scoped := by
    obtain ⟨fd, F⟩ := c.d.def_ 10 (d := f_scoped) rfl
    exact ⟨_, fd, F, He.glo_ok X G (c.d.fact 10 (f := .glo "scoped") rfl)⟩
  d_free_names := by
    obtain ⟨fd, F⟩ := c.d.def_ 11 (d := f_free_names) rfl
    exact ⟨_, fd, F, He.glo_ok X G (c.d.fact 11 (f := .glo "free_names") rfl)⟩
  d_divided := by
    obtain ⟨fd, F⟩ := c.d.def_ 12 (d := f_divided) rfl
    exact ⟨_, fd, F, He.glo_ok X G (c.d.fact 12 (f := .glo "divided") rfl)⟩
  d_made_of_one := by
    obtain ⟨fd, F⟩ := c.d.def_ 14 (d := f_made_of_one) rfl
    exact ⟨_, fd, F, He.glo_ok X G (c.d.fact 14 (f := .glo "made_of_one") rfl)⟩
  d_made_of_two := by
    obtain ⟨fd, F⟩ := c.d.def_ 15 (d := f_made_of_two) rfl
    exact ⟨_, fd, F, He.glo_ok X G (c.d.fact 15 (f := .glo "made_of_two") rfl)⟩
  d_made_of := by
    obtain ⟨fd, F⟩ := c.d.def_ 16 (d := f_made_of) rfl
    exact ⟨_, fd, F, He.glo_ok X G (c.d.fact 16 (f := .glo "made_of") rfl)⟩
  d_worth := by
    obtain ⟨fd, F⟩ := c.d.def_ 17 (d := f_worth) rfl
    exact ⟨_, fd, F, He.glo_ok X G (c.d.fact 17 (f := .glo "worth") rfl)⟩
  d_check_sum := by
    obtain ⟨fd, F⟩ := c.d.def_ 18 (d := f_check_sum) rfl
    exact ⟨_, fd, F, He.glo_ok X G (c.d.fact 18 (f := .glo "check_sum") rfl)⟩
  d_check_at := by
    obtain ⟨fd, F⟩ := c.d.def_ 19 (d := f_check_at) rfl
    exact ⟨_, fd, F, He.glo_ok X G (c.d.fact 19 (f := .glo "check_at") rfl)⟩
  d_value := by
    obtain ⟨fd, F⟩ := c.d.def_ 20 (d := f_value) rfl
    exact ⟨_, fd, F, He.glo_ok X G (c.d.fact 20 (f := .glo "value") rfl)⟩
  d_law_bag := by
    obtain ⟨fd, F⟩ := c.d.def_ 21 (d := f_law_bag) rfl
    exact ⟨_, fd, F, He.glo_ok X G (c.d.fact 21 (f := .glo "_law_bag") rfl)⟩
  d_law_take := by
    obtain ⟨fd, F⟩ := c.d.def_ 22 (d := f_law_take) rfl
    exact ⟨_, fd, F, He.glo_ok X G (c.d.fact 22 (f := .glo "_law_take") rfl)⟩
  d_law_kind_same := by
    obtain ⟨fd, F⟩ := c.d.def_ 23 (d := f_law_kind_same) rfl
    exact ⟨_, fd, F, He.glo_ok X G (c.d.fact 23 (f := .glo "_law_kind_same") rfl)⟩
  d_law_worth := by
    obtain ⟨fd, F⟩ := c.d.def_ 24 (d := f_law_worth) rfl
    exact ⟨_, fd, F, He.glo_ok X G (c.d.fact 24 (f := .glo "_law_worth") rfl)⟩
  d_law_number := by
    obtain ⟨fd, F⟩ := c.d.def_ 25 (d := f_law_number) rfl
    exact ⟨_, fd, F, He.glo_ok X G (c.d.fact 25 (f := .glo "_law_number") rfl)⟩
  d_law_name := by
    obtain ⟨fd, F⟩ := c.d.def_ 26 (d := f_law_name) rfl
    exact ⟨_, fd, F, He.glo_ok X G (c.d.fact 26 (f := .glo "_law_name") rfl)⟩
  d_law_sum_names := by
    obtain ⟨fd, F⟩ := c.d.def_ 27 (d := f_law_sum_names) rfl
    exact ⟨_, fd, F, He.glo_ok X G (c.d.fact 27 (f := .glo "_law_sum_names") rfl)⟩
  d_law_deep_sum := by
    obtain ⟨fd, F⟩ := c.d.def_ 28 (d := f_law_deep_sum) rfl
    exact ⟨_, fd, F, He.glo_ok X G (c.d.fact 28 (f := .glo "_law_deep_sum") rfl)⟩
  d_law_told := by
    obtain ⟨fd, F⟩ := c.d.def_ 29 (d := f_law_told) rfl
    exact ⟨_, fd, F, He.glo_ok X G (c.d.fact 29 (f := .glo "_law_told") rfl)⟩
  d_law_unfit := by
    obtain ⟨fd, F⟩ := c.d.def_ 30 (d := f_law_unfit) rfl
    exact ⟨_, fd, F, He.glo_ok X G (c.d.fact 30 (f := .glo "_law_unfit") rfl)⟩
  d_law := by
    obtain ⟨fd, F⟩ := c.d.def_ 31 (d := f_law) rfl
    exact ⟨_, fd, F, He.glo_ok X G (c.d.fact 31 (f := .glo "law") rfl)⟩
  z_isinstance := He.free_ok X G (c.d.fact 37 (f := .free "isinstance") rfl)
  z_bool := He.free_ok X G (c.d.fact 34 (f := .free "bool") rfl)
  z_int := He.free_ok X G (c.d.fact 36 (f := .free "int") rfl)
  c_MOST_NUMBER := Cn.gd (M := ⟨P0, w, K⟩) X G (c := cn_MOST_NUMBER) (c.ok _ (by unfold cn; simp)) (c.hs _ (by unfold cn; simp))
  z_str := He.free_ok X G (c.d.fact 42 (f := .free "str") rfl)
  c_FIELDS := Cn.gd (M := ⟨P0, w, K⟩) X G (c := cn_FIELDS) (c.ok _ (by unfold cn; simp)) (c.hs _ (by unfold cn; simp))
  z_len := He.free_ok X G (c.d.fact 38 (f := .free "len") rfl)
  z_tuple := He.free_ok X G (c.d.fact 43 (f := .free "tuple") rfl)
  c_LEAF_KINDS := Cn.gd (M := ⟨P0, w, K⟩) X G (c := cn_LEAF_KINDS) (c.ok _ (by unfold cn; simp)) (c.hs _ (by unfold cn; simp))
  c_ROWS := Cn.gd (M := ⟨P0, w, K⟩) X G (c := cn_ROWS) (c.ok _ (by unfold cn; simp)) (c.hs _ (by unfold cn; simp))
  c_MAYBES := Cn.gd (M := ⟨P0, w, K⟩) X G (c := cn_MAYBES) (c.ok _ (by unfold cn; simp)) (c.hs _ (by unfold cn; simp))
  z_list := He.free_ok X G (c.d.fact 39 (f := .free "list") rfl)
  z_zip := He.free_ok X G (c.d.fact 44 (f := .free "zip") rfl)
  c_MOST_TREES := Cn.gd (M := ⟨P0, w, K⟩) X G (c := cn_MOST_TREES) (c.ok _ (by unfold cn; simp)) (c.hs _ (by unfold cn; simp))
  c_LEAVES := Cn.gd (M := ⟨P0, w, K⟩) X G (c := cn_LEAVES) (c.ok _ (by unfold cn; simp)) (c.hs _ (by unfold cn; simp))
  c_SECOND := Cn.gd (M := ⟨P0, w, K⟩) X G (c := cn_SECOND) (c.ok _ (by unfold cn; simp)) (c.hs _ (by unfold cn; simp))
  c_FIRST := Cn.gd (M := ⟨P0, w, K⟩) X G (c := cn_FIRST) (c.ok _ (by unfold cn; simp)) (c.hs _ (by unfold cn; simp))
  c_QUANTIFIERS := Cn.gd (M := ⟨P0, w, K⟩) X G (c := cn_QUANTIFIERS) (c.ok _ (by unfold cn; simp)) (c.hs _ (by unfold cn; simp))
  z_sorted := He.free_ok X G (c.d.fact 41 (f := .free "sorted") rfl)
  c_COMPARISONS := Cn.gd (M := ⟨P0, w, K⟩) X G (c := cn_COMPARISONS) (c.ok _ (by unfold cn; simp)) (c.hs _ (by unfold cn; simp))
  z_dict := He.free_ok X G (c.d.fact 35 (f := .free "dict") rfl)
  z_range := He.free_ok X G (c.d.fact 40 (f := .free "range") rfl)
  x_BadAt := by
    have e := He.glo_ok X G (c.d.fact 45 (f := .glo "BadAt") rfl)
    have q := He.exc_ok (c.d.fact 47 (f := .exc "BadAt") rfl)
    rw [DL.clsA_of (C := ⟨P0, w, K, mg, base⟩) e]; exact ⟨e, q.2.1, q.1, q.2.2.1, q.2.2.2⟩
  m_BadAt := by
    have e := He.glo_ok X G (c.d.fact 45 (f := .glo "BadAt") rfl)
    rw [DL.clsA_of (C := ⟨P0, w, K, mg, base⟩) e]; exact e
  m_WardenError := by
    have e := He.glo_ok X G (c.d.fact 46 (f := .glo "WardenError") rfl)
    rw [DL.clsA_of (C := ⟨P0, w, K, mg, base⟩) e]; exact e
  e_BadAt := by
    have e := He.glo_ok X G (c.d.fact 45 (f := .glo "BadAt") rfl)
    have e2 := He.glo_ok X G (c.d.fact 45 (f := .glo "BadAt") rfl)
    rw [DL.clsA_of (C := ⟨P0, w, K, mg, base⟩) e]; exact He.exm_ok (c.d.fact 48 (f := .exm "BadAt" "BadAt" true) rfl)
end LW
end
noncomputable section
/-! The head run, part 10: a law walked over the D-layer. -/
namespace HR
open PySem PySem.W PySem.Calls PyProof.Rows HandSHeadRun L2 DL
theorem fz_of {K : PySem.W.Frag} {H : Hp} {a : Addr} {xs : List V} (hO : Only H) (h : SqL K H a xs) : FzL K H a xs := by
  rcases h with h | h
  · rcases hO a with e | ⟨o, ys, e⟩
    · rcases h with h | ⟨_, h⟩ <;> (rw [e] at h; cases h)
    · rcases h with h | ⟨o', h⟩
      · rw [e] at h; cases h
      · exact .inl ⟨o', h⟩
  · exact .inr h
theorem isl_ints {M : Md} {H : Hp} : ∀ ns : List Int, IsL M H (ns.map V.int) (ns.map D.int)
  | [] => .nil
  | n :: ns => .cons Is.i (isl_ints ns)
theorem lift_law {M : Md} {f : DSp} {H : Hp} {a : Addr} {ns : List Int} (hO : Only H) (hS : SqL M.K H a (ns.map V.int)) (h : ∀ (S : Sto) (Q : DK), Q (.bl true) S → f [.cl (ns.map .int)] S Q E0D) :
    lift M f [.ref a] H (fun v _ => v = .bl true) fun _ _ _ => False := by
  refine ⟨[.cl (ns.map .int)], fun _ => none, fun d _ => d = .bl true, E0D, .cons ⟨a, _, rfl, fz_of hO hS, isl_ints ns⟩ .nil, fun a c e => (by cases e), h _ _ rfl, fun v H' d S' _ i _ e => ?_, fun c o H' gs S' _ _ _ z => z⟩
  subst e
  exact i
theorem cx_no {P : Program} {w : World} {H : Hp} {s : Shared} {e : Value} {s' : Shared} (h : L2.CX P w [] H s (fun _ _ _ => False) e s') : False := by
  obtain ⟨_, _, _, _, _, _, _, _, _, _, _, _, z⟩ := h
  exact z
theorem walk_x {l : OpenLaw} {n k : Nat} {q : Program} {loose : List PySem.Str} {XP : (PySem.Str → Option Value) → Heap → Prop} {YP : World → Heap → Prop} {d : DefRec} {x : PySem.Str} {sp : DSp}
    (hn : l.most = some n) (hn2 : n ≤ sizeLine) (hdf : d.params.defaults = []) (hr : Room k callerA) (hsp : ∀ (ns : List Int) (S : Sto) (Q : DK), ns.length ≤ n → Q (.bl true) S → sp [.cl (ns.map .int)] S Q E0D)
    (F : ∀ (w : World) (mg : PySem.Str → Option Value) (fa : Addr) (h : Heap), YP w h → h.Ns mainGlobals mg → mg d.name = some (.ref fa) →
      ∃ (K : PySem.W.Frag) (fd : FuncData), K.In h ∧ (∀ (s : Shared) (u : Value), BindsTo s fd ⟨[u], []⟩ [(x, u)]) ∧
        ∀ base : Heap, K.In base → base.Ns mainGlobals mg → FnOk l.prog w K mg base (L2.CX l.prog w) k fa fd [x] (lift ⟨l.prog, w, K⟩ sp)) :
    PySem.W.WalkO q loose XP YP l.row.toRowW d [] (fun f vs => PySem.call f vs) := by
  refine Att.attach_call hn hdf fun w s₀ s₁ mg mb fa o pm cd doc a vs ns G Y ho hd hcd hmg hobj hints hlen hg => ?_
  obtain ⟨K, fd, KX, hb, hF⟩ := F w mg fa _ Y G.T.g hmg
  exact law_call KX G.T.g G.T.b G.T.builtins G.T.nolimit hg hobj hints (Nat.le_trans hlen hn2) hr hF hb (fun H hO hS => lift_law (M := ⟨l.prog, w, K⟩) hO hS fun S Q z => hsp ns S Q hlen z) fun H e s' z => cx_no z
end HR
end
noncomputable section
namespace LW
open PySem PySem.W PySem.Calls PyProof.Rows HandSHeadRun HR L2 DL
theorem okLaw {w : World} {K : PySem.W.Frag} {h : Heap} {mg : PySem.Str → Option Value} {fa' : Addr} {fd : FuncData} (X : K.In h) (G : h.Ns mainGlobals mg) (c : SaysC P0 fa fn cn w K)
    (F : FunD K "law" "law" (defArgs (topS 56)) (defBody (topS 56)) (defScope (topS 56)) [] [] fa' fd) (base : Heap) : FnOk P0 w K mg base (L2.CX P0 w) 30 fa' fd ["script"] (lift ⟨P0, w, K⟩ K07.sp_law) :=
  have Fc : K07.Facts ⟨P0, w, K, mg, base⟩ := facts X G c
  okD (k := 29) F K07.sc_law (fun ds S Q E h => by (unfold K07.sp_law at h; (repeat (obtain ⟨_, h⟩ := h)); subst_vars; rfl))
    (fun cdv A outer s H E hr => K07.drv_law (C := ⟨P0, w, K, mg, base⟩) _ (K07.ok_law_bag Fc) (K07.ok_law_name Fc) ((K07.ok_law_deep_sum Fc 5).mono (by decide)) (K07.ok_law_number Fc) (K07.ok_law_take Fc) ((K07.ok_law_worth Fc 6).mono (by decide)) (K07.ok_law_kind_same Fc) (K07.ok_law_told Fc) (K07.ok_law_unfit Fc) (K07.okk_value Fc) Fc.z_range Fc.z_dict cdv A outer s H E hr) (K07.rd_law _)
abbrev dL : DefRec := topDef P0 56
theorem x_e : opening LR.prog = plainProg LR.prog.main.scope.names := by kernel_rfl
theorem x_f (s : Shared) : fenceModules? LR.prog s = some s := by kernel_rfl
theorem x_def : defOf qv LR.name = some (dL, []) := by kernel_rfl
theorem x_the : LR.prog.theDef LR.name = some (dL.params, dL.body, dL.scope) := by kernel_rfl
theorem x_k : kwWritten? dL.params.kwonlyargs dL.params.kw_defaults = some [] := by rfl
theorem x_w : (!LR.writes || LR.records.isEmpty) = true := by decide +kernel
theorem x_s : LR.wellSaid = true := by decide +kernel
theorem x_o : (chainsOk qv && (opensWell LR.prog && (frees LR.toRowW && LR.within.isEmpty))) = true := by decide +kernel
theorem x_b : LR.prog.bare := ⟨rfl, rfl, rfl, rfl, rfl, by decide +kernel⟩
theorem x_nm : dL.name = ("law" : PySem.Str) := by kernel_rfl
theorem x_p1 : PySem.Challenge.rw_sumwarden_k07_values_of_sums.most = some 63 := by rfl
theorem x_p2 : dL.params.defaults = [] := by kernel_rfl
theorem x_call : WalkO qv loose (XL qv []) hk.says LR.toRowW dL [] fun f vs => PySem.call f vs := by
  refine HR.walk_x (l := PySem.Challenge.rw_sumwarden_k07_values_of_sums) (n := 63) (k := 30) (x := "script") (sp := K07.sp_law) x_p1 (by decide) x_p2 ⟨rfl, by decide, by decide⟩ (fun ns S Q _ z => ⟨ns, rfl, z⟩) ?F
  intro w mg fa h Y G hmg0
  obtain ⟨K, KX, c⟩ := Y
  have hmg : mg ("law" : PySem.Str) = some (.ref fa) := by
    rw [← x_nm]
    exact hmg0
  obtain ⟨fd, F⟩ := c.d.def_ 31 (d := LW.f_law) rfl
  have e := hmg.symm.trans (He.glo_ok KX G (c.d.fact 31 (f := .glo "law") rfl))
  cases e
  exact ⟨K, fd, KX, fun s u => L2.FunD.bindsA (ps := ["script"]) F K07.bnd_law s [u] rfl, fun base _ _ => LW.okLaw KX G c F base⟩
end LW
open PySem PySem.W PySem.Calls PyProof.Rows
theorem PySem.Challenge.cw_sumwarden_k07_values_of_sums_holds : PySem.Challenge.rw_sumwarden_k07_values_of_sums.Holds := by
  w_on; o_law
  refine HR.head_x (r := OpenLaw.row PySem.Challenge.rw_sumwarden_k07_values_of_sums) (q := LW.qv) (H := LW.hk) (M := 12 + (100000000 + 20000)) (loose := LW.loose) (d := LW.dL) (kwd := [])
    LW.x_e LW.x_f LW.top LW.x_def LW.x_the LW.x_k LW.x_w LW.x_s LW.x_o LW.x_b ?hw LW.x_call
  case hw => w_witness2
end
