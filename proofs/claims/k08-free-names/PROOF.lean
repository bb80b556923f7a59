import PyProof.Rows.All
import Wide.All
import OpenK.AllK
import Wide.FinOn
import HandS.ForMost
import HandS.TupAny
import HandS.Flow
import HandS.Wide
import HandS.WideBits
import HandS.Text
import HandS.Iter
import HandS.IsInst
import HandS.TupLe
import HandS.FStr
import HandS.Words
import HandS.WordsExc
import HandS.WordsDict
import HandS.Rev
import HandS.Zip
import HandS.Defaults
import HandS.Head0
import HandS.Head1
import HandS.Head2
import HandS.HeadEnd
import HandS.HeadHook1
import HandS.HeadHook2
import HandS.HeadHook3
import HandS.HeadHook4
import HandS.More
import HandS.SetKeys
import HandS.Conv
import KE.KDictKeyed
import HandS.SetBool
import HandS.Zip0
import PyProof.Rows.SortShellAny
import KE.KDictZip
import KE.KDictItemsList
import PySem.Challenge.RW_sumwarden_k08_free_names
set_option Elab.async false
set_option linter.all false
set_option maxRecDepth 100000
set_option maxHeartbeats 0
section
/-! The D-layer, part 1: values as trees, a small store, readings over them. -/
namespace DL
open PySem
/-- values: tuples by value; cl, cd: a list, a dict that is never written; ref: an object of the store, a class -/
inductive D where
  | non | bl (b : Bool) | int (i : Int) | str (s : Str) | tup (xs : List D) | ref (a : Addr) | ty (n : String)
  | cl (xs : List D) | cd (ks vs : List D)
inductive Cell where
  | lst (xs : List D)
  | dic (ks vs : List D)
  | set (xs : List D)
  | ins (C : Addr) (fs : List (Str × D))
abbrev Sto := Addr → Option Cell
def put (S : Sto) (a : Addr) (c : Cell) : Sto := fun b => if b = a then some c else S b
theorem put_same {S : Sto} {a : Addr} {c : Cell} : put S a c a = some c := by unfold put; rw [if_pos rfl]
theorem put_ne {S : Sto} {a b : Addr} {c : Cell} (h : b ≠ a) : put S a c b = S b := by unfold put; rw [if_neg h]
/-- less is known -/
def Le (S S' : Sto) : Prop := ∀ a c, S a = some c → S' a = some c
theorem Le.refl (S : Sto) : Le S S := fun _ _ h => h
theorem Le.trans {A B C : Sto} (h : Le A B) (h' : Le B C) : Le A C := fun a c e => h' a c (h a c e)
theorem Le.put {S S' : Sto} {p : Addr} {c : Cell} (h : Le S S') (n : S' p = none) : Le S (put S' p c) := fun a d e => by
  have e' := h a d e
  by_cases q : a = p
  · subst q; rw [n] at e'; cases e'
  · rw [put_ne q]; exact e'

abbrev Env := List (Option D)
abbrev DK := D → Sto → Prop
abbrev DTE := Env → Sto → DK → Prop
abbrev DTT := Env → Sto → (Bool → Sto → Prop) → Prop
abbrev DTA := Env → Sto → (List D → Sto → Prop) → Prop
structure DEnds where
  nx : Env → Sto → Prop
  rt : DK
  bk : Env → Sto → Prop := fun _ _ => False
  ct : Env → Sto → Prop := fun _ _ => False
abbrev DTS := DEnds → Env → Sto → Prop

/-! ### expressions -/
def dVar (i : Nat) : DTE := fun ε S Q => ∃ d, ε[i]? = some (some d) ∧ Q d S
def dC (d : D) : DTE := fun _ S Q => Q d S
def dNil : DTA := fun _ S Q => Q [] S
def dCons (t : DTE) (r : DTA) : DTA := fun ε S Q => t ε S fun x S1 => r ε S1 fun xs S2 => Q (x :: xs) S2
def dTup (t : DTA) : DTE := fun ε S Q => t ε S fun xs S1 => xs.length ≤ sizeLine ∧ Q (.tup xs) S1
def dLst (t : DTA) : DTE := fun ε S Q => t ε S fun xs S1 => xs.length ≤ sizeLine ∧ ∀ p, S1 p = none → Q (.ref p) (put S1 p (.lst xs))
abbrev DR2 := D → D → Sto → DK → Prop
def dOp (r : DR2) (a b : DTE) : DTE := fun ε S Q => a ε S fun x S1 => b ε S1 fun y S2 => r x y S2 Q
end DL
end
section
/-! The D-layer: sets of ints and texts, told by their members in some order. -/
namespace DL
open PySem PySem.Spec PyProof.Rows L2
/-- the key that a value carries -/
def keyV : Value → Option Key
  | .int i _ => some (.inl i)
  | .str x _ => some (.inr x)
  | _ => none
theorem keyV_is {v : Value} {k : Key} : keyIs k v = true ↔ keyV v = some k := by
  cases k with
  | inl i =>
    cases v with
    | int j t =>
      show (j == i) = true ↔ some (Sum.inl j : Key) = some (.inl i)
      rw [beq_iff_eq]
      exact ⟨fun e => by rw [e], fun e => Sum.inl.inj (Option.some.inj e)⟩
    | str y t => exact ⟨fun z => (nomatch (show false = true from z)), fun z => by cases z⟩
    | _ => exact ⟨fun z => (nomatch (show false = true from z)), fun z => by cases z⟩
  | inr x =>
    cases v with
    | str y t =>
      constructor
      · intro z
        obtain ⟨t', e⟩ := Value.isStrOf_shape (x := x) (v := .str y t) z
        cases e
        rfl
      · intro z
        have e : y = x := Sum.inr.inj (Option.some.inj z)
        subst e
        exact keyIs_str y t
    | int j t => exact ⟨fun z => (nomatch (show false = true from z)), fun z => by cases z⟩
    | _ => exact ⟨fun z => (nomatch (show false = true from z)), fun z => by cases z⟩
theorem keyV_scan {v : Value} {k : Key} (h : keyV v = some k) : v.scannable = true := by
  cases v <;> first | rfl | cases h
def entK (e : Int × Value) : Option Key := keyV e.2
/-- an entry that a set of keys has -/
def EntOk (w : World) (e : Int × Value) : Prop := ∃ k, entK e = some k ∧ e.1 = keyH w k
/-- among them -/
def inM (ms : List Key) (k : Key) : Bool := ms.any fun j => decide (j = k)
theorem inM_iff {ms : List Key} {k : Key} : inM ms k = true ↔ k ∈ ms := by
  unfold inM
  rw [List.any_eq_true]
  exact ⟨fun ⟨j, h, e⟩ => of_decide_eq_true e ▸ h, fun h => ⟨k, h, decide_eq_true rfl⟩⟩
structure SetI (w : World) (es : Array (Int × Value)) (t : SetTable) (ms : List Key) : Prop where
  ent : ∀ e ∈ es.toList, EntOk w e
  perm : (es.toList.filterMap entK).Perm ms
  nodup : ms.Nodup
  bd : es.size < scanBound
  fits : t.fits es.size = true
  ris : Ris t.place.toList
  led : w.params.followText "set-order" = true ∨ t.led = true
/-- at a stands a set whose members are ms, in some order -/
def SetQ (w : World) (h : Heap) (a : Addr) (ms : List Key) : Prop := ∃ o es ep t, h.get? a = some o ∧ o.ExactSet ∧ o.data = .set es ep t ∧ SetI w es t ms
theorem ent_all {w : World} {l : List (Int × Value)} (g : ∀ e ∈ l, EntOk w e) : (l.filterMap entK).length = l.length := by
  induction l with
  | nil => rfl
  | cons e l ih =>
    obtain ⟨k, hk, _⟩ := g e List.mem_cons_self
    rw [List.filterMap_cons_some hk, List.length_cons, List.length_cons, ih fun e' he' => g e' (List.mem_cons_of_mem _ he')]
theorem SetI.size {w : World} {es : Array (Int × Value)} {t : SetTable} {ms : List Key} (I : SetI w es t ms) : es.size = ms.length := by
  rw [← I.perm.length_eq, ent_all I.ent, Array.length_toList]
section
variable {P : Program} {w : World} {h h' : Heap} {a : Addr} {ms : List Key}
theorem SetQ.at (R : SetQ w h a ms) (k : ∀ o, h.get? a = some o → h'.get? a = some o) : SetQ w h' a ms := by
  obtain ⟨o, es, ep, t, ho, r⟩ := R
  exact ⟨o, es, ep, t, k o ho, r⟩
theorem ent_elems {l : List (Int × Value)} (g : ∀ e ∈ l, EntOk w e) : ElemsOf (mixKind P w) l := fun e he => by
  obtain ⟨k, h1, h2⟩ := g e he
  exact ⟨⟨k, keyV_is.mpr h1, h2⟩, keyV_scan h1⟩
theorem ent_mem {l : List (Int × Value)} (k : Key) : k ∈ l.filterMap entK ↔ ∃ e ∈ l, (mixKind P w).is k e.2 = true := by
  rw [List.mem_filterMap]
  exact ⟨fun ⟨e, he, q⟩ => ⟨e, he, keyV_is.mpr q⟩, fun ⟨e, he, q⟩ => ⟨e, he, keyV_is.mp q⟩⟩
theorem SetQ.setOf (R : SetQ w h a ms) : h.SetOf (mixKind P w) a (inM ms) ms.length := by
  obtain ⟨o, es, ep, t, ho, hx, hd, I⟩ := R
  exact ⟨o, es, ep, t, ho, hx, hd, ent_elems I.ent, fun k => by rw [inM_iff, ← I.perm.mem_iff]; exact ent_mem k, I.bd, I.fits, I.size⟩
end
/-- one more member, if it is new -/
def putM (ms : List Key) (k : Key) : List Key := if inM ms k = true then ms else ms ++ [k]
section
variable {P : Program} {w : World} {A : Around} {E : Value → Shared → Prop} {s : Shared} {a : Addr} {ms : List Key}
theorem put_at {h : Heap} {a : Addr} {o : Obj} {es es' : Array (Int × Value)} {ep : Nat} {t t' : SetTable} (ho : h.get? a = some o) (hd : o.data = .set es ep t) :
    (h.update a (Obj.putSet es' t')).get? a = some { o with data := .set es' (ep + 1) t' } := by
  have e := putSet_of es' t' hd
  have u := Heap.get?_update_self (Obj.putSet es' t') ho (by rw [e]; rfl)
  exact u.trans (congrArg some e)
theorem add_tail {g : Bool → Sem Unit} (hg : ∀ (b : Bool) (s1 : Shared) (Q' : Unit → Shared → Prop), Q' () s1 → wpAny (model P w) A (g b) Q' E s1)
    {o : Obj} {es : Array (Int × Value)} {ep : Nat} {t : SetTable} (ho : s.heap.get? a = some o) (hex : o.ExactSet) (hd : o.data = .set es ep t)
    {es1 : Array (Int × Value)} {t2 : SetTable} {ns : List Key} (I : SetI w es1 t2 ns) {wasDummy : Bool} {R : Option Bool → Shared → Prop}
    (hR : ∀ h', Heap.SameBut a s.heap h' → SetQ w h' a ns → R (some true) { s with heap := h' }) :
    wpAny (model P w) A (do
        storeSet a es1 t2
        if (!wasDummy && t2.tooFull) = true then do
            g (relayAll t2 es1 (SetTable.grown es1.size)).2.2
            storeSet a (relayAll t2 es1 (SetTable.grown es1.size)).1 (relayAll t2 es1 (SetTable.grown es1.size)).2.1
            pure (some true)
          else pure (some true)) R E s := by
  refine wpAny_bind (wpAny_storeSet_of ho hd ?_ (fits_of_scanBound I.bd))
  have o1 := put_at (es' := es1) (t' := t2) ho hd
  have b1 := Heap.SameBut.update s.heap a (Obj.putSet es1 t2)
  by_cases full : (!wasDummy && t2.tooFull) = true
  · rw [if_pos full]
    have z1 := relayAll_perm t2 es1 (SetTable.grown es1.size)
    have z2 := relayAll_fits t2 es1 (SetTable.grown es1.size)
    have z3 := relayAll_ris t2 es1 (SetTable.grown es1.size)
    have z4 := relayAll_led t2 es1 (SetTable.grown es1.size)
    revert z1 z2 z3 z4
    obtain ⟨es2, t3, gave⟩ := relayAll t2 es1 (SetTable.grown es1.size)
    intro z1 z2 z3 z4
    have hsz : es2.size = es1.size := by
      have := z1.length_eq
      rwa [Array.length_toList, Array.length_toList] at this
    have I2 : SetI w es2 t3 ns := ⟨fun e he => I.ent e (z1.mem_iff.mp he), (z1.filterMap entK).trans I.perm, I.nodup, by rw [hsz]; exact I.bd, z2, z3, I.led.imp_right fun y => by
      rw [show t3.led = t2.led from z4]; exact y⟩
    refine wpAny_bind (hg _ _ _ (wpAny_bind (wpAny_storeSet_of o1 rfl (wpAny_pure (hR _ (b1.trans (Heap.SameBut.update _ a _)) ?_)) (fits_of_scanBound I2.bd))))
    exact ⟨_, es2, _, t3, put_at (es' := es2) (t' := t3) o1 rfl, hex, rfl, I2⟩
  · rw [if_neg full]
    exact wpAny_pure (hR _ b1 ⟨_, es1, _, t2, o1, hex, rfl, I⟩)
theorem add_hashed {v : Value} {k : Key} {Q : Bool → Shared → Prop} (hkey : keyIs k v = true) (R : SetQ w s.heap a ms) (room : ms.length + 1 < scanBound)
    (hQ : ∀ b h', Heap.SameBut a s.heap h' → SetQ w h' a (putM ms k) → Q b { s with heap := h' }) : wpAny (model P w) A (setAddHashed a v (keyH w k)) Q E s := by
  obtain ⟨o, es, ep, t, ho, hex, hd, I⟩ := R
  have hkm : (mixKind P w).is k v = true := hkey
  have hsc : v.scannable = true := keyV_scan (keyV_is.mp hkey)
  have hel : ElemsOf (mixKind P w) es.toList := ent_elems I.ent
  unfold setAddHashed setAddHashedIn
  refine wpAny_holding (wpAny_bind (wpAny_setState_of ho hd I.fits ?_))
  dsimp only
  rw [byScan_of hsc I.bd hel]
  simp only [↓reduceIte]
  unfold setAddByScan
  refine wpAny_bind (wpAny_bind (wpAny_rule (wpAny_bind (wpAny_setScan_of hkm ho hd I.fits hel ?_))))
  cases hfi : es.toList.findIdx? (fun e => (mixKind P w).is k e.2) with
  | some j =>
    dsimp only
    obtain ⟨hj, pj, _⟩ := List.findIdx?_eq_some_iff_getElem.mp hfi
    have there : k ∈ ms := I.perm.mem_iff.mp ((ent_mem (P := P) (w := w) k).mpr ⟨es.toList[j], List.getElem_mem hj, pj⟩)
    refine wpAny_pure (wpAny_pure ?_)
    exact hQ false s.heap (Heap.SameBut.refl a s.heap) (by unfold putM; rw [if_pos (inM_iff.mpr there)]; exact ⟨o, es, ep, t, ho, hex, hd, I⟩)
  | none =>
    dsimp only
    have fresh : k ∉ ms := fun y => by
      obtain ⟨e, he, q⟩ := (ent_mem (P := P) (w := w) k).mp (I.perm.mem_iff.mpr y)
      have c := List.findIdx?_eq_none_iff.mp hfi e he
      rw [q] at c
      cases c
    have y1 := layNew_perm t es (keyH w k) v
    have y2 := layNew_fits t es (keyH w k) v
    have y3 := layNew_ris t es (keyH w k) v I.ris
    have y4 := layNew_led t es (keyH w k) v
    change wpAny _ _ ((match (layNew t es (keyH w k) v).2.2.2 with | true => _ | false => _) >>= _) _ _ _
    revert y1 y2 y3 y4
    obtain ⟨es1, t1, wasDummy, gave⟩ := layNew t es (keyH w k) v
    intro y1 y2 y3 y4
    dsimp only at y1 y2 y3 y4 ⊢
    rw [Array.toList_push] at y1
    have pc : es1.toList.Perm ((keyH w k, v) :: es.toList) := y1.trans (List.perm_append_singleton _ _)
    have hv : entK (keyH w k, v) = some k := keyV_is.mp hkey
    have pk : (es1.toList.filterMap entK).Perm (putM ms k) := by
      unfold putM
      rw [if_neg fun y => fresh (inM_iff.mp y)]
      refine (pc.filterMap entK).trans ?_
      rw [List.filterMap_cons_some hv]
      exact (List.Perm.cons k I.perm).trans (List.perm_append_singleton k ms).symm
    have ent1 : ∀ e ∈ es1.toList, EntOk w e := fun e he => by
      rcases List.mem_cons.mp (pc.mem_iff.mp he) with y | y
      · subst y; exact ⟨k, hv, rfl⟩
      · exact I.ent e y
    have nd1 : (putM ms k).Nodup := by
      unfold putM
      rw [if_neg fun y => fresh (inM_iff.mp y)]
      exact (List.perm_append_singleton k ms).nodup_iff.mpr (List.nodup_cons.mpr ⟨fresh, I.nodup⟩)
    have sz1 : es1.size = ms.length + 1 := by
      have := pc.length_eq
      rw [Array.length_toList, List.length_cons, Array.length_toList, I.size] at this
      exact this
    have I1 : ∀ t' : SetTable, t'.fits es1.size = true → Ris t'.place.toList → t'.led = t.led → SetI w es1 t' (putM ms k) := fun t' f r l =>
      ⟨ent1, pk, nd1, by rw [sz1]; exact room, f, r, I.led.imp_right fun y => by rw [l]; exact y⟩
    have hgw : ∀ (b : Bool) {s1 : Shared} {Q' : Unit → Shared → Prop}, Q' () s1 → wpAny (model P w) A (match b with | true => rule "set.scan.the-table-gave-way" | false => pure ()) Q' E s1 := fun b s1 Q' q => by
      cases b <;> first | exact wpAny_pure q | exact wpAny_rule q
    refine wpAny_bind (hgw _ ?_)
    split
    · refine wpAny_bind ?_
      rw [hashByValue_scannable 8 hsc]
      refine wpAny_pure (add_tail ?_ ho hex hd (I1 _ ?_ ?_ ?_) fun h' sb r => wpAny_pure (hQ true h' sb r))
      · intro b s1 Q' q; cases b <;> first | exact wpAny_pure q | exact wpAny_rule q
      · first | (split <;> first | exact y2 | exact SetTable.fits_plain_off y2) | exact y2
      · first | (split <;> exact y3) | exact y3
      · first | (split <;> exact y4) | exact y4
    · refine wpAny_bind (wpAny_pure ?_)
      simp only [↓reduceIte]
      refine add_tail ?_ ho hex hd (I1 _ y2 y3 y4) fun h' sb r => wpAny_pure (hQ true h' sb r)
      intro b s1 Q' q; cases b <;> first | exact wpAny_pure q | exact wpAny_rule q
/-- set.add -/
theorem add_call {v : Value} {k : Key} {Q : Value → Shared → Prop} (hkey : keyIs k v = true) (R : SetQ w s.heap a ms) (room : ms.length + 1 < scanBound)
    (hQ : ∀ h', Heap.SameBut a s.heap h' → SetQ w h' a (putM ms k) → Q .none { s with heap := h', toks := s.toks + 1 }) : wpAny (model P w) A (call (.builtin "set.add") [.ref a, v]) Q E s := by
  have hS := R.setOf (P := P)
  refine wpAny_call_entry F.slot_set_add hS.typeIs F.entry_set_add ?_ (F.args_set_add_2 _ _)
  unfold Builtin.«set.add» Builtin.Frozenset.oneOther
  simp only [List.isEmpty_nil, bind_assoc]
  unfold Builtin.Frozenset.addrOf setAdd
  refine wpAny_bind (wpAny_pure ?_)
  try dsimp only
  refine wpAny_bind (wpAny_pure ?_)
  try dsimp only
  refine wpAny_bind (wpAny_holding (wpAny_bind ((mixKind P w).pyHash (k := k) hkey ?_)))
  refine add_hashed (s := { s with toks := s.toks + 1 }) hkey R room fun b h' sb r => ?_
  show wpAny _ _ (ret Value.none) _ _ _
  exact wpAny_pure ⟨_, rfl, hQ h' sb r⟩
/-- a new set -/
theorem new_setQ {h : Heap} (w : World) : SetQ w (h.push { cls := .type "set", dict := none, data := .set #[] 0 (.fresh 0 0 (!w.params.followText "set-order")) }) h.objs.size [] := by
  refine ⟨_, #[], 0, _, Heap.get?_push_size _ rfl, ⟨rfl, rfl, rfl⟩, rfl, (fun e he => by simp at he), .nil, .nil, by decide, by rfl, List.Pairwise.nil, ?_⟩
  cases q : w.params.followText "set-order" with
  | true => exact .inl rfl
  | false => exact .inr rfl
end
/-- the set at a, as a thing of the layer -/
def SetO2 (w : World) (a : Addr) (ms : List Key) : HO := .ext fun h => SetQ w h a ms
theorem setO2_ok {w : World} {P : Program} {H : Hp} {h : Heap} {a : Addr} {ms : List Key} (R : SetQ w h a ms) : ObjOk P w H h a (SetO2 w a ms) := by
  have ⟨o, _, _, _, ho, _⟩ := R
  exact ⟨R, ⟨o, ho⟩, fun _ _ p k => p.at k⟩
theorem setO2_get {X : Cx} {pins : List (Addr × Obj)} {σ : L2.St} {H : Hp} {s : Shared} {a : Addr} {ms : List Key} (I : Inv X pins σ H s) (ha : H a = some (SetO2 X.w a ms)) : SetQ X.w s.heap a ms := (I.hok a _ ha).1
theorem add_inv {X : Cx} {pins : List (Addr × Obj)} {σ : L2.St} {H : Hp} {s : Shared} {E : Value → Shared → Prop} {D : Addr} {ms : List Key} {v : Value} {k : Key} {Q : Value → Shared → Prop} (hkey : keyIs k v = true) (I : Inv X pins σ H s) (hD : H D = some (SetO2 X.w D ms)) (room : ms.length + 1 < scanBound)
    (h : ∀ s', Inv X pins σ (upd H D (SetO2 X.w D (putM ms k))) s' → Q .none s') : wpAny (model X.prog X.w) X.A (call (.builtin "set.add") [.ref D, v]) Q E s := by
  refine add_call hkey (setO2_get I hD) room fun h' sb new => ?_
  have he : ∃ u, h'.get? D = some u := by
    have ⟨o, _, _, _, ho, _⟩ := new
    exact ⟨o, ho⟩
  refine h _ (I.write (e := D) (t' := s.toks + 1) (by rw [hD]; trivial) (.inl rfl) (fun b u hb hu => ?_) he (setO2_ok new))
  exact (sb.2 b hb).trans hu
end DL
end
section
/-! The D-layer: sets sorted, made of lists. -/
namespace DL
open PySem PySem.Spec PyProof.Rows L2
theorem strs_vals : ∀ {vs : List Value}, (∀ v ∈ vs, ∃ k, keyV v = some k) → ∀ {xs : List Str}, vs.filterMap keyV = xs.map .inr → StrsAre vs xs
  | [], _, xs, h => by
    cases xs with
    | nil => exact .nil
    | cons x xs => cases h
  | v :: vs, g, xs, h => by
    obtain ⟨k, hk⟩ := g v List.mem_cons_self
    rw [List.filterMap_cons_some hk] at h
    cases xs with
    | nil => cases h
    | cons x xs =>
      rw [List.map_cons] at h
      injection h with h1 h2
      subst h1
      cases v with
      | str y t =>
        have e2 : y = x := Sum.inr.inj (Option.some.inj hk)
        subst e2
        exact .cons y t (strs_vals (fun u hu => g u (List.mem_cons_of_mem _ hu)) h2)
      | _ => cases hk
def outS : Key → Option Str
  | .inr x => some x
  | .inl _ => none
theorem perm_inr : ∀ {l : List Key} {xs : List Str}, l.Perm (xs.map .inr) → ∃ ys : List Str, l = ys.map .inr ∧ ys.Perm xs := fun {l xs} p => by
  have all : ∀ k ∈ l, ∃ x : Str, k = .inr x := fun k hk => by
    obtain ⟨x, _, e⟩ := List.mem_map.mp (p.mem_iff.mp hk)
    exact ⟨x, e.symm⟩
  have ex : ∃ ys : List Str, l = ys.map .inr := by
    clear p
    induction l with
    | nil => exact ⟨[], rfl⟩
    | cons k l ih =>
      obtain ⟨x, e⟩ := all k List.mem_cons_self
      obtain ⟨ys, e2⟩ := ih fun j hj => all j (List.mem_cons_of_mem _ hj)
      exact ⟨x :: ys, by rw [e, e2]; rfl⟩
  obtain ⟨ys, e⟩ := ex
  subst e
  refine ⟨ys, rfl, ?_⟩
  have q := p.filterMap outS
  have un : ∀ zs : List Str, (zs.map (Sum.inr : Str → Key)).filterMap outS = zs := fun zs => by
    induction zs with
    | nil => rfl
    | cons z zs ih =>
      have e : (Sum.inr z :: zs.map (Sum.inr : Str → Key)).filterMap outS = z :: (zs.map (Sum.inr : Str → Key)).filterMap outS := List.filterMap_cons_some rfl
      rw [List.map_cons, e, ih]
  rwa [un, un] at q
section
variable {P : Program} {w : World} {A : Around} {E : Value → Shared → Prop} {s : Shared} {a : Addr}
theorem sorted_setS {ms : List Key} {xs : List Str} {Q : Value → Shared → Prop} (R : SetQ w s.heap a ms) (hm : ms = xs.map .inr) (hh : A.handled = none)
    (hQ : ∀ s' p (out : Array Value) (c : Nat) (ys : List Str), (∀ b o, s.heap.get? b = some o → s'.heap.get? b = some o) → s'.gens = s.gens → s'.os = s.os → s.heap.objs.size ≤ p →
      s'.heap.get? p = some (seqObj "list" out c) → StrsAre out.toList ys → ys.Perm xs → sortedS ys = true → Q (.ref p) s') : wpAny (model P w) A (call (.builtin "sorted") [.ref a]) Q E s := by
  obtain ⟨o, es, ep, t, ho, hex, hd, I⟩ := R
  refine Calls.call_function_entry kind_sorted plain_sorted entry_sorted (args_sorted1 _) ?_
  unfold Builtin.«sorted»
  refine wpAny_bind (m := checkCount "sorted" 1 1 _) (wpAny_pure ?_)
  refine wpAny_bind (collect_set (A := A.in1) hh ⟨o, ho, hex.1, hd⟩ I.fits I.bd I.ris I.led fun s1 vs k1 hz g1 o1 pm => ?_)
  have vlen : vs.length = es.size := by rw [pm.length_eq, List.length_map, Array.length_toList]
  have vfit : vs.length ≤ sizeLine := by rw [vlen]; exact fits_of_scanBound I.bd
  -- the texts that are gathered
  have hk : ∃ ys : List Str, (vs.filterMap keyV) = ys.map .inr ∧ ys.Perm xs := by
    refine perm_inr ?_
    have e1 : (es.toList.map (·.2)).filterMap keyV = es.toList.filterMap entK := by rw [List.filterMap_map]; rfl
    have p1 := pm.filterMap keyV
    rw [e1] at p1
    have p2 := I.perm
    rw [hm] at p2
    exact p1.trans p2
  obtain ⟨zs, hz1, hz2⟩ := hk
  have hS : StrsAre vs zs := strs_vals (fun v hv => by
    obtain ⟨e, he, q⟩ := List.mem_map.mp (pm.mem_iff.mp hv)
    obtain ⟨k, hk, _⟩ := I.ent e he
    exact ⟨k, by rw [← q]; exact hk⟩) hz1
  refine wpAny_bind (wpAny_newList ?_ vfit)
  have hoL : (s1.heap.push (seqObj "list" vs.toArray 0)).get? s1.heap.objs.size = some (seqObj "list" vs.toArray 0) := Heap.get?_push_size _ rfl
  refine wpAny_bind (wpAny_holding (wpAny_call_entry slot_list_sort ⟨_, hoL, rfl⟩ entry_list_sort (list_sort_treeKAny strKind_oneLt hoL hS.keysOf (fun v₁ v₂ rest e => keyKind_strs (by rw [← e]; exact hS)) vfit fun st' hp hs => ⟨_, rfl, ?_⟩) (args_list_sort _)))
  obtain ⟨ys, r1, r2, r3⟩ := sorted_out_str hS hp hs
  obtain ⟨c, hc⟩ := sortedHeap_at (vs := vs) (out := (PyProof.Rows.arrOf st').map (·.2)) hoL
  refine wpAny_pure ⟨_, rfl, hQ _ s1.heap.objs.size _ c ys (fun b u e => ?_) g1 o1 hz hc r1 (r2.trans hz2) r3⟩
  have e2 := k1 b u e
  have lt := Heap.lt_size e2
  show (sortedHeap (s1.heap.push (seqObj "list" vs.toArray 0)) s1.heap.objs.size vs ((PyProof.Rows.arrOf st').map (·.2))).get? b = some u
  rw [sortedHeap_old (Nat.ne_of_lt lt) (by rw [size_push']; exact Nat.lt_succ_of_lt lt)]
  exact Heap.get?_push_of_some _ e2
end
end DL
end
section
/-! The D-layer: set comprehensions, sets of lists. -/
namespace DL
open PySem PySem.Spec PyProof.Rows L2
section
variable {X : Cx}
/-- {elt for target in iter if ..}, elt an int or a text; D the new set -/
def tSq (w : World) (wi : TI) (g : TG) (tt : TT) (te : TE) (vs : List Nat) : TE := fun σ H Q => wi σ H fun J H1 => ∀ D, H1 D = none → ∃ W : Nat → Nat → Hp → Prop, (∃ m, W 0 m (upd H1 D (SetO2 w D []))) ∧ ∀ i m H, W i m H →
  (J.stop i H ∧ Q (.ref D) H) ∨ (J.go i H ∧ ∃ Nx : Hp → Prop, (∀ H', Nx H' → ∃ m', m' < m ∧ W (i + 1) m' H') ∧ ∀ x H', J.yld i H x H' → g x (wipe σ vs) H' fun σ2 H2 => wipe σ2 vs = wipe σ vs ∧ tt σ2 H2 fun b H3 =>
    if b = true then te σ2 H3 fun y H4 => ∃ (k : Key) (ms : List Key), y = kV k ∧ H4 D = some (SetO2 w D ms) ∧ ms.length + 1 < scanBound ∧ Nx (upd H4 D (SetO2 w D (putM ms k))) else Nx H3)
theorem rel_key {k : Key} {u : Value} (r : RelV (kV k) u) : keyIs k u = true := by
  cases k with
  | inl i => obtain ⟨t, rfl⟩ := (show ∃ t, u = Value.int i t from r); exact keyIs_int i t
  | inr x => obtain ⟨t, rfl⟩ := (show ∃ t, u = Value.str x t from r); exact keyIs_str x t
variable {elt tg iter : Expr} {ifs : List Expr} {scope : Scope} {own : List (PySem.Str × Nat)} {pos : Pos} {wi : TI} {g : TG} {tt : TT} {te : TE}
theorem pe_sq (hc : X.calm = true) (hN : X.N.Nodup) (hi : PI X tg iter wi) (ok : BlkOk X.N X.env.scope scope own)
    (hg : ∀ (s : Shared) (H : Hp) (C : Addr) (cl : List (PySem.Str × Addr)) (fp : List Addr), PG (X.blk s H scope (compEnvC scope cl C X.env) fp) tg g) (ht : ∀ (s : Shared) (H : Hp) (C : Addr) (cl : List (PySem.Str × Addr)) (fp : List Addr), PTs (X.blk s H scope (compEnvC scope cl C X.env) fp) ifs tt)
    (he : ∀ (s : Shared) (H : Hp) (C : Addr) (cl : List (PySem.Str × Addr)) (fp : List Addr), PE (X.blk s H scope (compEnvC scope cl C X.env) fp) elt te) (hs : ∀ x, foldedSetIterable iter X.env x = pure x) :
    PE X (.SetComp elt [⟨tg, iter, ifs, 0⟩] scope pos) (tSq X.w wi g tt te (own.map (·.2))) := by
  refine ⟨fun pins s σ H Q I h => ?_⟩
  rw [PpSet.eval_SetComp]
  have free : ∀ y ∈ scope.names, y.2 = .free → ∃ c, X.env.cells.lookup y.1 = some c := fun y hy e =>
    (ok.free y hy e).elim (fun k => I.ok.has _ (.inl k)) fun k => I.ok.has _ (.inr k)
  refine wpAny_comprehension_free (use := none) rfl hs (closure_ok free) ok.kind (fun y hy e => by rw [ok.uniq y hy, e]) (thn (hi.run pins s σ H _ I h) fun _ s1 hx => thn hx fun _ s2 h2 => ?_)
  obtain ⟨it, fp, tn, J, H2, e, I2, T, st2, f2, q⟩ := h2
  subst e
  refine PpSet.newSet_ok (newEnv_comp ?_)
  generalize hD : s2.heap.objs.size = D
  obtain ⟨W, ⟨m0, w0⟩, turn⟩ := q D (I2.hok.fresh (Nat.le_of_eq hD))
  -- the set is there
  generalize hs3 : ({ s2 with heap := s2.heap.push { cls := .type "set", dict := none, data := .set #[] 0 (.fresh 0 0 (!X.w.params.followText "set-order")) } } : Shared) = s3
  have hp3 : s3.heap = s2.heap.push { cls := .type "set", dict := none, data := .set #[] 0 (.fresh 0 0 (!X.w.params.followText "set-order")) } := by rw [← hs3]
  have I3 : Inv X pins σ (upd H2 D (SetO2 X.w D [])) s3 := by
    rw [← hs3]
    have new := setO2_ok (P := X.prog) (H := upd H2 D (SetO2 X.w D [])) (new_setQ (h := s2.heap) X.w)
    rw [hD] at new
    exact I2.laid (t' := s2.toks) (fun b o e => Heap.get?_push_of_some _ e) (Nat.le_of_eq hD) new
  have low : ∀ b ∈ fp, b < s2.heap.objs.size := fun b hb => let ⟨o, e, _⟩ := T.obj _ _ st2 b hb; Heap.lt_size e
  have f3 : ∀ b ∈ fp, FpOk X pins (upd H2 D (SetO2 X.w D [])) b ∧ b < s3.heap.objs.size := fun b hb => by
    have lt := low b hb
    have ne : b ≠ D := by rw [← hD]; exact Nat.ne_of_lt lt
    exact ⟨⟨(upd_ne ne).trans (f2 b hb).1, (f2 b hb).2⟩, by rw [hp3, Heap.size_push]; exact Nat.lt_succ_of_lt lt⟩
  have st3 : tn 0 s3.heap := T.keep _ _ _ st2 fun b _ o e => by rw [hp3]; exact Heap.get?_push_of_some _ e
  have I4 := block_start I3 ok hN f3
  have pg := hg s3 (upd H2 D (SetO2 X.w D [])) s3.heap.objs.size (cellsFrom (s3.heap.objs.size + 1) scope.names (cloFrom X.env.cells scope.names [])) fp
  have pt := ht s3 (upd H2 D (SetO2 X.w D [])) s3.heap.objs.size (cellsFrom (s3.heap.objs.size + 1) scope.names (cloFrom X.env.cells scope.names [])) fp
  have pe := he s3 (upd H2 D (SetO2 X.w D [])) s3.heap.objs.size (cellsFrom (s3.heap.objs.size + 1) scope.names (cloFrom X.env.cells scope.names [])) fp
  show codeAny _ _ (.compStart (.SetComp elt [⟨tg, iter, ifs, 0⟩] scope pos) 0 (.ref it) (.ref D) (compEnvC scope (cellsFrom (s3.heap.objs.size + 1) scope.names (cloFrom X.env.cells scope.names [])) s3.heap.objs.size X.env)) (compPost (model X.prog X.w) X.A X.xe none (EP X pins σ Q) (.ref D) s3.heap.objs.size) { s3 with heap := pushCells (s3.heap.push { cls := .type "dict", data := .dict #[] }) scope.names }
  have nfp : ∀ b ∈ fp, (upd H2 D (SetO2 X.w D [])) b = none := fun b hb => (f3 b hb).1.1
  generalize hce : compEnvC scope (cellsFrom (s3.heap.objs.size + 1) scope.names (cloFrom X.env.cells scope.names [])) s3.heap.objs.size X.env = ce at I4 pg pt pe ⊢
  have cL : ce.locals = s3.heap.objs.size := by subst hce; rfl
  generalize hH3 : upd H2 D (SetO2 X.w D []) = H3 at I3 I4 pg pt pe w0 nfp f3
  generalize hs4 : ({ s3 with heap := pushCells (s3.heap.push { cls := .type "dict", data := .dict #[] }) scope.names } : Shared) = s4 at I4 ⊢
  have st4 : tn 0 s4.heap := T.keep _ _ _ st3 fun b _ o e => by rw [← hs4]; exact pushCells_keeps _ _ _ _ (Heap.get?_push_of_some _ e)
  have stat : ∀ {σ' : L2.St} {H' : Hp} {s' : Shared}, Inv (X.blk s3 H3 scope ce fp) [] σ' H' s' → (∀ b ∈ fp, H' b = none) → ∀ b ∈ fp, FpOk (X.blk s3 H3 scope ce fp) [] H' b := fun {σ' H' s'} I' hn b hb =>
    ⟨hn b hb, (I'.ok.exf b hb).1, I'.ok.exfs b hb, .inl hb, fun x c e => (I'.ok.exf b hb).2 x c e, fun p hp => absurd (show p ∈ ([] : List (Addr × Obj)) ++ [] from hp) (by simp)⟩
  have loop : codeAny (model X.prog X.w) X.A (.compLoop (.SetComp elt [⟨tg, iter, ifs, 0⟩] scope pos) 0 (.ref it) (.ref D) ce) (compPost (model X.prog X.w) X.A X.xe none (EP X pins σ Q) (.ref D) s3.heap.objs.size) s4 := by
    refine PpSet.compLoopS_any (fun n s' => ∃ i H', Inv (X.blk s3 H3 scope ce fp) [] (wipe σ (own.map (·.2))) H' s' ∧ tn i s'.heap ∧ (∀ b ∈ fp, H' b = none) ∧ W i n H') ?_ m0 ⟨0, H3, I4, st4, nfp, w0⟩
    rintro n s5 ⟨i, H5, I5, st5, n5, w5⟩
    rcases turn i n H5 w5 with ⟨stop, fin⟩ | ⟨go, Nx, hNx, step⟩
    · refine thnF (T.done (X.blk s3 H3 scope ce fp) rfl rfl rfl hc i [] s5 _ H5 (fun _ _ => False) I5 (stat I5 n5) st5 stop) fun r s6 ⟨hr, I6⟩ => ?_
      subst hr
      have I7 : Inv X pins σ H5 s6 := I3.call' (ch := fp) I6.os I6.base I6.hok I6.bare fun b hb => ⟨(f3 b hb).1.2.2.2.1, (f3 b hb).1.2.1, (f3 b hb).1.2.2.2.2.1, (f3 b hb).1.2.2.2.2.2⟩
      have nC : H5 s3.heap.objs.size = none := by
        have z : H5 ce.locals = none := I6.free
        rwa [cL] at z
      obtain ⟨m, hn, _⟩ := I6.loc
      have hn : s6.heap.Ns ce.locals m := hn
      rw [cL] at hn
      obtain ⟨k0, k1, k2, k3, k4, k5⟩ := I3.fpOk (Nat.le_refl _) nC
      refine ⟨m, hn, fun h'' sb => ⟨.ref D, H5, I7.turned (t' := s6.toks) (fun b o hb e => (sb.2 b hb).trans e) ?_ k1 k3 k4 k5, rfl, fin⟩⟩
      exact nC
    · refine thnF (T.item (X.blk s3 H3 scope ce fp) rfl rfl rfl hc i [] s5 _ H5 (fun _ _ => False) I5 (stat I5 n5) st5 go) fun r s6 ⟨u, hr, h6⟩ => ?_
      subst hr
      refine thnF h6 fun _ s7 ⟨x, H7, I7, r7, y7, st7, n7⟩ => ?_
      refine thnF (pg.run _ s7 _ H7 x u _ (I7.pinned (stat I7 n7) (T.obj _ _ st7)) r7 (step x H7 y7)) fun _ s8 ⟨σ8, H8, I8, hw8, q8⟩ => ?_
      refine thnF (pt.run _ s8 σ8 H8 _ I8 q8) fun b s9 ⟨H9, I9, q9⟩ => ?_
      have on : ∀ {s' : Shared} {H' : Hp}, Inv (X.blk s3 H3 scope ce fp) ([] ++ pinsAt fp s7.heap) σ8 H' s' → Nx H' → ∃ m, m < n ∧ ∃ i H', Inv (X.blk s3 H3 scope ce fp) [] (wipe σ (own.map (·.2))) H' s' ∧ tn i s'.heap ∧ (∀ b ∈ fp, H' b = none) ∧ W i m H' := fun {s' H'} I' nx => by
        obtain ⟨m', hm, w'⟩ := hNx H' nx
        have pin : ∀ b ∈ fp, ∀ o, s7.heap.get? b = some o → s'.heap.get? b = some o ∧ H' b = none := fun b hb o e =>
          let z := I'.pin (b, o) (List.mem_append_right _ (List.mem_append_right _ (mem_pinsAt hb e)))
          ⟨z.1, z.2.1⟩
        refine ⟨m', hm, i + 1, H', (I'.unpinned (pins := [])).weak (by rw [← hw8, wipe_length]) (fun j v e => ?_), T.keep _ _ _ st7 fun b hb o e => (pin b hb o e).1, fun b hb => ?_, w'⟩
        · rw [← hw8] at e
          exact (wipe_some e).1
        · obtain ⟨o, e, _⟩ := T.obj _ _ st7 b hb
          exact (pin b hb o e).2
      cases b with
      | false => exact on I9 q9
      | true =>
        refine thnF (pe.run _ s9 σ8 H9 _ I9 q9) fun z s10 ⟨yv, H10, I10, r10, k, ms, ey, hD10, room, nx⟩ => ?_
        subst ey
        exact add_inv (X := X.blk s3 H3 scope ce fp) (rel_key r10) I10 hD10 room fun s11 I11 => on I11 nx
  exact PpSet.codeAny_compStart_set loop (T.self X.A 0 _ _ _ st4 loop)
end
end DL
end
section
/-! The D-layer: set(xs), sorted(set) as calls. -/
namespace DL
open PySem PySem.Spec PyProof.Rows L2
theorem putM_len (ms : List Key) (k : Key) : (putM ms k).length ≤ ms.length + 1 := by
  unfold putM
  split
  · exact Nat.le_succ _
  · rw [List.length_append]; exact Nat.le_refl _
section
variable {prog : Program} {w : World} {A : Around} {R : Result → Shared → Prop} {I : Addr} {fp wr : List Addr} {G : Array GenState → Array GenState → Prop} {n : Nat} {Pv : Nat → Value → Prop} {St : Nat → Shared → Prop}
theorem loopQ (W : WalksS prog w A.in1 I fp wr G n Pv St) (D : Addr) (hDf : D ∉ fp) (ks : List Key) (hl : ks.length = n) (hb : n < scanBound) (hv : ∀ i v, Pv i v → ∃ k, ks[i]? = some k ∧ keyIs k v = true) :
    ∀ (m i : Nat) (s : Shared) (ms : List Key), n - i = m → i ≤ n → St i s → SetQ w s.heap D ms → ms.length ≤ i → (∀ s', Moved (D :: wr) G s s' → SetQ w s'.heap D ((ks.drop i).foldl putM ms) → R (.ok (.ret .none)) s') →
      codeAny (model prog w) A (.builtin "set.update.loop" ⟨[.ref D, .ref I], []⟩) R s := by
  have notW : D ∉ wr := fun z => hDf (W.sub _ z)
  have more : ∀ b ∈ wr, b ∈ D :: wr := fun b z => List.mem_cons_of_mem _ z
  intro m
  induction m with
  | zero =>
    intro i s ms hm hi hst hS hle hR
    have e : i = n := by omega
    subst e
    refine codeAny_builtin PyProof.Rows.F.entry_set_update_loop ?_
    rw [Around.under_plainId PyProof.Rows.F.plain_set_update_loop _]
    show wpAny _ A.in1 (pyNext (.ref I) >>= _) _ _ s
    refine wpAny_bind (W.done s _ _ hst fun s' mv => ?_)
    refine wpAny_pure (hR s' (mv.mono more) ?_)
    rw [List.drop_eq_nil_of_le (by omega)]
    exact hS.at fun o z => mv.heap D o notW z
  | succ m ih =>
    intro i s ms hm hi hst hS hle hR
    have lt : i < n := by omega
    refine codeAny_builtin PyProof.Rows.F.entry_set_update_loop ?_
    rw [Around.under_plainId PyProof.Rows.F.plain_set_update_loop _]
    show wpAny _ A.in1 (pyNext (.ref I) >>= _) _ _ s
    refine wpAny_bind (W.item i s _ _ lt hst fun v s' hP hst' mv => ?_)
    obtain ⟨k, hk, hkv⟩ := hv i v hP
    have hS' : SetQ w s'.heap D ms := hS.at fun o z => mv.heap D o notW z
    show wpAny _ A.in1 (holding [v] (setAdd D v) >>= _) _ _ s'
    refine wpAny_bind (wpAny_holding ?_)
    unfold setAdd
    refine wpAny_holding (wpAny_bind ((mixKind prog w).pyHash (k := k) hkv ?_))
    refine add_hashed (P := prog) (s := { s' with toks := s'.toks + 1 }) hkv hS' (by omega) fun b h' sb new => ?_
    have dr : ks.drop i = k :: ks.drop (i + 1) := by
      obtain ⟨h1, h2⟩ := List.getElem?_eq_some_iff.mp hk
      rw [List.drop_eq_getElem_cons h1, h2]
    refine wpAny_pure ⟨plainId_quiet PyProof.Rows.F.plain_set_update_loop _, ih (i + 1) _ (putM ms k) (by omega) lt (W.frame _ s' _ _ hst' (Nat.le_succ _) fun b hb o e => ?_) new (Nat.le_trans (putM_len ms k) (Nat.succ_le_succ hle)) fun s'' mv2 hS'' => ?_⟩
    · have ne : b ≠ D := fun z => hDf (z ▸ hb)
      exact (sb.2 b ne).trans e
    · refine hR s'' (Moved.trans W.gtrans ((mv.mono more).then_heap (Nat.le_succ _) fun b o hb e => ?_) mv2) (by rw [dr]; exact hS'')
      have ne : b ≠ D := fun z => hb (by rw [z]; exact List.mem_cons_self)
      exact (sb.2 b ne).trans e
end
section
variable {prog : Program} {w : World} {A : Around} {E : Value → Shared → Prop} {s : Shared}
/-- the class's new object, its word for the order kept -/
theorem code_newQ (a : Value) {Q1 : Value → Shared → Prop} (h : Q1 (.ref s.heap.objs.size) { s with heap := s.heap.push { cls := .type "set", dict := none, data := .set #[] 0 (.fresh 0 0 (!w.params.followText "set-order")) } }) :
    codeAny (model prog w) A (.call (.builtin "set.__new__") ⟨[.type "set", a], []⟩) (wants Q1 E) s := by
  refine codeAny_of_tree ?_
  show wpAny _ A.in1 (checkBuiltinCall "set.__new__" ⟨[.type "set", a], []⟩ >>= fun _ => again (.builtin "set.__new__" ⟨[.type "set", a], []⟩)) _ _ s
  refine wpAny_bind (wpAny_of_eq (PySem.F.newCall_set_1 a) (wpAny_pure ⟨plainId_quiet PySem.F.plain_set_new _, codeAny_builtin PySem.F.entry_set_new ?_⟩))
  rw [Around.under_plainId PySem.F.plain_set_new _]
  unfold Builtin.«set.__new__» Builtin.Frozenset.newClass
  have hsub := sub_set_self
  obtain ⟨hp, g, d, tk, os⟩ := s
  dsimp only at h ⊢
  wp_walk
  refine wpAny_askSetting (wpAny_pure ?_)
  dsimp only
  simp only [newObj]
  exact wpAny_bind (wpAny_alloc (wpAny_pure (wpAny_pure h)))
theorem call_setL {l : Addr} {items : Array Value} {ks : List Key} {Q : Value → Shared → Prop} (hh : A.handled = none) (hl : s.heap.IsList l items) (hk : ks.length = items.size) (hv : ∀ (i : Nat) (v : Value), items[i]? = some v → ∃ k : Key, ks[i]? = some k ∧ keyIs k v = true) (hb : items.size < scanBound)
    (h : ∀ (h' : Heap) (tk : Nat), SetQ w h' s.heap.objs.size (ks.foldl putM []) → (∀ b o, b < s.heap.objs.size → s.heap.get? b = some o → h'.get? b = some o) → Q (.ref s.heap.objs.size) { s with heap := h', toks := tk }) :
    wpAny (model prog w) A (call (.type "set") [.ref l]) Q E s := by
  obtain ⟨c, tl, hmro⟩ := PySem.F.called_set.mro
  have hmade := PySem.F.called_set.made
  have hsub := PySem.F.called_set.sub
  refine wpAny_call (codeAny_of_tree ?_)
  show wpAny _ _ (callAny (.type "set") _) _ _ _
  refine wpAny_pure ⟨Code.quiet_builtin _ (by decide +kernel), codeAny_builtin PySem.F.entry_type_call ?_⟩
  rw [Around.under_plain (weight_type_call_type "set" [.ref l] []) rfl]
  have h1 := PySem.F.called_set.notType
  have h2 := PySem.F.called_set.canCreate
  have hct := PySem.F.typeCall_set_1 (.ref l)
  repeat (any_goals (first | assumption | wp_step))
  refine codeAny_mono (code_newQ (.ref l) (E := E) (Q1 := fun obj s1 => obj = .ref s.heap.objs.size ∧ s1 = { s with heap := s.heap.push { cls := .type "set", dict := none, data := .set #[] 0 (.fresh 0 0 (!w.params.followText "set-order")) } }) ⟨rfl, rfl⟩) fun r s1 hr => ?_
  cases r with
  | error e => exact hr
  | ok fl =>
    cases fl with
    | ret obj =>
      obtain ⟨rfl, rfl⟩ := hr
      have hQ0 := new_setQ (h := s.heap) w
      generalize hled : (!w.params.followText "set-order") = led at hQ0 ⊢
      have hS : (s.heap.push { cls := .type "set", dict := none, data := .set #[] 0 (.fresh 0 0 led) }).get? s.heap.objs.size = some { cls := .type "set", dict := none, data := .set #[] 0 (.fresh 0 0 led) } := Heap.get?_push_size _ rfl
      have hT : Shared.TypeIs { s with heap := s.heap.push { cls := .type "set", dict := none, data := .set #[] 0 (.fresh 0 0 led) } } (.ref s.heap.objs.size) "set" := ⟨_, hS, rfl⟩
      have hli := PySem.F.called_set.init.lookup
      have hbi := PySem.F.called_set.init.bind (.ref s.heap.objs.size)
      repeat (any_goals (first | assumption | wp_step))
      refine codeAny_mono (codeAny_call_builtin (R := wants (fun r s2 => r = .none ∧ ∃ h' tk, s2 = { s with heap := h', toks := tk } ∧ SetQ w h' s.heap.objs.size (ks.foldl putM []) ∧
          (∀ b o, b < s.heap.objs.size → s.heap.get? b = some o → h'.get? b = some o)) E) PySem.F.called_set.init.plain PySem.F.entry_set_init (check_set_init_1 hT ?_)) fun r2 s2 hr2 => ?_
      · obtain ⟨ol, hol, hlc, nl, hdl⟩ := hl
        obtain ⟨ocls, odict, odata, oslots⟩ := ol
        simp only at hlc hdl
        subst hlc hdl
        have hol1 : (s.heap.push { cls := .type "set", dict := none, data := .set #[] 0 (.fresh 0 0 led) }).get? l = some { cls := .type "list", dict := odict, data := .seq items nl, slots := oslots } := Heap.get?_push_of_some _ hol
        have hsls := PySem.F.sub_list_set
        have hslf := PySem.F.sub_list_frozenset
        have hne : (Value.type "list" == Value.type "dict") = false := by decide
        have hl1 : (s.heap.push { cls := .type "set", dict := none, data := .set #[] 0 (.fresh 0 0 led) }).IsList l items := ⟨_, hol1, rfl, nl, rfl⟩
        unfold Builtin.«set.__init__» noKeywords Builtin.Frozenset.updateFrom
        generalize hPI : pyIter = PI
        wp_walk
        subst hPI
        refine wpAny_pyIter_list hl1 ?_
        refine wpAny_bind (wpAny_runValue ?_)
        have ll : l < s.heap.objs.size := Heap.lt_size hol
        have hh3 : A.in1.in1.in1.handled = none := by simp [hh]
        have psz : (s.heap.push { cls := .type "set", dict := none, data := .set #[] 0 (.fresh 0 0 led) }).objs.size = s.heap.objs.size + 1 := Heap.size_push _ _
        have hnI : l ≠ (s.heap.push { cls := .type "set", dict := none, data := .set #[] 0 (.fresh 0 0 led) }).objs.size := by rw [psz]; exact Nat.ne_of_lt (Nat.lt_succ_of_lt ll)
        have hDf : s.heap.objs.size ∉ [(s.heap.push { cls := .type "set", dict := none, data := .set #[] 0 (.fresh 0 0 led) }).objs.size, l] := by
          rw [psz]
          simp only [List.mem_cons, List.mem_singleton, List.not_mem_nil, or_false, not_or]
          exact ⟨Nat.ne_of_lt (Nat.lt_succ_self _), Nat.ne_of_gt ll⟩
        refine loopQ ((Walks.list hh3 _ l hnI items).toS) s.heap.objs.size hDf ks hk hb (fun i v hv' => hv i v hv') (items.size - 0) 0 _ [] (by omega) (Nat.zero_le _) ⟨⟨_, Heap.get?_push_size _ rfl, rfl, rfl⟩, hl1.push _⟩ ?_ (Nat.le_refl _) fun s' mv new => ?_
        · exact hQ0.at fun o e => Heap.get?_push_of_some _ e
        · obtain ⟨h', g', d', tk', os'⟩ := s'
          have eg : g' = s.gens := mv.gens
          have ed : d' = s.drawn := mv.drawn
          have eo : os' = s.os := mv.os
          subst eg ed eo
          refine wpAny_pure ?_
          show wpAny _ _ (ret Value.none) _ _ _
          refine wpAny_pure ⟨rfl, h', tk', rfl, new, fun b o hb' e => ?_⟩
          refine mv.heap b o ?_ (Heap.get?_push_of_some _ (Heap.get?_push_of_some _ e))
          rw [psz]
          simp only [List.mem_cons, List.mem_singleton, List.not_mem_nil, or_false, not_or]
          exact ⟨Nat.ne_of_lt hb', Nat.ne_of_lt (Nat.lt_succ_of_lt hb')⟩
      · cases r2 with
        | error e => exact hr2
        | ok fl2 =>
          cases fl2 with
          | ret r =>
            obtain ⟨rfl, h', tk, rfl, hS', hk'⟩ := hr2
            repeat (any_goals (first | assumption | wp_step))
            exact h _ _ hS' hk'
          | _ => exact hr2.elim
    | _ => exact hr.elim
end
section
variable {X : Cx}
def rSetL (K : PySem.W.Frag) (w : World) : List V → Hp → VK → Prop := fun vs H Q => ∃ (l : Addr) (ks : List Key), vs = [.ref l] ∧ SqL K H l (ks.map kV) ∧ ks.length < scanBound ∧ ∀ p, H p = none → Q (.ref p) (upd H p (SetO2 w p (ks.foldl putM [])))
theorem cr_setL (hc : X.calm = true) : CallR X (.type "set") (rSetL X.K X.w) := by
  intro pins s σ H vs us Q I r h
  obtain ⟨l, ks, rfl, hq, hb, q⟩ := h
  obtain ⟨its, rv, pl, hz⟩ := I.list hq
  rw [Vals.ref1 r]
  have hl : its.length = ks.length := by rw [← rv.length, List.length_map]
  refine call_setL (ks := ks) (I.ok.hd hc) pl.isList (by rw [List.size_toArray, hl]) (fun i v hv => ?_) (by rw [List.size_toArray, hl]; exact hb) fun h' tk new keep => ?_
  · have hv' : its[i]? = some v := by simpa using hv
    have lt : i < ks.length := by
      rw [← hl]
      exact (List.getElem?_eq_some_iff.mp hv').1
    refine ⟨ks[i], List.getElem?_eq_getElem lt, ?_⟩
    obtain ⟨u, hu, ru⟩ := rv.get (i := i) (x := kV ks[i]) (by rw [List.getElem?_map, List.getElem?_eq_getElem lt]; rfl)
    rw [hv'] at hu
    cases hu
    exact rel_key ru
  · exact ⟨.ref _, upd H s.heap.objs.size (SetO2 X.w s.heap.objs.size (ks.foldl putM [])), I.laid (t' := tk) (fun b u e => keep b u (Heap.lt_size e) e) (Nat.le_refl _) (setO2_ok new), rfl, q _ (I.hok.fresh (Nat.le_refl _))⟩
def rSortSet (w : World) : List V → Hp → VK → Prop := fun vs H Q => ∃ (a : Addr) (xs : List Str), vs = [.ref a] ∧ H a = some (SetO2 w a (xs.map .inr)) ∧ ∀ (ys : List Str) (p : Addr), ys.Perm xs → sortedS ys = true → H p = none → Q (.ref p) (upd H p (.lst (ys.map V.str)))
theorem cr_sortSet (hc : X.calm = true) : CallR X (.builtin "sorted") (rSortSet X.w) := by
  intro pins s σ H vs us Q I r h
  obtain ⟨a, xs, rfl, ha, q⟩ := h
  have R := setO2_get I ha
  rw [Vals.ref1 r]
  have small : xs.length < scanBound := by
    obtain ⟨_, _, _, _, _, _, _, J⟩ := id R
    have e := J.size
    rw [List.length_map] at e
    rw [← e]; exact J.bd
  refine sorted_setS R rfl (I.ok.hd hc) fun s' p out c ys k g o hp hg hi hm hs => ?_
  have hlen : (ys.map V.str).length ≤ sizeLine := by rw [List.length_map, hm.length_eq]; exact fits_of_scanBound small
  have hn : H p = none := I.hok.fresh hp
  have J : Inv X pins σ (upd H p (.lst (ys.map V.str))) { s with heap := s'.heap, gens := s'.gens, drawn := s'.drawn, toks := s'.toks } :=
    I.call (ch := []) (Un.laid k hp hn) (I.hok.laid k hp ⟨hlen, out.toList, c, vals_of_strs hi, hg⟩) (by rw [g]; exact I.bare) (fun _ z => nomatch z)
  have e : s' = { s with heap := s'.heap, gens := s'.gens, drawn := s'.drawn, toks := s'.toks } := by
    obtain ⟨h1, h2, h3, h4, h5⟩ := s'
    obtain ⟨k1, k2, k3, k4, k5⟩ := s
    have o' : h5 = k5 := o
    subst o'
    rfl
  rw [e]
  exact ⟨.ref p, _, J, rfl, q ys p hm hs hn⟩
end
end DL
end
section
/-! The D-layer, part 2: what stands for what, the judgements, names, constants, tuples, lists, operators. -/
namespace DL
open PySem PySem.Spec PyProof.Rows L2
structure Md where
  P : Program
  w : World
  K : PySem.W.Frag
abbrev Cxmd (X : Cx) : Md := ⟨X.prog, X.w, X.K⟩
def kD : Key → D
  | .inl i => .int i
  | .inr x => .str x
/-- a list that is not written: of the written part, or frozen -/
def FzL (K : PySem.W.Frag) (H : Hp) (a : Addr) (xs : List V) : Prop :=
  (∃ o, H a = some (.frz o (.lst xs))) ∨
    ∃ (o : Obj) (its : Array Value) (n : Nat), K.lookup a = some o ∧ o.cls = .type "list" ∧ o.dict = none ∧ o.data = .seq its n ∧ its.size ≤ sizeLine ∧ Vals xs its.toList
/-- a tuple: laid, or of the written part -/
def TpT (K : PySem.W.Frag) (H : Hp) (a : Addr) (xs : List V) : Prop :=
  H a = some (.tup xs) ∨
    ∃ (o : Obj) (its : Array Value) (n : Nat), K.lookup a = some o ∧ o.cls = .type "tuple" ∧ o.data = .seq its n ∧ its.size ≤ sizeLine ∧ Vals xs its.toList
theorem TpT.sq {K : PySem.W.Frag} {H : Hp} {a : Addr} {xs : List V} (h : TpT K H a xs) : SqT K H a xs := h.imp (fun z => .inl z) (fun z => z)
/-- a dict of the written part: its keys, its values -/
def CdA (M : Md) (a : Addr) (ks : List D) (us : List V) : Prop :=
  (a == sysModules) = false ∧ (∃ o, M.K.lookup a = some o ∧ o.cls = .type "dict" ∧ o.dict = none) ∧
  ((∃ kk : List Key, ks = kk.map kD ∧ kk.length = us.length ∧ ∀ h : Heap, M.K.In h → ∃ vs, Vals us vs ∧ h.DictOf (mixKind M.P M.w) a (kk.zip vs)) ∨
   (∃ kk : List (List Key), ks = kk.map (fun l => .tup (l.map kD)) ∧ kk.length = us.length ∧ ∀ h : Heap, M.K.In h → ∃ vs, Vals us vs ∧ h.DictKeyed (tupleKind (mixKind M.P M.w)) a (kk.zip vs)))
mutual
/-- v stands for d -/
def Is (M : Md) (H : Hp) (v : V) : D → Prop
  | .non => v = .non
  | .bl b => v = .bl b
  | .int i => v = .int i
  | .str s => v = .str s
  | .ref a => v = .ref a
  | .ty n => v = .ty n
  | .tup ds => ∃ a vs, v = .ref a ∧ TpT M.K H a vs ∧ IsL M H vs ds
  | .cl ds => ∃ a vs, v = .ref a ∧ FzL M.K H a vs ∧ IsL M H vs ds
  | .cd ks ds => ∃ a vs, v = .ref a ∧ CdA M a ks vs ∧ IsL M H vs ds
def IsL (M : Md) (H : Hp) (vs : List V) : List D → Prop
  | [] => vs = []
  | d :: ds => ∃ v r, vs = v :: r ∧ Is M H v d ∧ IsL M H r ds
end
/-- tuples and frozen things stay -/
structure TLe (H H' : Hp) : Prop where
  tup : ∀ a xs, H a = some (.tup xs) → H' a = some (.tup xs)
  frz : ∀ a o u, H a = some (.frz o u) → H' a = some (.frz o u)
theorem TLe.refl (H : Hp) : TLe H H := ⟨fun _ _ h => h, fun _ _ _ h => h⟩
theorem TLe.trans {A B C : Hp} (h : TLe A B) (g : TLe B C) : TLe A C := ⟨fun a xs e => g.tup a xs (h.tup a xs e), fun a o u e => g.frz a o u (h.frz a o u e)⟩
theorem TLe.new {H : Hp} {p : Addr} {o : HO} (n : H p = none) : TLe H (upd H p o) :=
  ⟨fun a xs e => by rw [upd_ne (ne_of_none e n)]; exact e, fun a o u e => by rw [upd_ne (ne_of_none e n)]; exact e⟩
theorem TLe.mut {H : Hp} {p : Addr} {o : HO} (m : Mut (H p)) : TLe H (upd H p o) :=
  ⟨fun a xs e => by
    have q : a ≠ p := fun z => by subst z; rw [e] at m; exact m
    rw [upd_ne q]; exact e, fun a o u e => by
    have q : a ≠ p := fun z => by subst z; rw [e] at m; exact m
    rw [upd_ne q]; exact e⟩
theorem TLe.sqT {K : PySem.W.Frag} {H H' : Hp} {a : Addr} {xs : List V} (t : TLe H H') (h : TpT K H a xs) : TpT K H' a xs := by
  rcases h with h | h
  · exact .inl (t.tup _ _ h)
  · exact .inr h
theorem TLe.fzL {K : PySem.W.Frag} {H H' : Hp} {a : Addr} {xs : List V} (t : TLe H H') (h : FzL K H a xs) : FzL K H' a xs := by
  rcases h with ⟨o, h⟩ | h
  · exact .inl ⟨o, t.frz _ _ _ h⟩
  · exact .inr h
theorem FzL.sq {K : PySem.W.Frag} {H : Hp} {a : Addr} {xs : List V} (h : FzL K H a xs) : SqL K H a xs := by
  rcases h with ⟨o, h⟩ | h
  · exact .inl (.inr ⟨o, h⟩)
  · exact .inr h
mutual
theorem Is.mono {M : Md} {H H' : Hp} (t : TLe H H') : ∀ {d : D} {v : V}, Is M H v d → Is M H' v d
  | .non, v, h => h
  | .bl b, v, h => h
  | .int i, v, h => h
  | .str s, v, h => h
  | .ref a, v, h => h
  | .ty n, v, h => h
  | .tup ds, v, h => by
    obtain ⟨a, vs, e, q, r⟩ := (show ∃ a vs, v = .ref a ∧ TpT M.K H a vs ∧ IsL M H vs ds from h)
    exact ⟨a, vs, e, t.sqT q, IsL.mono t r⟩
  | .cl ds, v, h => by
    obtain ⟨a, vs, e, q, r⟩ := (show ∃ a vs, v = .ref a ∧ FzL M.K H a vs ∧ IsL M H vs ds from h)
    exact ⟨a, vs, e, t.fzL q, IsL.mono t r⟩
  | .cd ks ds, v, h => by
    obtain ⟨a, vs, e, q, r⟩ := (show ∃ a vs, v = .ref a ∧ CdA M a ks vs ∧ IsL M H vs ds from h)
    exact ⟨a, vs, e, q, IsL.mono t r⟩
theorem IsL.mono {M : Md} {H H' : Hp} (t : TLe H H') : ∀ {ds : List D} {vs : List V}, IsL M H vs ds → IsL M H' vs ds
  | [], vs, h => h
  | d :: ds, vs, h => by
    obtain ⟨v, r, e, q, z⟩ := (show ∃ v r, vs = v :: r ∧ Is M H v d ∧ IsL M H r ds from h)
    exact ⟨v, r, e, Is.mono t q, IsL.mono t z⟩
end
theorem IsL.length {M : Md} {H : Hp} : ∀ {ds : List D} {vs : List V}, IsL M H vs ds → vs.length = ds.length
  | [], vs, h => by have e : vs = [] := h; rw [e]; rfl
  | d :: ds, vs, h => by
    obtain ⟨v, r, e, q, z⟩ := (show ∃ v r, vs = v :: r ∧ Is M H v d ∧ IsL M H r ds from h)
    rw [e, List.length_cons, List.length_cons, IsL.length z]
theorem IsL.nil {M : Md} {H : Hp} : IsL M H [] [] := rfl
theorem IsL.cons {M : Md} {H : Hp} {v : V} {vs : List V} {d : D} {ds : List D} (h : Is M H v d) (r : IsL M H vs ds) : IsL M H (v :: vs) (d :: ds) := ⟨v, vs, rfl, h, r⟩
theorem IsL.append {M : Md} {H : Hp} : ∀ {ds es : List D} {vs us : List V}, IsL M H vs ds → IsL M H us es → IsL M H (vs ++ us) (ds ++ es)
  | [], es, vs, us, h, g => by have e : vs = [] := h; rw [e]; exact g
  | d :: ds, es, vs, us, h, g => by
    obtain ⟨v, r, e, q, z⟩ := (show ∃ v r, vs = v :: r ∧ Is M H v d ∧ IsL M H r ds from h)
    rw [e]; exact IsL.cons q (IsL.append z g)
theorem IsL.get {M : Md} {H : Hp} : ∀ {ds : List D} {vs : List V} {i : Nat} {d : D}, IsL M H vs ds → ds[i]? = some d → ∃ v, vs[i]? = some v ∧ Is M H v d
  | [], vs, i, d, h, e => by simp at e
  | x :: ds, vs, 0, d, h, e => by
    obtain ⟨v, r, e1, q, z⟩ := (show ∃ v r, vs = v :: r ∧ Is M H v x ∧ IsL M H r ds from h)
    have e2 : x = d := by simpa using e
    subst e2
    exact ⟨v, by rw [e1]; rfl, q⟩
  | x :: ds, vs, i + 1, d, h, e => by
    obtain ⟨v, r, e1, q, z⟩ := (show ∃ v r, vs = v :: r ∧ Is M H v x ∧ IsL M H r ds from h)
    obtain ⟨u, hu, hq⟩ := IsL.get (i := i) (d := d) z (by simpa using e)
    exact ⟨u, by rw [e1]; simpa using hu, hq⟩
theorem IsL.drop {M : Md} {H : Hp} : ∀ {ds : List D} {vs : List V} (n : Nat), IsL M H vs ds → IsL M H (vs.drop n) (ds.drop n)
  | ds, vs, 0, h => h
  | [], vs, n + 1, h => by have e : vs = [] := h; rw [e]; rfl
  | x :: ds, vs, n + 1, h => by
    obtain ⟨v, r, e1, q, z⟩ := (show ∃ v r, vs = v :: r ∧ Is M H v x ∧ IsL M H r ds from h)
    rw [e1]; exact IsL.drop n z
theorem IsL.take {M : Md} {H : Hp} : ∀ {ds : List D} {vs : List V} (n : Nat), IsL M H vs ds → IsL M H (vs.take n) (ds.take n)
  | ds, vs, 0, h => rfl
  | [], vs, n + 1, h => by have e : vs = [] := h; rw [e]; rfl
  | x :: ds, vs, n + 1, h => by
    obtain ⟨v, r, e1, q, z⟩ := (show ∃ v r, vs = v :: r ∧ Is M H v x ∧ IsL M H r ds from h)
    rw [e1]; exact IsL.cons q (IsL.take n z)
theorem IsL.set {M : Md} {H : Hp} {v : V} {d : D} (h : Is M H v d) : ∀ {ds : List D} {vs : List V} (i : Nat), IsL M H vs ds → IsL M H (vs.set i v) (ds.set i d)
  | [], vs, i, g => by have e : vs = [] := g; rw [e]; rfl
  | x :: ds, vs, 0, g => by
    obtain ⟨u, r, e1, q, z⟩ := (show ∃ v r, vs = v :: r ∧ Is M H v x ∧ IsL M H r ds from g)
    rw [e1]; exact IsL.cons h z
  | x :: ds, vs, i + 1, g => by
    obtain ⟨u, r, e1, q, z⟩ := (show ∃ v r, vs = v :: r ∧ Is M H v x ∧ IsL M H r ds from g)
    rw [e1]; exact IsL.cons q (IsL.set h i z)
theorem IsL.reverse {M : Md} {H : Hp} : ∀ {ds : List D} {vs : List V}, IsL M H vs ds → IsL M H vs.reverse ds.reverse
  | [], vs, h => by have e : vs = [] := h; rw [e]; rfl
  | d :: ds, vs, h => by
    obtain ⟨v, r, e, q, z⟩ := (show ∃ v r, vs = v :: r ∧ Is M H v d ∧ IsL M H r ds from h)
    rw [e, List.reverse_cons, List.reverse_cons]; exact IsL.append (IsL.reverse z) (IsL.cons q IsL.nil)
theorem IsL.eraseIdx {M : Md} {H : Hp} : ∀ {ds : List D} {vs : List V} (i : Nat), IsL M H vs ds → IsL M H (vs.eraseIdx i) (ds.eraseIdx i)
  | [], vs, i, g => by have e : vs = [] := g; rw [e]; rfl
  | x :: ds, vs, 0, g => by
    obtain ⟨u, r, e1, q, z⟩ := (show ∃ v r, vs = v :: r ∧ Is M H v x ∧ IsL M H r ds from g)
    rw [e1]; exact z
  | x :: ds, vs, i + 1, g => by
    obtain ⟨u, r, e1, q, z⟩ := (show ∃ v r, vs = v :: r ∧ Is M H v x ∧ IsL M H r ds from g)
    rw [e1]; exact IsL.cons q (IsL.eraseIdx i z)
theorem IsL.dropLast {M : Md} {H : Hp} {ds : List D} {vs : List V} (h : IsL M H vs ds) : IsL M H vs.dropLast ds.dropLast := by
  rw [List.dropLast_eq_take, List.dropLast_eq_take, h.length]; exact h.take _
theorem Is.i {M : Md} {H : Hp} {i : Int} : Is M H (.int i) (.int i) := rfl
theorem Is.b {M : Md} {H : Hp} {b : Bool} : Is M H (.bl b) (.bl b) := rfl
theorem Is.n {M : Md} {H : Hp} : Is M H .non .non := rfl
theorem Is.s {M : Md} {H : Hp} {s : Str} : Is M H (.str s) (.str s) := rfl
theorem Is.r {M : Md} {H : Hp} {a : Addr} : Is M H (.ref a) (.ref a) := rfl
theorem Is.y {M : Md} {H : Hp} {n : String} : Is M H (.ty n) (.ty n) := rfl
theorem Is.t {M : Md} {H : Hp} {a : Addr} {vs : List V} {ds : List D} (h : TpT M.K H a vs) (r : IsL M H vs ds) : Is M H (.ref a) (.tup ds) := ⟨a, vs, rfl, h, r⟩
theorem Is.tn {M : Md} {H : Hp} {a : Addr} {vs : List V} {ds : List D} (r : IsL M (upd H a (.tup vs)) vs ds) : Is M (upd H a (.tup vs)) (.ref a) (.tup ds) := ⟨a, vs, rfl, .inl upd_same, r⟩
/-- fields -/
def IsF (M : Md) (H : Hp) (fs : List (Str × V)) (gs : List (Str × D)) : Prop := fs.map (·.1) = gs.map (·.1) ∧ IsL M H (fs.map (·.2)) (gs.map (·.2))
def CellIs (M : Md) (H : Hp) (a : Addr) : Cell → Prop
  | .lst ds => ∃ vs, H a = some (.lst vs) ∧ IsL M H vs ds
  | .dic ks ds => ∃ kvs, H a = some (.dK kvs) ∧ ks = (kvs.map (·.1)).map kD ∧ IsL M H (kvs.map (·.2)) ds
  | .set xs => ∃ ms : List Key, H a = some (SetO2 M.w a ms) ∧ xs = ms.map kD
  | .ins C gs => ∃ dx fs, H a = some (.ins C dx fs) ∧ IsF M H fs gs
theorem CellIs.l {M : Md} {H : Hp} {a : Addr} {vs : List V} {ds : List D} (e : H a = some (.lst vs)) (r : IsL M H vs ds) : CellIs M H a (.lst ds) := ⟨vs, e, r⟩
theorem CellIs.ln {M : Md} {H : Hp} {a : Addr} {vs : List V} {ds : List D} (r : IsL M (upd H a (.lst vs)) vs ds) : CellIs M (upd H a (.lst vs)) a (.lst ds) := ⟨vs, upd_same, r⟩
/-- the store's objects stand -/
def Rp (M : Md) (H : Hp) (S : Sto) : Prop := ∀ a c, S a = some c → CellIs M H a c
def EpO (M : Md) (H : Hp) : Option V → Option D → Prop
  | _, none => True
  | some v, some d => Is M H v d
  | none, some _ => False
/-- the slots -/
def Ep (M : Md) (H : Hp) (σ : L2.St) (ε : Env) : Prop := σ.length = ε.length ∧ ∀ (i : Nat) (d : D), ε[i]? = some (some d) → ∃ v, σ[i]? = some (some v) ∧ Is M H v d
theorem Ep.mono {M : Md} {H H' : Hp} {σ : L2.St} {ε : Env} (t : TLe H H') (h : Ep M H σ ε) : Ep M H' σ ε :=
  ⟨h.1, fun i d e => let ⟨v, a, b⟩ := h.2 i d e; ⟨v, a, Is.mono t b⟩⟩
theorem Ep.set {M : Md} {H : Hp} {σ : L2.St} {ε : Env} {i : Nat} {v : V} {d : D} (h : Ep M H σ ε) (r : Is M H v d) : Ep M H (σ.set i (some v)) (ε.set i (some d)) := by
  refine ⟨by rw [List.length_set, List.length_set]; exact h.1, fun j x e => ?_⟩
  by_cases q : i = j
  · subst q
    by_cases l : i < ε.length
    · rw [List.getElem?_set_self l] at e
      have e2 : d = x := by simpa using e
      subst e2
      exact ⟨v, by rw [List.getElem?_set_self (by rw [h.1]; exact l)], r⟩
    · rw [List.getElem?_eq_none (by rw [List.length_set]; omega)] at e
      cases e
  · rw [List.getElem?_set_ne q] at e
    obtain ⟨u, a, b⟩ := h.2 j x e
    exact ⟨u, by rw [List.getElem?_set_ne q]; exact a, b⟩
theorem Rp.le {M : Md} {H : Hp} {S S' : Sto} (h : Rp M H S') (l : Le S S') : Rp M H S := fun a c e => h a c (l a c e)
theorem CellIs.keep {M : Md} {H H' : Hp} {a : Addr} {c : Cell} (t : TLe H H') (k : ∀ o, H a = some o → H' a = some o) (h : CellIs M H a c) : CellIs M H' a c := by
  cases c with
  | lst ds => obtain ⟨vs, e, r⟩ := h; exact ⟨vs, k _ e, IsL.mono t r⟩
  | dic ks ds => obtain ⟨kvs, e, r, z⟩ := h; exact ⟨kvs, k _ e, r, IsL.mono t z⟩
  | set xs => obtain ⟨ms, e, r⟩ := h; exact ⟨ms, k _ e, r⟩
  | ins C gs => obtain ⟨dx, fs, e, r, z⟩ := h; exact ⟨dx, fs, k _ e, r, IsL.mono t z⟩
/-- a new thing that the store does not know -/
theorem Rp.new {M : Md} {H : Hp} {S : Sto} {p : Addr} {o : HO} (h : Rp M H S) (n : H p = none) : Rp M (upd H p o) S := fun a c e =>
  (h a c e).keep (TLe.new n) fun u q => by rw [upd_ne (ne_of_none q n)]; exact q
theorem CellIs.some {M : Md} {H : Hp} {a : Addr} {c : Cell} (h : CellIs M H a c) : ∃ o, H a = some o := by
  cases c with
  | lst ds => obtain ⟨vs, e, r⟩ := h; exact ⟨_, e⟩
  | dic ks ds => obtain ⟨kvs, e, r, z⟩ := h; exact ⟨_, e⟩
  | set xs => obtain ⟨ms, e, r⟩ := h; exact ⟨_, e⟩
  | ins C gs => obtain ⟨dx, fs, e, r, z⟩ := h; exact ⟨_, e⟩
theorem Rp.free {M : Md} {H : Hp} {S : Sto} {p : Addr} (h : Rp M H S) (n : H p = none) : S p = none := by
  cases q : S p with
  | none => rfl
  | some c => obtain ⟨o, e⟩ := (h p c q).some; rw [n] at e; cases e
/-- an object is put -/
theorem Rp.put {M : Md} {H : Hp} {S : Sto} {p : Addr} {o : HO} {c : Cell} (h : Rp M H S) (t : TLe H (upd H p o)) (r : CellIs M (upd H p o) p c) : Rp M (upd H p o) (put S p c) := fun a d e => by
  by_cases q : a = p
  · subst q; rw [put_same] at e; cases e; exact r
  · rw [put_ne q] at e
    exact (h a d e).keep t fun u z => by rw [upd_ne q]; exact z

/-! ### the judgements -/
structure DE (X : Cx) (e : Expr) (t : DTE) : Prop where
  ex : ∃ te, PE X e te ∧ ∀ σ H ε S Q, Ep (Cxmd X) H σ ε → Rp (Cxmd X) H S → t ε S Q → ∀ Q2 : VK, (∀ v H' d S', TLe H H' → Is (Cxmd X) H' v d → Rp (Cxmd X) H' S' → Q d S' → Q2 v H') → te σ H Q2
structure DT (X : Cx) (e : Expr) (t : DTT) : Prop where
  ex : ∃ te, PT X e te ∧ ∀ σ H ε S Q, Ep (Cxmd X) H σ ε → Rp (Cxmd X) H S → t ε S Q → ∀ Q2 : Bool → Hp → Prop, (∀ b H' S', TLe H H' → Rp (Cxmd X) H' S' → Q b S' → Q2 b H') → te σ H Q2
structure DW (X : Cx) (e : Expr) (t : DTT) : Prop where
  ex : ∃ te, PW X e te ∧ ∀ σ H ε S Q, Ep (Cxmd X) H σ ε → Rp (Cxmd X) H S → t ε S Q → ∀ Q2 : Bool → Hp → Prop, (∀ b H' S', TLe H H' → Rp (Cxmd X) H' S' → Q b S' → Q2 b H') → te σ H Q2
structure DA (X : Cx) (es : List Expr) (t : DTA) : Prop where
  ex : ∃ te, PA X es te ∧ ∀ σ H ε S Q, Ep (Cxmd X) H σ ε → Rp (Cxmd X) H S → t ε S Q → ∀ Q2 : List V → Hp → Prop, (∀ vs H' ds S', TLe H H' → IsL (Cxmd X) H' vs ds → Rp (Cxmd X) H' S' → Q ds S' → Q2 vs H') → te σ H Q2
structure EndsOk (M : Md) (H : Hp) (Dd : DEnds) (D : Ends) : Prop where
  nx : ∀ σ H' ε S, TLe H H' → Ep M H' σ ε → Rp M H' S → Dd.nx ε S → D.nx σ H'
  bk : ∀ σ H' ε S, TLe H H' → Ep M H' σ ε → Rp M H' S → Dd.bk ε S → D.bk σ H'
  ct : ∀ σ H' ε S, TLe H H' → Ep M H' σ ε → Rp M H' S → Dd.ct ε S → D.ct σ H'
  rt : ∀ v H' d S, TLe H H' → Is M H' v d → Rp M H' S → Dd.rt d S → D.rt v H'
theorem EndsOk.mono {M : Md} {H H' : Hp} {Dd : DEnds} {D : Ends} (t : TLe H H') (h : EndsOk M H Dd D) : EndsOk M H' Dd D :=
  ⟨fun σ H1 ε S t1 => h.nx σ H1 ε S (t.trans t1), fun σ H1 ε S t1 => h.bk σ H1 ε S (t.trans t1), fun σ H1 ε S t1 => h.ct σ H1 ε S (t.trans t1), fun v H1 d S t1 => h.rt v H1 d S (t.trans t1)⟩
structure DS (X : Cx) (st : Stmt) (t : DTS) : Prop where
  ex : ∃ ts, PS X st ts ∧ ∀ σ H ε S Dd D, Ep (Cxmd X) H σ ε → Rp (Cxmd X) H S → EndsOk (Cxmd X) H Dd D → t Dd ε S → ts D σ H
structure DSs (X : Cx) (st : List Stmt) (t : DTS) : Prop where
  ex : ∃ ts, PSs X st ts ∧ ∀ σ H ε S Dd D, Ep (Cxmd X) H σ ε → Rp (Cxmd X) H S → EndsOk (Cxmd X) H Dd D → t Dd ε S → ts D σ H
end DL
end
section
/-! The D-layer, part 3: rules for expressions. -/
namespace DL
open PySem PySem.Spec PyProof.Rows L2
section
variable {X : Cx} {e a b : Expr} {es : List Expr} {pos : Pos}
/-! ### names, constants, tuples, lists -/
theorem dv (i : Nat) {x : Str} {pos : Pos} (hN : X.N[i]? = some x := by rfl) (hv : Vis X.env.scope x := by first | exact Or.inl rfl | exact Or.inr (Or.inl rfl) | exact Or.inr (Or.inr rfl)) (hd : (x == ("__debug__" : Str)) = false := by decide)
    (hcd : (x == ("__classdict__" : Str)) = false := by decide) : DE X (.Name x pos) (dVar i) :=
  ⟨_, pe_var hN hv hd hcd, fun σ H ε S Q he hr ⟨d, e, q⟩ Q2 k => let ⟨v, a, b⟩ := he.2 i d e; ⟨v, a, k v H d S (TLe.refl H) b hr q⟩⟩
theorem de_int {i j pos} : DE X (.Constant (.int i) j pos) (dC (.int i)) := ⟨_, pe_int, fun σ H ε S Q he hr q Q2 k => k _ H _ S (TLe.refl H) Is.i hr q⟩
theorem de_bl {i j pos} : DE X (.Constant (.bool i) j pos) (dC (.bl i)) := ⟨_, pe_bl, fun σ H ε S Q he hr q Q2 k => k _ H _ S (TLe.refl H) Is.b hr q⟩
theorem de_non {j pos} : DE X (.Constant .none j pos) (dC .non) := ⟨_, pe_non, fun σ H ε S Q he hr q Q2 k => k _ H _ S (TLe.refl H) Is.n hr q⟩
theorem de_str {x j pos} : DE X (.Constant (.str x) j pos) (dC (.str x)) := ⟨_, pe_str, fun σ H ε S Q he hr q Q2 k => k _ H _ S (TLe.refl H) Is.s hr q⟩
/-- a module's name: its value d -/
structure GD (M : Md) (mg : Str → Option Value) (x : Str) (d : D) : Prop where
  ex : ∃ u v, mg x = some u ∧ RelV v u ∧ ∀ H, Is M H v d
theorem de_glob {x : Str} {d : D} (g : GD (Cxmd X) X.mg x d) (hg : Gl X x) (hd : (x == ("__debug__" : Str)) = false := by decide) : DE X (.Name x pos) (dC d) := by
  obtain ⟨u, v, hm, r, h⟩ := g.ex
  exact ⟨_, pe_glob hg hm r hd, fun σ H ε S Q he hr q Q2 k => k _ H _ S (TLe.refl H) (h H) hr q⟩
theorem de_bltn {x : Str} {n : String} (hg : Gl X x) (hm : X.mg x = none) (hv : bootBuiltins x = some (.type n)) (hn : x ≠ "__name__" := by decide) (hd : (x == ("__debug__" : Str)) = false := by decide) : DE X (.Name x pos) (dC (.ty n)) :=
  ⟨_, pe_bltn (v := .ty n) hg hm hv rfl hn hd, fun σ H ε S Q he hr q Q2 k => k _ H _ S (TLe.refl H) Is.y hr q⟩
theorem da_nil : DA X [] dNil := ⟨_, pa_nil, fun σ H ε S Q he hr q Q2 k => k _ H _ S (TLe.refl H) IsL.nil hr q⟩
theorem da_cons {t : DTE} {r : DTA} (h : DE X e t) (g : DA X es r) (hs : starEach (e :: es) X.env = (false, eval e X.env) :: starEach es X.env := by rfl) : DA X (e :: es) (dCons t r) := by
  obtain ⟨te, h1, h2⟩ := h.ex
  obtain ⟨tr, g1, g2⟩ := g.ex
  refine ⟨_, pa_cons h1 g1 hs, fun σ H ε S Q he hr q Q2 k => ?_⟩
  refine h2 σ H ε S _ he hr q _ fun v H1 d S1 t1 r1 p1 q1 => ?_
  refine g2 σ H1 ε S1 _ (he.mono t1) p1 q1 _ fun vs H2 ds S2 t2 r2 p2 q2 => ?_
  exact k _ H2 _ S2 (t1.trans t2) (IsL.cons (Is.mono t2 r1) r2) p2 q2
theorem de_tup {x1} {t : DTA} (h : DA X es t) : DE X (.Tuple es x1 pos) (dTup t) := by
  obtain ⟨te, h1, h2⟩ := h.ex
  refine ⟨_, pe_tup h1, fun σ H ε S Q he hr q Q2 k => ?_⟩
  refine h2 σ H ε S _ he hr q _ fun vs H1 ds S1 t1 r1 p1 ⟨z, q1⟩ => ⟨by rw [r1.length]; exact z, fun p n => ?_⟩
  have t2 : TLe H1 (upd H1 p (.tup vs)) := TLe.new n
  exact k _ _ _ S1 (t1.trans t2) (Is.tn (IsL.mono t2 r1)) (p1.new n) q1
theorem de_lst {t : DTA} (h : DA X es t) : DE X (.List es pos) (dLst t) := by
  obtain ⟨te, h1, h2⟩ := h.ex
  refine ⟨_, pe_lst h1, fun σ H ε S Q he hr q Q2 k => ?_⟩
  refine h2 σ H ε S _ he hr q _ fun vs H1 ds S1 t1 r1 p1 ⟨z, q1⟩ => ⟨by rw [r1.length]; exact z, fun p n => ?_⟩
  have t2 : TLe H1 (upd H1 p (.lst vs)) := TLe.new n
  exact k _ _ _ _ (t1.trans t2) Is.r (p1.put t2 (CellIs.ln (IsL.mono t2 r1))) (q1 p (p1.free n))
/-! ### operators by values -/
structure DOp (X : Cx) (f : Value → Value → Sem Value) (o : DR2) : Prop where
  ex : ∃ r, OpR X f r ∧ ∀ x y dx dy H S Q, Is (Cxmd X) H x dx → Is (Cxmd X) H y dy → Rp (Cxmd X) H S → o dx dy S Q → ∀ Q2 : VK, (∀ v H' d S', TLe H H' → Is (Cxmd X) H' v d → Rp (Cxmd X) H' S' → Q d S' → Q2 v H') → r x y H Q2
theorem DOp.or {f : Value → Value → Sem Value} {o o' : DR2} (h : DOp X f o) (g : DOp X f o') : DOp X f (fun x y S Q => o x y S Q ∨ o' x y S Q) := by
  obtain ⟨r, h1, h2⟩ := h.ex
  obtain ⟨r', g1, g2⟩ := g.ex
  exact ⟨_, h1.or g1, fun x y dx dy H S Q ix iy hr q Q2 k => q.imp (fun z => h2 x y dx dy H S Q ix iy hr z Q2 k) (fun z => g2 x y dx dy H S Q ix iy hr z Q2 k)⟩
theorem DOp.imp {f : Value → Value → Sem Value} {o o' : DR2} (h : DOp X f o) (i : ∀ x y S Q, o' x y S Q → o x y S Q) : DOp X f o' := by
  obtain ⟨r, h1, h2⟩ := h.ex
  exact ⟨_, h1, fun x y dx dy H S Q ix iy hr q Q2 k => h2 x y dx dy H S Q ix iy hr (i _ _ _ _ q) Q2 k⟩
theorem de_op {op : Operator} {o : DR2} {ta tb : DTE} (h : DOp X (binaryOp op) o) (ha : DE X a ta) (hb : DE X b tb) : DE X (.BinOp a op b pos) (dOp o ta tb) := by
  obtain ⟨r, h1, h2⟩ := h.ex
  obtain ⟨te, a1, a2⟩ := ha.ex
  obtain ⟨tr, b1, b2⟩ := hb.ex
  refine ⟨_, pe_op h1 a1 b1, fun σ H ε S Q he hr q Q2 k => ?_⟩
  refine a2 σ H ε S _ he hr q _ fun v H1 d S1 t1 r1 p1 q1 => ?_
  refine b2 σ H1 ε S1 _ (he.mono t1) p1 q1 _ fun u H2 d2 S2 t2 r2 p2 q2 => ?_
  exact h2 v u d d2 H2 S2 _ (Is.mono t2 r1) r2 p2 q2 _ fun z H3 d3 S3 t3 r3 p3 q3 => k z H3 d3 S3 ((t1.trans t2).trans t3) r3 p3 q3
theorem de_cmp {op : CmpOp} {o : DR2} {ta tb : DTE} (h : DOp X (compareOp op) o) (ha : DE X a ta) (hb : DE X b tb) (hm : behindInMarks op b = false) : DE X (.Compare a [op] [b] pos) (dOp o ta tb) := by
  obtain ⟨r, h1, h2⟩ := h.ex
  obtain ⟨te, a1, a2⟩ := ha.ex
  obtain ⟨tr, b1, b2⟩ := hb.ex
  refine ⟨_, pe_cmpR h1 a1 b1 hm, fun σ H ε S Q he hr q Q2 k => ?_⟩
  refine a2 σ H ε S _ he hr q _ fun v H1 d S1 t1 r1 p1 q1 => ?_
  refine b2 σ H1 ε S1 _ (he.mono t1) p1 q1 _ fun u H2 d2 S2 t2 r2 p2 q2 => ?_
  exact h2 v u d d2 H2 S2 _ (Is.mono t2 r1) r2 p2 q2 _ fun z H3 d3 S3 t3 r3 p3 q3 => k z H3 d3 S3 ((t1.trans t2).trans t3) r3 p3 q3
/-- ints in, a value out -/
theorem dop_I0 {f : Value → Value → Sem Value} {g : Int → Int → V} {g' : Int → Int → D} (h : OpR X f (rI0 g)) (hg : ∀ i j H, Is (Cxmd X) H (g i j) (g' i j)) :
    DOp X f (fun x y S Q => ∃ i j, x = .int i ∧ y = .int j ∧ Q (g' i j) S) :=
  ⟨_, h, fun x y dx dy H S Q ix iy hr ⟨i, j, e1, e2, q⟩ Q2 k => by
    subst e1 e2
    exact ⟨i, j, ix, iy, k _ H _ S (TLe.refl H) (hg i j H) hr q⟩⟩
theorem dop_I {f : Value → Value → Sem Value} {C : Int → Int → Prop} {g : Int → Int → V} {g' : Int → Int → D} (h : OpR X f (rI C g)) (hg : ∀ i j H, Is (Cxmd X) H (g i j) (g' i j)) :
    DOp X f (fun x y S Q => ∃ i j, x = .int i ∧ y = .int j ∧ C i j ∧ Q (g' i j) S) :=
  ⟨_, h, fun x y dx dy H S Q ix iy hr ⟨i, j, e1, e2, c, q⟩ Q2 k => by
    subst e1 e2
    exact ⟨i, j, ix, iy, c, k _ H _ S (TLe.refl H) (hg i j H) hr q⟩⟩
end
def oAdd : DR2
  | .int i, .int j, S, Q => Q (.int (i + j)) S
  | .str x, .str y, S, Q => x.length + y.length ≤ sizeLine ∧ Q (.str (x ++ y)) S
  | .tup xs, .tup ys, S, Q => xs.length + ys.length ≤ sizeLine ∧ Q (.tup (xs ++ ys)) S
  | .ref a, .ref b, S, Q => ∃ xs ys, S a = some (.lst xs) ∧ S b = some (.lst ys) ∧ xs.length + ys.length ≤ sizeLine ∧ ∀ p, S p = none → Q (.ref p) (put S p (.lst (xs ++ ys)))
  | _, _, _, _ => False
def oInt (g : Int → Int → D) : DR2
  | .int i, .int j, S, Q => Q (g i j) S
  | _, _, _, _ => False
def oIntC (C : Int → Int → Prop) (g : Int → Int → D) : DR2
  | .int i, .int j, S, Q => C i j ∧ Q (g i j) S
  | _, _, _, _ => False
section
variable {X : Cx}
theorem IsL.nil_iff {M : Md} {H : Hp} {vs : List V} {ds : List D} (h : IsL M H vs ds) : vs = [] ↔ ds = [] := by
  have := h.length
  cases vs <;> cases ds <;> simp_all
theorem dop_catT : DOp X (binaryOp .Add) (fun x y S Q => ∃ xs ys, x = .tup xs ∧ y = .tup ys ∧ xs.length + ys.length ≤ sizeLine ∧ Q (.tup (xs ++ ys)) S) := by
  refine ⟨_, op_catA, fun x y dx dy H S Q ix iy hr ⟨xs, ys, e1, e2, z, q⟩ Q2 k => ?_⟩
  subst e1 e2
  obtain ⟨a, vs, rfl, sa, la⟩ := ix
  obtain ⟨b, us, rfl, sb, lb⟩ := iy
  refine ⟨a, b, vs, us, rfl, rfl, sa.sq, sb.sq, by rw [la.length, lb.length]; exact z, fun n => ?_, fun n m => ?_, fun n m p np => ?_⟩
  · have e : xs = [] := la.nil_iff.mp n
    subst e
    exact k _ H _ S (TLe.refl H) (Is.t sb lb) hr q
  · have e : ys = [] := lb.nil_iff.mp m
    subst e
    rw [List.append_nil] at q
    exact k _ H _ S (TLe.refl H) (Is.t sa la) hr q
  · have t : TLe H (upd H p (.tup (vs ++ us))) := TLe.new np
    exact k _ _ _ S t (Is.tn (IsL.mono t (la.append lb))) (hr.new np) q
theorem dop_catS : DOp X (binaryOp .Add) (fun x y S Q => ∃ xs ys : Str, x = .str xs ∧ y = .str ys ∧ xs.length + ys.length ≤ sizeLine ∧ Q (.str (xs ++ ys)) S) :=
  ⟨_, op_add_str, fun x y dx dy H S Q ix iy hr ⟨xs, ys, e1, e2, z, q⟩ Q2 k => by
    subst e1 e2
    exact ⟨xs, ys, ix, iy, z, k _ H _ S (TLe.refl H) Is.s hr q⟩⟩
theorem dop_catL : DOp X (binaryOp .Add) (fun x y S Q => ∃ a b xs ys, x = .ref a ∧ y = .ref b ∧ S a = some (.lst xs) ∧ S b = some (.lst ys) ∧ xs.length + ys.length ≤ sizeLine ∧ ∀ p, S p = none → Q (.ref p) (put S p (.lst (xs ++ ys)))) := by
  refine ⟨_, op_cat, fun x y dx dy H S Q ix iy hr ⟨a, b, xs, ys, e1, e2, sa, sb, z, q⟩ Q2 k => ?_⟩
  subst e1 e2
  obtain ⟨vs, ha, la⟩ := hr a _ sa
  obtain ⟨us, hb, lb⟩ := hr b _ sb
  refine ⟨a, b, vs, us, ix, iy, ha, hb, by rw [la.length, lb.length]; exact z, fun p np => ?_⟩
  have t : TLe H (upd H p (.lst (vs ++ us))) := TLe.new np
  exact k _ _ _ _ t Is.r (hr.put t (CellIs.ln (IsL.mono t (la.append lb)))) (q p (hr.free np))
theorem dop_add : DOp X (binaryOp .Add) oAdd := by
  refine ((dop_I0 (g' := fun i j => .int (i + j)) op_add fun i j H => rfl).or (dop_catS.or (dop_catT.or dop_catL))).imp fun x y S Q q => ?_
  unfold oAdd at q
  split at q
  · exact .inl ⟨_, _, rfl, rfl, q⟩
  · exact .inr (.inl ⟨_, _, rfl, rfl, q⟩)
  · exact .inr (.inr (.inl ⟨_, _, rfl, rfl, q⟩))
  · obtain ⟨xs, ys, q⟩ := q
    exact .inr (.inr (.inr ⟨_, _, xs, ys, rfl, rfl, q⟩))
  · exact q.elim
theorem oInt_ex {g : Int → Int → D} {x y : D} {S : Sto} {Q : DK} (q : oInt g x y S Q) : ∃ i j, x = .int i ∧ y = .int j ∧ Q (g i j) S := by
  unfold oInt at q; split at q
  · exact ⟨_, _, rfl, rfl, q⟩
  · exact q.elim
theorem oIntC_ex {C : Int → Int → Prop} {g : Int → Int → D} {x y : D} {S : Sto} {Q : DK} (q : oIntC C g x y S Q) : ∃ i j, x = .int i ∧ y = .int j ∧ C i j ∧ Q (g i j) S := by
  unfold oIntC at q; split at q
  · exact ⟨_, _, rfl, rfl, q⟩
  · exact q.elim
theorem dop_int {f : Value → Value → Sem Value} {g : Int → Int → V} {g' : Int → Int → D} (h : OpR X f (rI0 g)) (hg : ∀ i j H, Is (Cxmd X) H (g i j) (g' i j)) : DOp X f (oInt g') := (dop_I0 h hg).imp fun _ _ _ _ q => oInt_ex q
theorem dop_intC {f : Value → Value → Sem Value} {C : Int → Int → Prop} {g : Int → Int → V} {g' : Int → Int → D} (h : OpR X f (rI C g)) (hg : ∀ i j H, Is (Cxmd X) H (g i j) (g' i j)) : DOp X f (oIntC C g') := (dop_I h hg).imp fun _ _ _ _ q => oIntC_ex q
end
abbrev oSub : DR2 := oInt fun i j => .int (i - j)
abbrev oMul : DR2 := oIntC CMulW fun i j => .int (i * j)
abbrev oMod : DR2 := oIntC (fun _ j => 0 < j) fun i j => .int (i % j)
abbrev oDiv : DR2 := oIntC CDivW fun i j => .int (i / j)
def CPowB (i j : Int) : Prop := 0 ≤ j ∧ (Builtin.Int.intBits i : Int) * j ≤ 2 ^ 27
abbrev oPow : DR2 := oIntC CPowB fun i j => .int (i ^ j.toNat)
abbrev oLt : DR2 := oInt fun i j => .bl (decide (i < j))
abbrev oLe : DR2 := oInt fun i j => .bl (decide (i ≤ j))
abbrev oGt : DR2 := oInt fun i j => .bl (decide (j < i))
abbrev oGe : DR2 := oInt fun i j => .bl (decide (j ≤ i))
section
variable {X : Cx}
theorem dop_sub : DOp X (binaryOp .Sub) oSub := dop_int op_sub fun i j H => rfl
theorem dop_mul : DOp X (binaryOp .Mult) oMul := dop_intC op_mulW fun i j H => rfl
theorem dop_mod : DOp X (binaryOp .Mod) oMod := dop_intC op_mod fun i j H => rfl
theorem dop_div : DOp X (binaryOp .FloorDiv) oDiv := dop_intC op_fdivW fun i j H => rfl
theorem op_powB : OpR X (binaryOp .Pow) (rI CPowB fun i j => .int (i ^ j.toNat)) := opI fun _ _ _ _ _ _ _ hc q => pow_int hc.1 hc.2 q
theorem dop_pow : DOp X (binaryOp .Pow) oPow := dop_intC op_powB fun i j H => rfl
theorem dop_lt : DOp X (compareOp .Lt) oLt := dop_int op_lt fun i j H => rfl
theorem dop_le : DOp X (compareOp .LtE) oLe := dop_int op_le fun i j H => rfl
theorem dop_gt : DOp X (compareOp .Gt) oGt := dop_int op_gt fun i j H => rfl
theorem dop_ge : DOp X (compareOp .GtE) oGe := dop_int op_ge fun i j H => rfl
end
/-! ### ==, !=, is None, in: flat values -/
def scV : D → Option V
  | .non => some .non
  | .bl b => some (.bl b)
  | .int i => some (.int i)
  | .str s => some (.str s)
  | _ => none
theorem scV_is {M : Md} {H : Hp} {d : D} {v x : V} (e : scV d = some x) (h : Is M H v d) : v = x := by
  cases d <;> first | (cases e; exact h) | cases e
def oEq : DR2 := fun x y S Q => ∃ v u, scV x = some v ∧ scV y = some u ∧ scal v u = true ∧ Q (.bl (decide (v = u))) S
def oNe : DR2 := fun x y S Q => ∃ v u, scV x = some v ∧ scV y = some u ∧ scal v u = true ∧ Q (.bl (!decide (v = u))) S
def isNon : D → Bool
  | .non => true
  | _ => false
def oIsN : DR2 := fun x y S Q => y = .non ∧ Q (.bl (isNon x)) S
def oNotN : DR2 := fun x y S Q => y = .non ∧ Q (.bl (!isNon x)) S
def flatL : List D → Option (List V)
  | [] => some []
  | d :: ds => match scV d, flatL ds with
    | some v, some vs => some (v :: vs)
    | _, _ => none
theorem flatL_is {M : Md} {H : Hp} : ∀ {ds : List D} {vs us : List V}, flatL ds = some us → IsL M H vs ds → vs = us
  | [], vs, us, e, h => by cases e; exact h
  | d :: ds, vs, us, e, h => by
    obtain ⟨v, r, e1, q, z⟩ := (show ∃ v r, vs = v :: r ∧ Is M H v d ∧ IsL M H r ds from h)
    unfold flatL at e
    split at e
    · rename_i v' vs' e2 e3
      cases e
      rw [e1, scV_is e2 q, flatL_is e3 z]
    · cases e
theorem scV_flat {d : D} {v : V} (e : scV d = some v) : flatV v = true := by
  cases d <;> first | (cases e; rfl) | cases e
theorem flatL_all : ∀ {ds : List D} {us : List V}, flatL ds = some us → us.all flatV = true
  | [], us, e => by cases e; rfl
  | d :: ds, us, e => by
    unfold flatL at e
    split at e
    · rename_i v' vs' e2 e3
      cases e
      rw [List.all_cons, scV_flat e2, flatL_all e3]; rfl
    · cases e
/-- the items of a list or tuple -/
def itemsD (d : D) (S : Sto) : Option (List D) := match d with
  | .tup xs => some xs
  | .cl xs => some xs
  | .ref a => match S a with
    | some (.lst xs) => some xs
    | _ => none
  | _ => none
def inD (neg : Bool) : DR2 := fun x y S Q => ∃ v xs us, scV x = some v ∧ itemsD y S = some xs ∧ flatL xs = some us ∧ Q (.bl (if neg then !inV v us else inV v us)) S
theorem items_is {M : Md} {H : Hp} {S : Sto} {v : V} {d : D} {xs : List D} (hr : Rp M H S) (h : Is M H v d) (e : itemsD d S = some xs) : ∃ a vs, v = .ref a ∧ (SqL M.K H a vs ∨ SqT M.K H a vs) ∧ IsL M H vs xs := by
  unfold itemsD at e
  split at e
  · cases e; obtain ⟨a, vs, e1, q, r⟩ := h; exact ⟨a, vs, e1, .inr q.sq, r⟩
  · cases e; obtain ⟨a, vs, e1, q, r⟩ := h; exact ⟨a, vs, e1, .inl q.sq, r⟩
  · split at e
    · rename_i xs' q
      cases e
      obtain ⟨vs, h1, h2⟩ := hr _ _ q
      exact ⟨_, vs, h, .inl (SqL.of h1), h2⟩
    · cases e
  · cases e
section
variable {X : Cx}
theorem dop_eq : DOp X (compareOp .Eq) oEq := ⟨_, op_eq, fun x y dx dy H S Q ix iy hr ⟨v, u, e1, e2, z, q⟩ Q2 k => by
  rw [scV_is e1 ix, scV_is e2 iy]
  exact ⟨z, k _ H _ S (TLe.refl H) Is.b hr q⟩⟩
theorem dop_ne : DOp X (compareOp .NotEq) oNe := ⟨_, op_ne, fun x y dx dy H S Q ix iy hr ⟨v, u, e1, e2, z, q⟩ Q2 k => by
  rw [scV_is e1 ix, scV_is e2 iy]
  exact ⟨z, k _ H _ S (TLe.refl H) Is.b hr q⟩⟩
theorem is_non {M : Md} {H : Hp} {v : V} {d : D} (h : Is M H v d) : decide (v = .non) = isNon d := by
  cases d with
  | non => rw [show v = .non from h]; rfl
  | bl _ => rw [show v = _ from h]; rfl
  | int _ => rw [show v = _ from h]; rfl
  | str _ => rw [show v = _ from h]; rfl
  | ref _ => rw [show v = _ from h]; rfl
  | ty _ => rw [show v = _ from h]; rfl
  | tup _ => obtain ⟨a, vs, e, _⟩ := h; rw [e]; rfl
  | cl _ => obtain ⟨a, vs, e, _⟩ := h; rw [e]; rfl
  | cd _ _ => obtain ⟨a, vs, e, _⟩ := h; rw [e]; rfl
theorem dop_isN : DOp X (compareOp .Is) oIsN := ⟨_, op_isN, fun x y dx dy H S Q ix iy hr ⟨e, q⟩ Q2 k => by
  subst e
  exact ⟨iy, k _ H _ S (TLe.refl H) (by rw [is_non ix]; exact Is.b) hr q⟩⟩
theorem dop_notN : DOp X (compareOp .IsNot) oNotN := ⟨_, op_notN, fun x y dx dy H S Q ix iy hr ⟨e, q⟩ Q2 k => by
  subst e
  exact ⟨iy, k _ H _ S (TLe.refl H) (by rw [is_non ix]; exact Is.b) hr q⟩⟩
theorem dop_in_seq : DOp X (compareOp .In) (inD false) := ⟨_, op_in_seq, fun x y dx dy H S Q ix iy hr ⟨v, xs, us, e1, e2, e3, q⟩ Q2 k => by
  obtain ⟨a, vs, e, s, l⟩ := items_is hr iy e2
  rw [scV_is e1 ix]
  rw [flatL_is e3 l] at s
  exact ⟨a, us, e, s, scV_flat e1, flatL_all e3, k _ H _ S (TLe.refl H) Is.b hr q⟩⟩
theorem dop_notin_seq : DOp X (compareOp .NotIn) (inD true) := ⟨_, op_notIn_seq, fun x y dx dy H S Q ix iy hr ⟨v, xs, us, e1, e2, e3, q⟩ Q2 k => by
  obtain ⟨a, vs, e, s, l⟩ := items_is hr iy e2
  rw [scV_is e1 ix]
  rw [flatL_is e3 l] at s
  exact ⟨a, us, e, s, scV_flat e1, flatL_all e3, k _ H _ S (TLe.refl H) Is.b hr q⟩⟩
end
end DL
end
section
/-! The D-layer, part 4: tests, truth, subscripts, slices, built-in calls, list methods. -/
namespace DL
open PySem PySem.Spec PyProof.Rows L2
/-- a value's truth -/
def Tru : D → Sto → Bool → Prop
  | .non, _, k => k = false
  | .bl b, _, k => k = b
  | .int i, _, k => k = (i != 0)
  | .str s, _, k => s.length ≤ sizeLine ∧ k = ((s.length : Int) != 0)
  | .tup xs, _, k => k = !xs.isEmpty
  | .cl xs, _, k => k = !xs.isEmpty
  | .ref a, S, k => (∃ xs, S a = some (.lst xs) ∧ k = !xs.isEmpty) ∨ ∃ ks vs, S a = some (.dic ks vs) ∧ k = !ks.isEmpty
  | _, _, _ => False
def dTB (t : DTE) : DTT := fun ε S Q => t ε S fun x S1 => ∃ k, x = .bl k ∧ Q k S1
def dTru (t : DTE) : DTT := fun ε S Q => t ε S fun x S1 => ∃ k, Tru x S1 k ∧ Q k S1
def dAnd (t u : DTT) : DTT := fun ε S Q => t ε S fun c S1 => if c = true then u ε S1 Q else Q false S1
def dOr (t u : DTT) : DTT := fun ε S Q => t ε S fun c S1 => if c = true then Q true S1 else u ε S1 Q
def dNot (t : DTT) : DTT := fun ε S Q => t ε S fun c S1 => Q (!c) S1
def dAndV (t u : DTE) : DTE := fun ε S Q => t ε S fun x S1 => ∃ k, Tru x S1 k ∧ if k = true then u ε S1 Q else Q x S1
def dOrV (t u : DTE) : DTE := fun ε S Q => t ε S fun x S1 => ∃ k, Tru x S1 k ∧ if k = true then Q x S1 else u ε S1 Q
def dNotV (t : DTE) : DTE := fun ε S Q => t ε S fun x S1 => ∃ k, Tru x S1 k ∧ Q (.bl (!k)) S1
def dIfE (c : DTT) (t u : DTE) : DTE := fun ε S Q => c ε S fun b S1 => if b = true then t ε S1 Q else u ε S1 Q
theorem isEmpty_of {M : Md} {H : Hp} {vs : List V} {ds : List D} (h : IsL M H vs ds) : vs.isEmpty = ds.isEmpty := by
  have := h.length
  cases vs <;> cases ds <;> simp_all
theorem tru_is {M : Md} {H : Hp} {S : Sto} {v : V} {d : D} {k : Bool} (hr : Rp M H S) (h : Is M H v d) (t : Tru d S k) : TruV M.K v H k := by
  cases d with
  | non => rw [show v = .non from h]; exact t
  | bl _ => rw [show v = _ from h]; exact t
  | int _ => rw [show v = _ from h]; exact t
  | str _ => rw [show v = _ from h]; exact t
  | tup xs => obtain ⟨a, vs, e, q, r⟩ := h; rw [e]; exact .inr (.inl ⟨vs, q.sq, by rw [isEmpty_of r]; exact t⟩)
  | cl xs => obtain ⟨a, vs, e, q, r⟩ := h; rw [e]; exact .inl ⟨vs, q.sq, by rw [isEmpty_of r]; exact t⟩
  | ref a =>
    rw [show v = _ from h]
    rcases t with ⟨xs, e, z⟩ | ⟨ks, vs, e, z⟩
    · obtain ⟨us, h1, h2⟩ := hr _ _ e
      exact .inl ⟨us, SqL.of h1, by rw [isEmpty_of h2]; exact z⟩
    · obtain ⟨kvs, h1, h2, h3⟩ := hr _ _ e
      refine .inr (.inr ⟨kvs, h1, ?_⟩)
      rw [z, h2]
      cases kvs <;> rfl
  | ty _ => exact t.elim
  | cd _ _ => exact t.elim
section
variable {X : Cx} {e a b c : Expr} {es rest : List Expr} {pos : Pos} {ta tb : DTE} {t u : DTT}
theorem dt_cmp {op : CmpOp} {o : DR2} (h : DOp X (compareOp op) o) (ha : DE X a ta) (hb : DE X b tb) (hm : behindInMarks op b = false) : DT X (.Compare a [op] [b] pos) (dTB (dOp o ta tb)) := by
  obtain ⟨r, h1, h2⟩ := h.ex
  obtain ⟨te, a1, a2⟩ := ha.ex
  obtain ⟨tr, b1, b2⟩ := hb.ex
  refine ⟨_, pt_cmpR h1 a1 b1 hm, fun σ H ε S Q he hr q Q2 k => ?_⟩
  refine a2 σ H ε S _ he hr q _ fun v H1 d S1 t1 r1 p1 q1 => ?_
  refine b2 σ H1 ε S1 _ (he.mono t1) p1 q1 _ fun u H2 d2 S2 t2 r2 p2 q2 => ?_
  refine h2 v u d d2 H2 S2 _ (Is.mono t2 r1) r2 p2 q2 _ fun z H3 d3 S3 t3 r3 p3 ⟨b, e, q3⟩ => ?_
  subst e
  exact ⟨b, r3, k b H3 S3 ((t1.trans t2).trans t3) p3 q3⟩
theorem dt_tru (ha : DE X a ta) (he : ∀ whole, isTrue a X.env whole = (do let v ← whole; standAt a.pos; holding [v] (truthy v)) := by intro _; rfl) : DT X a (dTru ta) := by
  obtain ⟨te, a1, a2⟩ := ha.ex
  refine ⟨_, pt_truth a1 he, fun σ H ε S Q he hr q Q2 k => ?_⟩
  refine a2 σ H ε S _ he hr q _ fun v H1 d S1 t1 r1 p1 ⟨b, z, q1⟩ => ⟨b, tru_is p1 r1 z, k b H1 S1 t1 p1 q1⟩
theorem dt_not (h : DT X a t) : DT X (.UnaryOp .Not a pos) (dNot t) := by
  obtain ⟨te, a1, a2⟩ := h.ex
  exact ⟨_, pt_not a1, fun σ H ε S Q he hr q Q2 k => a2 σ H ε S _ he hr q _ fun b H1 S1 t1 p1 q1 => k _ H1 S1 t1 p1 q1⟩
theorem DW.dt (h : DW X a t) : DT X a t := by
  obtain ⟨te, a1, a2⟩ := h.ex
  exact ⟨_, a1.pt, a2⟩
theorem dw_and1 (h : DT X a t) : DW X (.BoolOp .And [a] pos) t := by
  obtain ⟨te, a1, a2⟩ := h.ex
  exact ⟨_, pw_and1 a1, a2⟩
theorem dw_or1 (h : DT X a t) : DW X (.BoolOp .Or [a] pos) t := by
  obtain ⟨te, a1, a2⟩ := h.ex
  exact ⟨_, pw_or1 a1, a2⟩
theorem dw_and (h : DT X a t) (g : DW X (.BoolOp .And (b :: rest) pos) u) : DW X (.BoolOp .And (a :: b :: rest) pos) (dAnd t u) := by
  obtain ⟨te, a1, a2⟩ := h.ex
  obtain ⟨tf, b1, b2⟩ := g.ex
  refine ⟨_, pw_and a1 b1, fun σ H ε S Q he hr q Q2 k => ?_⟩
  refine a2 σ H ε S _ he hr q _ fun c H1 S1 t1 p1 q1 => ?_
  cases c with
  | true => exact iteT (b2 σ H1 ε S1 _ (he.mono t1) p1 q1 _ fun c H2 S2 t2 p2 q2 => k c H2 S2 (t1.trans t2) p2 q2)
  | false => exact iteF (k _ H1 S1 t1 p1 q1)
theorem dw_or (h : DT X a t) (g : DW X (.BoolOp .Or (b :: rest) pos) u) : DW X (.BoolOp .Or (a :: b :: rest) pos) (dOr t u) := by
  obtain ⟨te, a1, a2⟩ := h.ex
  obtain ⟨tf, b1, b2⟩ := g.ex
  refine ⟨_, pw_or a1 b1, fun σ H ε S Q he hr q Q2 k => ?_⟩
  refine a2 σ H ε S _ he hr q _ fun c H1 S1 t1 p1 q1 => ?_
  cases c with
  | false => exact iteF (b2 σ H1 ε S1 _ (he.mono t1) p1 q1 _ fun c H2 S2 t2 p2 q2 => k c H2 S2 (t1.trans t2) p2 q2)
  | true => exact iteT (k _ H1 S1 t1 p1 q1)
theorem de_one {op} (h : DE X a ta) : DE X (.BoolOp op [a] pos) ta := by
  obtain ⟨te, a1, a2⟩ := h.ex
  exact ⟨_, pe_one a1, a2⟩
theorem de_and (h : DE X a ta) (g : DE X (.BoolOp .And (b :: rest) pos) tb) : DE X (.BoolOp .And (a :: b :: rest) pos) (dAndV ta tb) := by
  obtain ⟨te, a1, a2⟩ := h.ex
  obtain ⟨tf, b1, b2⟩ := g.ex
  refine ⟨_, pe_andT a1 b1, fun σ H ε S Q he hr q Q2 k => ?_⟩
  refine a2 σ H ε S _ he hr q _ fun v H1 d S1 t1 r1 p1 ⟨c, z, q1⟩ => ⟨c, tru_is p1 r1 z, ?_⟩
  cases c with
  | true => exact iteT (b2 σ H1 ε S1 _ (he.mono t1) p1 q1 _ fun v H2 d S2 t2 r2 p2 q2 => k v H2 d S2 (t1.trans t2) r2 p2 q2)
  | false => exact iteF (k _ H1 d S1 t1 r1 p1 q1)
theorem de_or (h : DE X a ta) (g : DE X (.BoolOp .Or (b :: rest) pos) tb) : DE X (.BoolOp .Or (a :: b :: rest) pos) (dOrV ta tb) := by
  obtain ⟨te, a1, a2⟩ := h.ex
  obtain ⟨tf, b1, b2⟩ := g.ex
  refine ⟨_, pe_orT a1 b1, fun σ H ε S Q he hr q Q2 k => ?_⟩
  refine a2 σ H ε S _ he hr q _ fun v H1 d S1 t1 r1 p1 ⟨c, z, q1⟩ => ⟨c, tru_is p1 r1 z, ?_⟩
  cases c with
  | false => exact iteF (b2 σ H1 ε S1 _ (he.mono t1) p1 q1 _ fun v H2 d S2 t2 r2 p2 q2 => k v H2 d S2 (t1.trans t2) r2 p2 q2)
  | true => exact iteT (k _ H1 d S1 t1 r1 p1 q1)
theorem de_not (h : DE X a ta) : DE X (.UnaryOp .Not a pos) (dNotV ta) := by
  obtain ⟨te, a1, a2⟩ := h.ex
  exact ⟨_, pe_notT a1, fun σ H ε S Q he hr q Q2 k => a2 σ H ε S _ he hr q _ fun v H1 d S1 t1 r1 p1 ⟨c, z, q1⟩ => ⟨c, tru_is p1 r1 z, k _ H1 _ S1 t1 Is.b p1 q1⟩⟩
theorem de_ifE (h : DT X c t) (ha : DE X a ta) (hb : DE X b tb) : DE X (.IfExp c a b pos) (dIfE t ta tb) := by
  obtain ⟨tt, c1, c2⟩ := h.ex
  obtain ⟨te, a1, a2⟩ := ha.ex
  obtain ⟨tf, b1, b2⟩ := hb.ex
  refine ⟨_, pe_ifExp c1 a1 b1, fun σ H ε S Q he hr q Q2 k => ?_⟩
  refine c2 σ H ε S _ he hr q _ fun c H1 S1 t1 p1 q1 => ?_
  cases c with
  | true => exact iteT (a2 σ H1 ε S1 _ (he.mono t1) p1 q1 _ fun v H2 d S2 t2 r2 p2 q2 => k v H2 d S2 (t1.trans t2) r2 p2 q2)
  | false => exact iteF (b2 σ H1 ε S1 _ (he.mono t1) p1 q1 _ fun v H2 d S2 t2 r2 p2 q2 => k v H2 d S2 (t1.trans t2) r2 p2 q2)
end
/-! ### -a -/
def dNeg (t : DTE) : DTE := fun ε S Q => t ε S fun x S1 => ∃ i, x = .int i ∧ Q (.int (-i)) S1
theorem de_neg {X : Cx} {a : Expr} {pos : Pos} {ta : DTE} (h : DE X a ta) : DE X (.UnaryOp .USub a pos) (dNeg ta) := by
  obtain ⟨te, a1, a2⟩ := h.ex
  refine ⟨_, pe_un un_neg a1, fun σ H ε S Q he hr q Q2 k => a2 σ H ε S _ he hr q _ fun v H1 d S1 t1 r1 p1 ⟨i, e, q1⟩ => ?_⟩
  subst e
  exact ⟨i, r1, k _ H1 _ S1 t1 Is.i p1 q1⟩
/-! ### subscripts by ints -/
def ixD : DR2 := fun x y S Q => ∃ i, y = .int i ∧ match x with
  | .str s => s.length ≤ sizeLine ∧ ∃ c, atI s.cps.toList i = some c ∧ Q (.str ⟨#[c]⟩) S
  | _ => ∃ xs d, itemsD x S = some xs ∧ atI xs i = some d ∧ Q d S
theorem IsL.atI {M : Md} {H : Hp} {ds : List D} {vs : List V} {i : Int} {d : D} (h : IsL M H vs ds) (e : atI ds i = some d) : ∃ v, L2.atI vs i = some v ∧ Is M H v d := by
  unfold L2.atI at e ⊢
  rw [h.length]
  cases q : ixN ds.length i with
  | none => rw [q] at e; cases e
  | some j => rw [q] at e; exact h.get (i := j) e
section
variable {X : Cx} {e a b c : Expr} {es rest : List Expr} {pos p2 : Pos} {ta tb : DTE}
theorem ixD_is {K0 : Md} {v u : V} {d d2 : D} {H : Hp} {S : Sto} {Q : DK} {Q2 : VK} (p2 : Rp K0 H S) (r1' : Is K0 H v d) (r2 : Is K0 H u d2) (q2 : ixD d d2 S Q) (k : ∀ v H' d S', TLe H H' → Is K0 H' v d → Rp K0 H' S' → Q d S' → Q2 v H') : rIx K0.K v u H Q2 := by
  obtain ⟨i, e, q2⟩ := q2
  subst e
  have fin : ∀ xs d', itemsD d S = some xs → atI xs i = some d' → Q d' S → rIx K0.K v u H Q2 := fun xs d' e1 e2 q3 => by
    obtain ⟨p, vs, e3, sq, l⟩ := items_is p2 r1' e1
    obtain ⟨w', e4, r4⟩ := l.atI e2
    rcases sq with sq | sq
    · exact .inl ⟨p, vs, i, w', e3, r2, sq, e4, k w' H d' S (TLe.refl H) r4 p2 q3⟩
    · exact .inr (.inl ⟨p, vs, i, w', e3, r2, sq, e4, k w' H d' S (TLe.refl H) r4 p2 q3⟩)
  cases d with
  | str s =>
    obtain ⟨z, c, e1, q3⟩ := q2
    exact .inr (.inr ⟨s, i, c, r1', r2, z, e1, k _ H _ S (TLe.refl H) Is.s p2 q3⟩)
  | non => obtain ⟨xs, d', e1, e2, q3⟩ := q2; exact fin xs d' e1 e2 q3
  | bl _ => obtain ⟨xs, d', e1, e2, q3⟩ := q2; exact fin xs d' e1 e2 q3
  | int _ => obtain ⟨xs, d', e1, e2, q3⟩ := q2; exact fin xs d' e1 e2 q3
  | tup _ => obtain ⟨xs, d', e1, e2, q3⟩ := q2; exact fin xs d' e1 e2 q3
  | ref _ => obtain ⟨xs, d', e1, e2, q3⟩ := q2; exact fin xs d' e1 e2 q3
  | ty _ => obtain ⟨xs, d', e1, e2, q3⟩ := q2; exact fin xs d' e1 e2 q3
  | cl _ => obtain ⟨xs, d', e1, e2, q3⟩ := q2; exact fin xs d' e1 e2 q3
  | cd _ _ => obtain ⟨xs, d', e1, e2, q3⟩ := q2; exact fin xs d' e1 e2 q3
end
/-! ### slices -/
abbrev DTO := Env → Sto → (Option Int → Sto → Prop) → Prop
structure DO (X : Cx) (e : Option Expr) (t : DTO) : Prop where
  ex : ∃ te, PO X e te ∧ ∀ σ H ε S Q, Ep (Cxmd X) H σ ε → Rp (Cxmd X) H S → t ε S Q → ∀ Q2 : Option Int → Hp → Prop, (∀ o H' S', TLe H H' → Rp (Cxmd X) H' S' → Q o S' → Q2 o H') → te σ H Q2
def dNoP : DTO := fun _ S Q => Q none S
def dSomeP (t : DTE) : DTO := fun ε S Q => t ε S fun x S1 => ∃ i, x = .int i ∧ Q (some i) S1
def cutD (xs : List D) (lo hi : Option Int) : List D := (xs.drop (HT.sIx xs.length 0 lo)).take (HT.sIx xs.length xs.length hi - HT.sIx xs.length 0 lo)
theorem IsL.cut {M : Md} {H : Hp} {ds : List D} {vs : List V} (lo hi : Option Int) (h : IsL M H vs ds) : IsL M H (cutV vs lo hi) (cutD ds lo hi) := by
  unfold cutV cutD
  rw [h.length]
  exact (h.drop _).take _
def slD (x : D) (lo hi : Option Int) (S : Sto) (Q : DK) : Prop := match x with
  | .str s => s.length ≤ sizeLine ∧ Q (.str (cutS s lo hi)) S
  | .tup xs => Q (.tup (cutD xs lo hi)) S
  | .cl xs => ∀ p, S p = none → Q (.ref p) (put S p (.lst (cutD xs lo hi)))
  | .ref a => ∃ xs, S a = some (.lst xs) ∧ ∀ p, S p = none → Q (.ref p) (put S p (.lst (cutD xs lo hi)))
  | _ => False
def dSl (t : DTE) (l u : DTO) : DTE := fun ε S Q => t ε S fun x S1 => l ε S1 fun lo S2 => u ε S2 fun hi S3 => slD x lo hi S3 Q
section
variable {X : Cx} {e a b c : Expr} {lo hi : Option Expr} {pos p2 : Pos} {ta tb : DTE} {tl th : DTO}
theorem do_none : DO X none dNoP := ⟨_, po_none, fun σ H ε S Q he hr q Q2 k => k _ H S (TLe.refl H) hr q⟩
theorem do_some (h : DE X e ta) : DO X (some e) (dSomeP ta) := by
  obtain ⟨te, a1, a2⟩ := h.ex
  refine ⟨_, po_some a1, fun σ H ε S Q he hr q Q2 k => a2 σ H ε S _ he hr q _ fun v H1 d S1 t1 r1 p1 ⟨i, e, q1⟩ => ?_⟩
  subst e
  exact ⟨i, r1, k _ H1 S1 t1 p1 q1⟩
theorem de_sl (h : DE X e ta) (hl : DO X lo tl) (hh : DO X hi th) : DE X (.Subscript e (.Slice lo hi none p2) pos) (dSl ta tl th) := by
  obtain ⟨te, a1, a2⟩ := h.ex
  obtain ⟨tr, b1, b2⟩ := hl.ex
  obtain ⟨tq, c1, c2⟩ := hh.ex
  refine ⟨_, pe_slice (sl_list.or (sl_tupA.or sl_str)) a1 b1 c1, fun σ H ε S Q he hr q Q2 k => ?_⟩
  refine a2 σ H ε S _ he hr q _ fun v H1 d S1 t1 r1 p1 q1 => ?_
  refine b2 σ H1 ε S1 _ (he.mono t1) p1 q1 _ fun o1 H2 S2 t2 p2 q2 => ?_
  refine c2 σ H2 ε S2 _ ((he.mono t1).mono t2) p2 q2 _ fun o2 H3 S3 t3 p3 q3 => ?_
  have tt := (t1.trans t2).trans t3
  have r3 := Is.mono t3 (Is.mono t2 r1)
  cases d with
  | str s =>
    obtain ⟨z, q3⟩ := q3
    exact .inr (.inr ⟨s, r3, z, k _ H3 _ S3 tt Is.s p3 q3⟩)
  | tup xs =>
    obtain ⟨p, vs, e, sq, l⟩ := r3
    have q3' : Q (.tup (cutD xs o1 o2)) S3 := q3
    refine .inr (.inl ⟨p, vs, e, sq.sq, fun ⟨w1, w2⟩ => ?_, fun _ n hn => ?_⟩)
    · have w3 : cutD xs o1 o2 = xs := by
        rw [l.length] at w1 w2
        unfold cutD
        rw [w1, w2]; simp
      rw [w3] at q3'
      exact k _ H3 _ S3 tt (Is.t sq l) p3 q3'
    · have t4 : TLe H3 (upd H3 n (.tup (cutV vs o1 o2))) := TLe.new hn
      exact k _ _ _ S3 (tt.trans t4) (Is.tn (IsL.mono t4 (l.cut o1 o2))) (p3.new hn) q3'
  | cl xs =>
    obtain ⟨p, vs, e, sq, l⟩ := r3
    refine .inl ⟨p, vs, e, sq.sq, fun n hn => ?_⟩
    have t4 : TLe H3 (upd H3 n (.lst (cutV vs o1 o2))) := TLe.new hn
    exact k _ _ _ _ (tt.trans t4) Is.r (p3.put t4 (CellIs.ln (IsL.mono t4 (l.cut o1 o2)))) (q3 n (p3.free hn))
  | ref a =>
    obtain ⟨xs, e, q3⟩ := q3
    obtain ⟨vs, h1, l⟩ := p3 _ _ e
    refine .inl ⟨a, vs, r3, SqL.of h1, fun n hn => ?_⟩
    have t4 : TLe H3 (upd H3 n (.lst (cutV vs o1 o2))) := TLe.new hn
    exact k _ _ _ _ (tt.trans t4) Is.r (p3.put t4 (CellIs.ln (IsL.mono t4 (l.cut o1 o2)))) (q3 n (p3.free hn))
  | non => exact q3.elim
  | bl _ => exact q3.elim
  | int _ => exact q3.elim
  | ty _ => exact q3.elim
  | cd _ _ => exact q3.elim
end
theorem itemsN_is {M : Md} {H : Hp} {S : Sto} {v : V} {d : D} {xs : List D} (hr : Rp M H S) (h : Is M H v d) (e : itemsD d S = some xs) (n : ¬ ∃ ys, d = .tup ys) : ∃ a vs, v = .ref a ∧ SqL M.K H a vs ∧ IsL M H vs xs := by
  unfold itemsD at e
  split at e
  · exact (n ⟨_, rfl⟩).elim
  · cases e; obtain ⟨a, vs, e1, q, r⟩ := h; exact ⟨a, vs, e1, q.sq, r⟩
  · split at e
    · rename_i xs' q
      cases e
      obtain ⟨vs, h1, h2⟩ := hr _ _ q
      exact ⟨_, vs, h, SqL.of h1, h2⟩
    · cases e
  · cases e
/-! ### built-in calls -/
abbrev DR := List D → Sto → DK → Prop
structure DCl (X : Cx) (f : Value) (o : DR) : Prop where
  ex : ∃ r, CallR X f r ∧ ∀ vs ds H S Q, IsL (Cxmd X) H vs ds → Rp (Cxmd X) H S → o ds S Q → ∀ Q2 : VK, (∀ v H' d S', TLe H H' → Is (Cxmd X) H' v d → Rp (Cxmd X) H' S' → Q d S' → Q2 v H') → r vs H Q2
theorem DCl.or {X : Cx} {f : Value} {o o' : DR} (h : DCl X f o) (g : DCl X f o') : DCl X f (fun x S Q => o x S Q ∨ o' x S Q) := by
  obtain ⟨r, h1, h2⟩ := h.ex
  obtain ⟨r', g1, g2⟩ := g.ex
  exact ⟨_, h1.or g1, fun x dx H S Q ix hr q Q2 k => q.imp (fun z => h2 x dx H S Q ix hr z Q2 k) (fun z => g2 x dx H S Q ix hr z Q2 k)⟩
theorem DCl.imp {X : Cx} {f : Value} {o o' : DR} (h : DCl X f o) (i : ∀ x S Q, o' x S Q → o x S Q) : DCl X f o' := by
  obtain ⟨r, h1, h2⟩ := h.ex
  exact ⟨_, h1, fun x dx H S Q ix hr q Q2 k => h2 x dx H S Q ix hr (i _ _ _ q) Q2 k⟩
def dCB (o : DR) (t : DTA) : DTE := fun ε S Q => t ε S fun ds S1 => o ds S1 Q
section
variable {X : Cx} {x : Str} {e : Expr} {es : List Expr} {p pos : Pos} {id T : String} {o : DR} {t : DTA}
theorem de_callB (hc : DCl X (.builtin id) o) (hg : Gl X x) (hm : X.mg x = none) (hv : bootBuiltins x = some (.builtin id)) (ha : DA X (e :: es) t) (hn : x ≠ "__name__" := by decide) (hd : (x == ("__debug__" : Str)) = false := by decide)
    (hst : starEach (e :: es) X.env = (false, eval e X.env) :: starEach es X.env := by rfl) (hpl : (backTo pos (starEach es X.env)).any (·.1) = false := by rfl) : DE X (.Call (.Name x p) (e :: es) [] pos) (dCB o t) := by
  obtain ⟨r, h1, h2⟩ := hc.ex
  obtain ⟨ta, a1, a2⟩ := ha.ex
  refine ⟨_, pe_callB h1 hg hm hv a1 hn hd hst hpl, fun σ H ε S Q he hr q Q2 k => ?_⟩
  refine a2 σ H ε S _ he hr q _ fun vs H1 ds S1 t1 r1 p1 q1 => ?_
  exact h2 vs ds H1 S1 Q r1 p1 q1 _ fun v H2 d S2 t2 r2 p2 q2 => k v H2 d S2 (t1.trans t2) r2 p2 q2
theorem de_callTy (hc : DCl X (.type T) o) (hg : Gl X x) (hm : X.mg x = none) (hv : bootBuiltins x = some (.type T)) (ha : DA X (e :: es) t) (hn : x ≠ "__name__" := by decide) (hd : (x == ("__debug__" : Str)) = false := by decide)
    (hst : starEach (e :: es) X.env = (false, eval e X.env) :: starEach es X.env := by rfl) (hpl : (backTo pos (starEach es X.env)).any (·.1) = false := by rfl) : DE X (.Call (.Name x p) (e :: es) [] pos) (dCB o t) := by
  obtain ⟨r, h1, h2⟩ := hc.ex
  obtain ⟨ta, a1, a2⟩ := ha.ex
  refine ⟨_, pe_callTy h1 hg hm hv a1 hn hd hst hpl, fun σ H ε S Q he hr q Q2 k => ?_⟩
  refine a2 σ H ε S _ he hr q _ fun vs H1 ds S1 t1 r1 p1 q1 => ?_
  exact h2 vs ds H1 S1 Q r1 p1 q1 _ fun v H2 d S2 t2 r2 p2 q2 => k v H2 d S2 (t1.trans t2) r2 p2 q2
end
theorem IsL.one {M : Md} {H : Hp} {vs : List V} {d : D} (h : IsL M H vs [d]) : ∃ v, vs = [v] ∧ Is M H v d := by
  obtain ⟨v, r, e, q, z⟩ := h
  have e2 : r = [] := z
  exact ⟨v, by rw [e, e2], q⟩
theorem IsL.two {M : Md} {H : Hp} {vs : List V} {d d' : D} (h : IsL M H vs [d, d']) : ∃ v u, vs = [v, u] ∧ Is M H v d ∧ Is M H u d' := by
  obtain ⟨v, r, e, q, z⟩ := h
  obtain ⟨u, e2, q2⟩ := IsL.one z
  exact ⟨v, u, by rw [e, e2], q, q2⟩
def oLen : DR := fun ds S Q => ∃ d, ds = [d] ∧ match d with
  | .str s => s.length ≤ sizeLine ∧ Q (.int s.length) S
  | .cd ks _ => False
  | d => ∃ xs, itemsD d S = some xs ∧ Q (.int xs.length) S
def oInt1 : DR := fun ds S Q => (∃ i, ds = [.int i] ∧ Q (.int i) S) ∨ ∃ b, ds = [.bl b] ∧ Q (.int (if b then 1 else 0)) S
def oStrI : DR := fun ds S Q => ∃ i : Int, ds = [.int i] ∧ i.natAbs.log2 < 1920 ∧ Q (.str (toString i)) S
def oTuple : DR := fun ds S Q => ∃ d xs, ds = [d] ∧ itemsD d S = some xs ∧ Q (.tup xs) S
def oList : DR := fun ds S Q => ∃ d xs, ds = [d] ∧ itemsD d S = some xs ∧ ∀ p, S p = none → Q (.ref p) (put S p (.lst xs))
section
variable {X : Cx}
theorem dcl_len : DCl X (.builtin "len") oLen := by
  refine ⟨_, call_len, fun vs ds H S Q ix hr ⟨d, e, q⟩ Q2 k => ?_⟩
  subst e
  obtain ⟨v, e, i⟩ := ix.one
  subst e
  have fin : ∀ xs, itemsD d S = some xs → Q (.int xs.length) S → ∃ x n, [v] = [x] ∧ LenV X.K x H n ∧ Q2 (.int n) H := fun xs e1 q1 => by
    obtain ⟨p, us, e3, sq, l⟩ := items_is hr i e1
    refine ⟨v, xs.length, rfl, ?_, k _ H _ S (TLe.refl H) Is.i hr q1⟩
    rw [e3]
    exact sq.imp (fun z => ⟨us, z, l.length.symm⟩) (fun z => ⟨us, z, l.length.symm⟩)
  cases d with
  | str s =>
    obtain ⟨z, q⟩ := q
    refine ⟨v, s.length, rfl, ?_, k _ H _ S (TLe.refl H) Is.i hr q⟩
    rw [show v = _ from i]
    exact ⟨z, rfl⟩
  | cd _ _ => exact q.elim
  | non => obtain ⟨xs, e1, q1⟩ := q; exact fin xs e1 q1
  | bl _ => obtain ⟨xs, e1, q1⟩ := q; exact fin xs e1 q1
  | int _ => obtain ⟨xs, e1, q1⟩ := q; exact fin xs e1 q1
  | tup _ => obtain ⟨xs, e1, q1⟩ := q; exact fin xs e1 q1
  | ref _ => obtain ⟨xs, e1, q1⟩ := q; exact fin xs e1 q1
  | ty _ => obtain ⟨xs, e1, q1⟩ := q; exact fin xs e1 q1
  | cl _ => obtain ⟨xs, e1, q1⟩ := q; exact fin xs e1 q1
theorem dcl_int1 : DCl X (.type "int") oInt1 := by
  refine ⟨_, call_int1, fun vs ds H S Q ix hr q Q2 k => ?_⟩
  rcases q with ⟨i, e, q⟩ | ⟨b, e, q⟩
  · subst e
    obtain ⟨v, e, r⟩ := ix.one
    rw [e, show v = _ from r]
    exact .inl ⟨i, rfl, k _ H _ S (TLe.refl H) Is.i hr q⟩
  · subst e
    obtain ⟨v, e, r⟩ := ix.one
    rw [e, show v = _ from r]
    exact .inr ⟨b, rfl, k _ H _ S (TLe.refl H) Is.i hr q⟩
theorem dcl_strI : DCl X (.type "str") oStrI := by
  refine ⟨_, call_str_int, fun vs ds H S Q ix hr ⟨i, e, z, q⟩ Q2 k => ?_⟩
  subst e
  obtain ⟨v, e, r⟩ := ix.one
  rw [e, show v = _ from r]
  exact ⟨i, rfl, z, k _ H _ S (TLe.refl H) Is.s hr q⟩
theorem dcl_tuple : DCl X (.type "tuple") oTuple := by
  refine ⟨_, call_tuple_of, fun vs ds H S Q ix hr ⟨d, xs, e, e1, q⟩ Q2 k => ?_⟩
  subst e
  obtain ⟨v, e, r⟩ := ix.one
  subst e
  by_cases ht : ∃ ys, d = .tup ys
  · obtain ⟨ys, rfl⟩ := ht
    cases e1
    obtain ⟨p, us, rfl, sq, l⟩ := r
    exact ⟨p, us, rfl, .inr ⟨sq.sq, k _ H _ S (TLe.refl H) (Is.t sq l) hr q⟩⟩
  · obtain ⟨p, us, e3, sq, l⟩ := itemsN_is hr r e1 ht
    subst e3
    refine ⟨p, us, rfl, .inl ⟨sq, fun n hn => ?_⟩⟩
    have t4 : TLe H (upd H n (.tup us)) := TLe.new hn
    exact k _ _ _ S t4 (Is.tn (IsL.mono t4 l)) (hr.new hn) q
theorem dcl_list : DCl X (.type "list") oList := by
  refine ⟨_, call_list_of, fun vs ds H S Q ix hr ⟨d, xs, e, e1, q⟩ Q2 k => ?_⟩
  subst e
  obtain ⟨v, e, r⟩ := ix.one
  subst e
  obtain ⟨p, us, e3, sq, l⟩ := items_is hr r e1
  subst e3
  refine ⟨p, us, rfl, sq, fun n hn => ?_⟩
  have t4 : TLe H (upd H n (.lst us)) := TLe.new hn
  exact k _ _ _ _ t4 Is.r (hr.put t4 (CellIs.ln (IsL.mono t4 l))) (q n (hr.free hn))
end
/-! ### isinstance by built-in types -/
def tyD : D → Sto → Option String
  | .non, _ => some "NoneType"
  | .bl _, _ => some "bool"
  | .int _, _ => some "int"
  | .str _, _ => some "str"
  | .tup _, _ => some "tuple"
  | .cl _, _ => some "list"
  | .cd _ _, _ => some "dict"
  | .ref a, S => match S a with
    | some (.lst _) => some "list"
    | some (.dic _ _) => some "dict"
    | _ => none
  | .ty _, _ => none
theorem tyD_is {M : Md} {H : Hp} {S : Sto} {v : V} {d : D} {T : String} (hr : Rp M H S) (h : Is M H v d) (e : tyD d S = some T) : TyX M.K H v (.type T) := by
  cases d with
  | non => cases e; rw [show v = _ from h]; exact .base .non
  | bl _ => cases e; rw [show v = _ from h]; exact .base (.bl _)
  | int _ => cases e; rw [show v = _ from h]; exact .base (.int _)
  | str _ => cases e; rw [show v = _ from h]; exact .base (.str _)
  | tup xs =>
    cases e; obtain ⟨a, vs, e, q, r⟩ := h; rw [e]
    rcases q with q | ⟨o, its, n, q, c, _⟩
    · exact .base (.tup q)
    · exact .kTuple q c
  | cl xs =>
    cases e; obtain ⟨a, vs, e, q, r⟩ := h; rw [e]
    rcases q with ⟨o, q⟩ | ⟨o, its, n, q, c, _⟩
    · exact .base (.frz q)
    · exact .kList q c
  | cd ks xs =>
    cases e; obtain ⟨a, vs, e, ⟨q1, ⟨o, q2, q3, _⟩, q4⟩, r⟩ := h; rw [e]
    exact .kDict q2 q3
  | ref a =>
    rw [show v = _ from h]
    have e : (match S a with | some (.lst _) => some "list" | some (.dic _ _) => some "dict" | _ => none) = some T := e
    cases q : S a with
    | none => rw [q] at e; cases e
    | some c =>
      rw [q] at e
      cases c with
      | lst xs =>
        cases e
        obtain ⟨us, h1, h2⟩ := hr _ _ q
        exact .base (.lst h1)
      | dic ks xs =>
        cases e
        obtain ⟨kvs, h1, h2, h3⟩ := hr _ _ q
        exact .base (.dK h1)
      | set _ => cases e
      | ins _ _ => cases e
  | ty _ => cases e
def kitL (T : String) : List D → Option Bool
  | [] => some false
  | .ty n :: r => match kitB T n, kitL T r with
    | some b, some c => some (b || c)
    | _, _ => none
  | _ :: _ => none
def oIsi : DR := fun ds S Q => ∃ x c T b, ds = [x, c] ∧ tyD x S = some T ∧ (match c with | .ty n => kitB T n | .tup cs => kitL T cs | _ => none) = some b ∧ Q (.bl b) S
theorem kitL_is {M : Md} {H : Hp} {T : String} : ∀ {cs : List D} {vs : List V} {b : Bool}, kitL T cs = some b → IsL M H vs cs → ∃ us, Paired ClsV vs us ∧ PySem.W.kitAny M.K (.type T) us = some b
  | [], vs, b, e, h => by cases e; have e : vs = [] := h; subst e; exact ⟨[], .nil, kitAny_nil⟩
  | .ty n :: r, vs, b, e, h => by
    obtain ⟨v, rr, e1, q, z⟩ := (show ∃ v rr, vs = v :: rr ∧ Is M H v (.ty n) ∧ IsL M H rr r from h)
    unfold kitL at e
    split at e
    · rename_i b1 c1 h1 h2
      obtain ⟨us, p1, p2⟩ := kitL_is h2 z
      refine ⟨.type n :: us, ?_, kitAny_cons (b := b1) (kit_ty h1) (fun z => ?_) (fun z => ?_)⟩
      · rw [e1, show v = _ from q]; exact .cons (.ty n) p1
      · subst z; rw [p2]; cases e; rfl
      · subst z; cases e; rfl
    · cases e
  | .non :: r, vs, b, e, h => by cases e
  | .bl _ :: r, vs, b, e, h => by cases e
  | .int _ :: r, vs, b, e, h => by cases e
  | .str _ :: r, vs, b, e, h => by cases e
  | .tup _ :: r, vs, b, e, h => by cases e
  | .ref _ :: r, vs, b, e, h => by cases e
  | .cl _ :: r, vs, b, e, h => by cases e
  | .cd _ _ :: r, vs, b, e, h => by cases e
/-- isinstance(x, T), T a built-in type -/
theorem dcl_isi1 {X : Cx} : DCl X (.builtin "isinstance") (fun ds S Q => ∃ x n T b, ds = [x, .ty n] ∧ tyD x S = some T ∧ kitB T n = some b ∧ Q (.bl b) S) := by
  refine ⟨_, call_isi, fun vs ds H S Q ix hr ⟨x, n, T, b, e, e1, e2, q⟩ Q2 k => ?_⟩
  subst e
  obtain ⟨v, u, e, i1, i2⟩ := ix.two
  rw [e, show u = _ from i2]
  exact ⟨v, .ty n, _, _, b, rfl, .ty n, tyD_is hr i1 e1, kit_ty e2, k _ H _ S (TLe.refl H) Is.b hr q⟩
/-- isinstance(x, (T, ..)), the tuple just laid -/
theorem dcl_isiT {X : Cx} : DCl X (.builtin "isinstance") (fun ds S Q => ∃ x cs T b, ds = [x, .tup cs] ∧ tyD x S = some T ∧ kitL T cs = some b ∧ Q (.bl b) S) := by
  refine ⟨_, call_isiT.or call_isiK, fun vs ds H S Q ix hr ⟨x, cs, T, b, e, e1, e2, q⟩ Q2 k => ?_⟩
  subst e
  obtain ⟨v, u, e, i1, a, us, e3, sq, l⟩ := ix.two
  subst e e3
  obtain ⟨ws, p1, p2⟩ := kitL_is e2 l
  have fin : Q2 (.bl b) H := k _ H _ S (TLe.refl H) Is.b hr q
  rcases sq with sq | ⟨o, its, n, h1, h2, h3, h4, h5⟩
  · exact .inl ⟨v, a, us, _, ws, b, rfl, sq, p1, tyD_is hr i1 e1, p2, fin⟩
  · have e5 : its.toList = ws := ClsV.all p1 h5
    obtain ⟨oc, od, odt, osl⟩ := o
    simp only at h2 h3
    subst h2 h3
    refine .inr ⟨v, a, od, ws, n, osl, _, b, rfl, ?_, tyD_is hr i1 e1, p2, fin⟩
    rw [h1, ← e5]
end DL
end
section
/-! The D-layer, part 5: list methods, targets, statements, loops. -/
namespace DL
open PySem PySem.Spec PyProof.Rows L2
/-! ### methods of lists -/
def dAppend (to te : DTE) : DTE := fun ε S Q => to ε S fun o S1 => ∃ a xs, o = .ref a ∧ S1 a = some (.lst xs) ∧ te ε S1 fun y S2 => ∃ ys, S2 a = some (.lst ys) ∧ ys.length < sizeLine ∧ Q .non (put S2 a (.lst (ys ++ [y])))
def dExtend (to te : DTE) : DTE := fun ε S Q => to ε S fun o S1 => ∃ a xs, o = .ref a ∧ S1 a = some (.lst xs) ∧ te ε S1 fun y S2 => ∃ b ys zs, y = .ref b ∧ S2 a = some (.lst ys) ∧ S2 b = some (.lst zs) ∧ ys.length + zs.length ≤ sizeLine ∧ Q .non (put S2 a (.lst (ys ++ zs)))
def dPop (to : DTE) : DTE := fun ε S Q => to ε S fun o S1 => ∃ a xs y, o = .ref a ∧ S1 a = some (.lst xs) ∧ xs[xs.length - 1]? = some y ∧ Q y (put S1 a (.lst xs.dropLast))
def dPopAt (to te : DTE) : DTE := fun ε S Q => to ε S fun o S1 => ∃ a xs, o = .ref a ∧ S1 a = some (.lst xs) ∧ te ε S1 fun i S2 => ∃ j k ys y, i = .int j ∧ S2 a = some (.lst ys) ∧ -(2 ^ 63) ≤ j ∧ j < 2 ^ 63 ∧ seqIndex? j ys.length = some k ∧ ys[k]? = some y ∧ Q y (put S2 a (.lst (ys.eraseIdx k)))
def dReverse (to : DTE) : DTE := fun ε S Q => to ε S fun o S1 => ∃ a xs, o = .ref a ∧ S1 a = some (.lst xs) ∧ Q .non (put S1 a (.lst xs.reverse))
section
variable {X : Cx} {o e : Expr} {to te : DTE} {apos cpos : Pos}
theorem tl_mut {H : Hp} {a : Addr} {vs : List V} {o : HO} (h : H a = some (.lst vs)) : TLe H (upd H a o) := TLe.mut (by rw [h]; trivial)
theorem de_append (ho : DE X o to) (he : DE X e te) (hbase : attributeBase o "append" X.env (eval o X.env) = eval o X.env := by rfl) (hline : (apos.endLine == cpos.line) = true := by rfl)
    (hfew : ((backTo cpos (starEach [e] X.env)).all (fun x => !x.1) && (backToKw cpos (keywordEach [] X.env)).all (fun x => x.1.isSome)
      && decide ([e].length + ([] : List Keyword).length + (if ([] : List Keyword).isEmpty then 0 else 1) < 30)) = true := by rfl)
    (hst : starEach [e] X.env = (false, eval e X.env) :: starEach [] X.env := by rfl) (hpl : (backTo cpos (starEach [] X.env)).any (·.1) = false := by rfl) : DE X (.Call (.Attribute o "append" apos) [e] [] cpos) (dAppend to te) := by
  obtain ⟨t1, a1, a2⟩ := ho.ex
  obtain ⟨t2, b1, b2⟩ := he.ex
  refine ⟨_, pe_bm PySem.F.plainAttrs_list PySem.F.slot_list_append PySem.F.type_list_append mt_append a1 (pa_cons b1 pa_nil hst) hbase hfew hline hst hpl, fun σ H ε S Q he hr q Q2 k => ?_⟩
  refine a2 σ H ε S _ he hr q _ fun v H1 d S1 l1 r1 p1 ⟨a, xs, e, s1, q1⟩ => ?_
  subst e
  obtain ⟨vs, h1, i1⟩ := p1 _ _ s1
  rw [show v = _ from r1]
  refine ⟨.inl ⟨rfl, _, SqL.of h1⟩, ?_⟩
  refine b2 σ H1 ε S1 _ (he.mono l1) p1 q1 _ fun u H2 d2 S2 l2 r2 p2 ⟨ys, s2, z, q2⟩ => ?_
  obtain ⟨us, h2, i2⟩ := p2 _ _ s2
  have l3 : TLe H2 (upd H2 a (.lst (us ++ [u]))) := tl_mut h2
  exact ⟨a, us, u, rfl, rfl, h2, by rw [i2.length]; exact z, k _ _ _ _ ((l1.trans l2).trans l3) Is.n (p2.put l3 (CellIs.ln (IsL.mono l3 (i2.append (IsL.cons r2 IsL.nil))))) q2⟩
theorem de_extend (ho : DE X o to) (he : DE X e te) (hbase : attributeBase o "extend" X.env (eval o X.env) = eval o X.env := by rfl) (hline : (apos.endLine == cpos.line) = true := by rfl)
    (hfew : ((backTo cpos (starEach [e] X.env)).all (fun x => !x.1) && (backToKw cpos (keywordEach [] X.env)).all (fun x => x.1.isSome)
      && decide ([e].length + ([] : List Keyword).length + (if ([] : List Keyword).isEmpty then 0 else 1) < 30)) = true := by rfl)
    (hst : starEach [e] X.env = (false, eval e X.env) :: starEach [] X.env := by rfl) (hpl : (backTo cpos (starEach [] X.env)).any (·.1) = false := by rfl) : DE X (.Call (.Attribute o "extend" apos) [e] [] cpos) (dExtend to te) := by
  obtain ⟨t1, a1, a2⟩ := ho.ex
  obtain ⟨t2, b1, b2⟩ := he.ex
  refine ⟨_, pe_bm PySem.F.plainAttrs_list PySem.F.slot_list_extend PySem.F.type_list_extend mt_extend a1 (pa_cons b1 pa_nil hst) hbase hfew hline hst hpl, fun σ H ε S Q he hr q Q2 k => ?_⟩
  refine a2 σ H ε S _ he hr q _ fun v H1 d S1 l1 r1 p1 ⟨a, xs, e, s1, q1⟩ => ?_
  subst e
  obtain ⟨vs, h1, i1⟩ := p1 _ _ s1
  rw [show v = _ from r1]
  refine ⟨.inl ⟨rfl, _, SqL.of h1⟩, ?_⟩
  refine b2 σ H1 ε S1 _ (he.mono l1) p1 q1 _ fun u H2 d2 S2 l2 r2 p2 ⟨b, ys, zs, e2, s2, s3, z, q2⟩ => ?_
  subst e2
  obtain ⟨us, h2, i2⟩ := p2 _ _ s2
  obtain ⟨ws, h3, i3⟩ := p2 _ _ s3
  rw [show u = _ from r2]
  have l3 : TLe H2 (upd H2 a (.lst (us ++ ws))) := tl_mut h2
  exact ⟨a, b, us, ws, rfl, rfl, h2, h3, by rw [i2.length, i3.length]; exact z, k _ _ _ _ ((l1.trans l2).trans l3) Is.n (p2.put l3 (CellIs.ln (IsL.mono l3 (i2.append i3)))) q2⟩
theorem de_pop (ho : DE X o to) (hbase : attributeBase o "pop" X.env (eval o X.env) = eval o X.env := by rfl) (hline : (apos.endLine == cpos.line) = true := by rfl) : DE X (.Call (.Attribute o "pop" apos) [] [] cpos) (dPop to) := by
  obtain ⟨t1, a1, a2⟩ := ho.ex
  refine ⟨_, pe_bm0 PySem.F.plainAttrs_list PySem.F.slot_list_pop PySem.F.type_list_pop mt_pop a1 hbase hline, fun σ H ε S Q he hr q Q2 k => ?_⟩
  refine a2 σ H ε S _ he hr q _ fun v H1 d S1 l1 r1 p1 ⟨a, xs, y, e, s1, e2, q1⟩ => ?_
  subst e
  obtain ⟨vs, h1, i1⟩ := p1 _ _ s1
  obtain ⟨u, e3, r3⟩ := i1.get e2
  rw [show v = _ from r1]
  have l3 : TLe H1 (upd H1 a (.lst vs.dropLast)) := tl_mut h1
  exact ⟨.inl ⟨rfl, _, SqL.of h1⟩, a, vs, u, rfl, rfl, h1, by rw [i1.length]; exact e3, k _ _ _ _ (l1.trans l3) (Is.mono l3 r3) (p1.put l3 (CellIs.ln (IsL.mono l3 i1.dropLast))) q1⟩
theorem de_popAt (ho : DE X o to) (he : DE X e te) (hbase : attributeBase o "pop" X.env (eval o X.env) = eval o X.env := by rfl) (hline : (apos.endLine == cpos.line) = true := by rfl)
    (hfew : ((backTo cpos (starEach [e] X.env)).all (fun x => !x.1) && (backToKw cpos (keywordEach [] X.env)).all (fun x => x.1.isSome)
      && decide ([e].length + ([] : List Keyword).length + (if ([] : List Keyword).isEmpty then 0 else 1) < 30)) = true := by rfl)
    (hst : starEach [e] X.env = (false, eval e X.env) :: starEach [] X.env := by rfl) (hpl : (backTo cpos (starEach [] X.env)).any (·.1) = false := by rfl) : DE X (.Call (.Attribute o "pop" apos) [e] [] cpos) (dPopAt to te) := by
  obtain ⟨t1, a1, a2⟩ := ho.ex
  obtain ⟨t2, b1, b2⟩ := he.ex
  refine ⟨_, pe_bm PySem.F.plainAttrs_list PySem.F.slot_list_pop PySem.F.type_list_pop mt_popAt a1 (pa_cons b1 pa_nil hst) hbase hfew hline hst hpl, fun σ H ε S Q he hr q Q2 k => ?_⟩
  refine a2 σ H ε S _ he hr q _ fun v H1 d S1 l1 r1 p1 ⟨a, xs, e, s1, q1⟩ => ?_
  subst e
  obtain ⟨vs, h1, i1⟩ := p1 _ _ s1
  rw [show v = _ from r1]
  refine ⟨.inl ⟨rfl, _, SqL.of h1⟩, ?_⟩
  refine b2 σ H1 ε S1 _ (he.mono l1) p1 q1 _ fun u H2 d2 S2 l2 r2 p2 ⟨j, kk, ys, y, e3, s2, z1, z2, z3, z4, q2⟩ => ?_
  subst e3
  obtain ⟨us, h2, i2⟩ := p2 _ _ s2
  obtain ⟨w', e4, r4⟩ := i2.get z4
  rw [show u = _ from r2]
  have l3 : TLe H2 (upd H2 a (.lst (us.eraseIdx kk))) := tl_mut h2
  exact ⟨a, us, j, kk, w', rfl, rfl, h2, z1, z2, by rw [i2.length]; exact z3, e4, k _ _ _ _ ((l1.trans l2).trans l3) (Is.mono l3 r4) (p2.put l3 (CellIs.ln (IsL.mono l3 (i2.eraseIdx kk)))) q2⟩
theorem de_reverse (ho : DE X o to) (hbase : attributeBase o "reverse" X.env (eval o X.env) = eval o X.env := by rfl) (hline : (apos.endLine == cpos.line) = true := by rfl) : DE X (.Call (.Attribute o "reverse" apos) [] [] cpos) (dReverse to) := by
  obtain ⟨t1, a1, a2⟩ := ho.ex
  refine ⟨_, pe_bm0 PySem.F.plainAttrs_list PySem.F.slot_list_reverse PySem.F.type_list_reverse mt_reverse a1 hbase hline, fun σ H ε S Q he hr q Q2 k => ?_⟩
  refine a2 σ H ε S _ he hr q _ fun v H1 d S1 l1 r1 p1 ⟨a, xs, e, s1, q1⟩ => ?_
  subst e
  obtain ⟨vs, h1, i1⟩ := p1 _ _ s1
  rw [show v = _ from r1]
  have l3 : TLe H1 (upd H1 a (.lst vs.reverse)) := tl_mut h1
  exact ⟨.inl ⟨rfl, _, SqL.of h1⟩, a, vs, rfl, rfl, h1, k _ _ _ _ (l1.trans l3) Is.n (p1.put l3 (CellIs.ln (IsL.mono l3 i1.reverse))) q1⟩
end
/-! ### targets: only the slots in vs are stored -/
abbrev DTG := D → Env → Sto → (Env → Sto → Prop) → Prop
abbrev DTGs := List D → Env → Sto → (Env → Sto → Prop) → Prop
/-- but for the slots vs -/
def Onl (vs : List Nat) (σ σ' : L2.St) : Prop := σ'.length = σ.length ∧ ∀ i, i ∉ vs → σ'[i]? = σ[i]?
theorem Onl.refl {vs : List Nat} {σ : L2.St} : Onl vs σ σ := ⟨rfl, fun _ _ => rfl⟩
theorem Onl.trans {vs : List Nat} {a b c : L2.St} (h : Onl vs a b) (g : Onl vs b c) : Onl vs a c := ⟨g.1.trans h.1, fun i n => (g.2 i n).trans (h.2 i n)⟩
theorem Onl.set {vs : List Nat} {σ : L2.St} {i : Nat} {x : Option V} (h : i ∈ vs) : Onl vs σ (σ.set i x) := ⟨List.length_set, fun j n => by rw [List.getElem?_set_ne (fun e => n (by rw [← e]; exact h))]⟩
structure DG (X : Cx) (tg : Expr) (vs : List Nat) (t : DTG) : Prop where
  ex : ∃ tv, PG X tg tv ∧ ∀ v σ H d ε S Q, Is (Cxmd X) H v d → Ep (Cxmd X) H σ ε → Rp (Cxmd X) H S → t d ε S Q → ∀ Q2 : L2.St → Hp → Prop, (∀ σ' H' ε' S', TLe H H' → Onl vs σ σ' → Ep (Cxmd X) H' σ' ε' → Rp (Cxmd X) H' S' → Q ε' S' → Q2 σ' H') → tv v σ H Q2
structure DGs (X : Cx) (tg : List Expr) (vs : List Nat) (t : DTGs) : Prop where
  ex : ∃ tv, PGs X tg tv ∧ ∀ us σ H ds ε S Q, IsL (Cxmd X) H us ds → Ep (Cxmd X) H σ ε → Rp (Cxmd X) H S → t ds ε S Q → ∀ Q2 : L2.St → Hp → Prop, (∀ σ' H' ε' S', TLe H H' → Onl vs σ σ' → Ep (Cxmd X) H' σ' ε' → Rp (Cxmd X) H' S' → Q ε' S' → Q2 σ' H') → tv us σ H Q2
def gN (i : Nat) : DTG := fun d ε S Q => Q (ε.set i (some d)) S
def gTu (t : DTGs) : DTG := fun d ε S Q => ∃ xs, d = .tup xs ∧ t xs ε S Q
def gNi : DTGs := fun ds ε S Q => ds = [] ∧ Q ε S
def gCo (t : DTG) (u : DTGs) : DTGs := fun ds ε S Q => ∃ d r, ds = d :: r ∧ t d ε S fun ε' S' => u r ε' S' Q
def gLen : DTGs → Nat → Prop := fun t n => ∀ ds ε S Q, t ds ε S Q → ds.length = n
theorem gLen_nil : gLen gNi 0 := fun ds ε S Q h => by rw [h.1]; rfl
theorem gLen_cons {i : Nat} {t : DTGs} {n : Nat} (h : gLen t n) : gLen (gCo (gN i) t) (n + 1) := fun ds ε S Q ⟨d, r, e, q⟩ => by rw [e, List.length_cons, h r _ _ _ q]
section
variable {X : Cx} {e : Expr} {es : List Expr} {pos : Pos} {vs : List Nat}
theorem dg_name {i : Nat} {x : Str} (hN : X.N.Nodup) (hi : X.N[i]? = some x) (hx : Loc X.env.scope x) (hv : i ∈ vs) (hf : X.fn x = true ∨ X.env.scope.names.lookup x = some .local := by first | exact .inl rfl | exact .inr rfl | assumption) : DG X (.Name x pos) vs (gN i) :=
  ⟨_, pg_name hN hi hx hf, fun v σ H d ε S Q hi he hr q Q2 k => k _ H _ S (TLe.refl H) (Onl.set hv) (he.set hi) hr q⟩
theorem dgs_nil : DGs X [] vs gNi := ⟨_, pgs_nil, fun us σ H ds ε S Q hi he hr ⟨e, q⟩ Q2 k => by
  subst e
  exact ⟨hi, k _ H _ S (TLe.refl H) Onl.refl he hr q⟩⟩
theorem dgs_cons {t : DTG} {u : DTGs} (h1 : DG X e vs t) (h2 : DGs X es vs u) (hs : (assignEach (e :: es) X.env).map (·.2) = assign e X.env :: (assignEach es X.env).map (·.2) := by rfl) : DGs X (e :: es) vs (gCo t u) := by
  obtain ⟨t1, a1, a2⟩ := h1.ex
  obtain ⟨t2, b1, b2⟩ := h2.ex
  refine ⟨_, pgs_cons a1 b1 hs, fun us σ H ds ε S Q hi he hr ⟨d, r, e, q⟩ Q2 k => ?_⟩
  subst e
  obtain ⟨v, vr, e1, i1, i2⟩ := hi
  refine ⟨v, vr, e1, ?_⟩
  refine a2 v σ H d ε S _ i1 he hr q _ fun σ1 H1 ε1 S1 l1 o1 e1 p1 q1 => ?_
  exact b2 vr σ1 H1 r ε1 S1 _ (IsL.mono l1 i2) e1 p1 q1 _ fun σ2 H2 ε2 S2 l2 o2 e2 p2 q2 => k σ2 H2 ε2 S2 (l1.trans l2) (o1.trans o2) e2 p2 q2
theorem dg_tup {k : Nat} {t : DTGs} {n : Nat} (hc : X.calm = true) (h : DGs X es vs t) (hl : gLen t n)
    (hn : (assignEach es X.env).length = n := by rfl) (hst : (assignEach es X.env).findIdx? (·.1) = none := by rfl) : DG X (.Tuple es k pos) vs (gTu t) := by
  obtain ⟨t1, a1, a2⟩ := h.ex
  refine ⟨_, pg_tup hc a1 hn hst, fun v σ H d ε S Q hi he hr ⟨xs, e, q⟩ Q2 k => ?_⟩
  subst e
  obtain ⟨a, us, e1, sq, l⟩ := hi
  exact ⟨a, us, e1, sq.sq, by rw [l.length]; exact hl _ _ _ _ q, a2 us σ H xs ε S Q l he hr q Q2 k⟩
end
/-! ### o[i] = v -/
def dSetL (tv to ti : DTE) : DTS := fun D ε S => tv ε S fun v S1 => to ε S1 fun o S2 => ti ε S2 fun i S3 => ∃ a xs k j, o = .ref a ∧ i = .int k ∧ S3 a = some (.lst xs) ∧ ixN xs.length k = some j ∧ D.nx ε (put S3 a (.lst (xs.set j v)))
/-! ### statements -/
def dSkip : DTS := fun D ε S => D.nx ε S
def dSeq (t u : DTS) : DTS := fun D ε S => t { D with nx := u D } ε S
def dSet (i : Nat) (te : DTE) : DTS := fun D ε S => te ε S fun d S1 => D.nx (ε.set i (some d)) S1
def dAsg (te : DTE) (g : DTG) : DTS := fun D ε S => te ε S fun d S1 => g d ε S1 D.nx
def dDrop (te : DTE) : DTS := fun D ε S => te ε S fun _ S1 => D.nx ε S1
def dRet (te : DTE) : DTS := fun D ε S => te ε S D.rt
def dRetN : DTS := fun D _ S => D.rt .non S
def dIf (c : DTT) (t u : DTS) : DTS := fun D ε S => c ε S fun b S1 => if b = true then t D ε S1 else u D ε S1
def dBrk : DTS := fun D ε S => D.bk ε S
def dCnt : DTS := fun D ε S => D.ct ε S
def dNev : DTS := fun _ _ _ => False
def dAug (i : Nat) (te : DTE) (o : DR2) : DTS := fun D ε S => ∃ x, ε[i]? = some (some x) ∧ te ε S fun y S1 => o x y S1 fun z S2 => D.nx (ε.set i (some z)) S2
def dWhile (c : DTT) (tb : DTS) : DTS := fun D ε S => ∃ W : Nat → Env → Sto → Prop, (∃ m, W m ε S) ∧ ∀ m ε S, W m ε S →
  c ε S fun b S1 => if b = true then tb { D with nx := fun ε' S' => ∃ m', m' < m ∧ W m' ε' S', ct := fun ε' S' => ∃ m', m' < m ∧ W m' ε' S', bk := D.nx } ε S1 else D.nx ε S1
def dSet2 (i j : Nat) (te : DTE) : DTS := fun D ε S => te ε S fun d S1 => D.nx ((ε.set i (some d)).set j (some d)) S1
def dPar (i j : Nat) (ta : DTA) : DTS := fun D ε S => ta ε S fun ds S1 => ∃ d e, ds = [d, e] ∧ D.nx ((ε.set i (some d)).set j (some e)) S1
section
variable {X : Cx} {st : Stmt} {rest : List Stmt} {t u : DTS} {e c a b : Expr} {te : DTE} {pos : Pos}
theorem dss_nil : DSs X [] dSkip := ⟨_, pss_nil, fun σ H ε S Dd D he hr hd q => hd.nx σ H ε S (TLe.refl H) he hr q⟩
theorem dss_cons (h1 : DS X st t) (h2 : DSs X rest u) : DSs X (st :: rest) (dSeq t u) := by
  obtain ⟨t1, a1, a2⟩ := h1.ex
  obtain ⟨t2, b1, b2⟩ := h2.ex
  refine ⟨_, pss_cons a1 b1, fun σ H ε S Dd D he hr hd q => ?_⟩
  refine a2 σ H ε S { Dd with nx := u Dd } _ he hr ⟨fun σ' H' ε' S' l e' r' q' => ?_, hd.bk, hd.ct, hd.rt⟩ q
  exact b2 σ' H' ε' S' Dd D e' r' (hd.mono l) q'
theorem dss_one (h1 : DS X st t) : DSs X [st] t := by
  obtain ⟨t1, a1, a2⟩ := h1.ex
  exact ⟨_, pss_one a1, a2⟩
theorem ds_set {i : Nat} {x : Str} {pos' : Pos} (hN : X.N.Nodup) (hi : X.N[i]? = some x) (hx : Loc X.env.scope x) (he : DE X e te) (hs : swapsWith e (some (.Name x pos')) pos.line X.env = pure false := by rfl) (hf : X.fn x = true ∨ X.env.scope.names.lookup x = some .local := by first | exact .inl rfl | exact .inr rfl | assumption) :
    DS X (.Assign [.Name x pos'] e pos) (dSet i te) := by
  obtain ⟨t1, a1, a2⟩ := he.ex
  refine ⟨_, ps_set hN hi hx a1 hs hf, fun σ H ε S Dd D he hr hd q => ?_⟩
  exact a2 σ H ε S _ he hr q _ fun v H1 d S1 l1 r1 p1 q1 => hd.nx _ H1 _ S1 l1 ((he.mono l1).set r1) p1 q1
theorem ds_asg {tg : Expr} {vs : List Nat} {g : DTG} (he : DE X e te) (hg : DG X tg vs g) (hs : swapsWithSole [tg] e pos.line X.env = pure false := by rfl) (hw : swappedStores [tg] e X.env = pure none := by rfl)
    (h1 : (assignEach [tg] X.env).map (·.2) = [assign tg X.env] := by rfl) : DS X (.Assign [tg] e pos) (dAsg te g) := by
  obtain ⟨t1, a1, a2⟩ := he.ex
  obtain ⟨t2, b1, b2⟩ := hg.ex
  refine ⟨_, ps_asg a1 b1 hs hw h1, fun σ H ε S Dd D he hr hd q => ?_⟩
  refine a2 σ H ε S _ he hr q _ fun v H1 d S1 l1 r1 p1 q1 => ?_
  exact b2 v σ H1 d ε S1 _ r1 (he.mono l1) p1 q1 _ fun σ2 H2 ε2 S2 l2 o2 e2 p2 q2 => hd.nx _ H2 _ S2 (l1.trans l2) e2 p2 q2
theorem ds_set2 {i j : Nat} {x y : Str} {px py : Pos} (hN : X.N.Nodup) (hi : X.N[i]? = some x) (hj : X.N[j]? = some y) (hx : Loc X.env.scope x) (hy : Loc X.env.scope y) (he : DE X e te)
    (ha : (assignEach [.Name x px, .Name y py] X.env).map (·.2) = [assign (.Name x px) X.env, assign (.Name y py) X.env] := by rfl) (hw : swappedStores [.Name x px, .Name y py] e X.env = pure none := by rfl)
    (hf : X.fn x = true ∨ X.env.scope.names.lookup x = some .local := by first | exact .inl rfl | exact .inr rfl | assumption) (hf2 : X.fn y = true ∨ X.env.scope.names.lookup y = some .local := by first | exact .inl rfl | exact .inr rfl | assumption) :
    DS X (.Assign [.Name x px, .Name y py] e pos) (dSet2 i j te) := by
  obtain ⟨t1, a1, a2⟩ := he.ex
  refine ⟨_, ps_asg2 a1 (pg_name hN hi hx hf) (pg_name hN hj hy hf2) ha hw, fun σ H ε S Dd D he hr hd q => ?_⟩
  exact a2 σ H ε S _ he hr q _ fun v H1 d S1 l1 r1 p1 q1 => hd.nx _ H1 _ S1 l1 (((he.mono l1).set r1).set r1) p1 q1
theorem ds_par {i j : Nat} {x y : Str} {ta : DTA} {px py pt : Pos} {kt k2 pt2} (hc : X.calm = true) (hN : X.N.Nodup) (hi : X.N[i]? = some x) (hj : X.N[j]? = some y) (hij : i ≠ j)
    (hx : X.env.scope.names.lookup x = some .local) (hy : X.env.scope.names.lookup y = some .local) (ha : DA X [a, b] ta)
    (hw : swappedStores [.Tuple [.Name x px, .Name y py] kt pt] (.Tuple [a, b] k2 pt2) X.env = pure (some [x, y]))
    (hs : swapsWithSole [.Tuple [.Name x px, .Name y py] kt pt] (.Tuple [a, b] k2 pt2) pos.line X.env = pure false := by rfl) :
    DS X (.Assign [.Tuple [.Name x px, .Name y py] kt pt] (.Tuple [a, b] k2 pt2) pos) (dPar i j ta) := by
  obtain ⟨t1, a1, a2⟩ := ha.ex
  refine ⟨_, ps_par hc hN hi hj hij hx hy a1 hw hs, fun σ H ε S Dd D he hr hd q => ?_⟩
  refine a2 σ H ε S _ he hr q _ fun vs H1 ds S1 l1 r1 p1 ⟨d, e', e, q1⟩ => ?_
  subst e
  obtain ⟨v, u, e, i1, i2⟩ := r1.two
  exact ⟨v, u, e, hd.nx _ H1 _ S1 l1 (((he.mono l1).set i1).set i2) p1 q1⟩
theorem ds_expr (he : DE X e te) (hs : swapsWith e none pos.line X.env = pure false := by rfl) : DS X (.Expr e pos) (dDrop te) := by
  obtain ⟨t1, a1, a2⟩ := he.ex
  refine ⟨_, ps_expr a1 hs, fun σ H ε S Dd D he hr hd q => ?_⟩
  exact a2 σ H ε S _ he hr q _ fun v H1 d S1 l1 r1 p1 q1 => hd.nx _ H1 _ S1 l1 (he.mono l1) p1 q1
theorem ds_ret (he : DE X e te) : DS X (.Return (some e) pos) (dRet te) := by
  obtain ⟨t1, a1, a2⟩ := he.ex
  refine ⟨_, ps_ret a1, fun σ H ε S Dd D he hr hd q => ?_⟩
  exact a2 σ H ε S _ he hr q _ fun v H1 d S1 l1 r1 p1 q1 => hd.rt _ H1 _ S1 l1 r1 p1 q1
theorem ds_retN : DS X (.Return none pos) dRetN := ⟨_, ps_retN, fun σ H ε S Dd D he hr hd q => hd.rt _ H _ S (TLe.refl H) Is.n hr q⟩
theorem ds_pass : DS X (.Pass pos) dSkip := ⟨_, ps_pass, fun σ H ε S Dd D he hr hd q => hd.nx σ H ε S (TLe.refl H) he hr q⟩
theorem ds_brk : DS X (.Break pos) dBrk := ⟨_, ps_break, fun σ H ε S Dd D he hr hd q => hd.bk σ H ε S (TLe.refl H) he hr q⟩
theorem ds_cnt : DS X (.Continue pos) dCnt := ⟨_, ps_continue, fun σ H ε S Dd D he hr hd q => hd.ct σ H ε S (TLe.refl H) he hr q⟩
theorem ds_nev : DS X st dNev := ⟨_, ps_never, fun σ H ε S Dd D he hr hd q => q.elim⟩
theorem dss_nev {sts : List Stmt} : DSs X sts dNev := ⟨_, pss_never, fun σ H ε S Dd D he hr hd q => q.elim⟩
theorem ds_if {tc : DTT} {p q : List Stmt} (hc : DT X c tc) (ha : DSs X p t) (hb : DSs X q u) : DS X (.If c p q pos) (dIf tc t u) := by
  obtain ⟨t1, a1, a2⟩ := hc.ex
  obtain ⟨t2, b1, b2⟩ := ha.ex
  obtain ⟨t3, c1, c2⟩ := hb.ex
  refine ⟨_, ps_if a1 b1 c1, fun σ H ε S Dd D he hr hd q => ?_⟩
  refine a2 σ H ε S _ he hr q _ fun k H1 S1 l1 p1 q1 => ?_
  cases k with
  | true => exact iteT (b2 σ H1 ε S1 Dd D (he.mono l1) p1 (hd.mono l1) q1)
  | false => exact iteF (c2 σ H1 ε S1 Dd D (he.mono l1) p1 (hd.mono l1) q1)
theorem ds_aug {i : Nat} {x : Str} {op : Operator} {o : DR2} {pos' : Pos} (hN : X.N.Nodup) (hi : X.N[i]? = some x) (hx : Loc X.env.scope x) (he : DE X e te) (ho : DOp X (inplaceOp op) o) (hf : X.fn x = true ∨ X.env.scope.names.lookup x = some .local := by first | exact .inl rfl | exact .inr rfl | assumption) :
    DS X (.AugAssign (.Name x pos') op e pos) (dAug i te o) := by
  obtain ⟨t1, a1, a2⟩ := he.ex
  obtain ⟨r, b1, b2⟩ := ho.ex
  refine ⟨_, ps_aug hN hi hx a1 b1 hf, fun σ H ε S Dd D he hr hd ⟨d, e1, q⟩ => ?_⟩
  obtain ⟨v, e2, i2⟩ := he.2 i d e1
  refine ⟨v, e2, ?_⟩
  refine a2 σ H ε S _ he hr q _ fun u H1 d1 S1 l1 r1 p1 q1 => ?_
  exact b2 v u d d1 H1 S1 _ (Is.mono l1 i2) r1 p1 q1 _ fun z H2 d2 S2 l2 r2 p2 q2 => hd.nx _ H2 _ S2 (l1.trans l2) (((he.mono l1).mono l2).set r2) p2 q2
theorem ds_setL {o i v : Expr} {to ti tv : DTE} {spos : Pos} (hv : DE X v tv) (ho : DE X o to) (hi : DE X i ti) (ha : ∀ v, assign (.Subscript o i spos) X.env v = (do
      let ov ← holding [v] (eval o X.env)
      let iv ← holding [v, ov] (eval i X.env)
      standAt spos
      holding [v, ov, iv] (setItem ov iv v)
      release [v, ov, iv] []) := by intro _; rfl) (hs : swapsWithSole [.Subscript o i spos] v pos.line X.env = pure false := by rfl) (hw : swappedStores [.Subscript o i spos] v X.env = pure none := by rfl)
    (h1 : (assignEach [.Subscript o i spos] X.env).map (·.2) = [assign (.Subscript o i spos) X.env] := by rfl) : DS X (.Assign [.Subscript o i spos] v pos) (dSetL tv to ti) := by
  obtain ⟨t1, a1, a2⟩ := hv.ex
  obtain ⟨t2, b1, b2⟩ := ho.ex
  obtain ⟨t3, c1, c2⟩ := hi.ex
  refine ⟨_, ps_asg a1 (pg_sub b1 c1 set_list ha) hs hw h1, fun σ H ε S Dd D he hr hd q => ?_⟩
  refine a2 σ H ε S _ he hr q _ fun v H1 d S1 l1 r1 p1 q1 => ?_
  refine b2 σ H1 ε S1 _ (he.mono l1) p1 q1 _ fun u H2 d2 S2 l2 r2 p2 q2 => ?_
  refine c2 σ H2 ε S2 _ ((he.mono l1).mono l2) p2 q2 _ fun w H3 d3 S3 l3 r3 p3 ⟨a, xs, k, j, e1, e2, s3, z, q3⟩ => ?_
  subst e1 e2
  obtain ⟨us, h3, i3⟩ := p3 _ _ s3
  have l4 : TLe H3 (upd H3 a (.lst (us.set j v))) := tl_mut h3
  have ll := ((l1.trans l2).trans l3).trans l4
  refine ⟨a, us, k, j, Is.mono l3 r2, r3, h3, by rw [i3.length]; exact z, ?_⟩
  exact hd.nx _ _ _ _ ll (he.mono ll) (p3.put l4 (CellIs.ln (IsL.mono l4 (IsL.set (Is.mono (l2.trans l3) r1) j i3)))) q3
theorem ds_while {tc : DTT} {tb : DTS} {body : List Stmt} (hp : PassesOwn (model X.prog X.w) X.A X.env X.xe) (hc : DT X c tc) (hb : DSs X body tb) : DS X (.While c body [] pos) (dWhile tc tb) := by
  obtain ⟨t1, a1, a2⟩ := hc.ex
  obtain ⟨t2, b1, b2⟩ := hb.ex
  refine ⟨_, ps_while hp a1 b1, fun σ H ε S Dd D he hr hd ⟨W, ⟨m0, w0⟩, turn⟩ => ?_⟩
  refine ⟨fun m σ' H' => ∃ ε' S', TLe H H' ∧ Ep (Cxmd X) H' σ' ε' ∧ Rp (Cxmd X) H' S' ∧ W m ε' S', ⟨m0, ε, S, TLe.refl H, he, hr, w0⟩, ?_⟩
  rintro m σ1 H1 ⟨ε1, S1, l1, e1, p1, w1⟩
  refine a2 σ1 H1 ε1 S1 _ e1 p1 (turn m ε1 S1 w1) _ fun k H2 S2 l2 p2 q2 => ?_
  cases k with
  | false => exact iteF (hd.nx _ H2 _ S2 (l1.trans l2) (e1.mono l2) p2 q2)
  | true =>
    refine iteT ⟨fun σ' H' => ∃ m', m' < m ∧ ∃ ε' S', TLe H H' ∧ Ep (Cxmd X) H' σ' ε' ∧ Rp (Cxmd X) H' S' ∧ W m' ε' S', fun σ' H' ⟨m', lt, z⟩ => ⟨m', lt, z⟩, ?_⟩
    refine b2 σ1 H2 ε1 S2 _ _ (e1.mono l2) p2 ⟨?_, ?_, ?_, ?_⟩ q2
    · rintro σ3 H3 ε3 S3 l3 e3 p3 ⟨m', lt, w3⟩
      exact ⟨m', lt, ε3, S3, (l1.trans l2).trans l3, e3, p3, w3⟩
    · intro σ3 H3 ε3 S3 l3 e3 p3 q3
      exact hd.nx _ H3 _ S3 ((l1.trans l2).trans l3) e3 p3 q3
    · rintro σ3 H3 ε3 S3 l3 e3 p3 ⟨m', lt, w3⟩
      exact ⟨m', lt, ε3, S3, (l1.trans l2).trans l3, e3, p3, w3⟩
    · intro v H3 d S3 l3 r3 p3 q3
      exact hd.rt _ H3 _ S3 ((l1.trans l2).trans l3) r3 p3 q3
end
/-! ### what is walked -/
/-- the items; what must stay; the store -/
abbrev DTI := Env → Sto → (List D → (Sto → Prop) → Sto → Prop) → Prop
structure ItOk (M : Md) (J : It) (H0 : Hp) (xs : List D) (stb : Sto → Prop) : Prop where
  go : ∀ (i : Nat) H S, i < xs.length → TLe H0 H → Rp M H S → stb S → J.go i H
  stop : ∀ H S, TLe H0 H → Rp M H S → stb S → J.stop xs.length H
  yld : ∀ (i : Nat) H S x H', i < xs.length → TLe H0 H → Rp M H S → stb S → J.yld i H x H' → ∃ d, xs[i]? = some d ∧ TLe H H' ∧ Is M H' x d ∧ Rp M H' S
structure DI (X : Cx) (tg iter : Expr) (t : DTI) : Prop where
  ex : ∃ ti, PI X tg iter ti ∧ ∀ σ H ε S K, Ep (Cxmd X) H σ ε → Rp (Cxmd X) H S → t ε S K → ∀ R : It → Hp → Prop, (∀ J H' xs stb S', TLe H H' → Rp (Cxmd X) H' S' → ItOk (Cxmd X) J H' xs stb → K xs stb S' → R J H') → ti σ H R
/-- a tuple, a list -/
def stbD (d : D) (xs : List D) : Sto → Prop := match d with
  | .ref a => fun S => S a = some (.lst xs)
  | _ => fun _ => True
def iD (te : DTE) : DTI := fun ε S K => te ε S fun d S1 => ∃ xs, itemsD d S1 = some xs ∧ K xs (stbD d xs) S1
def iR1 (te : DTE) : DTI := fun ε S K => te ε S fun d S1 => ∃ n, d = .int n ∧ -(2 ^ 62) ≤ n ∧ n < 2 ^ 62 ∧ K ((List.range n.toNat).map fun (i : Nat) => .int (i : Int)) (fun _ => True) S1
def iR2 (ta : DTA) : DTI := fun ε S K => ta ε S fun ds S1 => ∃ m n, ds = [.int m, .int n] ∧ (-(2 ^ 62) ≤ m ∧ m < 2 ^ 62 ∧ -(2 ^ 62) ≤ n ∧ n < 2 ^ 62) ∧ K ((List.range (n - m).toNat).map fun (i : Nat) => .int (m + (i : Int))) (fun _ => True) S1
theorem PI.or {X : Cx} {tg iter : Expr} {w1 w2 : TI} (h : PI X tg iter w1) (g : PI X tg iter w2) : PI X tg iter (fun σ H R => w1 σ H R ∨ w2 σ H R) :=
  ⟨fun pins s σ H R I q => q.elim (fun z => h.run pins s σ H R I z) fun z => g.run pins s σ H R I z⟩
/-- what stands at a, a list, is one -/
theorem sq_uniq {H : Hp} {K : PySem.W.Frag} {a : Addr} {us : List V} (h : H a = some (.lst us)) (hk : K.lookup a = none) {ws : List V} (g : SqL K H a ws) : ws = us := by
  rcases g with (g | ⟨o, g⟩) | ⟨o, its, n, g, _⟩
  · rw [h] at g; cases g; rfl
  · rw [h] at g; cases g
  · rw [hk] at g; cases g
theorem itok_list {M : Md} {H0 : Hp} {a : Addr} {xs : List D} {stb : Sto → Prop} (st : ∀ H S, TLe H0 H → Rp M H S → stb S → ∃ us, SqL M.K H a us ∧ IsL M H us xs) : ItOk M (Itl M.K a) H0 xs stb where
  go := fun i H S lt l1 p s => by
    obtain ⟨us, h1, h2⟩ := st H S l1 p s
    obtain ⟨v, e, _⟩ := h2.get (i := i) (List.getElem?_eq_getElem lt)
    exact ⟨us, v, h1, e⟩
  stop := fun H S l1 p s => by
    obtain ⟨us, h1, h2⟩ := st H S l1 p s
    exact ⟨us, h1, by rw [h2.length]; exact Nat.le_refl _⟩
  yld := fun i H S x H' lt l1 p s ⟨e, y⟩ => by
    obtain ⟨us, h1, h2⟩ := st H S l1 p s
    obtain ⟨v, e2, r⟩ := h2.get (i := i) (List.getElem?_eq_getElem lt)
    have e3 := y us h1
    rw [e2] at e3
    cases e3
    subst e
    exact ⟨_, List.getElem?_eq_getElem lt, TLe.refl _, r, p⟩
theorem itok_tup {M : Md} {H0 : Hp} {a : Addr} {xs : List D} {vs : List V} {stb : Sto → Prop} (q : TpT M.K H0 a vs) (l : IsL M H0 vs xs) : ItOk M (Itt M.K a) H0 xs stb where
  go := fun i H S lt l1 p s => by
    obtain ⟨v, e, _⟩ := (IsL.mono l1 l).get (i := i) (List.getElem?_eq_getElem lt)
    exact ⟨vs, v, (l1.sqT q).sq, e⟩
  stop := fun H S l1 p s => ⟨vs, (l1.sqT q).sq, by rw [l.length]; exact Nat.le_refl _⟩
  yld := fun i H S x H' lt l1 p s ⟨e, y⟩ => by
    obtain ⟨v, e2, r⟩ := (IsL.mono l1 l).get (i := i) (List.getElem?_eq_getElem lt)
    have e3 := y vs (l1.sqT q).sq
    rw [e2] at e3
    cases e3
    subst e
    exact ⟨_, List.getElem?_eq_getElem lt, TLe.refl _, r, p⟩
theorem itok_range {M : Md} {H0 : Hp} {lo : Int} {n : Nat} {stb : Sto → Prop} : ItOk M (Itr lo n) H0 ((List.range n).map fun (i : Nat) => .int (lo + (i : Int))) stb where
  go := fun i H S lt l1 p s => by
    show i < n
    simpa using lt
  stop := fun H S l1 p s => by show n ≤ _; simp
  yld := fun i H S x H' lt l1 p s ⟨e, y⟩ => by
    subst e y
    have lt' : i < n := by simpa using lt
    exact ⟨.int (lo + i), by simp [lt'], TLe.refl _, Is.i, p⟩
theorem stbD_items {d : D} {xs : List D} {S : Sto} (e : itemsD d S = some xs) : stbD d xs S := by
  unfold itemsD at e
  split at e
  · trivial
  · trivial
  · split at e
    · rename_i ys q; cases e; exact q
    · cases e
  · cases e
section
variable {X : Cx} {tg e a b : Expr} {te : DTE} {p pos : Pos}
/-- a list or a tuple, as it comes -/
def iAny (K : PySem.W.Frag) (tl : TE) : TI := fun σ H R => tl σ H fun x H1 => ∃ a, x = .ref a ∧ (((∃ xs, SqL K H1 a xs) ∧ R (Itl K a) H1) ∨ ((∃ xs, SqT K H1 a xs) ∧ R (Itt K a) H1))
theorem pi_any {l : Expr} {tl : TE} (hl : PE X l tl) : PI X tg l (iAny X.K tl) := by
  refine ⟨fun pins s σ H R I h => ?_⟩
  refine thn (hl.run pins s σ H _ I h) fun v s1 ⟨x, H1, I1, r1, q1⟩ => ?_
  obtain ⟨a, e, q⟩ := q1
  subst e
  cases r1
  rcases q with ⟨⟨xs, hq⟩, q⟩ | ⟨⟨xs, hq⟩, q⟩
  · obtain ⟨its, rv, p, hz⟩ := I1.list hq
    refine wpAny_pyIter_list p.isList ?_
    refine ⟨s1.heap.objs.size, [s1.heap.objs.size], _, _, H1, rfl, I1.kept (t' := s1.toks) fun b o e => Heap.get?_push_of_some _ e, turn_list a _, ⟨_, Heap.get?_push_size _ rfl, rfl, rfl⟩, fun b hb => ?_, q⟩
    have e : b = s1.heap.objs.size := by simpa using hb
    subst e
    exact I1.fpOk (Nat.le_refl _) (I1.hok.fresh (Nat.le_refl _))
  · obtain ⟨its, rv, p, hz⟩ := I1.tuple hq
    refine wpAny_pyIter_tuple (show s1.heap.IsTuple a its.toArray from p) ?_
    refine ⟨s1.heap.objs.size, [s1.heap.objs.size], _, _, H1, rfl, I1.kept (t' := s1.toks) fun b o e => Heap.get?_push_of_some _ e, turn_tuple a _, ⟨_, Heap.get?_push_size _ rfl, rfl, rfl⟩, fun b hb => ?_, q⟩
    have e : b = s1.heap.objs.size := by simpa using hb
    subst e
    exact I1.fpOk (Nat.le_refl _) (I1.hok.fresh (Nat.le_refl _))
theorem di_d (h : DE X e te) : DI X tg e (iD te) := by
  obtain ⟨t1, a1, a2⟩ := h.ex
  refine ⟨_, pi_any a1, fun σ H ε S K he hr q R k => ?_⟩
  refine a2 σ H ε S _ he hr q _ fun v H1 d S1 l1 r1 p1 ⟨xs, e1, q1⟩ => ?_
  have sb := stbD_items e1
  by_cases ht : ∃ ys, d = .tup ys
  · obtain ⟨ys, rfl⟩ := ht
    cases e1
    obtain ⟨a, us, e2, sq, l⟩ := r1
    exact ⟨a, e2, .inr ⟨⟨us, sq.sq⟩, k _ H1 xs _ S1 l1 p1 (itok_tup sq l) q1⟩⟩
  · obtain ⟨a, us, e2, sq, l⟩ := itemsN_is p1 r1 e1 ht
    refine ⟨a, e2, .inl ⟨⟨us, sq⟩, k _ H1 xs _ S1 l1 p1 (itok_list fun H S l2 p s => ?_) q1⟩⟩
    subst e2
    cases d with
    | ref b =>
      have e3 : a = b := V.ref.inj r1
      subst e3
      obtain ⟨ws, h1, h2⟩ := p _ _ (show S a = some (.lst xs) from s)
      exact ⟨ws, SqL.of h1, h2⟩
    | cl ys =>
      cases e1
      obtain ⟨b, ws, e3, fz, l3⟩ := r1
      cases e3
      exact ⟨ws, (l2.fzL fz).sq, IsL.mono l2 l3⟩
    | tup ys => exact (ht ⟨_, rfl⟩).elim
    | non => cases e1
    | bl _ => cases e1
    | int _ => cases e1
    | str _ => cases e1
    | ty _ => cases e1
    | cd _ _ => cases e1
theorem di_r1 (hg : Gl X "range") (hm : X.mg "range" = none) (h : DE X a te) (hs : starEach [a] X.env = [(false, eval a X.env)] := by rfl) (hst : starEach [a] X.env = (false, eval a X.env) :: starEach [] X.env := by rfl) : DI X tg (.Call (.Name "range" p) [a] [] pos) (iR1 te) := by
  obtain ⟨t1, a1, a2⟩ := h.ex
  refine ⟨_, pi_range1 hg hm (pa_cons a1 pa_nil hst) hs, fun σ H ε S K he hr q R k => ?_⟩
  refine a2 σ H ε S _ he hr q _ fun v H1 d S1 l1 r1 p1 ⟨n, e1, z1, z2, q1⟩ => ?_
  subst e1
  refine ⟨n, by rw [show v = _ from r1], z1, z2, k _ H1 _ _ S1 l1 p1 ?_ q1⟩
  have := itok_range (M := Cxmd X) (H0 := H1) (lo := 0) (n := n.toNat) (stb := fun _ => True)
  simpa using this
theorem di_r2 {ta : DTA} (hg : Gl X "range") (hm : X.mg "range" = none) (h : DA X [a, b] ta) (hs : starEach [a, b] X.env = [(false, eval a X.env), (false, eval b X.env)] := by rfl) (hs2 : starEach [b] X.env = [(false, eval b X.env)] := by rfl) : DI X tg (.Call (.Name "range" p) [a, b] [] pos) (iR2 ta) := by
  obtain ⟨t1, a1, a2⟩ := h.ex
  refine ⟨_, pi_range2 hg hm a1 hs hs2, fun σ H ε S K he hr q R k => ?_⟩
  refine a2 σ H ε S _ he hr q _ fun vs H1 ds S1 l1 r1 p1 ⟨m, n, e1, z, q1⟩ => ?_
  subst e1
  obtain ⟨v, u, e, i1, i2⟩ := r1.two
  exact ⟨m, n, by rw [e, show v = _ from i1, show u = _ from i2], z, k _ H1 _ _ S1 l1 p1 itok_range q1⟩
end
/-! ### for -/
def dFor (src : DTI) (g : DTG) (tb : DTS) : DTS := fun D ε S => src ε S fun xs stb S1 => ∃ W : Nat → Env → Sto → Prop, W 0 ε S1 ∧ (∀ i ε S, i ≤ xs.length → W i ε S → stb S) ∧
  (∀ (i : Nat) x ε S, xs[i]? = some x → W i ε S → g x ε S fun ε' S' => tb { D with nx := W (i + 1), ct := W (i + 1), bk := D.nx } ε' S') ∧ ∀ ε S, W xs.length ε S → D.nx ε S
theorem ds_for {X : Cx} {tg iter : Expr} {body : List Stmt} {src : DTI} {g : DTG} {tb : DTS} {pos : Pos} {vs : List Nat} (hp : PassesOwn (model X.prog X.w) X.A X.env X.xe) (hc : X.calm = true) (hi : DI X tg iter src) (hg : DG X tg vs g) (hb : DSs X body tb)
    (hs : ∀ x, foldedSetIterable iter X.env x = pure x := by intro _; rfl) : DS X (.For tg iter body [] pos) (dFor src g tb) := by
  obtain ⟨t1, a1, a2⟩ := hi.ex
  obtain ⟨t2, b1, b2⟩ := hg.ex
  obtain ⟨t3, c1, c2⟩ := hb.ex
  refine ⟨_, ps_for hp hc a1 b1 c1 hs, fun σ H ε S Dd D he hr hd q => ?_⟩
  refine a2 σ H ε S _ he hr q _ fun J H1 xs stb S1 l1 p1 ok ⟨W, w0, ws, turn, fin⟩ => ?_
  refine ⟨fun i m σ' H' => m = xs.length - i ∧ i ≤ xs.length ∧ ∃ ε' S', TLe H1 H' ∧ Ep (Cxmd X) H' σ' ε' ∧ Rp (Cxmd X) H' S' ∧ W i ε' S', ⟨xs.length, by simp, Nat.zero_le _, ε, S1, TLe.refl _, he.mono l1, p1, w0⟩, ?_⟩
  rintro i m σ' H' ⟨rfl, le, ε', S', l2, e2, p2, w⟩
  have st := ws i ε' S' le w
  by_cases lt : i < xs.length
  · refine .inr ⟨ok.go i H' S' lt l2 p2 st, fun σ'' H'' => ∃ ε'' S'', TLe H1 H'' ∧ Ep (Cxmd X) H'' σ'' ε'' ∧ Rp (Cxmd X) H'' S'' ∧ W (i + 1) ε'' S'', fun σ'' H'' z => ⟨xs.length - (i + 1), by omega, rfl, lt, z⟩, fun x H3 y => ?_⟩
    obtain ⟨d, e3, l3, r3, p3⟩ := ok.yld i H' S' x H3 lt l2 p2 st y
    refine b2 x σ' H3 d ε' S' _ r3 (e2.mono l3) p3 (turn i d ε' S' e3 w) _ fun σ4 H4 ε4 S4 l4 _ e4 p4 q4 => ?_
    have ll := (l2.trans l3).trans l4
    refine c2 σ4 H4 ε4 S4 _ _ e4 p4 ⟨?_, ?_, ?_, ?_⟩ q4
    · intro σ5 H5 ε5 S5 l5 e5 p5 q5
      exact ⟨ε5, S5, ll.trans l5, e5, p5, q5⟩
    · intro σ5 H5 ε5 S5 l5 e5 p5 q5
      exact hd.nx _ H5 _ S5 (l1.trans (ll.trans l5)) e5 p5 q5
    · intro σ5 H5 ε5 S5 l5 e5 p5 q5
      exact ⟨ε5, S5, ll.trans l5, e5, p5, q5⟩
    · intro v H5 d5 S5 l5 r5 p5 q5
      exact hd.rt _ H5 _ S5 (l1.trans (ll.trans l5)) r5 p5 q5
  · have e : i = xs.length := by omega
    subst e
    exact .inl ⟨ok.stop H' S' l2 p2 st, hd.nx _ H' _ S' (l1.trans l2) e2 p2 (fin ε' S' w)⟩
end DL
end
section
/-! The D-layer, part 6: comprehensions, calls of own defs, a def's promise. -/
namespace DL
open PySem PySem.Spec PyProof.Rows L2
/-! ### one reading for all contexts of a block -/
def teOf (M : Md) (t : DTE) : TE := fun σ H Q2 => ∃ ε S Q, Ep M H σ ε ∧ Rp M H S ∧ t ε S Q ∧ ∀ v H' d S', TLe H H' → Is M H' v d → Rp M H' S' → Q d S' → Q2 v H'
def ttOf (M : Md) (t : DTT) : TT := fun σ H Q2 => ∃ ε S Q, Ep M H σ ε ∧ Rp M H S ∧ t ε S Q ∧ ∀ b H' S', TLe H H' → Rp M H' S' → Q b S' → Q2 b H'
def tgOf (M : Md) (vs : List Nat) (t : DTG) : TG := fun v σ H Q2 => ∃ d ε S Q, Is M H v d ∧ Ep M H σ ε ∧ Rp M H S ∧ t d ε S Q ∧ ∀ σ' H' ε' S', TLe H H' → Onl vs σ σ' → Ep M H' σ' ε' → Rp M H' S' → Q ε' S' → Q2 σ' H'
theorem DE.pe {X : Cx} {e : Expr} {t : DTE} (h : DE X e t) : PE X e (teOf (Cxmd X) t) := by
  obtain ⟨te, h1, h2⟩ := h.ex
  exact ⟨fun pins s σ H Q I ⟨ε, S, Q', a, b, c, d⟩ => h1.run pins s σ H Q I (h2 σ H ε S Q' a b c Q d)⟩
theorem DG.pg {X : Cx} {e : Expr} {vs : List Nat} {t : DTG} (h : DG X e vs t) : PG X e (tgOf (Cxmd X) vs t) := by
  obtain ⟨te, h1, h2⟩ := h.ex
  exact ⟨fun pins s σ H v u Q I r ⟨d, ε, S, Q', i, a, b, c, z⟩ => h1.run pins s σ H v u Q I r (h2 v σ H d ε S Q' i a b c Q z)⟩
structure DTs (X : Cx) (ifs : List Expr) (t : DTT) : Prop where
  ex : ∃ te, PTs X ifs te ∧ ∀ σ H ε S Q, Ep (Cxmd X) H σ ε → Rp (Cxmd X) H S → t ε S Q → ∀ Q2 : Bool → Hp → Prop, (∀ b H' S', TLe H H' → Rp (Cxmd X) H' S' → Q b S' → Q2 b H') → te σ H Q2
theorem DTs.pts {X : Cx} {e : List Expr} {t : DTT} (h : DTs X e t) : PTs X e (ttOf (Cxmd X) t) := by
  obtain ⟨te, h1, h2⟩ := h.ex
  exact ⟨fun pins s σ H Q I ⟨ε, S, Q', a, b, c, d⟩ => h1.run pins s σ H Q I (h2 σ H ε S Q' a b c Q d)⟩
def dYes : DTT := fun _ S Q => Q true S
theorem dts_nil {X : Cx} : DTs X [] dYes := ⟨_, pts_nil, fun σ H ε S Q he hr q Q2 k => k _ H S (TLe.refl H) hr q⟩
theorem dts_one {X : Cx} {c : Expr} {t : DTT} (h : DT X c t) : DTs X [c] t := by
  obtain ⟨te, h1, h2⟩ := h.ex
  exact ⟨_, pts_one h1, h2⟩
/-! ### the slots of a block -/
def dWipe (ε : Env) : List Nat → Env
  | [] => ε
  | v :: vs => (dWipe ε vs).set v none
theorem dWipe_length (ε : Env) : ∀ vs : List Nat, (dWipe ε vs).length = ε.length
  | [] => rfl
  | v :: vs => by unfold dWipe; rw [List.length_set, dWipe_length ε vs]
theorem Ep.wipe {M : Md} {H : Hp} {σ : L2.St} {ε : Env} (h : Ep M H σ ε) : ∀ vs : List Nat, Ep M H (wipe σ vs) (dWipe ε vs)
  | [] => h
  | v :: vs => by
    have ih := h.wipe vs
    refine ⟨by rw [wipe_length, dWipe_length]; exact h.1, fun i d e => ?_⟩
    unfold dWipe at e
    unfold L2.wipe
    by_cases q : v = i
    · subst q
      by_cases l : v < (dWipe ε vs).length
      · rw [List.getElem?_set_self l] at e; cases e
      · rw [List.getElem?_eq_none (by rw [List.length_set]; omega)] at e; cases e
    · rw [List.getElem?_set_ne q] at e ⊢
      exact ih.2 i d e
theorem wipe_get (σ : L2.St) (i : Nat) : ∀ vs : List Nat, i ∈ vs → i < σ.length → (wipe σ vs)[i]? = some none
  | [], h, _ => by cases h
  | v :: vs, h, l => by
    unfold L2.wipe
    by_cases q : v = i
    · subst q; exact List.getElem?_set_self (by rw [wipe_length]; exact l)
    · rw [List.getElem?_set_ne q]
      exact wipe_get σ i vs (by rcases List.mem_cons.mp h with z | z; exact (q z.symm).elim; exact z) l
theorem wipe_onl {σ σ' : L2.St} {vs : List Nat} (h : Onl vs (wipe σ vs) σ') : wipe σ' vs = wipe σ vs := by
  apply List.ext_getElem?
  intro i
  have hl : σ'.length = σ.length := by rw [h.1, wipe_length]
  by_cases m : i ∈ vs
  · by_cases l : i < σ.length
    · rw [wipe_get σ i vs m l, wipe_get σ' i vs m (by omega)]
    · rw [List.getElem?_eq_none (by rw [wipe_length]; omega), List.getElem?_eq_none (by rw [wipe_length]; omega)]
  · rw [wipe_out m]
    exact h.2 i m
/-! ### [e for t in xs if ..] -/
def dLc (src : DTI) (g : DTG) (tt : DTT) (te : DTE) (vs : List Nat) : DTE := fun ε S Q => src ε S fun xs stb S1 => ∀ p, S1 p = none → ∃ W : Nat → List D → Sto → Prop,
  W 0 [] (put S1 p (.lst [])) ∧ (∀ i acc S, i ≤ xs.length → W i acc S → stb S) ∧
  (∀ (i : Nat) x acc S, xs[i]? = some x → W i acc S → g x (dWipe ε vs) S fun ε2 S2 => tt ε2 S2 fun b S3 => if b = true then te ε2 S3 fun y S4 => S4 p = some (.lst acc) ∧ acc.length < sizeLine ∧ W (i + 1) (acc ++ [y]) (put S4 p (.lst (acc ++ [y]))) else W (i + 1) acc S3) ∧
  ∀ acc S, W xs.length acc S → Q (.ref p) S
theorem tLc_of {X : Cx} {src : DTI} {g : DTG} {tt : DTT} {te : DTE} {vs : List Nat} {ti : TI} {σ : L2.St} {H : Hp} {ε : Env} {S : Sto} {Q : DK} {Q2 : VK}
    (hi : ∀ σ H ε S K, Ep (Cxmd X) H σ ε → Rp (Cxmd X) H S → src ε S K → ∀ R : It → Hp → Prop, (∀ J H' xs stb S', TLe H H' → Rp (Cxmd X) H' S' → ItOk (Cxmd X) J H' xs stb → K xs stb S' → R J H') → ti σ H R)
    (he : Ep (Cxmd X) H σ ε) (hr : Rp (Cxmd X) H S) (q : dLc src g tt te vs ε S Q) (k : ∀ v H' d S', TLe H H' → Is (Cxmd X) H' v d → Rp (Cxmd X) H' S' → Q d S' → Q2 v H') :
    tLc ti (tgOf (Cxmd X) vs g) (ttOf (Cxmd X) tt) (teOf (Cxmd X) te) vs σ H Q2 := by
  refine hi σ H ε S _ he hr q _ fun J H1 xs stb S1 l1 p1 ok q1 p np => ?_
  obtain ⟨W, w0, ws, turn, fin⟩ := q1 p (p1.free np)
  have l0 : TLe H1 (upd H1 p (.lst [])) := TLe.new np
  refine ⟨fun i m H' => m = xs.length - i ∧ i ≤ xs.length ∧ ∃ acc S', TLe H1 H' ∧ Rp (Cxmd X) H' S' ∧ W i acc S', ⟨xs.length, by simp, Nat.zero_le _, [], _, l0, p1.put l0 (CellIs.ln IsL.nil), w0⟩, ?_⟩
  rintro i m H' ⟨rfl, le, acc, S', l2, p2, w⟩
  have st := ws i acc S' le w
  by_cases lt : i < xs.length
  · refine .inr ⟨ok.go i H' S' lt l2 p2 st, fun H'' => ∃ acc S'', TLe H1 H'' ∧ Rp (Cxmd X) H'' S'' ∧ W (i + 1) acc S'', fun H'' z => ⟨xs.length - (i + 1), by omega, rfl, lt, z⟩, fun x H3 y => ?_⟩
    obtain ⟨d, e3, l3, r3, p3⟩ := ok.yld i H' S' x H3 lt l2 p2 st y
    have ll := l2.trans l3
    refine ⟨d, dWipe ε vs, S', _, r3, ((he.mono l1).mono ll).wipe vs, p3, turn i d acc S' e3 w, fun σ4 H4 ε4 S4 l4 o4 e4 p4 q4 => ⟨wipe_onl o4, ?_⟩⟩
    refine ⟨ε4, S4, _, e4, p4, q4, fun b H5 S5 l5 p5 q5 => ?_⟩
    cases b with
    | false => exact iteF ⟨acc, S5, (ll.trans l4).trans l5, p5, q5⟩
    | true =>
      refine iteT ⟨ε4, S5, _, e4.mono l5, p5, q5, fun v H6 d6 S6 l6 r6 p6 ⟨h6, z6, w6⟩ => ?_⟩
      obtain ⟨us, h7, i7⟩ := p6 _ _ h6
      have l7 : TLe H6 (upd H6 p (.lst (us ++ [v]))) := tl_mut h7
      refine ⟨us, h7, by rw [i7.length]; exact z6, acc ++ [d6], _, (((ll.trans l4).trans l5).trans l6).trans l7, p6.put l7 (CellIs.ln (IsL.mono l7 (i7.append (IsL.cons r6 IsL.nil)))), w6⟩
  · have e : i = xs.length := by omega
    subst e
    exact .inl ⟨ok.stop H' S' l2 p2 st, k _ H' _ S' (l1.trans l2) Is.r p2 (fin acc S' w)⟩
section
variable {X : Cx} {elt tg iter : Expr} {ifs : List Expr} {scope : Scope} {own : List (Str × Nat)} {pos : Pos} {src : DTI} {g : DTG} {tt : DTT} {te : DTE}
theorem de_lc (hc : X.calm = true) (hN : X.N.Nodup) (hi : DI X tg iter src) (ok : BlkOk X.N X.env.scope scope own)
    (hg : ∀ (s : Shared) (H : Hp) (C : Addr) (cl : List (Str × Addr)) (fp : List Addr), DG (X.blk s H scope (compEnvC scope cl C X.env) fp) tg (own.map (·.2)) g) (ht : ∀ (s : Shared) (H : Hp) (C : Addr) (cl : List (Str × Addr)) (fp : List Addr), DTs (X.blk s H scope (compEnvC scope cl C X.env) fp) ifs tt)
    (he : ∀ (s : Shared) (H : Hp) (C : Addr) (cl : List (Str × Addr)) (fp : List Addr), DE (X.blk s H scope (compEnvC scope cl C X.env) fp) elt te) (hs : ∀ x, foldedSetIterable iter X.env x = pure x := by intro _; rfl) :
    DE X (.ListComp elt [⟨tg, iter, ifs, 0⟩] scope pos) (dLc src g tt te (own.map (·.2))) := by
  obtain ⟨ti, a1, a2⟩ := hi.ex
  exact ⟨_, pe_lc hc hN a1 ok (fun s H C cl fp => (show PG (X.blk s H scope (compEnvC scope cl C X.env) fp) tg (tgOf (Cxmd X) (own.map (·.2)) g) from (hg s H C cl fp).pg)) (fun s H C cl fp => (show PTs (X.blk s H scope (compEnvC scope cl C X.env) fp) ifs (ttOf (Cxmd X) tt) from (ht s H C cl fp).pts)) (fun s H C cl fp => (show PE (X.blk s H scope (compEnvC scope cl C X.env) fp) elt (teOf (Cxmd X) te) from (he s H C cl fp).pe)) hs, fun σ H ε S Q he hr q Q2 k => tLc_of (X := X) a2 he hr q k⟩
theorem ds_setLc {i : Nat} {y : Str} {py spos : Pos} (hc : X.calm = true) (hN : X.N.Nodup) (hy : X.N[i]? = some y) (hyl : X.env.scope.names.lookup y = some .local)
    (hsw : swapsWith (.ListComp elt [⟨tg, iter, ifs, 0⟩] scope pos) (some (.Name y py)) spos.line X.env = pure true) (hi : DI X tg iter src) (ok : BlkOk X.N X.env.scope scope own)
    (hg : ∀ (s : Shared) (H : Hp) (C : Addr) (cl : List (Str × Addr)) (fp : List Addr), DG (X.blk s H scope (compEnvC scope cl C X.env) fp) tg (own.map (·.2)) g) (ht : ∀ (s : Shared) (H : Hp) (C : Addr) (cl : List (Str × Addr)) (fp : List Addr), DTs (X.blk s H scope (compEnvC scope cl C X.env) fp) ifs tt)
    (he : ∀ (s : Shared) (H : Hp) (C : Addr) (cl : List (Str × Addr)) (fp : List Addr), DE (X.blk s H scope (compEnvC scope cl C X.env) fp) elt te) (hs : ∀ x, foldedSetIterable iter X.env x = pure x := by intro _; rfl) :
    DS X (.Assign [.Name y py] (.ListComp elt [⟨tg, iter, ifs, 0⟩] scope pos) spos) (dSet i (dLc src g tt te (own.map (·.2)))) := by
  obtain ⟨ti, a1, a2⟩ := hi.ex
  refine ⟨_, ps_setLc hc hN hy hyl hsw a1 ok (fun s H C cl fp => (show PG (X.blk s H scope (compEnvC scope cl C X.env) fp) tg (tgOf (Cxmd X) (own.map (·.2)) g) from (hg s H C cl fp).pg)) (fun s H C cl fp => (show PTs (X.blk s H scope (compEnvC scope cl C X.env) fp) ifs (ttOf (Cxmd X) tt) from (ht s H C cl fp).pts)) (fun s H C cl fp => (show PE (X.blk s H scope (compEnvC scope cl C X.env) fp) elt (teOf (Cxmd X) te) from (he s H C cl fp).pe)) hs, fun σ H ε S Dd D he hr hd q => ?_⟩
  exact tLc_of (X := X) a2 he hr q fun v H1 d S1 l1 r1 p1 q1 => hd.nx _ H1 _ S1 l1 ((he.mono l1).set r1) p1 q1
end
/-! ### own defs -/
abbrev DX := Value → List (Str × D) → Sto → Prop
abbrev DSp := List D → Sto → DK → DX → Prop
def ExIs (M : Md) (H : Hp) (o : Option Addr) (gs : List (Str × D)) : Prop := (o = none ∧ gs = []) ∨ ∃ d fs, o = some d ∧ H d = some (.xd fs) ∧ IsF M H fs gs
def lift (M : Md) (f : DSp) : Sp := fun vs H Q E => ∃ ds S QD ED, IsL M H vs ds ∧ Rp M H S ∧ f ds S QD ED ∧ (∀ v H' d S', TLe H H' → Is M H' v d → Rp M H' S' → QD d S' → Q v H') ∧
  (∀ c o H' gs S', TLe H H' → ExIs M H' o gs → Rp M H' S' → ED c gs S' → E c o H')
def E0D : DX := fun _ _ _ => False
def dCall (f : DSp) (t : DTA) : DTE := fun ε S Q => t ε S fun ds S1 => f ds S1 Q E0D
section
variable {X : Cx} {k : Nat} {f : Addr} {fd : FuncData} {ps : List Str} {sp : DSp} {x : Str} {p pos : Pos} {e : Expr} {es : List Expr} {t : DTA}
theorem de_call (F : FnOk X.prog X.w X.K X.mg X.base (L2.CX X.prog X.w) k f fd ps (lift (Cxmd X) sp)) (hr : Room k X.A) (hg : Gl X x) (hm : X.mg x = some (.ref f)) (hk : PySem.W.keepIn X.K (.ref f) = true) (hb : Binds X.K fd ps [])
    (ha : DA X (e :: es) t) (hdb : (x == ("__debug__" : Str)) = false := by decide) (he : starEach (e :: es) X.env = (false, eval e X.env) :: starEach es X.env := by rfl) (hpl : (backTo pos (starEach es X.env)).any (·.1) = false := by rfl) :
    DE X (.Call (.Name x p) (e :: es) [] pos) (dCall sp t) := by
  obtain ⟨t1, a1, a2⟩ := ha.ex
  refine ⟨_, pe_call F hr hg hm hk hb .nil passL a1 hdb he hpl, fun σ H ε S Q he hr q Q2 k => ?_⟩
  refine a2 σ H ε S _ he hr q _ fun vs H1 ds S1 l1 r1 p1 q1 => ?_
  exact ⟨ds, S1, Q, E0D, by rw [List.append_nil]; exact r1, p1, q1, fun v H' d S' l2 r2 p2 q2 => k v H' d S' (l1.trans l2) r2 p2 q2, fun c o H' gs S' _ _ _ z => z.elim⟩
/-- less may be known at the end -/
def Dn (Q : DK) : DK := fun d S' => ∃ S'', Le S'' S' ∧ Q d S''
def startD (n : Nat) (ds : List D) : Env := ds.map some ++ List.replicate (n - ds.length) none
theorem IsL.start {M : Md} {H : Hp} {vs : List V} {ds : List D} {N : List Str} (h : IsL M H vs ds) : Ep M H (start N vs) (startD N.length ds) := by
  unfold L2.start startD
  refine ⟨by simp [h.length], fun i d e => ?_⟩
  have hl := h.length
  by_cases l : i < ds.length
  · rw [List.getElem?_append_left (by simpa using l)] at e
    rw [List.getElem?_append_left (by simpa [hl] using l)]
    have e2 : ds[i]? = some d := by simpa using e
    obtain ⟨v, e3, r⟩ := h.get e2
    exact ⟨v, by simpa using e3, r⟩
  · rw [List.getElem?_append_right (by simpa using l)] at e
    rw [List.getElem?_replicate] at e
    split at e <;> cases e
end
section
variable {P : Program} {w : World} {K : PySem.W.Frag} {mg : Str → Option Value} {base : Heap}
/-- THE RULE for a def that lets nothing out -/
theorem okD {x qual : Str} {params : Arguments} {body : List Stmt} {scope : Scope} {dvs : List V} {kws : List (Str × V)} {fa : Addr} {fd : FuncData} {N ps : List Str} {k : Nat} {sp : DSp} {t : DTS}
    (F : FunD K x qual params body scope dvs kws fa fd) (S : FnScope N ps scope) (len : ∀ ds S Q E, sp ds S Q E → ds.length = ps.length)
    (drv : ∀ (cdv : Value) (A : Around) (outer : List PySem.Env) (s : Shared) (H : Hp) (E : XK), Room k (A.deeper (envOfC qual scope s.heap.objs.size fa cdv)) → DSs (cxOf (L2.CX P w) P w K mg base N qual scope fa cdv A outer s H E).nox body t)
    (rd : ∀ ds S Q E, sp ds S Q E → t { nx := fun _ S' => Dn Q .non S', rt := Dn Q } (startD N.length ds) S) : FnOk P w K mg base (L2.CX P w) (k + 1) fa fd ps (lift ⟨P, w, K⟩ sp) := by
  refine F.ok S (fun vs H Q E ⟨ds, S, QD, ED, h1, h2, h3, _⟩ => by rw [h1.length]; exact len ds S QD ED h3) (fun cdv A outer s H vs Q E hr h => ?_)
  obtain ⟨ds, S', QD, ED, h1, h2, h3, h4, h5⟩ := h
  obtain ⟨ts, a1, a2⟩ := (drv cdv A outer s H E hr).ex
  refine ⟨ts, a1.nox, a2 _ _ _ S' _ _ h1.start h2 ⟨?_, ?_, ?_, ?_⟩ (rd ds S' QD ED h3)⟩
  · rintro σ H' ε S1 l e r ⟨S2, le, q⟩
    exact h4 _ H' _ S2 l Is.n (r.le le) q
  · rintro σ H' ε S1 l e r q
    exact q
  · rintro σ H' ε S1 l e r q
    exact q
  · rintro v H' d S1 l e r ⟨S2, le, q⟩
    exact h4 _ H' _ S2 l e (r.le le) q
end
end DL
end
section
/-! The D-layer, part 7: dicts (written and of the store), in, subscripts of any kind, calls by a record. -/
namespace DL
open PySem PySem.Spec PyProof.Rows L2
/-! ### keys -/
mutual
def keq : D → D → Bool
  | .int i, .int j => i == j
  | .str a, .str b => a == b
  | .tup xs, .tup ys => keqL xs ys
  | _, _ => false
def keqL : List D → List D → Bool
  | [], [] => true
  | x :: xs, y :: ys => keq x y && keqL xs ys
  | _, _ => false
end
def cdLook : List D → List D → D → Option D
  | k :: ks, v :: vs, x => if keq k x = true then some v else cdLook ks vs x
  | _, _, _ => none
def isFlatK : D → Bool
  | .int _ => true
  | .str _ => true
  | _ => false
def isTupK : D → Bool
  | .tup xs => xs.all isFlatK
  | _ => false
/-- y may be looked up among ks -/
def okK (ks : List D) (y : D) : Bool := !ks.isEmpty && ((isFlatK y && ks.all isFlatK) || (isTupK y && ks.all isTupK))
theorem keq_kD (a b : Key) : keq (kD a) (kD b) = decide (a = b) := by
  cases a with
  | inl i => cases b with
    | inl j => show (i == j) = _; by_cases h : i = j <;> simp [h]
    | inr y => show false = _; simp
  | inr x => cases b with
    | inl j => show false = _; simp
    | inr y => show (x == y) = _; by_cases h : x = y <;> simp [h]
theorem keqL_kD : ∀ (a b : List Key), keqL (a.map kD) (b.map kD) = decide (a = b)
  | [], [] => by unfold keqL; simp
  | [], y :: b => by unfold keqL; simp
  | x :: a, [] => by unfold keqL; simp
  | x :: a, y :: b => by
    show (keq (kD x) (kD y) && keqL (a.map kD) (b.map kD)) = _
    rw [keq_kD, keqL_kD a b]
    by_cases h : x = y <;> by_cases g : a = b <;> simp [h, g]
theorem flatK_kD {y : D} (h : isFlatK y = true) : ∃ k : Key, y = kD k := by
  cases y with
  | int i => exact ⟨.inl i, rfl⟩
  | str s => exact ⟨.inr s, rfl⟩
  | _ => cases h
theorem flatKL_kD : ∀ {ys : List D}, ys.all isFlatK = true → ∃ k : List Key, ys = k.map kD
  | [], _ => ⟨[], rfl⟩
  | y :: ys, h => by
    rw [List.all_cons, Bool.and_eq_true] at h
    obtain ⟨k, rfl⟩ := flatK_kD h.1
    obtain ⟨ks, rfl⟩ := flatKL_kD h.2
    exact ⟨k :: ks, rfl⟩
theorem kD_flat (k : Key) : isFlatK (kD k) = true := by cases k <;> rfl
theorem is_kD {M : Md} {H : Hp} {v : V} {k : Key} (h : Is M H v (kD k)) : v = kV k := by cases k <;> exact h
theorem isL_kD {M : Md} {H : Hp} : ∀ {ks : List Key} {vs : List V}, IsL M H vs (ks.map kD) → vs = ks.map kV
  | [], vs, h => h
  | k :: ks, vs, h => by
    obtain ⟨v, r, e, q, z⟩ := (show ∃ v r, vs = v :: r ∧ Is M H v (kD k) ∧ IsL M H r (ks.map kD) from h)
    rw [e, is_kD q, isL_kD z]; rfl
/-- what the table gives -/
def LookIs (M : Md) (H : Hp) (o : Option D) (u : Option Value) : Prop := match o with
  | some d => ∃ w v, u = some w ∧ RelV v w ∧ Is M H v d
  | none => u = none
theorem look_is {M : Md} {H : Hp} {κ : Type} [DecidableEq κ] {f : κ → D} (hf : ∀ a b, keq (f a) (f b) = decide (a = b)) : ∀ {kk : List κ} {ds : List D} {us : List V} {vs : List Value} (k : κ), kk.length = us.length → IsL M H us ds → Vals us vs →
    LookIs M H (cdLook (kk.map f) ds (f k)) (valueAt (kk.zip vs) k)
  | [], ds, us, vs, k, hl, h, r => by
    show valueAt [] k = none
    rfl
  | a :: kk, [], us, vs, k, hl, h, r => by
    have e : us = [] := h
    subst e
    cases hl
  | a :: kk, d :: ds, us, vs, k, hl, h, r => by
    obtain ⟨v, rr, e, q, z⟩ := (show ∃ v rr, us = v :: rr ∧ Is M H v d ∧ IsL M H rr ds from h)
    subst e
    cases r with
    | cons rv rs =>
      rename_i w ws
      have ih := look_is hf (kk := kk) k (by simpa using hl) z rs
      show LookIs M H (if keq (f a) (f k) = true then some d else cdLook (kk.map f) ds (f k)) (valueAt ((a, w) :: kk.zip ws) k)
      rw [hf]
      by_cases e : a = k
      · have e2 : valueAt ((a, w) :: kk.zip ws) k = some w := by unfold valueAt; simp [e]
        rw [e2, if_pos (by simpa using e)]
        exact ⟨w, v, rfl, rv, q⟩
      · have e2 : valueAt ((a, w) :: kk.zip ws) k = valueAt (kk.zip ws) k := by unfold valueAt; simp [e]
        rw [e2, if_neg (by simpa using e)]
        exact ih
/-! ### written dicts -/
section
variable {X : Cx} {pins : List (Addr × Obj)} {σ : L2.St} {H : Hp} {s : Shared} {a : Addr} {y : V} {u : Value} {A : Around} {E : Value → Shared → Prop}
theorem tup_key (I : Inv X pins σ H s) {b : Addr} {k : List Key} (h : TpT X.K H b (k.map kV)) : (tupleKind (mixKind X.prog X.w)).is s.heap k b := by
  obtain ⟨its, r, ⟨o, ho, hc, n, hd⟩, _⟩ := I.tuple h.sq
  exact ⟨o, its.toArray, n, ho, hc, hd, items_are r⟩
/-- a table that may be asked: one of the two kinds -/
structure Asks (X : Cx) (H : Hp) (s : Shared) (a : Addr) (y : V) (u : Value) (o : Option D) : Prop where
  ex : (a == sysModules) = false ∧ ((∃ (kk : List Key) (vs : List Value) (k : Key), s.heap.DictOf (mixKind X.prog X.w) a (kk.zip vs) ∧ (mixKind X.prog X.w).is k u = true ∧ LookIs (Cxmd X) H o (valueAt (kk.zip vs) k)) ∨
    ∃ (kk : List (List Key)) (vs : List Value) (k : List Key) (b : Addr), s.heap.DictKeyed (tupleKind (mixKind X.prog X.w)) a (kk.zip vs) ∧ u = .ref b ∧ (tupleKind (mixKind X.prog X.w)).is s.heap k b ∧ LookIs (Cxmd X) H o (valueAt (kk.zip vs) k))
theorem asks_cd (I : Inv X pins σ H s) {ks ds : List D} {us : List V} {d : D} (h : CdA (Cxmd X) a ks us) (l : IsL (Cxmd X) H us ds) (ry : RelV y u) (iy : Is (Cxmd X) H y d) (ok : okK ks d = true) : Asks X H s a y u (cdLook ks ds d) := by
  obtain ⟨h0, _, h1⟩ := h
  unfold okK at ok
  rw [Bool.and_eq_true, Bool.or_eq_true, Bool.and_eq_true, Bool.and_eq_true] at ok
  obtain ⟨ne, ok⟩ := ok
  refine ⟨h0, ?_⟩
  rcases h1 with ⟨kk, e, hl, h2⟩ | ⟨kk, e, hl, h2⟩
  · subst e
    rcases ok with ⟨f1, f2⟩ | ⟨f1, f2⟩
    · obtain ⟨k, rfl⟩ := flatK_kD f1
      obtain ⟨vs, r, dd⟩ := h2 s.heap I.kIn
      rw [is_kD iy] at ry
      exact .inl ⟨kk, vs, k, dd, kV_is ry, look_is keq_kD k hl l r⟩
    · cases kk with
      | nil => cases ne
      | cons k kk =>
        rw [List.map_cons, List.all_cons, Bool.and_eq_true] at f2
        cases k <;> cases f2.1
  · subst e
    rcases ok with ⟨f1, f2⟩ | ⟨f1, f2⟩
    · cases kk with
      | nil => cases ne
      | cons k kk =>
        rw [List.map_cons, List.all_cons, Bool.and_eq_true] at f2
        cases f2.1
    · cases d with
      | tup xs =>
        obtain ⟨k, rfl⟩ := flatKL_kD f1
        obtain ⟨b, ws, e, sq, l2⟩ := iy
        subst e
        cases ry
        obtain ⟨vs, r, dd⟩ := h2 s.heap I.kIn
        rw [isL_kD l2] at sq
        exact .inr ⟨kk, vs, k, b, dd, rfl, tup_key I sq, look_is (f := fun l : List Key => D.tup (l.map kD)) (fun a b => by show keqL _ _ = _; exact keqL_kD a b) k hl l r⟩
      | _ => cases f1
theorem asks_in {o : Option D} {Q : Value → Shared → Prop} (hu : A.units + 1 < cLine) (g : Asks X H s a y u o) (h : ∀ tk, Q (.bool o.isSome) { s with toks := tk }) : wpAny (model X.prog X.w) A (compareOp .In u (.ref a)) Q E s := by
  obtain ⟨hd, ⟨kk, vs, k, dd, hk, l⟩ | ⟨kk, vs, k, b, dd, e, hk, l⟩⟩ := g
  · refine wpAny_in_of hk hd dd.mapOf ?_
    have e : (valueAt (kk.zip vs) k).isSome = o.isSome := by
      cases o with
      | none => rw [show valueAt (kk.zip vs) k = none from l]; rfl
      | some d => obtain ⟨w, v, e, _⟩ := l; rw [e]; rfl
    rw [e]
    exact h _
  · subst e
    refine in_keyed (tupleKind_room_in1 hu) hk hd dd ?_
    have e : (valueAt (kk.zip vs) k).isSome = o.isSome := by
      cases o with
      | none => rw [show valueAt (kk.zip vs) k = none from l]; rfl
      | some d => obtain ⟨w, v, e, _⟩ := l; rw [e]; rfl
    rw [e]
    exact h _
theorem asks_notIn {o : Option D} {Q : Value → Shared → Prop} (hu : A.units + 1 < cLine) (g : Asks X H s a y u o) (h : ∀ tk, Q (.bool (!o.isSome)) { s with toks := tk }) : wpAny (model X.prog X.w) A (compareOp .NotIn u (.ref a)) Q E s := by
  obtain ⟨hd, ⟨kk, vs, k, dd, hk, l⟩ | ⟨kk, vs, k, b, dd, e, hk, l⟩⟩ := g
  · refine wpAny_notIn_of hk hd dd.mapOf ?_
    have e : (valueAt (kk.zip vs) k).isSome = o.isSome := by
      cases o with
      | none => rw [show valueAt (kk.zip vs) k = none from l]; rfl
      | some d => obtain ⟨w, v, e, _⟩ := l; rw [e]; rfl
    rw [e]
    exact h _
  · subst e
    refine notIn_keyed (tupleKind_room_in1 hu) hk hd dd ?_
    have e : (valueAt (kk.zip vs) k).isSome = o.isSome := by
      cases o with
      | none => rw [show valueAt (kk.zip vs) k = none from l]; rfl
      | some d => obtain ⟨w, v, e, _⟩ := l; rw [e]; rfl
    rw [e]
    exact h _
theorem asks_item {d : D} {Q : Value → Shared → Prop} (hu : A.units + 1 < cLine) (g : Asks X H s a y u (some d)) (h : ∀ tk w v, RelV v w → Is (Cxmd X) H v d → Q w { s with toks := tk }) : wpAny (model X.prog X.w) A (getItem (.ref a) u) Q E s := by
  obtain ⟨hd, ⟨kk, vs, k, dd, hk, w, v, e, rv, iv⟩ | ⟨kk, vs, k, b, dd, e, hk, w, v, e2, rv, iv⟩⟩ := g
  · exact wpAny_getItem_of hk dd.mapOf e (h _ w v rv iv)
  · subst e
    exact getItem_keyed (tupleKind_room_in1 hu) hk dd e2 (h _ w v rv iv)
theorem asks_get {o : Option D} {Q : Value → Shared → Prop} (hu : A.units + 1 < cLine) (g : Asks X H s a y u o) (h : ∀ tk w v, RelV v w → Is (Cxmd X) H v (o.getD .non) → Q w { s with toks := tk }) : wpAny (model X.prog X.w) A (call (.builtin "dict.get") [.ref a, u]) Q E s := by
  obtain ⟨hd, ⟨kk, vs, k, dd, hk, l⟩ | ⟨kk, vs, k, b, dd, e, hk, l⟩⟩ := g
  · refine call_meetsIn PySem.F.slot_dict_get dd.typeIs PySem.F.entry_dict_get (PySem.F.args_dict_get_2 _ _) (meets_dict_get (mixKind X.prog X.w) a hk hd) ⟨_, dd.mapOf, ?_⟩
    cases o with
    | none =>
      rw [show valueAt (kk.zip vs) k = none from l]
      exact h _ _ .non rfl Is.n
    | some d => obtain ⟨w, v, e, rv, iv⟩ := l; rw [e]; exact h _ w v rv iv
  · subst e
    refine get_keyed (tupleKind_room_in1 hu) hk hd dd ?_
    cases o with
    | none =>
      rw [show valueAt (kk.zip vs) k = none from l]
      exact h _ _ .non rfl Is.n
    | some d => obtain ⟨w, v, e, rv, iv⟩ := l; rw [e]; exact h _ w v rv iv
theorem asks_type {o : Option D} (g : Asks X H s a y u o) : s.TypeIs (.ref a) "dict" := by
  obtain ⟨hd, ⟨kk, vs, k, dd, _⟩ | ⟨kk, vs, k, b, dd, _⟩⟩ := g
  · exact dd.typeIs
  · exact dd.typeIs
end
/-! ### in, subscripts, get -/
def oIn : DR2 := fun x y S Q => match y with
  | .str t => ∃ c, x = .str ⟨#[c]⟩ ∧ Q (.bl (decide (c ∈ t.cps.toList))) S
  | .cd ks vs => okK ks x = true ∧ Q (.bl (cdLook ks vs x).isSome) S
  | _ => inD false x y S Q
def oNotIn : DR2 := fun x y S Q => match y with
  | .str t => ∃ c, x = .str ⟨#[c]⟩ ∧ Q (.bl (!decide (c ∈ t.cps.toList))) S
  | .cd ks vs => okK ks x = true ∧ Q (.bl (!(cdLook ks vs x).isSome)) S
  | _ => inD true x y S Q
section
variable {X : Cx}
def rCdIn (M : Md) (neg : Bool) : R2 := fun x y H Q => ∃ a us ks ds d, y = .ref a ∧ CdA M a ks us ∧ IsL M H us ds ∧ Is M H x d ∧ okK ks d = true ∧ Q (.bl (if neg then !(cdLook ks ds d).isSome else (cdLook ks ds d).isSome)) H
theorem op_cdIn (hu : X.A.units + 1 < cLine) : OpR X (compareOp .In) (rCdIn (Cxmd X) false) := by
  intro pins s σ H x y v u Q I rx ry ⟨a, us, ks, ds, d, e, h1, h2, h3, h4, q⟩
  subst e
  cases ry
  exact asks_in hu (asks_cd I h1 h2 rx h3 h4) fun tk => ⟨.bl _, H, I.tok tk, rfl, q⟩
theorem op_cdNotIn (hu : X.A.units + 1 < cLine) : OpR X (compareOp .NotIn) (rCdIn (Cxmd X) true) := by
  intro pins s σ H x y v u Q I rx ry ⟨a, us, ks, ds, d, e, h1, h2, h3, h4, q⟩
  subst e
  cases ry
  exact asks_notIn hu (asks_cd I h1 h2 rx h3 h4) fun tk => ⟨.bl _, H, I.tok tk, rfl, q⟩
theorem dop_cdIn (hu : X.A.units + 1 < cLine) : DOp X (compareOp .In) (fun x y S Q => ∃ ks vs, y = .cd ks vs ∧ okK ks x = true ∧ Q (.bl (cdLook ks vs x).isSome) S) :=
  ⟨_, op_cdIn hu, fun x y dx dy H S Q ix iy hr ⟨ks, vs, e, ok, q⟩ Q2 k => by
    subst e
    obtain ⟨a, us, e, h1, h2⟩ := iy
    exact ⟨a, us, ks, vs, dx, e, h1, h2, ix, ok, k _ H _ S (TLe.refl H) Is.b hr q⟩⟩
theorem dop_cdNotIn (hu : X.A.units + 1 < cLine) : DOp X (compareOp .NotIn) (fun x y S Q => ∃ ks vs, y = .cd ks vs ∧ okK ks x = true ∧ Q (.bl (!(cdLook ks vs x).isSome)) S) :=
  ⟨_, op_cdNotIn hu, fun x y dx dy H S Q ix iy hr ⟨ks, vs, e, ok, q⟩ Q2 k => by
    subst e
    obtain ⟨a, us, e, h1, h2⟩ := iy
    exact ⟨a, us, ks, vs, dx, e, h1, h2, ix, ok, k _ H _ S (TLe.refl H) Is.b hr q⟩⟩
theorem dop_signIn : DOp X (compareOp .In) (fun x y S Q => ∃ c t, x = .str ⟨#[c]⟩ ∧ y = .str t ∧ Q (.bl (decide (c ∈ t.cps.toList))) S) :=
  ⟨_, op_in_sign, fun x y dx dy H S Q ix iy hr ⟨c, t, e1, e2, q⟩ Q2 k => by
    subst e1 e2
    exact ⟨c, t, ix, iy, k _ H _ S (TLe.refl H) Is.b hr q⟩⟩
theorem dop_signNotIn : DOp X (compareOp .NotIn) (fun x y S Q => ∃ c t, x = .str ⟨#[c]⟩ ∧ y = .str t ∧ Q (.bl (!decide (c ∈ t.cps.toList))) S) :=
  ⟨_, op_notIn_sign, fun x y dx dy H S Q ix iy hr ⟨c, t, e1, e2, q⟩ Q2 k => by
    subst e1 e2
    exact ⟨c, t, ix, iy, k _ H _ S (TLe.refl H) Is.b hr q⟩⟩
theorem dop_in (hu : X.A.units + 1 < cLine) : DOp X (compareOp .In) oIn := by
  refine (dop_signIn.or ((dop_cdIn hu).or dop_in_seq)).imp fun x y S Q q => ?_
  unfold oIn at q
  split at q
  · obtain ⟨c, e, q⟩ := q; exact .inl ⟨c, _, e, rfl, q⟩
  · exact .inr (.inl ⟨_, _, rfl, q⟩)
  · exact .inr (.inr q)
theorem dop_notin (hu : X.A.units + 1 < cLine) : DOp X (compareOp .NotIn) oNotIn := by
  refine (dop_signNotIn.or ((dop_cdNotIn hu).or dop_notin_seq)).imp fun x y S Q q => ?_
  unfold oNotIn at q
  split at q
  · obtain ⟨c, e, q⟩ := q; exact .inl ⟨c, _, e, rfl, q⟩
  · exact .inr (.inl ⟨_, _, rfl, q⟩)
  · exact .inr (.inr q)
def rCdIx (M : Md) : R2 := fun x y H Q => ∃ a us ks ds d d', x = .ref a ∧ CdA M a ks us ∧ IsL M H us ds ∧ Is M H y d ∧ okK ks d = true ∧ cdLook ks ds d = some d' ∧ ∀ v, Is M H v d' → Q v H
theorem ix_cd (hu : X.A.units + 1 < cLine) : IxR X (rCdIx (Cxmd X)) := by
  intro value slice pins s σ H x y v u Q I rx ry ⟨a, us, ks, ds, d, d', e, h1, h2, h3, h4, h5, q⟩ hs
  subst e
  cases rx
  have g := asks_cd I h1 h2 ry h3 h4
  rw [h5] at g
  exact tail_any (asks_type g) PySem.F.slot_dict_getitem.lookup (asks_item hu g fun tk w v rv iv => ⟨v, H, I.tok tk, rv, q v iv⟩) hs
/-- a subscript of any kind -/
def ixA : DR2 := fun x y S Q => match x with
  | .cd ks vs => okK ks y = true ∧ ∃ d, cdLook ks vs y = some d ∧ Q d S
  | _ => ixD x y S Q
theorem de_ixA {a b : Expr} {pos : Pos} {ta tb : DTE} (hu : X.A.units + 1 < cLine) (ha : DE X a ta) (hb : DE X b tb) (hs : PlainIx b) : DE X (.Subscript a b pos) (dOp ixA ta tb) := by
  obtain ⟨te, a1, a2⟩ := ha.ex
  obtain ⟨tr, b1, b2⟩ := hb.ex
  refine ⟨_, pe_ix ((ix_cd hu).or ix_seq) a1 b1 hs, fun σ H ε S Q he hr q Q2 k => ?_⟩
  refine a2 σ H ε S _ he hr q _ fun v H1 d S1 t1 r1 p1 q1 => ?_
  refine b2 σ H1 ε S1 _ (he.mono t1) p1 q1 _ fun u H2 d2 S2 t2 r2 p2 q2 => ?_
  have r1' := Is.mono t2 r1
  by_cases hc : ∃ ks vs, d = .cd ks vs
  · obtain ⟨ks, vs, rfl⟩ := hc
    obtain ⟨ok, d', e, q3⟩ := q2
    obtain ⟨a, us, e1, h1, h2⟩ := r1'
    exact .inl ⟨a, us, ks, vs, d2, d', e1, h1, h2, r2, ok, e, fun v iv => k v H2 d' S2 (t1.trans t2) iv p2 q3⟩
  · have q3 : ixD d d2 S2 Q := by
      unfold ixA at q2
      split at q2
      · exact (hc ⟨_, _, rfl⟩).elim
      · exact q2
    exact .inr (ixD_is p2 r1' r2 q3 fun v H' d' S' t r p q => k v H' d' S' ((t1.trans t2).trans t) r p q)
/-- d.get(k) of a written dict -/
def dCdGet (td ty : DTE) : DTE := fun ε S Q => td ε S fun x S1 => ∃ ks vs, x = .cd ks vs ∧ ty ε S1 fun y S2 => okK ks y = true ∧ Q ((cdLook ks vs y).getD .non) S2
theorem de_cdget {o e : Expr} {apos cpos : Pos} {td ty : DTE} (hu : X.A.units + 1 < cLine) (ho : DE X o td) (he : DE X e ty) (m : M1 X o "get" apos e cpos := by exact ⟨rfl, rfl, rfl, rfl⟩) : DE X (.Call (.Attribute o "get" apos) [e] [] cpos) (dCdGet td ty) := by
  obtain ⟨te, a1, a2⟩ := ho.ex
  obtain ⟨tr, b1, b2⟩ := he.ex
  let tv : TE := fun σ H Q2 => te σ H fun x H1 => ∃ a us ks ds, x = .ref a ∧ CdA (Cxmd X) a ks us ∧ IsL (Cxmd X) H1 us ds ∧ tr σ H1 fun y H2 => ∃ d, TLe H1 H2 ∧ Is (Cxmd X) H2 y d ∧ okK ks d = true ∧ ∀ v, Is (Cxmd X) H2 v ((cdLook ks ds d).getD .non) → Q2 v H2
  refine ⟨tv, ⟨fun pins s σ H Q I h => ?_⟩, fun σ H ε S Q he hr q Q2 k => ?_⟩
  · refine wpAny_Call_method m.base m.few m.line PySem.F.plainAttrs_dict PySem.F.slot_dict_get PySem.F.type_dict_get (thn (a1.run pins s σ H _ I h) fun u s1 ⟨x, H1, I1, rx, a, us, ks, ds, ex, h1, h2, q1⟩ => ?_)
    subst ex
    obtain rfl : u = Value.ref a := rx
    obtain ⟨o, ho1, ho2, ho3⟩ := h1.2.1
    have hT : s1.TypeIs (.ref a) "dict" := ⟨o, I1.kIn a o ho1, ho2⟩
    refine ⟨hT, ?_, ?_⟩
    · intro b eb
      cases eb
      exact ⟨o, I1.kIn a o ho1, ho3⟩
    rw [m.trees]
    refine Calls.callWith_builtin rfl (Calls.evalArgs_plain (Calls.spliced_cons (thn (b1.run pins s1 σ H1 _ I1 q1) fun iv s2 ⟨y, H2, I2, ry, d, t2, iy, ok, q2⟩ => Calls.spliced_nil ?_)))
    exact asks_get hu (asks_cd I2 h1 (IsL.mono t2 h2) ry iy ok) fun tk w v rv iv => ⟨v, H2, I2.tok tk, rv, q2 v iv⟩
  · refine a2 σ H ε S _ he hr q _ fun v H1 d S1 t1 r1 p1 ⟨ks, vs, e, q1⟩ => ?_
    subst e
    obtain ⟨a, us, e, h1, h2⟩ := r1
    refine ⟨a, us, ks, vs, e, h1, h2, ?_⟩
    refine b2 σ H1 ε S1 _ (he.mono t1) p1 q1 _ fun u H2 d2 S2 t2 r2 p2 ⟨ok, q2⟩ => ⟨d2, t2, r2, ok, fun v iv => k v H2 _ S2 (t1.trans t2) iv p2 q2⟩
end
/-! ### calls by a record -/
structure Wd where
  P : Program
  w : World
  K : PySem.W.Frag
  mg : Str → Option Value
  base : Heap
/-- the def x of the module keeps the promise sp -/
structure Okf (C : Wd) (x : Str) (ps : List Str) (k : Nat) (sp : DSp) : Prop where
  ex : ∃ fa fd, C.mg x = some (.ref fa) ∧ PySem.W.keepIn C.K (.ref fa) = true ∧ Binds C.K fd ps [] ∧ (∀ (s : Shared) (us : List Value), us.length = ps.length → BindsTo s fd ⟨us, []⟩ (ps.zip us)) ∧ FnOk C.P C.w C.K C.mg C.base (L2.CX C.P C.w) k fa fd ps (lift ⟨C.P, C.w, C.K⟩ sp)
theorem Okf.mono {C : Wd} {x : Str} {ps : List Str} {j k : Nat} {sp : DSp} (h : Okf C x ps j sp) (le : j ≤ k) : Okf C x ps k sp := by
  obtain ⟨fa, fd, a, b, c, d, e⟩ := h.ex
  exact ⟨fa, fd, a, b, c, d, e.mono le⟩
theorem lift_imp {M : Md} {f g : DSp} (h : ∀ ds S Q E, f ds S Q E → g ds S Q E) : ∀ vs H Q E, lift M f vs H Q E → lift M g vs H Q E := fun vs H Q E ⟨ds, S, QD, ED, a, b, c, d⟩ => ⟨ds, S, QD, ED, a, b, h _ _ _ _ c, d⟩
theorem Okf.imp {C : Wd} {x : Str} {ps : List Str} {k : Nat} {f g : DSp} (h : Okf C x ps k g) (i : ∀ ds S Q E, f ds S Q E → g ds S Q E) : Okf C x ps k f := by
  obtain ⟨fa, fd, a, b, c, d, e⟩ := h.ex
  exact ⟨fa, fd, a, b, c, d, e.imp (lift_imp i)⟩
abbrev XC (C : Wd) (N : List Str) (qual : Str) (st : Stmt) (fa : Addr) (cdv : Value) (A : Around) (outer : List PySem.Env) (s : Shared) (H : Hp) (E : XK) : Cx :=
  (cxOf (L2.CX C.P C.w) C.P C.w C.K C.mg C.base N qual (defScope st) fa cdv A outer s H E).nox
/-- what the top has of a def -/
structure Def (C : Wd) (x : Str) (st : Stmt) : Prop where
  ex : ∃ fa fd, FunD C.K x x (defArgs st) (defBody st) (defScope st) [] [] fa fd ∧ C.mg x = some (.ref fa)
theorem okF {C : Wd} {x : Str} {st : Stmt} {N ps : List Str} {k : Nat} {sp : DSp} {t : DTS} (T : Def C x st) (S : FnScope N ps (defScope st))
    (bnd : ∀ (kV doc pm : Value) (an : Option Addr) (cdv ct : Value) (us : List Value), us.length = ps.length → bindArgs (PySem.W.fnOf x x (defArgs st) (defBody st) (defScope st) .none kV doc pm an cdv ct) ⟨us, []⟩ = pure (ps.zip us))
    (len : ∀ ds S Q E, sp ds S Q E → ds.length = ps.length)
    (drv : ∀ (fa : Addr) (cdv : Value) (A : Around) (outer : List PySem.Env) (s : Shared) (H : Hp) (E : XK), Room k (A.deeper (envOfC x (defScope st) s.heap.objs.size fa cdv)) → DSs (XC C N x st fa cdv A outer s H E) (defBody st) t)
    (rd : ∀ ds S Q E, sp ds S Q E → t { nx := fun _ S' => Dn Q .non S', rt := Dn Q } (startD N.length ds) S) : Okf C x ps (k + 1) sp := by
  obtain ⟨fa, fd, F, hm⟩ := T.ex
  exact ⟨fa, fd, hm, F.kp, F.bindsN bnd, F.bindsA bnd, okD F S len (fun cdv A outer s H E hr => drv fa cdv A outer s H E hr) rd⟩
section
variable {X : Cx} {k : Nat} {ps : List Str} {sp : DSp} {x : Str} {p pos : Pos} {e : Expr} {es : List Expr} {t : DTA}
theorem de_callO (h : Okf ⟨X.prog, X.w, X.K, X.mg, X.base⟩ x ps k sp) (hr : Room k X.A) (hg : Gl X x)
    (ha : DA X (e :: es) t) (hdb : (x == ("__debug__" : Str)) = false := by decide) (he : starEach (e :: es) X.env = (false, eval e X.env) :: starEach es X.env := by rfl) (hpl : (backTo pos (starEach es X.env)).any (·.1) = false := by rfl) :
    DE X (.Call (.Name x p) (e :: es) [] pos) (dCall sp t) := by
  obtain ⟨fa, fd, a, b, c, _, d⟩ := h.ex
  exact de_call d hr hg a b c ha hdb he hpl
end
end DL
end
section
/-! The D-layer, part 8: isinstance in one, += , further built-ins. -/
namespace DL
open PySem PySem.Spec PyProof.Rows L2
def oAddI : DR2
  | .int i, .int j, S, Q => Q (.int (i + j)) S
  | .str x, .str y, S, Q => x.length + y.length ≤ sizeLine ∧ Q (.str (x ++ y)) S
  | _, _, _, _ => False
section
variable {X : Cx}
theorem dcl_isi : DCl X (.builtin "isinstance") oIsi := by
  refine (dcl_isi1.or dcl_isiT).imp fun ds S Q q => ?_
  obtain ⟨x, c, T, b, e, h1, h2, q⟩ := q
  cases c with
  | ty n => exact .inl ⟨x, n, T, b, e, h1, h2, q⟩
  | tup cs => exact .inr ⟨x, cs, T, b, e, h1, h2, q⟩
  | _ => cases h2
theorem dop_iaddS : DOp X (inplaceOp .Add) (fun x y S Q => ∃ xs ys : Str, x = .str xs ∧ y = .str ys ∧ xs.length + ys.length ≤ sizeLine ∧ Q (.str (xs ++ ys)) S) :=
  ⟨_, iop_add_str, fun x y dx dy H S Q ix iy hr ⟨xs, ys, e1, e2, z, q⟩ Q2 k => by
    subst e1 e2
    exact ⟨xs, ys, ix, iy, z, k _ H _ S (TLe.refl H) Is.s hr q⟩⟩
theorem dop_iadd : DOp X (inplaceOp .Add) oAddI := by
  refine ((dop_I0 (g' := fun i j => .int (i + j)) iop_add fun i j H => rfl).or dop_iaddS).imp fun x y S Q q => ?_
  unfold oAddI at q
  split at q
  · exact .inl ⟨_, _, rfl, rfl, q⟩
  · exact .inr ⟨_, _, rfl, rfl, q⟩
  · exact q.elim
theorem dop_isub : DOp X (inplaceOp .Sub) oSub := dop_int iop_sub fun i j H => rfl
end
end DL
end
section
/-! The D-layer, part 9: steps through a reading. -/
namespace DL
open PySem PySem.Spec PyProof.Rows L2
section
variable {i j : Nat} {te ta tb to ti tv : DTE} {tt tu : DTT} {t u : DTS} {r : DTA} {EE : DEnds} {ε : Env} {S : Sto} {Q : DK} {QB : Bool → Sto → Prop} {QA : List D → Sto → Prop} {d x y : D}
theorem i_seq (h : t { EE with nx := u EE } ε S) : dSeq t u EE ε S := h
theorem i_set (h : te ε S fun d S1 => EE.nx (ε.set i (some d)) S1) : dSet i te EE ε S := h
theorem i_set2 (h : te ε S fun d S1 => EE.nx ((ε.set i (some d)).set j (some d)) S1) : dSet2 i j te EE ε S := h
theorem i_asg {g : DTG} (h : te ε S fun d S1 => g d ε S1 EE.nx) : dAsg te g EE ε S := h
theorem i_drop (h : te ε S fun _ S1 => EE.nx ε S1) : dDrop te EE ε S := h
theorem i_ret (h : te ε S EE.rt) : dRet te EE ε S := h
theorem i_retN (h : EE.rt .non S) : dRetN EE ε S := h
theorem i_if (h : tt ε S fun b S1 => if b = true then t EE ε S1 else u EE ε S1) : dIf tt t u EE ε S := h
theorem i_skip (h : EE.nx ε S) : dSkip EE ε S := h
theorem i_brk (h : EE.bk ε S) : dBrk EE ε S := h
theorem i_cnt (h : EE.ct ε S) : dCnt EE ε S := h
theorem i_setL (h : tv ε S fun v S1 => to ε S1 fun o S2 => ti ε S2 fun i S3 => ∃ a xs k j, o = .ref a ∧ i = .int k ∧ S3 a = some (.lst xs) ∧ ixN xs.length k = some j ∧ EE.nx ε (put S3 a (.lst (xs.set j v)))) : dSetL tv to ti EE ε S := h
theorem i_aug {o : DR2} (e : ε[i]? = some (some x)) (h : te ε S fun y S1 => o x y S1 fun z S2 => EE.nx (ε.set i (some z)) S2) : dAug i te o EE ε S := ⟨x, e, h⟩
theorem i_par (h : r ε S fun ds S1 => ∃ d e, ds = [d, e] ∧ EE.nx ((ε.set i (some d)).set j (some e)) S1) : dPar i j r EE ε S := h
theorem i_par2 {e f : D} {P : D → D → Prop} (h : P e f) : ∃ d' e', [e, f] = [d', e'] ∧ P d' e' := ⟨e, f, rfl, h⟩
theorem i_var (e : ε[i]? = some (some d)) (h : Q d S) : dVar i ε S Q := ⟨d, e, h⟩
theorem i_c (h : Q d S) : dC d ε S Q := h
theorem i_op {o : DR2} (h : ta ε S fun x S1 => tb ε S1 fun y S2 => o x y S2 Q) : dOp o ta tb ε S Q := h
theorem i_tup (h : r ε S fun xs S1 => xs.length ≤ sizeLine ∧ Q (.tup xs) S1) : dTup r ε S Q := h
theorem i_lst (h : r ε S fun xs S1 => xs.length ≤ sizeLine ∧ ∀ p, S1 p = none → Q (.ref p) (put S1 p (.lst xs))) : dLst r ε S Q := h
theorem i_nil (h : QA [] S) : dNil ε S QA := h
theorem i_cons (h : te ε S fun x S1 => r ε S1 fun xs S2 => QA (x :: xs) S2) : dCons te r ε S QA := h
theorem i_tb (h : te ε S fun x S1 => ∃ k, x = .bl k ∧ QB k S1) : dTB te ε S QB := h
theorem i_bl {b : Bool} {Qb : Bool → Prop} (h : Qb b) : ∃ k, D.bl b = .bl k ∧ Qb k := ⟨b, rfl, h⟩
theorem i_tru (h : te ε S fun x S1 => ∃ k, Tru x S1 k ∧ QB k S1) : dTru te ε S QB := h
theorem i_and (h : tt ε S fun c S1 => if c = true then tu ε S1 QB else QB false S1) : dAnd tt tu ε S QB := h
theorem i_or (h : tt ε S fun c S1 => if c = true then QB true S1 else tu ε S1 QB) : dOr tt tu ε S QB := h
theorem i_not (h : tt ε S fun c S1 => QB (!c) S1) : dNot tt ε S QB := h
theorem i_andV (h : ta ε S fun x S1 => ∃ k, Tru x S1 k ∧ if k = true then tb ε S1 Q else Q x S1) : dAndV ta tb ε S Q := h
theorem i_orV (h : ta ε S fun x S1 => ∃ k, Tru x S1 k ∧ if k = true then Q x S1 else tb ε S1 Q) : dOrV ta tb ε S Q := h
theorem i_notV (h : te ε S fun x S1 => ∃ k, Tru x S1 k ∧ Q (.bl (!k)) S1) : dNotV te ε S Q := h
theorem i_ifE (h : tt ε S fun b S1 => if b = true then ta ε S1 Q else tb ε S1 Q) : dIfE tt ta tb ε S Q := h
theorem i_neg (h : te ε S fun x S1 => ∃ i, x = .int i ∧ Q (.int (-i)) S1) : dNeg te ε S Q := h
theorem i_neg1 {i : Int} {QI : Int → Prop} (h : QI i) : ∃ k, D.int i = .int k ∧ QI k := ⟨i, rfl, h⟩
theorem i_cb {o : DR} (h : r ε S fun ds S1 => o ds S1 Q) : dCB o r ε S Q := h
theorem i_call {f : DSp} (h : r ε S fun ds S1 => f ds S1 Q E0D) : dCall f r ε S Q := h
theorem i_sl {tl th : DTO} (h : te ε S fun x S1 => tl ε S1 fun lo S2 => th ε S2 fun hi S3 => slD x lo hi S3 Q) : dSl te tl th ε S Q := h
theorem i_noP {QO : Option Int → Sto → Prop} (h : QO none S) : dNoP ε S QO := h
theorem i_someP {QO : Option Int → Sto → Prop} (h : te ε S fun x S1 => ∃ i, x = .int i ∧ QO (some i) S1) : dSomeP te ε S QO := h
theorem i_append (h : to ε S fun o S1 => ∃ a xs, o = .ref a ∧ S1 a = some (.lst xs) ∧ te ε S1 fun y S2 => ∃ ys, S2 a = some (.lst ys) ∧ ys.length < sizeLine ∧ Q .non (put S2 a (.lst (ys ++ [y])))) : dAppend to te ε S Q := h
theorem i_extend (h : to ε S fun o S1 => ∃ a xs, o = .ref a ∧ S1 a = some (.lst xs) ∧ te ε S1 fun y S2 => ∃ b ys zs, y = .ref b ∧ S2 a = some (.lst ys) ∧ S2 b = some (.lst zs) ∧ ys.length + zs.length ≤ sizeLine ∧ Q .non (put S2 a (.lst (ys ++ zs)))) : dExtend to te ε S Q := h
theorem i_pop (h : to ε S fun o S1 => ∃ a xs y, o = .ref a ∧ S1 a = some (.lst xs) ∧ xs[xs.length - 1]? = some y ∧ Q y (put S1 a (.lst xs.dropLast))) : dPop to ε S Q := h
theorem i_reverse (h : to ε S fun o S1 => ∃ a xs, o = .ref a ∧ S1 a = some (.lst xs) ∧ Q .non (put S1 a (.lst xs.reverse))) : dReverse to ε S Q := h
theorem i_cdget (h : ta ε S fun x S1 => ∃ ks vs, x = .cd ks vs ∧ tb ε S1 fun y S2 => okK ks y = true ∧ Q ((cdLook ks vs y).getD .non) S2) : dCdGet ta tb ε S Q := h
theorem i_iD {K : List D → (Sto → Prop) → Sto → Prop} (h : te ε S fun d S1 => ∃ xs, itemsD d S1 = some xs ∧ K xs (stbD d xs) S1) : iD te ε S K := h
theorem i_iR1 {K : List D → (Sto → Prop) → Sto → Prop} (h : te ε S fun d S1 => ∃ n, d = .int n ∧ -(2 ^ 62) ≤ n ∧ n < 2 ^ 62 ∧ K ((List.range n.toNat).map fun (i : Nat) => .int (i : Int)) (fun _ => True) S1) : iR1 te ε S K := h
theorem i_gN {QE : DL.Env → Sto → Prop} (h : QE (ε.set i (some d)) S) : gN i d ε S QE := h
theorem i_gTu {g : DTGs} {xs : List D} {QE : DL.Env → Sto → Prop} (h : g xs ε S QE) : gTu g (.tup xs) ε S QE := ⟨xs, rfl, h⟩
theorem i_gCo {g : DTG} {gs : DTGs} {xs : List D} {QE : DL.Env → Sto → Prop} (h : g d ε S fun ε' S' => gs xs ε' S' QE) : gCo g gs (d :: xs) ε S QE := ⟨d, xs, rfl, h⟩
theorem i_gNi {QE : DL.Env → Sto → Prop} (h : QE ε S) : gNi [] ε S QE := ⟨rfl, h⟩
theorem i_yes (h : QB true S) : dYes ε S QB := h
/-! values -/
theorem i_ixT {xs : List D} {i : Int} (e : atI xs i = some d) (h : Q d S) : ixA (.tup xs) (.int i) S Q := ⟨i, rfl, xs, d, rfl, e, h⟩
theorem i_ixC {xs : List D} {i : Int} (e : atI xs i = some d) (h : Q d S) : ixA (.cl xs) (.int i) S Q := ⟨i, rfl, xs, d, rfl, e, h⟩
theorem i_ixR {a : Addr} {xs : List D} {i : Int} (es : S a = some (.lst xs)) (e : atI xs i = some d) (h : Q d S) : ixA (.ref a) (.int i) S Q := ⟨i, rfl, xs, d, by show (match S a with | some (.lst xs) => some xs | _ => none) = some xs; rw [es], e, h⟩
theorem i_ixS {s : Str} {i : Int} {c : Nat} (z : s.length ≤ sizeLine) (e : atI s.cps.toList i = some c) (h : Q (.str ⟨#[c]⟩) S) : ixA (.str s) (.int i) S Q := ⟨i, rfl, z, c, e, h⟩
theorem i_ixD {ks vs : List D} {y : D} (ok : okK ks y = true) (e : cdLook ks vs y = some d) (h : Q d S) : ixA (.cd ks vs) y S Q := ⟨ok, d, e, h⟩
theorem i_inT {xs : List D} {v : V} {us : List V} (e1 : scV x = some v) (e2 : flatL xs = some us) (h : Q (.bl (inV v us)) S) : oIn x (.tup xs) S Q := ⟨v, xs, us, e1, rfl, e2, h⟩
theorem i_niT {xs : List D} {v : V} {us : List V} (e1 : scV x = some v) (e2 : flatL xs = some us) (h : Q (.bl (!inV v us)) S) : oNotIn x (.tup xs) S Q := ⟨v, xs, us, e1, rfl, e2, h⟩
theorem i_inR {a : Addr} {xs : List D} {v : V} {us : List V} (es : S a = some (.lst xs)) (e1 : scV x = some v) (e2 : flatL xs = some us) (h : Q (.bl (inV v us)) S) : oIn x (.ref a) S Q := ⟨v, xs, us, e1, by show (match S a with | some (.lst xs) => some xs | _ => none) = some xs; rw [es], e2, h⟩
theorem i_niR {a : Addr} {xs : List D} {v : V} {us : List V} (es : S a = some (.lst xs)) (e1 : scV x = some v) (e2 : flatL xs = some us) (h : Q (.bl (!inV v us)) S) : oNotIn x (.ref a) S Q := ⟨v, xs, us, e1, by show (match S a with | some (.lst xs) => some xs | _ => none) = some xs; rw [es], e2, h⟩
theorem i_inD {ks vs : List D} (ok : okK ks x = true) (h : Q (.bl (cdLook ks vs x).isSome) S) : oIn x (.cd ks vs) S Q := ⟨ok, h⟩
theorem i_niD {ks vs : List D} (ok : okK ks x = true) (h : Q (.bl (!(cdLook ks vs x).isSome)) S) : oNotIn x (.cd ks vs) S Q := ⟨ok, h⟩
theorem i_eq {v w : V} (e1 : scV x = some v) (e2 : scV y = some w) (s : scal v w = true) (h : Q (.bl (decide (v = w))) S) : oEq x y S Q := ⟨v, w, e1, e2, s, h⟩
theorem i_ne {v w : V} (e1 : scV x = some v) (e2 : scV y = some w) (s : scal v w = true) (h : Q (.bl (!decide (v = w))) S) : oNe x y S Q := ⟨v, w, e1, e2, s, h⟩
theorem decI {a b : Int} : decide (V.int a = V.int b) = decide (a = b) := by
  by_cases h : a = b <;> simp [h]
theorem decS {a b : Str} : decide (V.str a = V.str b) = decide (a = b) := by
  by_cases h : a = b <;> simp [h]
theorem decB {a b : Bool} : decide (V.bl a = V.bl b) = decide (a = b) := by
  by_cases h : a = b <;> simp [h]
theorem i_eqI {a b : Int} (h : Q (.bl (decide (a = b))) S) : oEq (.int a) (.int b) S Q := i_eq rfl rfl rfl (by rw [decI]; exact h)
theorem i_eqS {a b : Str} (h : Q (.bl (decide (a = b))) S) : oEq (.str a) (.str b) S Q := i_eq rfl rfl rfl (by rw [decS]; exact h)
theorem i_eqB {a b : Bool} (h : Q (.bl (decide (a = b))) S) : oEq (.bl a) (.bl b) S Q := i_eq rfl rfl rfl (by rw [decB]; exact h)
theorem i_neI {a b : Int} (h : Q (.bl (!decide (a = b))) S) : oNe (.int a) (.int b) S Q := i_ne rfl rfl rfl (by rw [decI]; exact h)
theorem i_neS {a b : Str} (h : Q (.bl (!decide (a = b))) S) : oNe (.str a) (.str b) S Q := i_ne rfl rfl rfl (by rw [decS]; exact h)
theorem i_isN (h : Q (.bl (isNon x)) S) : oIsN x .non S Q := ⟨rfl, h⟩
theorem i_noN (h : Q (.bl (!isNon x)) S) : oNotN x .non S Q := ⟨rfl, h⟩
theorem i_addI {a b : Int} (h : Q (.int (a + b)) S) : oAdd (.int a) (.int b) S Q := h
theorem i_addS {a b : Str} (z : a.length + b.length ≤ sizeLine) (h : Q (.str (a ++ b)) S) : oAdd (.str a) (.str b) S Q := ⟨z, h⟩
theorem i_addT {a b : List D} (z : a.length + b.length ≤ sizeLine) (h : Q (.tup (a ++ b)) S) : oAdd (.tup a) (.tup b) S Q := ⟨z, h⟩
theorem i_addII {a b : Int} (h : Q (.int (a + b)) S) : oAddI (.int a) (.int b) S Q := h
theorem i_int {g : Int → Int → D} {a b : Int} (h : Q (g a b) S) : oInt g (.int a) (.int b) S Q := h
theorem i_intC {C : Int → Int → Prop} {g : Int → Int → D} {a b : Int} (c : C a b) (h : Q (g a b) S) : oIntC C g (.int a) (.int b) S Q := ⟨c, h⟩
theorem i_int1 {a : Int} (h : Q (.int a) S) : oInt1 [.int a] S Q := .inl ⟨a, rfl, h⟩
theorem i_lenT {xs : List D} (h : Q (.int xs.length) S) : oLen [.tup xs] S Q := ⟨_, rfl, xs, rfl, h⟩
theorem i_lenC {xs : List D} (h : Q (.int xs.length) S) : oLen [.cl xs] S Q := ⟨_, rfl, xs, rfl, h⟩
theorem i_lenR {a : Addr} {xs : List D} (es : S a = some (.lst xs)) (h : Q (.int xs.length) S) : oLen [.ref a] S Q := ⟨_, rfl, xs, by show (match S a with | some (.lst xs) => some xs | _ => none) = some xs; rw [es], h⟩
theorem i_lenS {s : Str} (z : s.length ≤ sizeLine) (h : Q (.int s.length) S) : oLen [.str s] S Q := ⟨_, rfl, z, h⟩
theorem i_isi {n T : String} {b : Bool} (e : tyD x S = some T) (k : kitB T n = some b) (h : Q (.bl b) S) : oIsi [x, .ty n] S Q := ⟨x, _, T, b, rfl, e, k, h⟩
theorem i_isiT {cs : List D} {T : String} {b : Bool} (e : tyD x S = some T) (k : kitL T cs = some b) (h : Q (.bl b) S) : oIsi [x, .tup cs] S Q := ⟨x, _, T, b, rfl, e, k, h⟩
theorem i_isiR {a : Addr} {xs : List D} {n : String} {b : Bool} (es : S a = some (.lst xs)) (k : kitB "list" n = some b) (h : Q (.bl b) S) : oIsi [.ref a, .ty n] S Q := i_isi (by show (match S a with | some (.lst _) => some "list" | some (.dic _ _) => some "dict" | _ => none) = some "list"; rw [es]) k h
theorem i_isiRT {a : Addr} {xs : List D} {cs : List D} {b : Bool} (es : S a = some (.lst xs)) (k : kitL "list" cs = some b) (h : Q (.bl b) S) : oIsi [.ref a, .tup cs] S Q := i_isiT (by show (match S a with | some (.lst _) => some "list" | some (.dic _ _) => some "dict" | _ => none) = some "list"; rw [es]) k h
theorem i_slT {xs : List D} {lo hi : Option Int} (h : Q (.tup (cutD xs lo hi)) S) : slD (.tup xs) lo hi S Q := h
theorem i_tupT {xs : List D} (h : Q (.tup xs) S) : oTuple [.tup xs] S Q := ⟨_, xs, rfl, rfl, h⟩
theorem i_tupR {a : Addr} {xs : List D} (es : S a = some (.lst xs)) (h : Q (.tup xs) S) : oTuple [.ref a] S Q := ⟨_, xs, rfl, by show (match S a with | some (.lst xs) => some xs | _ => none) = some xs; rw [es], h⟩
theorem i_truR {a : Addr} {xs : List D} {Qb : Bool → Prop} (es : S a = some (.lst xs)) (h : Qb (!xs.isEmpty)) : ∃ k, Tru (.ref a) S k ∧ Qb k := ⟨_, .inl ⟨xs, es, rfl⟩, h⟩
theorem i_truB {b : Bool} {Qb : Bool → Prop} (h : Qb b) : ∃ k, Tru (.bl b) S k ∧ Qb k := ⟨_, rfl, h⟩
theorem i_truI {i : Int} {Qb : Bool → Prop} (h : Qb (i != 0)) : ∃ k, Tru (.int i) S k ∧ Qb k := ⟨_, rfl, h⟩
theorem i_truT {xs : List D} {Qb : Bool → Prop} (h : Qb (!xs.isEmpty)) : ∃ k, Tru (.tup xs) S k ∧ Qb k := ⟨_, rfl, h⟩
theorem i_truN {Qb : Bool → Prop} (h : Qb false) : ∃ k, Tru .non S k ∧ Qb k := ⟨_, rfl, h⟩
theorem i_len {xs : List D} {P : Prop} (e : Nat.ble xs.length 1000 = true) (h : P) : xs.length ≤ sizeLine ∧ P := ⟨Nat.le_trans (Nat.le_of_ble_eq_true e) (by decide), h⟩
theorem i_dn (h : Q d S) : Dn Q d S := ⟨S, Le.refl S, h⟩
theorem i_dnL {S' : Sto} (l : Le S' S) (h : Q d S') : Dn Q d S := ⟨S', l, h⟩
end
theorem ifT {b : Bool} {A B : Prop} (e : b = true) (h : A) : if b = true then A else B := by rw [if_pos e]; exact h
theorem ifF {b : Bool} {A B : Prop} (e : b = false) (h : B) : if b = true then A else B := by rw [if_neg (by rw [e]; decide)]; exact h
theorem if2 {b : Bool} {A B : Prop} (h1 : b = true → A) (h2 : b = false → B) : if b = true then A else B := by
  cases b with
  | true => exact ifT rfl (h1 rfl)
  | false => exact ifF rfl (h2 rfl)
theorem ifD {c : Prop} [Decidable c] {A B : Prop} (h1 : c → A) (h2 : ¬ c → B) : if decide c = true then A else B := if2 (fun e => h1 (of_decide_eq_true e)) (fun e => h2 (of_decide_eq_false e))
theorem ifN {c : Prop} [Decidable c] {A B : Prop} (h1 : ¬ c → A) (h2 : c → B) : if (!decide c) = true then A else B := if2 (fun e => h1 (by simpa using e)) (fun e => h2 (by simpa using e))
end DL
end
section
/-! The D-layer, part 9: sets, zips, calls by names. -/
namespace DL
open PySem PySem.Spec PyProof.Rows L2
/-! ### sets -/
theorem CellIs.sn {M : Md} {H : Hp} {a : Addr} {ms : List Key} : CellIs M (upd H a (SetO2 M.w a ms)) a (.set (ms.map kD)) := ⟨ms, upd_same, rfl⟩
def putD (acc : List D) (y : D) : List D := if (acc.any fun x => keq x y) = true then acc else acc ++ [y]
theorem putD_kD (ms : List Key) (k : Key) : putD (ms.map kD) (kD k) = (putM ms k).map kD := by
  unfold putD putM
  have e : ((ms.map kD).any fun x => keq x (kD k)) = inM ms k := by
    unfold inM
    rw [List.any_map]
    congr 1
    funext j
    exact keq_kD j k
  rw [e]
  split
  · rfl
  · rw [List.map_append]; rfl
def dSc (src : DTI) (g : DTG) (tt : DTT) (te : DTE) (vs : List Nat) : DTE := fun ε S Q => src ε S fun xs stb S1 => ∀ p, S1 p = none → ∃ W : Nat → List D → Sto → Prop,
  W 0 [] (put S1 p (.set [])) ∧ (∀ i acc S, i ≤ xs.length → W i acc S → stb S) ∧
  (∀ (i : Nat) x acc S, xs[i]? = some x → W i acc S → g x (dWipe ε vs) S fun ε2 S2 => tt ε2 S2 fun b S3 => if b = true then te ε2 S3 fun y S4 => S4 p = some (.set acc) ∧ isFlatK y = true ∧ acc.length + 1 < scanBound ∧ W (i + 1) (putD acc y) (put S4 p (.set (putD acc y))) else W (i + 1) acc S3) ∧
  ∀ acc S, W xs.length acc S → Q (.ref p) S
theorem tSq_of {X : Cx} {src : DTI} {g : DTG} {tt : DTT} {te : DTE} {vs : List Nat} {ti : TI} {σ : L2.St} {H : Hp} {ε : Env} {S : Sto} {Q : DK} {Q2 : VK}
    (hi : ∀ σ H ε S K, Ep (Cxmd X) H σ ε → Rp (Cxmd X) H S → src ε S K → ∀ R : It → Hp → Prop, (∀ J H' xs stb S', TLe H H' → Rp (Cxmd X) H' S' → ItOk (Cxmd X) J H' xs stb → K xs stb S' → R J H') → ti σ H R)
    (he : Ep (Cxmd X) H σ ε) (hr : Rp (Cxmd X) H S) (q : dSc src g tt te vs ε S Q) (k : ∀ v H' d S', TLe H H' → Is (Cxmd X) H' v d → Rp (Cxmd X) H' S' → Q d S' → Q2 v H') :
    tSq X.w ti (tgOf (Cxmd X) vs g) (ttOf (Cxmd X) tt) (teOf (Cxmd X) te) vs σ H Q2 := by
  refine hi σ H ε S _ he hr q _ fun J H1 xs stb S1 l1 p1 ok q1 p np => ?_
  obtain ⟨W, w0, ws, turn, fin⟩ := q1 p (p1.free np)
  have l0 : TLe H1 (upd H1 p (SetO2 X.w p [])) := TLe.new np
  refine ⟨fun i m H' => m = xs.length - i ∧ i ≤ xs.length ∧ ∃ acc S', TLe H1 H' ∧ Rp (Cxmd X) H' S' ∧ W i acc S', ⟨xs.length, by simp, Nat.zero_le _, [], _, l0, p1.put l0 (CellIs.sn (ms := [])), w0⟩, ?_⟩
  rintro i m H' ⟨rfl, le, acc, S', l2, p2, w⟩
  have st := ws i acc S' le w
  by_cases lt : i < xs.length
  · refine .inr ⟨ok.go i H' S' lt l2 p2 st, fun H'' => ∃ acc S'', TLe H1 H'' ∧ Rp (Cxmd X) H'' S'' ∧ W (i + 1) acc S'', fun H'' z => ⟨xs.length - (i + 1), by omega, rfl, lt, z⟩, fun x H3 y => ?_⟩
    obtain ⟨d, e3, l3, r3, p3⟩ := ok.yld i H' S' x H3 lt l2 p2 st y
    have ll := l2.trans l3
    refine ⟨d, dWipe ε vs, S', _, r3, ((he.mono l1).mono ll).wipe vs, p3, turn i d acc S' e3 w, fun σ4 H4 ε4 S4 l4 o4 e4 p4 q4 => ⟨wipe_onl o4, ?_⟩⟩
    refine ⟨ε4, S4, _, e4, p4, q4, fun b H5 S5 l5 p5 q5 => ?_⟩
    cases b with
    | false => exact iteF ⟨acc, S5, (ll.trans l4).trans l5, p5, q5⟩
    | true =>
      refine iteT ⟨ε4, S5, _, e4.mono l5, p5, q5, fun v H6 d6 S6 l6 r6 p6 ⟨h6, f6, z6, w6⟩ => ?_⟩
      obtain ⟨ms, h7, e7⟩ := p6 _ _ h6
      obtain ⟨k6, rfl⟩ := flatK_kD f6
      subst e7
      rw [putD_kD] at w6
      have l7 : TLe H6 (upd H6 p (SetO2 X.w p (putM ms k6))) := TLe.mut (by rw [h7]; trivial)
      exact ⟨k6, ms, is_kD r6, h7, by rw [List.length_map] at z6; exact z6, (putM ms k6).map kD, _, (((ll.trans l4).trans l5).trans l6).trans l7, p6.put l7 (CellIs.sn (M := Cxmd X)), w6⟩
  · have e : i = xs.length := by omega
    subst e
    exact .inl ⟨ok.stop H' S' l2 p2 st, k _ H' _ S' (l1.trans l2) Is.r p2 (fin acc S' w)⟩
section
variable {X : Cx} {elt tg iter : Expr} {ifs : List Expr} {scope : Scope} {own : List (Str × Nat)} {pos : Pos} {src : DTI} {g : DTG} {tt : DTT} {te : DTE}
theorem de_sc (hc : X.calm = true) (hN : X.N.Nodup) (hi : DI X tg iter src) (ok : BlkOk X.N X.env.scope scope own)
    (hg : ∀ (s : Shared) (H : Hp) (C : Addr) (cl : List (Str × Addr)) (fp : List Addr), DG (X.blk s H scope (compEnvC scope cl C X.env) fp) tg (own.map (·.2)) g) (ht : ∀ (s : Shared) (H : Hp) (C : Addr) (cl : List (Str × Addr)) (fp : List Addr), DTs (X.blk s H scope (compEnvC scope cl C X.env) fp) ifs tt)
    (he : ∀ (s : Shared) (H : Hp) (C : Addr) (cl : List (Str × Addr)) (fp : List Addr), DE (X.blk s H scope (compEnvC scope cl C X.env) fp) elt te) (hs : ∀ x, foldedSetIterable iter X.env x = pure x := by intro _; rfl) :
    DE X (.SetComp elt [⟨tg, iter, ifs, 0⟩] scope pos) (dSc src g tt te (own.map (·.2))) := by
  obtain ⟨ti, a1, a2⟩ := hi.ex
  exact ⟨_, pe_sq hc hN a1 ok (fun s H C cl fp => (show PG (X.blk s H scope (compEnvC scope cl C X.env) fp) tg (tgOf (Cxmd X) (own.map (·.2)) g) from (hg s H C cl fp).pg)) (fun s H C cl fp => (show PTs (X.blk s H scope (compEnvC scope cl C X.env) fp) ifs (ttOf (Cxmd X) tt) from (ht s H C cl fp).pts)) (fun s H C cl fp => (show PE (X.blk s H scope (compEnvC scope cl C X.env) fp) elt (teOf (Cxmd X) te) from (he s H C cl fp).pe)) hs, fun σ H ε S Q he hr q Q2 k => tSq_of (X := X) a2 he hr q k⟩
end
/-- set(xs) of a list of ints and texts -/
def oSetOf : DR := fun ds S Q => ∃ d xs, ds = [d] ∧ (¬ ∃ ys, d = .tup ys) ∧ itemsD d S = some xs ∧ xs.all isFlatK = true ∧ xs.length < scanBound ∧ ∀ p, S p = none → Q (.ref p) (put S p (.set (xs.foldl putD [])))
theorem foldl_putM : ∀ (ks ms : List Key), (ks.map kD).foldl putD (ms.map kD) = (ks.foldl putM ms).map kD
  | [], ms => rfl
  | k :: ks, ms => by
    rw [List.map_cons, List.foldl_cons, List.foldl_cons, putD_kD]
    exact foldl_putM ks (putM ms k)
theorem dcl_setOf {X : Cx} (hc : X.calm = true) : DCl X (.type "set") oSetOf := by
  refine ⟨_, cr_setL hc, fun vs ds H S Q ix hr ⟨d, xs, e, nt, e1, hf, hb, q⟩ Q2 k => ?_⟩
  subst e
  obtain ⟨v, e, r⟩ := ix.one
  subst e
  obtain ⟨p, us, e3, sq, l⟩ := itemsN_is hr r e1 nt
  subst e3
  obtain ⟨ks, rfl⟩ := flatKL_kD hf
  rw [isL_kD l] at sq
  refine ⟨p, ks, rfl, sq, by rw [List.length_map] at hb; exact hb, fun n hn => ?_⟩
  have t4 : TLe H (upd H n (SetO2 X.w n (ks.foldl putM []))) := TLe.new hn
  exact k _ _ _ _ t4 Is.r (hr.put t4 (by rw [show (ks.map kD).foldl putD [] = (ks.foldl putM []).map kD from foldl_putM ks []]; exact CellIs.sn (M := Cxmd X))) (q n (hr.free hn))
def strD : D → Option Str
  | .str s => some s
  | _ => none
def strsD : List D → Option (List Str)
  | [] => some []
  | d :: ds => match strD d, strsD ds with
    | some x, some xs => some (x :: xs)
    | _, _ => none
theorem strsD_eq : ∀ {ds : List D} {xs : List Str}, strsD ds = some xs → ds = xs.map D.str
  | [], xs, h => by cases h; rfl
  | d :: ds, xs, h => by
    unfold strsD at h
    split at h
    · rename_i x ys h1 h2
      cases h
      rw [strsD_eq h2]
      cases d with
      | str s => cases h1; rfl
      | _ => cases h1
    · cases h
theorem strsD_map : ∀ xs : List Str, strsD (xs.map D.str) = some xs
  | [] => rfl
  | x :: xs => by
    show (match strD (.str x), strsD (xs.map D.str) with | some x, some xs => some (x :: xs) | _, _ => none) = _
    rw [strsD_map xs]
    rfl
theorem isL_strs {M : Md} {H : Hp} : ∀ {xs : List Str}, IsL M H (xs.map V.str) (xs.map D.str)
  | [] => IsL.nil
  | x :: xs => IsL.cons Is.s isL_strs
theorem isL_strs_eq {M : Md} {H : Hp} : ∀ {xs : List Str} {vs : List V}, IsL M H vs (xs.map D.str) → vs = xs.map V.str
  | [], vs, h => h
  | x :: xs, vs, h => by
    obtain ⟨v, r, e, q, z⟩ := (show ∃ v r, vs = v :: r ∧ Is M H v (.str x) ∧ IsL M H r (xs.map D.str) from h)
    rw [e, show v = _ from q, isL_strs_eq z]; rfl
/-- sorted of a set or a list of texts -/
def oSorted : DR := fun ds S Q => ∃ (a : Addr) (xs : List Str), ds = [.ref a] ∧ (S a = some (.set (xs.map D.str)) ∨ (S a = some (.lst (xs.map D.str)) ∧ xs.length ≤ sizeLine)) ∧ ∀ ys p, ys.Perm xs → sortedS ys = true → S p = none → Q (.ref p) (put S p (.lst (ys.map D.str)))
def rSortAny (K : PySem.W.Frag) : List V → Hp → VK → Prop := fun vs H Q => ∃ (a : Addr) (xs : List Str), vs = [V.ref a] ∧ SqL K H a (xs.map V.str) ∧ xs.length ≤ sizeLine ∧ ∀ (ys : List Str) (p : Addr), ys.Perm xs → sortedS ys = true → H p = none → Q (.ref p) (upd H p (.lst (ys.map V.str)))
theorem cr_sortAny {X : Cx} : CallR X (.builtin "sorted") (rSortAny X.K) := by
  intro pins s σ H vs us Q I r h
  obtain ⟨a, xs, rfl, hs, hn, q⟩ := h
  obtain ⟨its, rv, hl, _⟩ := I.list hs
  rw [Vals.ref1 r]
  have e0 := rv.length
  rw [List.length_map] at e0
  refine PyProof.Rows.sorted_strsAny hl.isList rv.strs (by rw [← e0]; exact hn) fun out ys h1 h2 h3 => ?_
  obtain ⟨ep, he⟩ := PyProof.Rows.sortedAll_at s.heap its out
  have hlen : (ys.map V.str).length ≤ sizeLine := by rw [List.length_map, h2.length_eq]; exact hn
  exact ⟨.ref _, upd H (s.heap.objs.size + 1) (.lst (ys.map V.str)), I.laid (t' := s.toks) (fun _ _ => PyProof.Rows.sortedAll_old) (Nat.le_succ _) ⟨hlen, out.toList, ep, vals_of_strs h1, he⟩, rfl, q ys _ h2 h3 (I.hok.fresh (Nat.le_succ _))⟩
theorem map_kD_str {xs : List Str} {ms : List Key} (h : xs.map D.str = ms.map kD) : ms = xs.map .inr := by
  induction xs generalizing ms with
  | nil => cases ms with
    | nil => rfl
    | cons m ms => cases h
  | cons x xs ih => cases ms with
    | nil => cases h
    | cons m ms =>
      rw [List.map_cons, List.map_cons] at h
      injection h with h1 h2
      rw [ih h2, List.map_cons]
      cases m with
      | inl i => cases h1
      | inr y => cases h1; rfl
theorem dcl_sorted {X : Cx} (hc : X.calm = true) : DCl X (.builtin "sorted") oSorted := by
  refine ⟨_, (cr_sortSet hc).or cr_sortAny, fun vs ds H S Q ix hr ⟨a, xs, e, e1, q⟩ Q2 k => ?_⟩
  subst e
  obtain ⟨v, e, r⟩ := ix.one
  subst e
  have r' : v = .ref a := r
  subst r'
  have fin : ∀ (ys : List Str) (p : Addr), ys.Perm xs → sortedS ys = true → H p = none → Q2 (.ref p) (upd H p (.lst (ys.map V.str))) := fun ys p h1 h2 h3 => by
    have t4 : TLe H (upd H p (.lst (ys.map V.str))) := TLe.new h3
    exact k _ _ _ _ t4 Is.r (hr.put t4 (CellIs.ln isL_strs)) (q ys p h1 h2 (hr.free h3))
  rcases e1 with e1 | ⟨e1, hn⟩
  · obtain ⟨ms, h1, h2⟩ := hr _ _ e1
    rw [map_kD_str h2] at h1
    exact .inl ⟨a, xs, rfl, h1, fin⟩
  · obtain ⟨us, h1, h2⟩ := hr _ _ e1
    rw [isL_strs_eq h2] at h1
    exact .inr ⟨a, xs, rfl, SqL.of h1, hn, fin⟩
/-! ### calls by names -/
structure OkfK (C : Wd) (x : Str) (ps : List Str) (k : Nat) (sp : DSp) : Prop where
  ex : ∃ fa fd, C.mg x = some (.ref fa) ∧ PySem.W.keepIn C.K (.ref fa) = true ∧ (∀ (s : Shared) (ws : List Value), ws.length = ps.length → BindsTo s fd ⟨[], ps.zip ws⟩ (ps.zip ws)) ∧ FnOk C.P C.w C.K C.mg C.base (L2.CX C.P C.w) k fa fd ps (lift ⟨C.P, C.w, C.K⟩ sp)
theorem OkfK.imp {C : Wd} {x : Str} {ps : List Str} {k : Nat} {f g : DSp} (h : OkfK C x ps k g) (i : ∀ ds S Q E, f ds S Q E → g ds S Q E) : OkfK C x ps k f := by
  obtain ⟨fa, fd, a, b, d, e⟩ := h.ex
  exact ⟨fa, fd, a, b, d, e.imp (lift_imp i)⟩
theorem okFK {C : Wd} {x : Str} {st : Stmt} {N ps : List Str} {k : Nat} {sp : DSp} {t : DTS} (T : Def C x st) (S : FnScope N ps (defScope st))
    (bnd : ∀ (kV doc pm : Value) (an : Option Addr) (cdv ct : Value) (ws : List Value), ws.length = ps.length → bindArgs (PySem.W.fnOf x x (defArgs st) (defBody st) (defScope st) .none kV doc pm an cdv ct) ⟨[], ps.zip ws⟩ = pure (ps.zip ws))
    (len : ∀ ds S Q E, sp ds S Q E → ds.length = ps.length)
    (drv : ∀ (fa : Addr) (cdv : Value) (A : Around) (outer : List PySem.Env) (s : Shared) (H : Hp) (E : XK), Room k (A.deeper (envOfC x (defScope st) s.heap.objs.size fa cdv)) → DSs (XC C N x st fa cdv A outer s H E) (defBody st) t)
    (rd : ∀ ds S Q E, sp ds S Q E → t { nx := fun _ S' => Dn Q .non S', rt := Dn Q } (startD N.length ds) S) : OkfK C x ps (k + 1) sp := by
  obtain ⟨fa, fd, F, hm⟩ := T.ex
  refine ⟨fa, fd, hm, F.kp, fun s ws hl => ?_, okD F S len (fun cdv A outer s H E hr => drv fa cdv A outer s H E hr) rd⟩
  obtain ⟨oc, od, dV, kV, doc, pm, an, cdv, ct, osl, e, lk, hcd, hD, hK⟩ := F.ex
  subst e
  rcases hD with ⟨_, e⟩ | ⟨e, _⟩
  · subst e
    exact .of_eq (bnd kV doc pm an cdv ct ws hl)
  · exact absurd rfl e
/-- the values of the keywords -/
structure DK2 (X : Cx) (kws : List Keyword) (t : DTA) : Prop where
  ex : ∃ te, PK X kws te ∧ ∀ σ H ε S Q, Ep (Cxmd X) H σ ε → Rp (Cxmd X) H S → t ε S Q → ∀ Q2 : List V → Hp → Prop, (∀ vs H' ds S', TLe H H' → IsL (Cxmd X) H' vs ds → Rp (Cxmd X) H' S' → Q ds S' → Q2 vs H') → te σ H Q2
section
variable {X : Cx} {k : Nat} {ps : List Str} {sp : DSp} {x : Str} {p pos kpos : Pos} {e : Expr} {kws : List Keyword} {nm : Option Str} {t : DTA} {te : DTE}
theorem dk_nil : DK2 X [] dNil := ⟨_, pk_nil, fun σ H ε S Q he hr q Q2 k => k _ H _ S (TLe.refl H) IsL.nil hr q⟩
theorem dk_cons (h : DE X e te) (g : DK2 X kws t) : DK2 X (⟨nm, e, kpos⟩ :: kws) (dCons te t) := by
  obtain ⟨t1, a1, a2⟩ := h.ex
  obtain ⟨t2, b1, b2⟩ := g.ex
  refine ⟨_, pk_cons a1 b1, fun σ H ε S Q he hr q Q2 k => ?_⟩
  refine a2 σ H ε S _ he hr q _ fun v H1 d S1 l1 r1 p1 q1 => ?_
  refine b2 σ H1 ε S1 _ (he.mono l1) p1 q1 _ fun vs H2 ds S2 l2 r2 p2 q2 => ?_
  exact k _ H2 _ S2 (l1.trans l2) (IsL.cons (Is.mono l2 r1) r2) p2 q2
/-- f(p = e, ..), the parameters all by name and in their order -/
theorem de_callKw (h : OkfK ⟨X.prog, X.w, X.K, X.mg, X.base⟩ x ps k sp) (hr : Room k X.A) (hg : Gl X x) (ha : DK2 X kws t)
    (hall : (backToKw pos (keywordEach kws X.env)).all (·.1.isSome) = true := by rfl) (hks : (backToKw pos (keywordEach kws X.env)).filterMap (·.1) = ps := by rfl)
    (hdb : (x == ("__debug__" : Str)) = false := by decide) (hpl : ((backTo pos (starEach [] X.env)).any (·.1) || (backToKw pos (keywordEach kws X.env)).any (·.1.isNone)) = false := by rfl) :
    DE X (.Call (.Name x p) [] kws pos) (dCall sp t) := by
  obtain ⟨fa, fd, hm, hk, hb, F⟩ := h.ex
  obtain ⟨t1, a1, a2⟩ := ha.ex
  refine ⟨fun σ H Q => t1 σ H fun vs H1 => lift (Cxmd X) sp vs H1 Q E0, ⟨fun pins s σ H Q I h => ?_⟩, fun σ H ε S Q he hr q Q2 k => ?_⟩
  · refine wpAny_Call_Name_kw (ld_glob I hg hm ?_ hdb)
    refine PySem.W.callWith_KW0 (h₀ := X.base) I.ok.mod.kin hk hall ?_ hpl
    refine thn (a1.run pos pins s σ H _ I h) fun ws s2 ⟨zs, H2, I2, rz, q2⟩ => ⟨I2.kIn, ?_⟩
    rw [hks]
    have hl : ws.length = ps.length := by rw [← rz.length]; exact F.len _ _ _ _ q2
    refine wpAny_call (codeAny_mono (F.run X.A X.stack s2 H2 ⟨[], ps.zip ws⟩ ws zs Q E0 hr I2.env0 (hb s2 ws hl) rz q2) fun r s' hq => ?_)
    cases r with
    | error e => exact (passL : Passes (L2.CX X.prog X.w) X E0) pins σ H2 s2 e s' I2 hq
    | ok fl =>
      cases fl with
      | ret u => exact I2.after hq
      | next => exact False.elim hq
      | brk => exact False.elim hq
      | cont => exact False.elim hq
  · refine a2 σ H ε S _ he hr q _ fun vs H1 ds S1 l1 r1 p1 q1 => ?_
    exact ⟨ds, S1, Q, E0D, r1, p1, q1, fun v H' d S' l2 r2 p2 q2 => k v H' d S' (l1.trans l2) r2 p2 q2, fun c o H' gs S' _ _ _ z => z.elim⟩
end
end DL
end
section
/-! The D-layer: list(zip(a, b)), a and b tuples. -/
namespace DLZ
open PySem PySem.Spec PyProof.Rows L2 DL
theorem zip_no_len : typeLookup (.type "zip") "__len__" = pure none := am_miss_of_fast (by decide +kernel)
theorem zip_no_hint : typeLookup (.type "zip") "__length_hint__" = pure none := am_miss_of_fast (by decide +kernel)
section
variable {prog : Program} {w : World} {A : Around} {E : Value → Shared → Prop} {s : Shared}
theorem hint_zip {z : Addr} {Q : Bool → Shared → Prop} (hT : s.TypeIs (.ref z) "zip") (h : Q true s) : wpAny (model prog w) A (Builtin.List.listLengthHint (.ref z)) Q E s := by
  unfold Builtin.List.listLengthHint
  refine wpAny_bind (wpAny_specialOf hT zip_no_len ?_)
  simp only [Option.isSome_none, Bool.false_eq_true, if_false]
  exact wpAny_bind (wpAny_specialOf hT zip_no_hint (wpAny_pure h))
variable {z TI TO T i1 i2 l1 l2 : Addr} {f : Bool} {oT : Obj} {k1 k2 : Nat} {xs ys : Array Value} {x y : Value}
theorem held_next {Q : Value → Shared → Prop} (D : ZipApart z TI TO i1 i2 l1 l2) (hz : IsZipHeld s.heap z TI TO T f) (hT : s.heap.get? T = some oT) (hTI : IsPair s.heap TI (.ref i1) (.ref i2))
    (h1 : s.heap.IsTupleIter i1 l1 k1) (h2 : s.heap.IsTupleIter i2 l2 k2) (hl1 : s.heap.IsTuple l1 xs) (hl2 : s.heap.IsTuple l2 ys) (hx : xs[k1]? = some x) (hy : ys[k2]? = some y)
    (hQ : ∀ h', IsZipHeld h' z TI TO T true → h'.IsTupleIter i1 l1 (k1 + 1) → h'.IsTupleIter i2 l2 (k2 + 1) → IsPair h' s.heap.objs.size x y → h'.objs.size = s.heap.objs.size + 1 →
      (∀ c o, c ≠ z → c ≠ i1 → c ≠ i2 → s.heap.get? c = some o → h'.get? c = some o) → Q (.ref s.heap.objs.size) { s with heap := h' }) :
    wpAny (model prog w) A (Builtin.«zip.__next__» ⟨[.ref z], []⟩) (fun fin s' => ∃ v, fin = .done (.ret v) ∧ Q v s') E s := by
  show wpAny _ _ (field (.ref z) 2 >>= _) _ _ _
  refine wpAny_bind (wpAny_field hz rfl (x := .bool false) rfl ?_)
  show wpAny _ _ (field (.ref z) 3 >>= _) _ _ _
  refine wpAny_bind (wpAny_field hz rfl (x := .ref TI) rfl (wpAny_bind (wpAny_seqItems hTI rfl ?_)))
  show wpAny _ _ (Builtin.SmallTypes.ownedTupleIsFree (.ref z) >>= _) _ _ _
  refine wpAny_bind (wpAny_tupleHeld_zip hz hT fun g1 z1 b1 => ?_)
  simp only [Bool.false_eq_true, if_false]
  refine wpAny_bind ?_
  rw [← Array.forIn_toList]
  simp only [List.forIn_cons, List.forIn_nil]
  refine wpAny_bind (wpAny_bind (wpAny_holding ?_))
  show wpAny _ _ (Builtin.SmallTypes.nextOf (.ref i1) >>= _) _ _ _
  refine wpAny_bind (RZ.nextOf_tuple_item (s := { s with heap := g1 }) (h1.extBut b1.extBut D.i1z) (hl1.extBut b1.extBut D.l1z) hx fun g2 p1 b2 => wpAny_pure ?_)
  refine wpAny_pure ?_
  refine wpAny_bind (wpAny_bind (wpAny_holding ?_))
  show wpAny _ _ (Builtin.SmallTypes.nextOf (.ref i2) >>= _) _ _ _
  refine wpAny_bind (RZ.nextOf_tuple_item (s := { s with heap := g2 }) ((h2.extBut b1.extBut D.i2z).extBut b2.extBut D.i12.symm) ((hl2.extBut b1.extBut D.l2z).extBut b2.extBut D.l2i1) hy fun g3 p2 b3 => wpAny_pure ?_)
  refine wpAny_pure (wpAny_pure ?_)
  show wpAny _ _ (newTuple [x, y] >>= _) _ _ _
  refine wpAny_bind (wpAny_newTuple ?_)
  refine wpAny_pure ⟨_, rfl, ?_⟩
  have sz : g3.objs.size = s.heap.objs.size := by rw [b3.1, b2.1, b1.1]
  have zz : IsZipHeld g3 z TI TO T true := b3.extBut _ _ D.i2z.symm (b2.extBut _ _ D.i1z.symm z1)
  have pr : IsPair (g3.push { cls := .type "tuple", data := .seq #[x, y] }) g3.objs.size x y := Heap.get?_push_size _ rfl
  have s4 : (g3.push { cls := .type "tuple", data := .seq #[x, y] }).objs.size = g3.objs.size + 1 := Heap.size_push ..
  show Q (.ref g3.objs.size) _
  rw [sz] at pr s4 ⊢
  exact hQ _ (Heap.get?_push_of_some _ zz) ((p1.extBut b3.extBut D.i12).at fun o e => Heap.get?_push_of_some _ e) (p2.at fun o e => Heap.get?_push_of_some _ e) pr s4 fun c o c1 c2 c3 e =>
    Heap.get?_push_of_some _ (b3.extBut _ _ c3 (b2.extBut _ _ c2 (b1.extBut _ _ c1 e)))
/-- the next pair, the last one still out -/
theorem held_item {Q : Option Value → Shared → Prop} (D : ZipApart z TI TO i1 i2 l1 l2) (hz : IsZipHeld s.heap z TI TO T f) (hT : s.heap.get? T = some oT) (hTI : IsPair s.heap TI (.ref i1) (.ref i2))
    (h1 : s.heap.IsTupleIter i1 l1 k1) (h2 : s.heap.IsTupleIter i2 l2 k2) (hl1 : s.heap.IsTuple l1 xs) (hl2 : s.heap.IsTuple l2 ys) (hx : xs[k1]? = some x) (hy : ys[k2]? = some y)
    (hQ : ∀ h', IsZipHeld h' z TI TO T true → h'.IsTupleIter i1 l1 (k1 + 1) → h'.IsTupleIter i2 l2 (k2 + 1) → IsPair h' s.heap.objs.size x y → h'.objs.size = s.heap.objs.size + 1 →
      (∀ c o, c ≠ z → c ≠ i1 → c ≠ i2 → s.heap.get? c = some o → h'.get? c = some o) → Q (some (.ref s.heap.objs.size)) { s with heap := h' }) : wpAny (model prog w) A (pyNext (.ref z)) Q E s := by
  have hTy : s.TypeIs (.ref z) "zip" := ⟨_, hz, rfl⟩
  unfold pyNext
  exact wpAny_bind (wpAny_attempt (wpAny_callSpecial?_slot (name := Str.ofString "__next__") hTy F.slot_zip_next (wpAny_call_entry F.slot_zip_next hTy F.entry_zip_next
    (held_next D hz hT hTI h1 h2 hl1 hl2 hx hy fun h' a1 a2 a3 a4 a5 a6 => wpAny_pure (hQ h' a1 a2 a3 a4 a5 a6)) (F.args_zip_next_1 _))))
theorem held_stop {Q : Fin → Shared → Prop} (hh : A.handled = none) (D : ZipApart z TI TO i1 i2 l1 l2) (hz : IsZipHeld s.heap z TI TO T f) (hT : s.heap.get? T = some oT) (hTI : IsPair s.heap TI (.ref i1) (.ref i2))
    (h1 : s.heap.IsTupleIter i1 l1 k1) (h2 : s.heap.IsTupleIter i2 l2 k2) (hl1 : s.heap.IsTuple l1 xs) (hl2 : s.heap.IsTuple l2 ys) (hend : xs[k1]? = none ∨ ys[k2]? = none)
    (hE : ∀ h' e, (∀ c o, c ≠ z → c ≠ i1 → c ≠ i2 → s.heap.get? c = some o → h'.get? c = some o) → (∃ o, h'.get? e = some o ∧ o.cls = .type "StopIteration") → E (.ref e) { s with heap := h' }) :
    wpAny (model prog w) A (Builtin.«zip.__next__» ⟨[.ref z], []⟩) Q E s := by
  show wpAny _ _ (field (.ref z) 2 >>= _) _ _ _
  refine wpAny_bind (wpAny_field hz rfl (x := .bool false) rfl ?_)
  show wpAny _ _ (field (.ref z) 3 >>= _) _ _ _
  refine wpAny_bind (wpAny_field hz rfl (x := .ref TI) rfl (wpAny_bind (wpAny_seqItems hTI rfl ?_)))
  show wpAny _ _ (Builtin.SmallTypes.ownedTupleIsFree (.ref z) >>= _) _ _ _
  refine wpAny_bind (wpAny_tupleHeld_zip hz hT fun g1 z1 b1 => ?_)
  simp only [Bool.false_eq_true, if_false]
  refine wpAny_bind ?_
  rw [← Array.forIn_toList]
  simp only [List.forIn_cons, List.forIn_nil]
  refine wpAny_bind (wpAny_bind (wpAny_holding ?_))
  show wpAny _ _ (Builtin.SmallTypes.nextOf (.ref i1) >>= _) _ _ _
  cases hx : xs[k1]? with
  | none =>
    refine wpAny_bind (RZ.nextOf_tuple_end (s := { s with heap := g1 }) hh (h1.extBut b1.extBut D.i1z) (hl1.extBut b1.extBut D.l1z) hx fun g2 e b2 he => ?_)
    exact hE g2 e (fun c o c1 c2 _ q => b2 _ _ c2 (b1.extBut _ _ c1 q)) he
  | some x =>
    have hy : ys[k2]? = none := hend.resolve_left fun q => by rw [hx] at q; cases q
    refine wpAny_bind (RZ.nextOf_tuple_item (s := { s with heap := g1 }) (h1.extBut b1.extBut D.i1z) (hl1.extBut b1.extBut D.l1z) hx fun g2 p1 b2 => wpAny_pure ?_)
    refine wpAny_pure ?_
    refine wpAny_bind (wpAny_bind (wpAny_holding ?_))
    show wpAny _ _ (Builtin.SmallTypes.nextOf (.ref i2) >>= _) _ _ _
    refine wpAny_bind (RZ.nextOf_tuple_end (s := { s with heap := g2 }) hh ((h2.extBut b1.extBut D.i2z).extBut b2.extBut D.i12.symm) ((hl2.extBut b1.extBut D.l2z).extBut b2.extBut D.l2i1) hy fun g3 e b3 he => ?_)
    exact hE g3 e (fun c o c1 c2 c3 q => b3 _ _ c3 (b2.extBut _ _ c2 (b1.extBut _ _ c1 q))) he
theorem held_end {Q : Option Value → Shared → Prop} (hh : A.handled = none) (D : ZipApart z TI TO i1 i2 l1 l2) (hz : IsZipHeld s.heap z TI TO T f) (hT : s.heap.get? T = some oT) (hTI : IsPair s.heap TI (.ref i1) (.ref i2))
    (h1 : s.heap.IsTupleIter i1 l1 k1) (h2 : s.heap.IsTupleIter i2 l2 k2) (hl1 : s.heap.IsTuple l1 xs) (hl2 : s.heap.IsTuple l2 ys) (hend : xs[k1]? = none ∨ ys[k2]? = none)
    (hQ : ∀ h', (∀ c o, c ≠ z → c ≠ i1 → c ≠ i2 → s.heap.get? c = some o → h'.get? c = some o) → Q none { s with heap := h' }) : wpAny (model prog w) A (pyNext (.ref z)) Q E s := by
  have hTy : s.TypeIs (.ref z) "zip" := ⟨_, hz, rfl⟩
  unfold pyNext
  refine wpAny_bind (wpAny_attempt (wpAny_callSpecial?_slot (name := Str.ofString "__next__") hTy F.slot_zip_next (wpAny_call_entry F.slot_zip_next hTy F.entry_zip_next (held_stop hh D hz hT hTI h1 h2 hl1 hl2 hend fun h' e hk he => ?_) (F.args_zip_next_1 _))))
  obtain ⟨o, ho, hc⟩ := he
  exact wpAny_bind (wpAny_isInstance (T := "StopIteration") (b := true) ⟨o, ho, hc⟩ isSubtype_stop (wpAny_pure (hQ _ hk)))
end
/-! ### the loop -/
/-- a zip that stands at i; S: no result is S -/
structure ZAt (h : Heap) (z TI TO i1 i2 l1 l2 S : Addr) (xs ys : Array Value) (i : Nat) : Prop where
  D : ZipApart z TI TO i1 i2 l1 l2
  pr : IsPair h TI (.ref i1) (.ref i2)
  p1 : h.IsTupleIter i1 l1 i
  p2 : h.IsTupleIter i2 l2 i
  t1 : h.IsTuple l1 xs
  t2 : h.IsTuple l2 ys
  at_ : (IsZip h z TI TO .none ∧ ∃ a b, IsPair h TO a b) ∨ ∃ T f oT, IsZipHeld h z TI TO T f ∧ h.get? T = some oT ∧ T ≠ z ∧ T ≠ i1 ∧ T ≠ i2 ∧ T ≠ S
structure ZOff (z TI TO i1 i2 l1 l2 S : Addr) : Prop where
  z : S ≠ z
  TI : S ≠ TI
  TO : S ≠ TO
  i1 : S ≠ i1
  i2 : S ≠ i2
  l1 : S ≠ l1
  l2 : S ≠ l2
theorem ZAt.keep {h h' : Heap} {z TI TO i1 i2 l1 l2 S : Addr} {xs ys : Array Value} {i : Nat} (Z : ZAt h z TI TO i1 i2 l1 l2 S xs ys i) (O : ZOff z TI TO i1 i2 l1 l2 S) (k : ∀ b o, b ≠ S → h.get? b = some o → h'.get? b = some o) : ZAt h' z TI TO i1 i2 l1 l2 S xs ys i :=
  ⟨Z.D, k _ _ O.TI.symm Z.pr, Z.p1.at fun o e => k _ _ O.i1.symm e, Z.p2.at fun o e => k _ _ O.i2.symm e, Z.t1.at fun o e => k _ _ O.l1.symm e, Z.t2.at fun o e => k _ _ O.l2.symm e, by
    rcases Z.at_ with ⟨a, u, v, b⟩ | ⟨T, f, oT, a, b, c, d, e, g⟩
    · exact .inl ⟨k _ _ O.z.symm a, u, v, k _ _ O.TO.symm b⟩
    · exact .inr ⟨T, f, oT, k _ _ O.z.symm a, k _ _ g b, c, d, e, g⟩⟩
section
variable {prog : Program} {w : World} {A : Around} {E : Value → Shared → Prop} {s : Shared} {z TI TO i1 i2 l1 l2 S : Addr} {xs ys : Array Value} {i : Nat}
/-- who turns -/
def Off (z TO i1 i2 c : Addr) : Prop := c ≠ z ∧ c ≠ TO ∧ c ≠ i1 ∧ c ≠ i2
theorem z_item {x y : Value} {Q : Option Value → Shared → Prop} (Z : ZAt s.heap z TI TO i1 i2 l1 l2 S xs ys i) (O : ZOff z TI TO i1 i2 l1 l2 S) (hS : S < s.heap.objs.size) (hx : xs[i]? = some x) (hy : ys[i]? = some y)
    (hQ : ∀ h', ZAt h' z TI TO i1 i2 l1 l2 S xs ys (i + 1) → IsPair h' s.heap.objs.size x y → h'.objs.size = s.heap.objs.size + 1 → (∀ c o, Off z TO i1 i2 c → s.heap.get? c = some o → h'.get? c = some o) → Q (some (.ref s.heap.objs.size)) { s with heap := h' }) :
    wpAny (model prog w) A (pyNext (.ref z)) Q E s := by
  have D := Z.D
  have nz : s.heap.objs.size ≠ z := fun q => by
    rcases Z.at_ with ⟨a, _⟩ | ⟨T, f, oT, a, _⟩ <;> exact absurd (Heap.lt_size a) (by rw [q]; exact Nat.lt_irrefl _)
  have n1 : s.heap.objs.size ≠ i1 := fun q => by
    obtain ⟨o, ho, _⟩ := Z.p1
    exact absurd (Heap.lt_size ho) (by rw [q]; exact Nat.lt_irrefl _)
  have n2 : s.heap.objs.size ≠ i2 := fun q => by
    obtain ⟨o, ho, _⟩ := Z.p2
    exact absurd (Heap.lt_size ho) (by rw [q]; exact Nat.lt_irrefl _)
  rcases Z.at_ with ⟨a, u, v, b⟩ | ⟨T, f, oT, a, b, c, d, e, g⟩
  · refine RZ.pyNext_zipT_item D a Z.pr b Z.p1 Z.p2 Z.t1 Z.t2 hx hy fun h' a1 a2 a3 a4 a5 a6 a7 => hQ h' ⟨D, a7 _ _ D.TIz D.TITO D.TIi1 D.TIi2 Z.pr, a3, a4, Z.t1.at fun o q => a7 _ _ D.l1z D.l1TO D.l1i1 D.l1i2 q, Z.t2.at fun o q => a7 _ _ D.l2z D.l2TO D.l2i1 D.l2i2 q, .inr ⟨s.heap.objs.size, false, _, a1, a5, nz, n1, n2, Nat.ne_of_gt hS⟩⟩ a5 a6 fun c o k q => a7 c o k.1 k.2.1 k.2.2.1 k.2.2.2 q
  · refine held_item D a b Z.pr Z.p1 Z.p2 Z.t1 Z.t2 hx hy fun h' a1 a2 a3 a4 a5 a6 => hQ h' ⟨D, a6 _ _ D.TIz D.TIi1 D.TIi2 Z.pr, a2, a3, Z.t1.at fun o q => a6 _ _ D.l1z D.l1i1 D.l1i2 q, Z.t2.at fun o q => a6 _ _ D.l2z D.l2i1 D.l2i2 q, .inr ⟨T, true, oT, a1, a6 _ _ c d e b, c, d, e, g⟩⟩ a4 a5 fun c o k q => a6 c o k.1 k.2.2.1 k.2.2.2 q
theorem z_done {Q : Option Value → Shared → Prop} (hh : A.handled = none) (Z : ZAt s.heap z TI TO i1 i2 l1 l2 S xs ys i) (hend : xs[i]? = none ∨ ys[i]? = none)
    (hQ : ∀ h', (∀ c o, Off z TO i1 i2 c → s.heap.get? c = some o → h'.get? c = some o) → Q none { s with heap := h' }) : wpAny (model prog w) A (pyNext (.ref z)) Q E s := by
  rcases Z.at_ with ⟨a, u, v, b⟩ | ⟨T, f, oT, a, b, c, d, e, g⟩
  · exact RZ.pyNext_zipT_end hh Z.D a Z.pr b Z.p1 Z.p2 Z.t1 Z.t2 hend fun h' k => hQ h' fun c o q => k c o q.1 q.2.1 q.2.2.1 q.2.2.2
  · exact held_end hh Z.D a b Z.pr Z.p1 Z.p2 Z.t1 Z.t2 hend fun h' k => hQ h' fun c o q => k c o q.1 q.2.2.1 q.2.2.2
/-- the pairs that are gathered -/
structure Prs (xs ys : Array Value) (lo : Addr) (h : Heap) (as : List Addr) : Prop where
  rise : as.Pairwise (· < ·)
  above : ∀ a ∈ as, lo ≤ a
  pairs : ∀ (j : Nat) (a : Addr), as[j]? = some a → ∃ x y, xs[j]? = some x ∧ ys[j]? = some y ∧ IsPair h a x y
theorem Prs.there {lo : Addr} {h : Heap} {as : List Addr} (g : Prs xs ys lo h as) {a : Addr} (ha : a ∈ as) : a < h.objs.size := by
  obtain ⟨j, hj⟩ := List.mem_iff_getElem?.mp ha
  obtain ⟨_, _, _, _, e⟩ := g.pairs j a hj
  exact Heap.lt_size e
theorem Prs.move {lo : Addr} {h h' : Heap} {as : List Addr} (g : Prs xs ys lo h as) (k : ∀ a ∈ as, ∀ o, h.get? a = some o → h'.get? a = some o) : Prs xs ys lo h' as :=
  ⟨g.rise, g.above, fun j a hj => let ⟨x, y, e1, e2, e3⟩ := g.pairs j a hj; ⟨x, y, e1, e2, k a (List.mem_of_getElem? hj) _ e3⟩⟩
theorem z_loop {R : Result → Shared → Prop} {n : Nat} (hh : A.handled = none) (O : ZOff z TI TO i1 i2 l1 l2 S) (hnx : xs.size = n) (hny : ys.size = n) (hn : n ≤ sizeLine) (res : Value) {h0 : Heap} (lo : Addr) (hl : S < lo ∧ z < lo ∧ TO < lo ∧ i1 < lo ∧ i2 < lo)
    (hR : ∀ h' tk acc c as, (∀ b o, b ≠ S → Off z TO i1 i2 b → h0.get? b = some o → h'.get? b = some o) → h'.get? S = some { cls := .type "list", dict := none, data := .seq acc c, slots := #[] } → as.length = n → Prs xs ys lo h' as →
      acc.toList = as.map Value.ref → R (.ok (.ret res)) { s with heap := h', toks := tk }) :
    ∀ (m i : Nat) (h : Heap) (tk c : Nat) (acc : Array Value) (as : List Addr), n - i = m → i ≤ n → ZAt h z TI TO i1 i2 l1 l2 S xs ys i → (∀ b o, b ≠ S → Off z TO i1 i2 b → h0.get? b = some o → h.get? b = some o) →
      h.get? S = some { cls := .type "list", dict := none, data := .seq acc c, slots := #[] } → acc.toList = as.map Value.ref → as.length = i → Prs xs ys lo h as → lo ≤ h.objs.size →
      codeAny (model prog w) A (.builtin "list.extend.loop" ⟨[.ref S, .ref z, res], []⟩) R { s with heap := h, toks := tk } := by
  have off : ∀ a, lo ≤ a → Off z TO i1 i2 a ∧ a ≠ S := fun a ha => ⟨⟨Nat.ne_of_gt (Nat.lt_of_lt_of_le hl.2.1 ha), Nat.ne_of_gt (Nat.lt_of_lt_of_le hl.2.2.1 ha), Nat.ne_of_gt (Nat.lt_of_lt_of_le hl.2.2.2.1 ha), Nat.ne_of_gt (Nat.lt_of_lt_of_le hl.2.2.2.2 ha)⟩, Nat.ne_of_gt (Nat.lt_of_lt_of_le hl.1 ha)⟩
  have offS : Off z TO i1 i2 S := ⟨O.z, O.TO, O.i1, O.i2⟩
  intro m
  induction m with
  | zero =>
    intro i h tk c acc as hm hi Z hk hS ha hal G hlo
    have e : i = n := by omega
    refine codeAny_builtin PySem.F.entry_extend_loop ?_
    rw [Around.under_plainId PySem.F.plain_extend_loop _]
    show wpAny _ A.in1 (pyNext (.ref z) >>= _) _ _ _
    refine wpAny_bind (z_done (s := { s with heap := h, toks := tk }) (A := A.in1) hh Z (.inl (Array.getElem?_eq_none (by omega))) fun h' k => ?_)
    exact wpAny_pure (hR h' tk acc c as (fun b o b1 b2 q => k b o b2 (hk b o b1 b2 q)) (k S _ offS hS) (by omega) (G.move fun a ha' o q => k a o (off a (G.above a ha')).1 q) ha)
  | succ m ih =>
    intro i h tk c acc as hm hi Z hk hS ha hal G hlo
    have lt : i < n := by omega
    have sz : acc.size = i := by rw [← Array.length_toList, ha, List.length_map, hal]
    obtain ⟨x, hx⟩ : ∃ x, xs[i]? = some x := ⟨_, Array.getElem?_eq_getElem (by omega)⟩
    obtain ⟨y, hy⟩ : ∃ y, ys[i]? = some y := ⟨_, Array.getElem?_eq_getElem (by omega)⟩
    refine codeAny_builtin PySem.F.entry_extend_loop ?_
    rw [Around.under_plainId PySem.F.plain_extend_loop _]
    show wpAny _ A.in1 (pyNext (.ref z) >>= _) _ _ _
    refine wpAny_bind (z_item (s := { s with heap := h, toks := tk }) Z O (Heap.lt_size hS) hx hy fun h' Z' pr hz k => ?_)
    dsimp only at pr hz k ⊢
    have hS' := k S _ offS hS
    have up : ∀ b o, b ≠ S → h'.get? b = some o → (h'.update S (Obj.mapSeq (·.push (Value.ref h.objs.size)))).get? b = some o := fun b o hb q => (Heap.get?_update_other _ _ (Ne.symm hb)).trans q
    have new := off h.objs.size hlo
    show wpAny _ A.in1 (updateSeq S (·.push (Value.ref h.objs.size)) >>= _) _ _ _
    refine wpAny_bind ?_
    refine wpAny_updateSeq hS' rfl (wpAny_pure ⟨plainId_quiet PySem.F.plain_extend_loop _, ih (i + 1) _ tk _ (acc.push (Value.ref h.objs.size)) (as ++ [h.objs.size]) (by omega) lt (Z'.keep O fun b o hb q => up b o hb q)
      (fun b o b1 b2 q => up b o b1 (k b o b2 (hk b o b1 b2 q))) (Heap.get?_update_self _ hS' rfl) (by rw [Array.toList_push, ha, List.map_append]; rfl) (by rw [List.length_append, hal]; rfl) ⟨?_, ?_, ?_⟩ ?_⟩) (by rw [sz]; omega) (by show (acc.push (Value.ref h.objs.size)).size ≤ sizeLine + 1; rw [Array.size_push, sz]; omega)
    · refine List.pairwise_append.mpr ⟨G.rise, List.pairwise_singleton _ _, fun a ha' b hb => ?_⟩
      rw [List.mem_singleton.mp hb]
      exact G.there ha'
    · intro a ha'
      rcases List.mem_append.mp ha' with q | q
      · exact G.above a q
      · rw [List.mem_singleton.mp q]; exact hlo
    · intro j a hj
      rcases Nat.lt_trichotomy j as.length with q | q | q
      · rw [List.getElem?_append_left q] at hj
        obtain ⟨x', y', e1, e2, e3⟩ := G.pairs j a hj
        have o := off a (G.above a (List.mem_of_getElem? hj))
        exact ⟨x', y', e1, e2, up a _ o.2 (k a _ o.1 e3)⟩
      · subst q
        have e : h.objs.size = a := by simpa using hj
        subst e
        exact ⟨x, y, by rw [hal]; exact hx, by rw [hal]; exact hy, up _ _ new.2 pr⟩
      · rw [List.getElem?_eq_none (by rw [List.length_append, List.length_singleton]; omega)] at hj
        cases hj
    · have q : (h'.update S (Obj.mapSeq (·.push (Value.ref h.objs.size)))).get? h.objs.size = _ := up _ _ new.2 pr
      exact Nat.le_trans hlo (Nat.le_of_lt (Heap.lt_size q))
end
/-! ### list(z) -/
theorem ZAt.zip {h : Heap} {z TI TO i1 i2 l1 l2 S : Addr} {xs ys : Array Value} {i : Nat} (Z : ZAt h z TI TO i1 i2 l1 l2 S xs ys i) : ∃ f0, (IsZip h z TI TO f0) ∨ ∃ T f, IsZipHeld h z TI TO T f := by
  rcases Z.at_ with ⟨a, _⟩ | ⟨T, f, oT, a, _⟩
  · exact ⟨_, .inl a⟩
  · exact ⟨.none, .inr ⟨T, f, a⟩⟩
section
variable {prog : Program} {w : World} {A : Around} {E : Value → Shared → Prop} {s : Shared} {z TI TO i1 i2 l1 l2 S : Addr} {xs ys : Array Value} {n : Nat}
theorem z_extend {R : Result → Shared → Prop} (hh : A.handled = none) (hz : IsZip s.heap z TI TO .none) (Z : ZAt s.heap z TI TO i1 i2 l1 l2 S xs ys 0) (O : ZOff z TI TO i1 i2 l1 l2 S) (lz : z < s.heap.objs.size ∧ TO < s.heap.objs.size ∧ i1 < s.heap.objs.size ∧ i2 < s.heap.objs.size)
    (hnx : xs.size = n) (hny : ys.size = n) (hn : n ≤ sizeLine) (res : Value) (c0 : Nat) (hS : s.heap.get? S = some { cls := .type "list", data := .seq #[] c0 })
    (hR : ∀ h' tk acc c as, (∀ b o, b ≠ S → Off z TO i1 i2 b → s.heap.get? b = some o → h'.get? b = some o) → h'.get? S = some { cls := .type "list", dict := none, data := .seq acc c, slots := #[] } → as.length = n → Prs xs ys s.heap.objs.size h' as →
      acc.toList = as.map Value.ref → R (.ok (.ret res)) { s with heap := h', toks := tk }) :
    wpAny (model prog w) A.in1 (Builtin.List.listExtendWith (.ref S) (.ref z) res)
      (fun fin s' => match fin with | .done f => R (.ok f) s' | .again c' => c'.quiet = true ∧ codeAny (model prog w) A c' R s') (fun e s' => R (.error e) s') s := by
  have hSl : S < s.heap.objs.size := Heap.lt_size hS
  have hT : s.TypeIs (.ref z) "zip" := ⟨_, hz, rfl⟩
  have key : ∀ (h : Heap) (c1 tk : Nat), (∀ b o, b ≠ S → s.heap.get? b = some o → h.get? b = some o) → h.get? S = some { cls := .type "list", data := .seq #[] c1 } → s.heap.objs.size ≤ h.objs.size →
      codeAny (model prog w) A (.builtin "list.extend.loop" ⟨[.ref S, .ref z, res], []⟩) R { s with heap := h, toks := tk } := fun h c1 tk hk h1 hle =>
    z_loop (s := s) (h0 := s.heap) hh O hnx hny hn res s.heap.objs.size ⟨hSl, lz⟩ hR n 0 h tk c1 #[] [] (Nat.sub_zero _) (Nat.zero_le _) (Z.keep O hk) (fun b o b1 _ q => hk b o b1 q) h1 rfl rfl
      ⟨List.Pairwise.nil, (fun _ ha => nomatch ha), (fun j a hj => by simp at hj)⟩ hle
  unfold Builtin.List.listExtendWith
  refine wpAny_bind (wpAny_typeOf (T := "zip") hT ?_)
  have e1 : Builtin.List.listSameRef (.ref S) (.ref z) = false := by simp [Builtin.List.listSameRef, O.z]
  have e2 : (Value.type "zip" == Value.type "list") = false := by decide
  have e3 : (Value.type "zip" == Value.type "tuple") = false := by decide
  simp only [e1, e2, e3, Bool.or_false, Bool.false_eq_true, if_false]
  refine wpAny_bind (wpAny_pyIter_zip hz ?_)
  refine wpAny_bind (wpAny_holding (hint_zip hT ?_))
  refine wpAny_ite_split (fun _ => ?_) (fun _ => wpAny_pure ⟨plainId_quiet PySem.F.plain_extend_loop _, key _ c0 _ (fun b o _ q => q) hS (Nat.le_refl _)⟩)
  refine wpAny_bind (wpAny_rule (wpAny_bind ?_))
  show wpAny _ _ (updateSeq S (·.push .none) >>= fun _ => updateSeq S (·.pop)) _ _ _
  refine wpAny_bind (wpAny_updateSeq hS rfl ?_)
  have h2 := Heap.get?_update_self (Obj.mapSeq (·.push Value.none)) hS rfl
  refine wpAny_updateSeq (hz := by seq_fits) h2 rfl ?_
  have h3 := Heap.get?_update_self (Obj.mapSeq (·.pop)) h2 rfl
  refine wpAny_pure ⟨plainId_quiet PySem.F.plain_extend_loop _, key _ _ _ (fun b o hb q => ?_) h3 ?_⟩
  · exact (Heap.get?_update_other _ _ (Ne.symm hb)).trans ((Heap.get?_update_other _ _ (Ne.symm hb)).trans q)
  · rw [Heap.size_update, Heap.size_update]; exact Nat.le_refl _
theorem z_init {R : Result → Shared → Prop} (hh : A.handled = none) (hz : IsZip s.heap z TI TO .none) (Z : ZAt s.heap z TI TO i1 i2 l1 l2 S xs ys 0) (O : ZOff z TI TO i1 i2 l1 l2 S) (lz : z < s.heap.objs.size ∧ TO < s.heap.objs.size ∧ i1 < s.heap.objs.size ∧ i2 < s.heap.objs.size)
    (hnx : xs.size = n) (hny : ys.size = n) (hn : n ≤ sizeLine) (hS : s.heap.get? S = some { cls := .type "list", data := .seq #[] })
    (hR : ∀ h' tk acc c as, (∀ b o, b ≠ S → Off z TO i1 i2 b → s.heap.get? b = some o → h'.get? b = some o) → h'.get? S = some { cls := .type "list", dict := none, data := .seq acc c, slots := #[] } → as.length = n → Prs xs ys s.heap.objs.size h' as →
      acc.toList = as.map Value.ref → R (.ok (.ret .none)) { s with heap := h', toks := tk }) :
    wpAny (model prog w) A.in1 (Builtin.«list.__init__» ⟨[.ref S, .ref z], []⟩)
      (fun fin s' => match fin with | .done f => R (.ok f) s' | .again c' => c'.quiet = true ∧ codeAny (model prog w) A c' R s') (fun e s' => R (.error e) s') s := by
  show wpAny _ _ (Builtin.List.listItems (.ref S) >>= fun old => Builtin.List.listUpdate (.ref S) (fun _ => #[]) >>= fun _ => letGo old.toList.reverse >>= fun _ => Builtin.List.listExtendWith (.ref S) (.ref z) .none) _ _ s
  refine wpAny_bind ?_
  unfold Builtin.List.listItems
  refine wpAny_bind (wpAny_seqItems hS rfl (wpAny_pure ?_))
  show wpAny _ _ (updateSeq S (fun _ => #[]) >>= fun _ => letGo (#[] : Array Value).toList.reverse >>= fun _ => Builtin.List.listExtendWith (.ref S) (.ref z) .none) _ _ s
  refine wpAny_bind (wpAny_updateSeq hS rfl ?_)
  have h2 := Heap.get?_update_self (Obj.mapSeq (fun _ => (#[] : Array Value))) hS rfl
  have oth : ∀ b o, b ≠ S → s.heap.get? b = some o → (s.heap.update S (Obj.mapSeq (fun _ => (#[] : Array Value)))).get? b = some o := fun b o hb q => (Heap.get?_update_other _ _ (Ne.symm hb)).trans q
  have sz : (s.heap.update S (Obj.mapSeq (fun _ => (#[] : Array Value)))).objs.size = s.heap.objs.size := Heap.size_update _ _ _
  refine wpAny_bind (wpAny_letGo ?_)
  refine z_extend (n := n) hh (oth _ _ O.z.symm hz) (Z.keep O oth) O (by show _ ∧ _; rw [sz]; exact lz) hnx hny hn .none _ h2 fun h' tk acc c as hk hS' hl hG ha => ?_
  dsimp only at hk hG
  rw [sz] at hG
  exact hR h' tk acc c as (fun b o b1 b2 q => hk b o b1 b2 (oth b o b1 q)) hS' hl hG ha
theorem z_call {Q : Value → Shared → Prop} (hh : A.handled = none) (hz : IsZip s.heap z TI TO .none) (Z : ∀ S, s.heap.objs.size ≤ S → ZAt s.heap z TI TO i1 i2 l1 l2 S xs ys 0) (lz : z < s.heap.objs.size ∧ TI < s.heap.objs.size ∧ TO < s.heap.objs.size ∧ i1 < s.heap.objs.size ∧ i2 < s.heap.objs.size ∧ l1 < s.heap.objs.size ∧ l2 < s.heap.objs.size)
    (hnx : xs.size = n) (hny : ys.size = n) (hn : n ≤ sizeLine)
    (hQ : ∀ h' tk acc c as, (∀ b o, Off z TO i1 i2 b → s.heap.get? b = some o → h'.get? b = some o) → h'.get? s.heap.objs.size = some { cls := .type "list", dict := none, data := .seq acc c, slots := #[] } → as.length = n → Prs xs ys (s.heap.objs.size + 1) h' as →
      acc.toList = as.map Value.ref → Q (.ref s.heap.objs.size) { s with heap := h', toks := tk }) :
    wpAny (model prog w) A (call (.type "list") [.ref z]) Q E s := by
  refine callType_codes (Q₁ := fun obj s1 => obj = .ref s.heap.objs.size ∧ s1 = { s with heap := s.heap.push { cls := .type "list", data := .seq #[] } }) PySem.F.called_list (PySem.F.typeCall_list_1 _) PySem.F.entry_list_init
    (code_list_new _ ⟨rfl, rfl⟩) fun obj s1 h1 => ?_
  obtain ⟨rfl, rfl⟩ := h1
  have hS : (s.heap.push { cls := .type "list", data := .seq #[] }).get? s.heap.objs.size = some { cls := .type "list", data := .seq #[] } := Heap.get?_push_size _ rfl
  have O : ZOff z TI TO i1 i2 l1 l2 s.heap.objs.size := ⟨Nat.ne_of_gt lz.1, Nat.ne_of_gt lz.2.1, Nat.ne_of_gt lz.2.2.1, Nat.ne_of_gt lz.2.2.2.1, Nat.ne_of_gt lz.2.2.2.2.1, Nat.ne_of_gt lz.2.2.2.2.2.1, Nat.ne_of_gt lz.2.2.2.2.2.2⟩
  have ps : (s.heap.push { cls := .type "list", data := .seq #[] }).objs.size = s.heap.objs.size + 1 := Heap.size_push _ _
  refine ⟨⟨_, hS, rfl⟩, PySem.F.args_list_init_2 _ _, z_init (n := n) (A := A.in1) hh (Heap.get?_push_of_some _ hz) ((Z _ (Nat.le_refl _)).keep O fun b o _ q => Heap.get?_push_of_some _ q) O ?_ hnx hny hn hS (fun h' tk acc c as hk hS' hl hG ha => ?_)⟩
  · show _ ∧ _
    rw [ps]
    exact ⟨Nat.lt_succ_of_lt lz.1, Nat.lt_succ_of_lt lz.2.2.1, Nat.lt_succ_of_lt lz.2.2.2.1, Nat.lt_succ_of_lt lz.2.2.2.2.1⟩
  · dsimp only at hG
    rw [ps] at hG
    exact ⟨rfl, hQ h' tk acc c as (fun b o b2 q => hk b o (Nat.ne_of_lt (Heap.lt_size q)) b2 (Heap.get?_push_of_some _ q)) hS' hl hG ha⟩
end
end DLZ
end
section
/-! The D-layer: list(zip(a, b)) in the layer. -/
namespace DLZ
open PySem PySem.Spec PyProof.Rows L2 DL
/-- pairs at addresses -/
def putP : Hp → List Addr → List (V × V) → Hp
  | H, a :: as, p :: ps => putP (upd H a (.tup [p.1, p.2])) as ps
  | H, _, _ => H
theorem putP_off {b : Addr} : ∀ (as : List Addr) (ps : List (V × V)) (H : Hp), b ∉ as → putP H as ps b = H b
  | [], _, _, _ => rfl
  | _ :: _, [], _, _ => rfl
  | a :: as, p :: ps, H, h => by
    have n1 : b ≠ a := fun z => h (z ▸ List.mem_cons_self)
    exact (putP_off as ps (upd H a (.tup [p.1, p.2])) fun z => h (List.mem_cons_of_mem _ z)).trans (upd_ne n1)
theorem putP_at : ∀ (as : List Addr) (ps : List (V × V)) (H : Hp), as.Nodup → ∀ (j : Nat) (a : Addr) (p : V × V), as[j]? = some a → ps[j]? = some p → putP H as ps a = some (.tup [p.1, p.2])
  | [], _, _, _, j, a, p, h, _ => by simp at h
  | b :: as, [], _, _, j, a, p, _, h => by simp at h
  | b :: as, q :: ps, H, nd, 0, a, p, h1, h2 => by
    have e1 : b = a := by simpa using h1
    have e2 : q = p := by simpa using h2
    subst e1 e2
    exact (putP_off as ps _ (List.nodup_cons.mp nd).1).trans upd_same
  | b :: as, q :: ps, H, nd, j + 1, a, p, h1, h2 => putP_at as ps _ (List.nodup_cons.mp nd).2 j a p (by simpa using h1) (by simpa using h2)
theorem refs_vals : ∀ as : List Addr, Vals (as.map V.ref) (as.map Value.ref)
  | [] => .nil
  | _ :: as => .cons rfl (refs_vals as)
section
variable {X : Cx}
theorem pairs_laid {pins : List (Addr × Obj)} {σ : L2.St} {H : Hp} {s : Shared} {h' : Heap} {tk : Nat} {p lo : Addr} {xs ys : List V} {us ws : List Value} {acc : Array Value} {c : Nat} {as : List Addr} (I : Inv X pins σ H s) (hz : as.length ≤ sizeLine) (rx : Vals xs us) (ry : Vals ys ws) (hxy : xs.length = ys.length) (hal : as.length = xs.length)
    (hk : ∀ b o, s.heap.get? b = some o → h'.get? b = some o) (hp : s.heap.objs.size ≤ p) (hlo : p < lo) (hS : h'.get? p = some { cls := .type "list", dict := none, data := .seq acc c, slots := #[] }) (G : Prs us.toArray ws.toArray lo h' as) (hacc : acc.toList = as.map Value.ref) :
    Inv X pins σ (putP (upd H p (.lst (as.map V.ref))) as (xs.zip ys)) { s with heap := h', toks := tk } ∧ H p = none ∧ (∀ a ∈ as, H a = none) ∧ p ∉ as ∧ as.Nodup := by
  have nd : as.Nodup := List.Pairwise.imp (fun {a b} (h : a < b) => Nat.ne_of_lt h) G.rise
  have np : p ∉ as := fun z => absurd (G.above p z) (Nat.not_le_of_lt hlo)
  have new : ∀ a ∈ as, H a = none := fun a ha => I.hok.fresh (Nat.le_trans hp (Nat.le_of_lt (Nat.lt_of_lt_of_le hlo (G.above a ha))))
  have newp : H p = none := I.hok.fresh hp
  have off : ∀ b, b ∉ as → b ≠ p → putP (upd H p (.lst (as.map V.ref))) as (xs.zip ys) b = H b := fun b h1 h2 => (putP_off as _ _ h1).trans (upd_ne h2)
  have low : ∀ b o, s.heap.get? b = some o → b ∉ as ∧ b ≠ p := fun b o e => by
    have lt := Nat.lt_of_lt_of_le (Heap.lt_size e) hp
    exact ⟨fun z => absurd (G.above b z) (Nat.not_le_of_lt (Nat.lt_trans lt hlo)), Nat.ne_of_lt lt⟩
  have kp : ∀ b u, H b = some u → putP (upd H p (.lst (as.map V.ref))) as (xs.zip ys) b = some u := fun b u e => by
    rw [off b (fun z => by rw [new b z] at e; cases e) (fun z => by rw [z, newp] at e; cases e)]
    exact e
  have eS : putP (upd H p (.lst (as.map V.ref))) as (xs.zip ys) p = some (.lst (as.map V.ref)) := (putP_off as _ _ np).trans upd_same
  refine ⟨I.call' (ch := []) rfl ⟨fun b o q _ _ _ => hk b o q, fun b o q _ _ _ => ⟨o.slots, hk b o q⟩, fun b o q n _ => ?_, fun b o q _ => ⟨o, hk b o q⟩, fun b xs q => kp b _ q, fun b o u q => kp b _ q, fun b ps q => ⟨#[], by rw [kp b _ q]; simp⟩⟩ (fun b u q => ?_) I.bare fun b z => by simp at z, newp, new, np, nd⟩
  · obtain ⟨z1, z2⟩ := low b o q
    rw [off b z1 z2]
    exact n
  · by_cases hb : b ∈ as
    · obtain ⟨j, hj⟩ := List.mem_iff_getElem?.mp hb
      obtain ⟨x, y, e1, e2, e3⟩ := G.pairs j b hj
      have ljx : j < xs.length := by
        rw [← hal]
        exact (List.getElem?_eq_some_iff.mp hj).1
      have hpj : (xs.zip ys)[j]? = some (xs[j], ys[j]'(by omega)) := by
        rw [List.getElem?_eq_getElem (by rw [List.length_zip]; omega), List.getElem_zip]
      rw [putP_at as _ _ nd j b _ hj hpj] at q
      cases q
      obtain ⟨u1, f1, r1⟩ := rx.get (i := j) (x := xs[j]) (List.getElem?_eq_getElem ljx)
      obtain ⟨u2, f2, r2⟩ := ry.get (i := j) (x := ys[j]'(by omega)) (List.getElem?_eq_getElem (by omega))
      have g1 : u1 = x := by
        have z : us[j]? = some x := by simpa using e1
        rw [f1] at z
        exact Option.some.inj z
      have g2 : u2 = y := by
        have z : ws[j]? = some y := by simpa using e2
        rw [f2] at z
        exact Option.some.inj z
      subst g1 g2
      exact ⟨by show 2 ≤ sizeLine; decide, [u1, u2], .cons r1 (.cons r2 .nil), ⟨_, e3, rfl, _, rfl⟩⟩
    · by_cases hb2 : b = p
      · subst hb2
        rw [eS] at q
        cases q
        refine ⟨by rw [List.length_map]; exact hz, acc.toList, c, by rw [hacc]; exact refs_vals as, ?_⟩
        rw [Array.toArray_toList]
        exact hS
      · rw [off b hb hb2] at q
        exact (I.hok b u q).stay (fun d v _ y => hk d v y) (fun d y => kp d _ y) fun d xs y => kp d _ y
/-- list(zip(a, b)), a and b tuples of one length -/
def tLZ (K : PySem.W.Frag) (t : TA) : TE := fun σ H Q => t σ H fun vs H1 => ∃ (a b : Addr) (xs ys : List V), vs = [.ref a, .ref b] ∧ SqT K H1 a xs ∧ SqT K H1 b ys ∧ xs.length = ys.length ∧ xs.length ≤ sizeLine ∧
  ∀ (p : Addr) (as : List Addr), H1 p = none → (∀ t ∈ as, H1 t = none) → p ∉ as → as.Nodup → as.length = xs.length → Q (.ref p) (putP (upd H1 p (.lst (as.map V.ref))) as (xs.zip ys))
theorem zapart (n a b : Nat) (la : a < n) (lb : b < n) : ZipApart (n + 4) (n + 2) (n + 3) n (n + 1) a b := by
  constructor <;> exact (show (_ : Nat) ≠ _ by omega)
theorem pe_lz {es : List Expr} {e : Expr} {t : TA} {p p2 q pos : Pos} (hc : X.calm = true) (hg : Gl X "list") (hm : X.mg "list" = none) (hg2 : Gl X "zip") (hm2 : X.mg "zip" = none) (ha : PA X (e :: es) t)
    (hv : bootBuiltins "list" = some (.type "list")) (hv2 : bootBuiltins "zip" = some (.type "zip")) (he : starEach (e :: es) X.env = (false, eval e X.env) :: starEach es X.env := by rfl) (hpl : (backTo q (starEach es X.env)).any (·.1) = false := by rfl)
    (na : starEach [.Call (.Name "zip" p2) (e :: es) [] q] X.env = (false, eval (.Call (.Name "zip" p2) (e :: es) [] q) X.env) :: starEach [] X.env := by rfl) :
    PE X (.Call (.Name "list" p) [.Call (.Name "zip" p2) (e :: es) [] q] [] pos) (tLZ X.K t) := by
  refine ⟨fun pins s σ H Q I h => ?_⟩
  refine Call_ (ld_blt I hg hm hv ?_)
  refine PyProof.Rows.callWith_type1 (PyProof.Rows.args_cons ?_ na) na rfl
  refine Call_ (ld_blt I hg2 hm2 hv2 ?_)
  refine PyProof.Rows.callWith_type1 ?_ he hpl
  refine thn (ha.run q pins s σ H _ I h) fun us s1 ⟨vs, H1, I1, r, a, b, xs, ys, e1, h1, h2, hl, hn, qq⟩ => ?_
  subst e1
  obtain ⟨its1, rx, t1, z1⟩ := I1.tuple h1
  obtain ⟨its2, ry, t2, z2⟩ := I1.tuple h2
  cases r with
  | cons ra rr =>
    cases rr with
    | cons rb r3 =>
      cases r3
      cases ra
      cases rb
      have la : a < s1.heap.objs.size := let ⟨o, ho, _⟩ := t1; Heap.lt_size ho
      have lb : b < s1.heap.objs.size := let ⟨o, ho, _⟩ := t2; Heap.lt_size ho
      refine RZ.call_zipT t1 t2 fun h' zz pi po j1 j2 sz k => ?_
      refine PyProof.Rows.args_nil ?_
      have D := zapart s1.heap.objs.size a b la lb
      have five : ∀ c, c < s1.heap.objs.size → Off (s1.heap.objs.size + 4) (s1.heap.objs.size + 3) s1.heap.objs.size (s1.heap.objs.size + 1) c := fun c lt =>
        ⟨Nat.ne_of_lt (Nat.lt_add_right 4 lt), Nat.ne_of_lt (Nat.lt_add_right 3 lt), Nat.ne_of_lt lt, Nat.ne_of_lt (Nat.lt_add_right 1 lt)⟩
      have l1 := rx.length
      have l2 := ry.length
      refine z_call (n := xs.length) (s := { s1 with heap := h' }) (xs := its1.toArray) (ys := its2.toArray) (I1.ok.hd hc) zz (fun S hS => ⟨D, pi, j1, j2, Heap.IsTuple.at t1 fun o z => k _ _ z, Heap.IsTuple.at t2 fun o z => k _ _ z, .inl ⟨zz, _, _, po⟩⟩) ?_ (by rw [List.size_toArray, ← l1]) (by rw [List.size_toArray, ← l2, hl]) hn fun h'' tk acc c as kk hS hal G hacc => ?_
      · show (_ : Nat) < h'.objs.size ∧ (_ : Nat) < h'.objs.size ∧ (_ : Nat) < h'.objs.size ∧ (_ : Nat) < h'.objs.size ∧ (_ : Nat) < h'.objs.size ∧ (_ : Nat) < h'.objs.size ∧ (_ : Nat) < h'.objs.size
        rw [sz]
        have la' : (a : Nat) < s1.heap.objs.size := la
        have lb' : (b : Nat) < s1.heap.objs.size := lb
        have z5 : (s1.heap.objs.size : Nat) < s1.heap.objs.size + 5 := by omega
        exact ⟨by omega, by omega, by omega, z5, by omega, Nat.lt_trans la' z5, Nat.lt_trans lb' z5⟩
      · dsimp only at kk hS G ⊢
        obtain ⟨J, n1, n2, n3, n4⟩ := pairs_laid (p := h'.objs.size) (lo := h'.objs.size + 1) (tk := tk) I1 (by rw [hal]; exact hn) rx ry hl hal (fun c' o z => kk c' o (five c' (Heap.lt_size z)) (k _ _ z)) (by rw [sz]; exact Nat.le_add_right _ 5) (Nat.lt_succ_self _) hS G hacc
        exact ⟨.ref _, _, J, rfl, qq _ as n1 n2 n3 n4 hal⟩
end
def dListZip (t : DTA) : DTE := fun ε S Q => t ε S fun ds S1 => ∃ xs ys, ds = [.tup xs, .tup ys] ∧ xs.length = ys.length ∧ xs.length ≤ sizeLine ∧ ∀ p, S1 p = none → Q (.ref p) (put S1 p (.lst (List.zipWith (fun x y => D.tup [x, y]) xs ys)))
theorem putP_is {M : Md} {H : Hp} : ∀ {as : List Addr} {vs us : List V} {xs ys : List D}, as.Nodup → as.length = vs.length → (∀ a ∈ as, H a = none) → IsL M H vs xs → IsL M H us ys → vs.length = us.length →
    TLe H (putP H as (vs.zip us)) ∧ IsL M (putP H as (vs.zip us)) (as.map V.ref) (List.zipWith (fun x y => D.tup [x, y]) xs ys)
  | [], vs, us, xs, ys, _, hl, _, h1, h2, _ => by
    cases vs with
    | nil =>
      cases xs with
      | nil => exact ⟨TLe.refl H, rfl⟩
      | cons x xs => obtain ⟨_, _, e, _⟩ := h1; cases e
    | cons v vs => cases hl
  | a :: as, [], us, xs, ys, _, hl, _, h1, h2, _ => by cases hl
  | a :: as, v :: vs, [], xs, ys, _, hl, _, h1, h2, hu => by cases hu
  | a :: as, v :: vs, u :: us, xs, ys, nd, hl, hn, h1, h2, hu => by
    cases xs with
    | nil => cases (show v :: vs = [] from h1)
    | cons x xs =>
      cases ys with
      | nil => cases (show u :: us = [] from h2)
      | cons y ys =>
        obtain ⟨v', r, e1, i1, j1⟩ := h1
        obtain ⟨u', r2, e2, i2, j2⟩ := h2
        cases e1
        cases e2
        have nd' := List.nodup_cons.mp nd
        have t0 : TLe H (upd H a (.tup [v, u])) := TLe.new (hn a List.mem_cons_self)
        obtain ⟨t1, l1⟩ := putP_is (H := upd H a (.tup [v, u])) (as := as) nd'.2 (Nat.succ.inj hl) (fun b hb => (upd_ne (fun z : b = a => nd'.1 (by rw [← z]; exact hb))).trans (hn b (List.mem_cons_of_mem _ hb))) (IsL.mono t0 j1) (IsL.mono t0 j2) (Nat.succ.inj hu)
        refine ⟨t0.trans t1, IsL.cons ?_ l1⟩
        exact Is.mono t1 (Is.tn (IsL.cons (Is.mono t0 i1) (IsL.cons (Is.mono t0 i2) IsL.nil)))
section
variable {X : Cx}
theorem rp_keep {M : Md} {H H' : Hp} {S : Sto} (h : Rp M H S) (t : TLe H H') (k : ∀ a o, S a ≠ none → H a = some o → H' a = some o) : Rp M H' S := fun a c e => (h a c e).keep t fun o q => k a o (by rw [e]; exact fun z => by cases z) q
theorem de_listzip {es : List Expr} {e : Expr} {t : DTA} {p p2 q pos : Pos} (hc : X.calm = true) (hg : Gl X "list") (hm : X.mg "list" = none) (hg2 : Gl X "zip") (hm2 : X.mg "zip" = none) (ha : DA X (e :: es) t)
    (hv : bootBuiltins "list" = some (.type "list") := by decide +kernel) (hv2 : bootBuiltins "zip" = some (.type "zip") := by decide +kernel) (he : starEach (e :: es) X.env = (false, eval e X.env) :: starEach es X.env := by rfl) (hpl : (backTo q (starEach es X.env)).any (·.1) = false := by rfl)
    (na : starEach [.Call (.Name "zip" p2) (e :: es) [] q] X.env = (false, eval (.Call (.Name "zip" p2) (e :: es) [] q) X.env) :: starEach [] X.env := by rfl) :
    DE X (.Call (.Name "list" p) [.Call (.Name "zip" p2) (e :: es) [] q] [] pos) (dListZip t) := by
  obtain ⟨t1, a1, a2⟩ := ha.ex
  refine ⟨_, pe_lz hc hg hm hg2 hm2 a1 hv hv2 he hpl na, fun σ H ε S Q he hr q Q2 k => ?_⟩
  refine a2 σ H ε S _ he hr q _ fun vs H1 ds S1 l1 r1 p1 ⟨xs, ys, e1, e2, e3, q1⟩ => ?_
  subst e1
  obtain ⟨v, u, rfl, i1, i2⟩ := r1.two
  obtain ⟨a, us, rfl, sa, la⟩ := i1
  obtain ⟨b, ws, rfl, sb, lb⟩ := i2
  have hl : us.length = ws.length := by rw [la.length, lb.length]; exact e2
  refine ⟨a, b, us, ws, rfl, sa.sq, sb.sq, hl, by rw [la.length]; exact e3, fun p as n1 n2 n3 n4 n5 => ?_⟩
  have t0 : TLe H1 (upd H1 p (.lst (as.map V.ref))) := TLe.new n1
  obtain ⟨t2, l2⟩ := putP_is (H := upd H1 p (.lst (as.map V.ref))) n4 n5 (fun c hc => (upd_ne (fun z : c = p => n3 (by rw [← z]; exact hc))).trans (n2 c hc)) (IsL.mono t0 la) (IsL.mono t0 lb) hl
  have ep : putP (upd H1 p (.lst (as.map V.ref))) as (us.zip ws) p = some (.lst (as.map V.ref)) := (putP_off as _ _ n3).trans upd_same
  refine k _ _ _ _ (l1.trans (t0.trans t2)) Is.r (fun c d e => ?_) (q1 p (p1.free n1))
  by_cases hcp : c = p
  · subst hcp
    rw [put_same] at e
    cases e
    exact ⟨_, ep, l2⟩
  · rw [put_ne hcp] at e
    refine (p1 c d e).keep (t0.trans t2) fun o z => ?_
    have nc : c ∉ as := fun y => by rw [n2 c y] at z; cases z
    exact (putP_off as _ _ nc).trans ((upd_ne hcp).trans z)
end
end DLZ
end
section
/-! The D-layer: more steps through a reading. -/
namespace DL
open PySem PySem.Spec PyProof.Rows L2
theorem i_cdG {ta tb : DTE} {ε : Env} {S : Sto} {Q : DK} (h : ta ε S fun x S1 => ∃ ks vs, x = .cd ks vs ∧ tb ε S1 fun y S2 => okK ks y = true ∧ ∃ z, (cdLook ks vs y).getD .non = z ∧ Q z S2) : dCdGet ta tb ε S Q := by
  have e : (fun x S1 => ∃ ks vs, x = D.cd ks vs ∧ tb ε S1 fun y S2 => okK ks y = true ∧ ∃ z, (cdLook ks vs y).getD .non = z ∧ Q z S2) = fun x S1 => ∃ ks vs, x = D.cd ks vs ∧ tb ε S1 fun y S2 => okK ks y = true ∧ Q ((cdLook ks vs y).getD .non) S2 := by
    funext x S1
    refine propext ⟨fun ⟨ks, vs, a, b⟩ => ⟨ks, vs, a, ?_⟩, fun ⟨ks, vs, a, b⟩ => ⟨ks, vs, a, ?_⟩⟩
    · have e2 : (fun y S2 => okK ks y = true ∧ ∃ z, (cdLook ks vs y).getD .non = z ∧ Q z S2) = fun y S2 => okK ks y = true ∧ Q ((cdLook ks vs y).getD .non) S2 := by
        funext y S2
        exact propext ⟨fun ⟨o, z, h1, h2⟩ => ⟨o, h1 ▸ h2⟩, fun ⟨o, h⟩ => ⟨o, _, rfl, h⟩⟩
      rw [← e2]; exact b
    · have e2 : (fun y S2 => okK ks y = true ∧ ∃ z, (cdLook ks vs y).getD .non = z ∧ Q z S2) = fun y S2 => okK ks y = true ∧ Q ((cdLook ks vs y).getD .non) S2 := by
        funext y S2
        exact propext ⟨fun ⟨o, z, h1, h2⟩ => ⟨o, h1 ▸ h2⟩, fun ⟨o, h⟩ => ⟨o, _, rfl, h⟩⟩
      rw [e2]; exact b
  unfold dCdGet
  rw [← e]
  exact h
theorem flatL_strs : ∀ xs : List Str, flatL (xs.map D.str) = some (xs.map V.str)
  | [] => rfl
  | x :: xs => by
    rw [List.map_cons, List.map_cons]
    show (match scV (D.str x), flatL (xs.map D.str) with | some v, some vs => some (v :: vs) | _, _ => none) = _
    rw [flatL_strs xs]
    rfl
theorem inV_strs (x : Str) (xs : List Str) : inV (V.str x) (xs.map V.str) = decide (x ∈ xs) := by
  unfold inV
  rw [List.any_map, Bool.eq_iff_iff, List.any_eq_true, decide_eq_true_iff]
  constructor
  · rintro ⟨y, hy, e⟩
    have e : y = x := by simpa [eqV] using e
    exact e ▸ hy
  · intro h
    exact ⟨x, h, by simp [eqV]⟩
section
variable {x : Str} {xs : List Str} {a : Addr} {S : Sto} {Q : DK}
theorem i_inTs (h : Q (.bl (decide (x ∈ xs))) S) : oIn (.str x) (.tup (xs.map .str)) S Q := i_inT rfl (flatL_strs xs) (by rw [inV_strs]; exact h)
theorem i_niTs (h : Q (.bl (!decide (x ∈ xs))) S) : oNotIn (.str x) (.tup (xs.map .str)) S Q := i_niT rfl (flatL_strs xs) (by rw [inV_strs]; exact h)
theorem i_inRs (es : S a = some (.lst (xs.map .str))) (h : Q (.bl (decide (x ∈ xs))) S) : oIn (.str x) (.ref a) S Q := i_inR es rfl (flatL_strs xs) (by rw [inV_strs]; exact h)
theorem i_niRs (es : S a = some (.lst (xs.map .str))) (h : Q (.bl (!decide (x ∈ xs))) S) : oNotIn (.str x) (.ref a) S Q := i_niR es rfl (flatL_strs xs) (by rw [inV_strs]; exact h)
theorem atI0 {α : Type} {x : α} {xs : List α} : L2.atI (x :: xs) 0 = some x := by
  unfold L2.atI
  have e : ixN (x :: xs).length 0 = some 0 := by
    unfold ixN
    rw [if_pos (by omega), List.length_cons, if_pos (by omega)]
    rfl
  rw [e]
  rfl
theorem i_ix0 {y : D} {ys : List D} (h : Q y S) : ixA (.tup (y :: ys)) (.int 0) S Q := i_ixT atI0 h
end
theorem any_keq (ns : List Str) (x : Str) : ((ns.map D.str).any fun d => keq d (.str x)) = decide (x ∈ ns) := by
  rw [List.any_map, Bool.eq_iff_iff, List.any_eq_true, decide_eq_true_iff]
  constructor
  · rintro ⟨y, hy, e⟩
    have e : y = x := by simpa [keq] using e
    exact e ▸ hy
  · intro h
    exact ⟨x, h, by simp [keq]⟩
/-- told once -/
def putS (ns : List Str) (x : Str) : List Str := if x ∈ ns then ns else ns ++ [x]
theorem putD_str (ns : List Str) (x : Str) : putD (ns.map D.str) (.str x) = (putS ns x).map D.str := by
  unfold putD putS
  rw [any_keq]
  by_cases h : x ∈ ns
  · rw [decide_eq_true h, if_pos rfl, if_pos h]
  · rw [decide_eq_false h, if_neg (by decide), if_neg h, List.map_append]
    rfl
theorem putS_nodup {ns : List Str} (h : ns.Nodup) (x : Str) : (putS ns x).Nodup := by
  unfold putS
  split
  · exact h
  · rename_i n
    rw [List.nodup_append]
    exact ⟨h, by simp, fun a ha b hb e => by rw [List.mem_singleton] at hb; subst hb; subst e; exact n ha⟩
theorem putS_mem {ns : List Str} {x y : Str} : y ∈ putS ns x ↔ y ∈ ns ∨ y = x := by
  unfold putS
  split
  · rename_i h
    exact ⟨.inl, fun e => e.elim id fun e => e ▸ h⟩
  · simp
theorem putS_len {ns : List Str} {x : Str} : (putS ns x).length ≤ ns.length + 1 := by
  unfold putS
  split
  · omega
  · simp
theorem foldl_putS : ∀ (xs ns : List Str), (xs.map D.str).foldl putD (ns.map D.str) = (xs.foldl putS ns).map D.str
  | [], ns => rfl
  | x :: xs, ns => by
    rw [List.map_cons, List.foldl_cons, List.foldl_cons, putD_str]
    exact foldl_putS xs (putS ns x)
theorem foldl_nodup : ∀ (xs : List Str) {ns : List Str}, ns.Nodup → (xs.foldl putS ns).Nodup
  | [], _, h => h
  | x :: xs, _, h => foldl_nodup xs (putS_nodup h x)
theorem foldl_mem : ∀ (xs : List Str) {ns : List Str} {y : Str}, y ∈ xs.foldl putS ns ↔ y ∈ ns ∨ y ∈ xs
  | [], ns, y => by simp
  | x :: xs, ns, y => by
    rw [List.foldl_cons, foldl_mem xs, putS_mem, List.mem_cons, or_assoc]
theorem foldl_len : ∀ (xs : List Str) {ns : List Str}, (xs.foldl putS ns).length ≤ ns.length + xs.length
  | [], ns => by simp
  | x :: xs, ns => by
    rw [List.foldl_cons]
    have := foldl_len xs (ns := putS ns x)
    have := putS_len (ns := ns) (x := x)
    rw [List.length_cons]
    omega
theorem lePut {S0 S : Sto} {p : Addr} {c : Cell} (h : Le S0 S) (n : S0 p = none) : Le S0 (put S p c) := fun a d e => by
  by_cases q : a = p
  · subst q; rw [n] at e; cases e
  · rw [put_ne q]; exact h a d e
theorem lePut2 {S0 S : Sto} {p : Addr} {c : Cell} (h : Le S0 S) : Le (put S0 p c) (put S p c) := fun a d e => by
  by_cases q : a = p
  · subst q; rw [put_same] at e ⊢; exact e
  · rw [put_ne q] at e ⊢; exact h a d e
theorem nilOrApp {α : Type} (l : List α) : l = [] ∨ ∃ r i, l = r ++ [i] := by
  rcases List.eq_nil_or_concat l with h | ⟨r, i, h⟩
  · exact .inl h
  · exact .inr ⟨r, i, by rw [h, List.concat_eq_append]⟩
theorem log2S {n : Nat} (h : n < 2 ^ 100) : n.log2 < 100 := by
  by_cases e : n = 0
  · subst e; decide
  · exact (Nat.log2_lt e).mpr h
theorem cmulS {i j : Int} (hi : i.natAbs < 2 ^ 100) (hj : j.natAbs < 2 ^ 100) : CMulW i j := by
  have := log2S hi
  have := log2S hj
  unfold CMulW
  omega
section
variable {a b : Int} {S : Sto} {Q : DK}
theorem i_modB (hb : 0 < b) (h : ∀ r, 0 ≤ r → r < b → r = a % b → Q (.int r) S) : oMod (.int a) (.int b) S Q :=
  i_intC hb (h _ (Int.emod_nonneg _ (by omega)) (Int.emod_lt_of_pos _ hb) rfl)
theorem i_mulS (ha : a.natAbs < 2 ^ 100) (hb : b.natAbs < 2 ^ 100) (h : Q (.int (a * b)) S) : oMul (.int a) (.int b) S Q := i_intC (cmulS ha hb) h
theorem i_divS (h0 : 0 < b) (hb : b.natAbs < 2 ^ 100) (h : Q (.int (a / b)) S) : oDiv (.int a) (.int b) S Q := by
  have := log2S hb
  exact i_intC ⟨h0, by omega⟩ h
end
theorem atI_nat {α : Type} {xs : List α} {i : Int} (h0 : 0 ≤ i) (h1 : i < xs.length) : ∃ x ∈ xs, L2.atI xs i = some x := by
  have e : ixN xs.length i = some i.toNat := by
    unfold ixN
    rw [if_pos h0, if_pos h1]
  have hl : i.toNat < xs.length := by omega
  refine ⟨xs[i.toNat], List.getElem_mem hl, ?_⟩
  unfold L2.atI
  rw [e]
  exact List.getElem?_eq_getElem hl
theorem i_ixRs {a : Addr} {xs : List Str} {i : Int} {S : Sto} {Q : DK} (es : S a = some (.lst (xs.map .str))) (h0 : 0 ≤ i) (h1 : i < xs.length) (h : ∀ x ∈ xs, Q (.str x) S) : ixA (.ref a) (.int i) S Q := by
  obtain ⟨x, hx, e⟩ := atI_nat (xs := xs.map D.str) h0 (by rw [List.length_map]; exact h1)
  obtain ⟨y, hy, rfl⟩ := List.mem_map.mp hx
  exact i_ixR es e (h y hy)
theorem i_ixSc {s : Str} {i : Int} {S : Sto} {Q : DK} (z : s.length ≤ sizeLine) (h0 : 0 ≤ i) (h1 : i < s.cps.toList.length) (h : ∀ c, Q (.str ⟨#[c]⟩) S) : ixA (.str s) (.int i) S Q := by
  obtain ⟨c, _, e⟩ := atI_nat (xs := s.cps.toList) h0 h1
  exact i_ixS z e (h c)
end DL
end
section
/-! The head run, part 1: runs of a piece of the top, told without the machine's steps. -/
namespace HR
open PySem PySem.W PySem.Calls PyProof.Rows HandSHeadRun
/-- where a run stands; ks: the keys put so far, m: the steps at most -/
structure At where
  s : SharedT
  c : Code
  p : Pos
  ks : List (Addr × Obj)
  m : Nat
section
variable (tb : String → Option Builtin) (P : Program) (w : World) (n0 : Nat) (ann : Option Value) (q : Pos)
/-- t, run from x, gives a and leaves y, in at most X steps -/
def Go {α : Type} (gd : Bool → Bool) (lv : List Value → List Value) (X : Nat) (t : Sem α) (x : At) (a : α) (y : At) : Prop :=
  ∀ (K : α → Sem Fin) (H : Value → Sem Fin) (N : Nat) (r : Shared), topRun tb P w n0 ann N y.s.abs ⟨K a, y.c, y.p, [topFrame q]⟩ = some r →
    topRun tb P w n0 ann (X + N) x.s.abs ⟨t.wrap K H gd lv, x.c, x.p, [topFrame q]⟩ = some r
end
section
variable {tb : String → Option Builtin} {P : Program} {w : World} {n0 : Nat} {ann : Option Value} {q : Pos} {α β : Type} {gd : Bool → Bool} {lv : List Value → List Value}
theorem Go.mono {X X' : Nat} {t : Sem α} {x y : At} {a : α} (h : Go tb P w n0 ann q gd lv X t x a y) (le : X ≤ X') : Go tb P w n0 ann q gd lv X' t x a y := fun K H N r k => by
  have e := topRun_mono (X' - X) _ _ _ _ (h K H N r k)
  rw [show X + N + (X' - X) = X' + N by omega] at e
  exact e
theorem go_pure {a : α} {x : At} : Go tb P w n0 ann q gd lv 0 (pure a) x a x := fun K H N r k => by
  rw [Nat.zero_add]; exact k
theorem go_bind {X Y : Nat} {t : Sem α} {f : α → Sem β} {x y z : At} {a : α} {b : β} (h : Go tb P w n0 ann q gd lv X t x a y) (g : Go tb P w n0 ann q gd lv Y (f a) y b z) : Go tb P w n0 ann q gd lv (X + Y) (t >>= f) x b z := fun K H N r k => by
  rw [Sem.bind_eq_wrap', Sem.wrap_wrap, Nat.add_assoc]
  exact h (fun a => (f a).wrap K H gd lv) _ (Y + N) r (g K H N r k)
theorem go_keep {X : Nat} {vs : List Value} {t : Sem α} {x y : At} {a : α} (h : Go tb P w n0 ann q gd (fun l => lv (vs ++ l)) X t x a y) : Go tb P w n0 ann q gd lv X (t.keep vs) x a y := fun K H N r k => by
  rw [Sem.keep_eq_wrap, Sem.wrap_wrap]
  exact h K _ N r k
def isRefV : Value → Bool
  | .ref _ => true
  | _ => false
/-- what is held besides -/
def hl (vs : List Value) (lv : List Value → List Value) : List Value → List Value := match vs.filter isRefV with
  | [] => lv
  | r :: rs => fun l => lv ((r :: rs) ++ l)
theorem holding_eq (vs : List Value) (t : Sem α) : holding vs t = match vs.filter isRefV with
  | [] => t
  | r :: rs => t.keep (r :: rs) := by
  unfold holding
  split
  · rename_i e
    rw [show vs.filter isRefV = [] from (List.filter_congr fun v _ => by cases v <;> rfl).trans e]
  · rename_i e
    cases h : vs.filter isRefV with
    | nil => exact (e ((List.filter_congr fun v _ => by cases v <;> rfl).trans h)).elim
    | cons r rs =>
      show t.keep _ = t.keep (r :: rs)
      congr 1
theorem go_holding {X : Nat} {vs : List Value} {t : Sem α} {x y : At} {a : α} (h : Go tb P w n0 ann q gd (hl vs lv) X t x a y) : Go tb P w n0 ann q gd lv X (holding vs t) x a y := by
  rw [holding_eq]
  unfold hl at h
  cases e : vs.filter isRefV with
  | nil => rw [e] at h; exact h
  | cons r rs => rw [e] at h; exact go_keep h
theorem go_onRaise {X : Nat} {t : Sem α} {k : Value → Sem Unit} {x y : At} {a : α} (h : Go tb P w n0 ann q gd lv X t x a y) : Go tb P w n0 ann q gd lv X (t.onRaise k) x a y := fun K H N r k' => by
  rw [Sem.onRaise_eq_wrap, Sem.wrap_wrap]
  exact h K _ N r k'
/-- one step -/
theorem top_step {N : Nat} {s s' r : Shared} {t t' : Thread} (ht : through t = false) (hk : stepOk n0 ann t = true) (hs : step (denote tb) P w s t = .go s' t') (k : topRun tb P w n0 ann N s' t' = some r) : topRun tb P w n0 ann (1 + N) s t = some r := by
  rw [Nat.add_comm]
  unfold topRun
  rw [ht, hk, hs]
  exact k
theorem go_rule {tag : String} {x : At} : Go tb P w n0 ann q gd lv 1 (rule tag) x () x := fun K H N r k => top_step rfl rfl rfl k
theorem go_loadPart {a : Addr} {part : Option Value} {o : Obj} {x : At} (h : x.s.abs.heap.get? a = some o) : Go tb P w n0 ann q gd lv 1 (loadPart a part) x o x := fun K H N r k => by
  obtain ⟨⟨T, n, life, gens, drawn, toks, os⟩, c, p, ks, m⟩ := x
  refine top_step (t' := ⟨K o, c, p, [topFrame q]⟩) rfl rfl ?_ k
  have h2 : (absHeap T n life).get? a = some o := h
  show (match (absHeap T n life).get? a with
    | some o => Step.go ⟨absHeap T n life, gens, drawn, toks, os⟩ ⟨K o, c, p, [topFrame q]⟩
    | none => _) = _
  rw [h2]
  rfl
theorem go_updatePart {a : Addr} {part : Option Value} {f : Obj → Obj} {o : Obj} {x y : At} (h : x.s.abs.heap.get? a = some o) (ha : Nat.ble n0 a = true) (ec : y.c = x.c) (ep : y.p = x.p) (e : y.s.abs = { x.s.abs with heap := x.s.abs.heap.update a f }) :
    Go tb P w n0 ann q gd lv 1 (updatePart a part f) x () y := fun K H N r k => by
  rw [ec, ep, e] at k
  obtain ⟨⟨T, n, life, gens, drawn, toks, os⟩, c, p, ks, m⟩ := x
  refine top_step (t' := ⟨K (), c, p, [topFrame q]⟩) rfl ?_ ?_ k
  · show (true && (((Nat.ble n0 a || _) || _) || _)) = true
    rw [ha]; rfl
  · have h2 : (absHeap T n life).get? a = some o := h
    show (if ((absHeap T n life).get? a).isSome then Step.go ⟨(absHeap T n life).update a f, gens, drawn, toks, os⟩ ⟨K (), c, p, [topFrame q]⟩ else _) = _
    rw [if_pos (by rw [h2]; rfl)]
    rfl
end
/-! ### runs by the machine -/
section
variable (st : SharedT → Thread → Option (SharedT × Thread)) (n0 : Nat) (ann : Option Value)
def segT : Nat → SharedT → Thread → Option (Flow × SharedT × Code × Pos)
  | 0, _, _ => none
  | m + 1, s, t => match endAt 1 t with
    | some f => some (f, s, t.code, t.pos)
    | none => match stepOk n0 ann t with
      | false => none
      | true => match st s t with
        | some (s', t') => frS s' fun s' => segT m s' t'
        | none => none
theorem segT_ok {tb : String → Option Builtin} {p : Program} {w : World} : ∀ {m : Nat} {s : SharedT} {t : Thread} {f : Flow} {s1 : SharedT} {c1 : Code} {p1 : Pos}, segT (stepT (denote tb) p w) n0 ann m s t = some (f, s1, c1, p1) → segRun tb p w n0 ann 1 m s.abs t = some (f, s1.abs, c1, p1)
  | 0, _, _, _, _, _, _, h => by cases h
  | m + 1, s, t, f, s1, c1, p1, h => by
    unfold segT at h
    unfold segRun
    cases he : endAt 1 t with
    | some g => rw [he] at h; cases h; rfl
    | none =>
      rw [he] at h
      cases hk : stepOk n0 ann t with
      | false => rw [hk] at h; cases h
      | true =>
        rw [hk] at h
        cases hs : stepT (denote tb) p w s t with
        | none => rw [hs] at h; cases h
        | some r =>
          obtain ⟨s2, t2⟩ := r
          rw [hs] at h
          have h3 : (frS s2 fun s' => segT (stepT (denote tb) p w) n0 ann m s' t2) = some (f, s1, c1, p1) := h
          rw [frS_eq] at h3
          show (match step (denote tb) p w s.abs t with
            | .go s' t' => segRun tb p w n0 ann 1 m s' t'
            | .halt _ _ => none) = _
          rw [stepT_spec hs]
          exact segT_ok h3
end
/-- results that a run may give -/
structure Enc (α : Type) where
  res : α → Flow
  dec : Flow → Option α
  ok : ∀ f a, dec f = some a → ∀ b, res b = f → b = a
def eV : Enc Value := ⟨.ret, fun f => match f with | .ret v => some v | _ => none, fun f a h b e => by subst e; exact Option.some.inj h⟩
def eU : Enc Unit := ⟨fun _ => .next, fun f => match f with | .next => some () | _ => none, fun f a h b e => rfl⟩
def eF : Enc Flow := ⟨id, some, fun f a h b e => by subst e; exact Option.some.inj h⟩
def eB : Enc Bool := ⟨fun b => .ret (.bool b), fun f => match f with | .ret (.bool b) => some b | _ => none, fun f a h b e => by subst e; exact Option.some.inj h⟩
def eOV : Enc (Option Value) := ⟨fun o => match o with | some v => .ret v | none => .next, fun f => match f with | .ret v => some (some v) | _ => none, fun f a h b e => by
  subst e
  cases b with
  | none => cases h
  | some v => exact Option.some.inj h⟩
section
variable {α : Type}
/-- a sum of numbers, told at once -/
def addN {α : Type} (n k : Nat) (f : Nat → α) : α := frNat n fun m => frNat (m + k) f
theorem addN_eq {α : Type} (n k : Nat) (f : Nat → α) : addN n k f = f (n + k) := by
  unfold addN
  rw [frNat_eq, frNat_eq]
/-- a small number, told at once -/
def frUn {α : Type} : Nat → (Nat → α) → α
  | 0, k => k 0
  | n + 1, k => frUn n fun m => k (m + 1)
theorem frUn_eq {α : Type} : ∀ (n : Nat) (k : Nat → α), frUn n k = k n
  | 0, _ => rfl
  | n + 1, k => by unfold frUn; exact frUn_eq n _
def leaf (st : SharedT → Thread → Option (SharedT × Thread)) (n0 : Nat) (ann : Option Value) (q : Pos) (gd : Bool → Bool) (lv : List Value → List Value) (F : Nat) (E : Enc α) (t : Sem α) (x : At) : Option (α × At) :=
  match segT st n0 ann F x.s ⟨t.wrap (fun a => .pure (.done (E.res a))) deadEnd gd lv, x.c, x.p, [topFrame q]⟩ with
  | some (f, s', c', p') => match E.dec f with
    | some a => addN x.m F fun m => some (a, ⟨s', c', p', x.ks, m⟩)
    | none => none
  | none => none
theorem leaf_ok {tb : String → Option Builtin} {P : Program} {w : World} {n0 : Nat} {ann : Option Value} {q : Pos} {gd : Bool → Bool} {lv : List Value → List Value} {F : Nat} {E : Enc α} {t : Sem α} {x y : At} {a : α}
    (h : leaf (stepT (denote tb) P w) n0 ann q gd lv F E t x = some (a, y)) : Go tb P w n0 ann q gd lv F t x a y ∧ y.ks = x.ks ∧ y.m = x.m + F := by
  unfold leaf at h
  cases e : segT (stepT (denote tb) P w) n0 ann F x.s ⟨t.wrap (fun a => .pure (.done (E.res a))) deadEnd gd lv, x.c, x.p, [topFrame q]⟩ with
  | none => rw [e] at h; cases h
  | some r1 =>
    obtain ⟨f, s1, c1, p1⟩ := r1
    rw [e] at h
    dsimp only at h
    cases d : E.dec f with
    | none => rw [d] at h; cases h
    | some a1 =>
      rw [d] at h
      dsimp only at h
      rw [addN_eq] at h
      cases h
      refine ⟨fun K H N r k => ?_, rfl, rfl⟩
      obtain ⟨b, hb, hN⟩ := seg_top (res := E.res) (K' := K) (H' := H) (B := [topFrame q]) rfl F x.s.abs ⟨t.wrap (fun a => .pure (.done (E.res a))) deadEnd gd lv, x.c, x.p, [topFrame q]⟩ ⟨t.wrap K H gd lv, x.c, x.p, [topFrame q]⟩ f s1.abs c1 p1 ⟨rfl, rfl, .inl ⟨rfl, rfl, t, rfl, rfl⟩⟩ (segT_ok _ _ e)
      have eb := E.ok _ _ d b hb
      subst eb
      exact hN N r k
end
end HR
end
section
/-! The head run, part 2: runs that only read. -/
namespace HR
open PySem PySem.W PySem.Calls PyProof.Rows HandSHeadRun
/-- a step that touches nothing -/
def quietT (t : Thread) : Bool := match t.cur with
  | .pure _ => (match t.stack with
    | .ret .. :: _ => true
    | _ => false)
  | .rule .. | .at .. | .point .. | .ask .. | .call .. | .handled .. | .stack .. | .thread .. => true
  | _ => false
theorem quiet_step {tb : String → Option Builtin} {P : Program} {w : World} {s s1 s2 : Shared} {t t' : Thread} (h : quietT t = true) (e : step (denote tb) P w s1 t = .go s2 t') : step (denote tb) P w s t = .go s t' := by
  obtain ⟨heap, gens, drawn, toks, os⟩ := s
  obtain ⟨heap1, gens1, drawn1, toks1, os1⟩ := s1
  obtain ⟨cur, code, pos, stack⟩ := t
  cases cur with
  | pure f =>
    cases stack with
    | nil => cases h
    | cons fr rest =>
      cases fr with
      | gen => cases h
      | ret k hd g l cd p kept =>
        cases f with
        | done f => simp only [step, Step.go.injEq] at e ⊢; exact ⟨trivial, e.2⟩
        | again c => rw [W.step_again] at e ⊢; simp only [Step.go.injEq] at e ⊢; exact ⟨trivial, e.2⟩
  | rule | «at» | point | ask | call | handled | stack | thread => simp only [step, Step.go.injEq] at e ⊢; exact ⟨trivial, e.2⟩
  | _ => cases h
def loadOf : Sem Fin → Option (Addr × (Obj → Sem Fin))
  | .load a _ k => some (a, k)
  | _ => none
/-- a run that only reads, off g -/
def roT (st : SharedT → Thread → Option (SharedT × Thread)) (sd : SharedT) (n0 : Nat) (ann : Option Value) (g : Addr → Option Obj) : Nat → Thread → Option (Flow × Code × Pos)
  | 0, _ => none
  | m + 1, t => match endAt 1 t with
    | some f => some (f, t.code, t.pos)
    | none => match stepOk n0 ann t with
      | false => none
      | true => match loadOf t.cur with
        | some (a, k) => match g a with
          | some o => roT st sd n0 ann g m ⟨k o, t.code, t.pos, t.stack⟩
          | none => none
        | none => match quietT t with
          | false => none
          | true => match st sd t with
            | some (_, t') => roT st sd n0 ann g m t'
            | none => none
theorem loadOf_some {x : Sem Fin} {a : Addr} {k : Obj → Sem Fin} (h : loadOf x = some (a, k)) : ∃ p, x = .load a p k := by
  cases x <;> first | (cases h; exact ⟨_, rfl⟩) | cases h
theorem roT_ok {tb : String → Option Builtin} {p : Program} {w : World} {sd : SharedT} {n0 : Nat} {ann : Option Value} {g : Addr → Option Obj} {s : Shared} (hg : ∀ a o, g a = some o → s.heap.get? a = some o) :
    ∀ {m : Nat} {t : Thread} {f : Flow} {c : Code} {pos : Pos}, roT (stepT (denote tb) p w) sd n0 ann g m t = some (f, c, pos) → segRun tb p w n0 ann 1 m s t = some (f, s, c, pos)
  | 0, _, _, _, _, h => by cases h
  | m + 1, t, f, c, pos, h => by
    unfold roT at h
    unfold segRun
    cases he : endAt 1 t with
    | some u => rw [he] at h; cases h; rfl
    | none =>
      rw [he] at h
      cases hk : stepOk n0 ann t with
      | false => rw [hk] at h; cases h
      | true =>
        rw [hk] at h
        dsimp only at h ⊢
        cases hl : loadOf t.cur with
        | some ak =>
          obtain ⟨a, k⟩ := ak
          rw [hl] at h
          dsimp only at h
          obtain ⟨pt, hc⟩ := loadOf_some hl
          cases ho : g a with
          | none => rw [ho] at h; cases h
          | some o =>
            rw [ho] at h
            have e : step (denote tb) p w s t = .go s ⟨k o, t.code, t.pos, t.stack⟩ := by
              obtain ⟨heap, gens, drawn, toks, os⟩ := s
              obtain ⟨cur, code, pos, stack⟩ := t
              have hc2 : cur = .load a pt k := hc
              subst hc2
              have h2 : heap.get? a = some o := hg a o ho
              show (match heap.get? a with
                | some o => Step.go ⟨heap, gens, drawn, toks, os⟩ ⟨k o, code, pos, stack⟩
                | none => _) = _
              rw [h2]
            rw [e]
            exact roT_ok hg h
        | none =>
          rw [hl] at h
          dsimp only at h
          cases hq : quietT t with
          | false => rw [hq] at h; cases h
          | true =>
            rw [hq] at h
            dsimp only at h
            cases hs : stepT (denote tb) p w sd t with
            | none => rw [hs] at h; cases h
            | some r =>
              obtain ⟨s2, t2⟩ := r
              rw [hs] at h
              rw [quiet_step (s := s) hq (stepT_spec hs)]
              exact roT_ok hg h
/-- what is read, told for all places -/
def RoIs {α : Type} (st : SharedT → Thread → Option (SharedT × Thread)) (sd : SharedT) (n0 : Nat) (ann : Option Value) (q : Pos) (b : List Stmt) (env : Env) (g : Addr → Option Obj) (F : Nat) (E : Enc α) (t : Sem α) (a : α) : Prop :=
  ∀ (gd : Bool → Bool) (lv : List Value → List Value) (pos : Pos), roT st sd n0 ann g F ⟨t.wrap (fun a => .pure (.done (E.res a))) deadEnd gd lv, .body b env, pos, [topFrame q]⟩ = some (E.res a, .body b env, pos)
theorem roIs_go {α : Type} {tb : String → Option Builtin} {P : Program} {w : World} {sd : SharedT} {n0 : Nat} {ann : Option Value} {q : Pos} {b : List Stmt} {env : Env} {g : Addr → Option Obj} {F : Nat} {E : Enc α} {t : Sem α} {a : α} {x : At} {gd : Bool → Bool} {lv : List Value → List Value}
    (h : RoIs (stepT (denote tb) P w) sd n0 ann q b env g F E t a) (hd : E.dec (E.res a) = some a) (hc : x.c = .body b env) (hg : ∀ a o, g a = some o → x.s.abs.heap.get? a = some o) : Go tb P w n0 ann q gd lv F t x a x := fun K H N r k => by
  have e := roT_ok (s := x.s.abs) hg (h gd lv x.p)
  rw [← hc] at e
  obtain ⟨b', hb, hN⟩ := seg_top (res := E.res) (K' := K) (H' := H) (B := [topFrame q]) rfl F x.s.abs ⟨t.wrap (fun a => .pure (.done (E.res a))) deadEnd gd lv, x.c, x.p, [topFrame q]⟩ ⟨t.wrap K H gd lv, x.c, x.p, [topFrame q]⟩ (E.res a) x.s.abs x.c x.p ⟨rfl, rfl, .inl ⟨rfl, rfl, t, rfl, rfl⟩⟩ e
  have eb := E.ok _ _ hd b' hb
  subst eb
  exact hN N r k
end HR
end
section
/-! The head run, part 3: a key of one hash or another. -/
namespace HR
open PySem PySem.W PySem.Calls PyProof.Rows HandSHeadRun
section
variable {tb : String → Option Builtin} {P : Program} {w : World} {n0 : Nat} {ann : Option Value} {q : Pos} {gd : Bool → Bool} {lv : List Value → List Value}
theorem go_forIn {α σ : Type} {f : α → σ → Sem (ForInStep σ)} {Y : Nat} {x : At} {b : σ} : ∀ (l : List α), (∀ i ∈ l, Go tb P w n0 ann q gd lv Y (f i b) x (.yield b) x) → Go tb P w n0 ann q gd lv (l.length * Y) (forIn l b f) x b x
  | [], h => by
    rw [List.forIn_nil]
    exact go_pure.mono (Nat.zero_le _)
  | i :: l, h => by
    rw [List.forIn_cons]
    refine (go_bind (h i List.mem_cons_self) (show Go tb P w n0 ann q gd lv (l.length * Y) (forIn l b f) x b x from go_forIn l fun j hj => h j (List.mem_cons_of_mem _ hj))).mono ?_
    rw [List.length_cons, Nat.add_mul, Nat.one_mul, Nat.add_comm]
    exact Nat.le_refl _
variable {x : At} {d a : Addr} {od : Obj} {es : Array DictEntry} {ep : Nat}
theorem go_entries {pt : Option Value} (hd : x.s.abs.heap.get? d = some od) (hdat : od.data = .dict es ep) : Go tb P w n0 ann q gd lv 1 (dictEntries d pt) x es x := by
  unfold dictEntries
  refine go_bind (Y := 0) (go_loadPart hd) ?_
  rw [hdat]
  exact go_pure
theorem go_epoch {pt : Option Value} (hd : x.s.abs.heap.get? d = some od) (hdat : od.data = .dict es ep) : Go tb P w n0 ann q gd lv 1 (dictEpoch d pt) x ep x := by
  unfold dictEpoch
  refine go_bind (Y := 0) (go_loadPart hd) ?_
  rw [hdat]
  exact go_pure
theorem go_tell {F : Nat} {v : Value} {l : List Value} (hq : Go tb P w n0 ann q gd lv F (eqIsQuiet 8 v) x true x) (hs : ∀ u ∈ l, Go tb P w n0 ann q gd lv F (eqIsQuiet 8 u) x true x) : Go tb P w n0 ann q gd lv (F + l.length * F) (tableMayTell v l) x false x := by
  unfold tableMayTell
  by_cases e : l.isEmpty = true
  · rw [if_pos e]
    exact go_pure.mono (Nat.zero_le _)
  · rw [if_neg e]
    refine go_bind hq ?_
    simp only [Bool.not_true, Bool.false_eq_true, if_false]
    refine go_bind (X := l.length * F) (Y := 0) (a := (none, ())) (go_forIn l fun u hu => ?_) ?_
    · refine go_bind (Y := 0) (hs u hu) ?_
      simp only [Bool.not_true, Bool.false_eq_true, if_false]
      exact go_pure
    · exact go_pure
/-- no such key -/
theorem go_find {F : Nat} {h : Int} (hd : x.s.abs.heap.get? d = some od) (hdat : od.data = .dict es ep) (hno : ∀ e ∈ es, ∃ b, e.key = .ref b ∧ b ≠ a)
    (hq : ∀ gd lv, Go tb P w n0 ann q gd lv F (eqIsQuiet 8 (.ref a)) x true x) (hqs : ∀ e ∈ es, ∀ gd lv, Go tb P w n0 ann q gd lv F (eqIsQuiet 8 e.key) x true x)
    (hne : ∀ e ∈ es, ∀ gd lv, Go tb P w n0 ann q gd lv F (eqBool e.key (.ref a)) x false x) :
    Go tb P w n0 ann q gd lv (1 + (F + es.size * F) + es.size * (F + 4)) (dictFind d (.ref a) h) x none x := by
  have hin : ∀ i e, es[i]? = some e → e ∈ es := fun i e hi => Array.mem_of_getElem? hi
  have hany : ¬ (es.any fun e => e.key == Value.ref a && e.hash != h) = true := by
    rw [← Array.any_toList, List.any_eq_true]
    rintro ⟨e, hie, hc⟩
    obtain ⟨b, hb, hba⟩ := hno e (Array.mem_toList_iff.mp hie)
    rw [Bool.and_eq_true, hb, beq_iff_eq] at hc
    exact hba (Value.ref.inj hc.1)
  unfold dictFind
  refine go_holding ?_
  generalize hl [Value.ref a] lv = lw
  refine (go_bind (Y := (F + es.size * F) + es.size * (F + 4)) (go_entries hd hdat) ?_).mono (by omega)
  dsimp only
  generalize hpl : placesWithHash es.size (fun i => es[i]?.map (·.hash)) h = pl
  have hlen : pl.length ≤ es.size := by
    rw [← hpl]
    unfold placesWithHash
    exact Nat.le_trans (List.length_filter_le _ _) (by rw [List.length_range]; exact Nat.le_refl _)
  have hst : ∀ v ∈ pl.filterMap (fun i => es[i]?.map (·.key)), ∃ e ∈ es, v = e.key := fun v hv => by
    obtain ⟨i, _, hi⟩ := List.mem_filterMap.mp hv
    cases hei : es[i]? with
    | none => rw [hei] at hi; cases hi
    | some e =>
      rw [hei] at hi
      exact ⟨e, hin i e hei, (Option.some.inj hi).symm⟩
  have hone : ¬ ((pl.filterMap (fun i => es[i]?.map (·.key))) == [Value.ref a]) = true := fun z => by
    have z2 := eq_of_beq z
    obtain ⟨e, he, hk⟩ := hst (.ref a) (by rw [z2]; exact List.mem_cons_self)
    obtain ⟨b, hb, hba⟩ := hno e he
    rw [hb] at hk
    exact hba (Value.ref.inj hk).symm
  have hsl : (pl.filterMap (fun i => es[i]?.map (·.key))).length ≤ es.size := Nat.le_trans (List.length_filterMap_le _ _) hlen
  rw [if_neg (show ¬ ((Value.ref a :: pl.filterMap (fun i => es[i]?.map (·.key))).all carriedByValue) = true by simp [carriedByValue]), if_neg hany, if_neg hone]
  refine go_bind (a := false) (X := F + es.size * F) ((go_tell (hq _ _) fun u hu => ?_).mono ?_) ?_
  · obtain ⟨e, he, hk⟩ := hst u hu
    rw [hk]
    exact hqs e he _ _
  · exact Nat.add_le_add_left (Nat.mul_le_mul_right F hsl) F
  rw [if_neg (by simp)]
  refine (go_bind (X := pl.length * (F + 4)) (Y := 0) (a := (none, none)) (go_forIn pl fun i hi => ?_) ?_).mono (Nat.mul_le_mul_right _ hlen)
  rotate_left
  · exact go_pure
  cases hei : es[i]? with
  | none => exact go_pure.mono (Nat.zero_le _)
  | some e =>
    dsimp only
    by_cases hh : (e.hash == h) = true
    · rw [if_pos hh]
      refine (go_bind (Y := F + 3) (go_epoch hd hdat) (go_bind (Y := 3) (hne e (hin i e hei) _ _) (go_bind (Y := 2) (go_epoch hd hdat) ?_))).mono (by omega)
      rw [if_neg (by simp)]
      simp only [Bool.false_eq_true, if_false]
      refine (go_bind (Y := 0) go_rule ?_).mono (by omega)
      simp only [Bool.false_and, Bool.false_eq_true, if_false]
      exact go_pure
    · rw [if_neg hh]
      exact go_pure.mono (Nat.zero_le _)
end
end HR
end
section
/-! The head run, part 4: a dict display whose keys are tuples, run with its stores told. -/
namespace HR
open PySem PySem.W PySem.Calls PyProof.Rows HandSHeadRun
/-! ### objects told apart -/
def sameO : Obj → Obj → Bool
  | ⟨.type c, none, .seq is n, sl⟩, ⟨.type c', none, .seq is' n', sl'⟩ => decide (c = c') && (decide (is.toList = is'.toList) && (decide (n = n') && (sl.isEmpty && sl'.isEmpty)))
  | _, _ => false
theorem sameO_ok {o o' : Obj} (h : sameO o o' = true) : o = o' := by
  obtain ⟨oc, od, dt, sl⟩ := o
  obtain ⟨oc', od', dt', sl'⟩ := o'
  unfold sameO at h
  split at h
  · rename_i e1 e2
    cases e1; cases e2
    rw [Bool.and_eq_true, Bool.and_eq_true, Bool.and_eq_true, Bool.and_eq_true] at h
    obtain ⟨h1, h2, h3, h4, h5⟩ := h
    have e1 := of_decide_eq_true h1
    have e2 := Array.toList_inj.mp (of_decide_eq_true h2)
    have e3 := of_decide_eq_true h3
    have e4 := Array.isEmpty_iff.mp h4
    have e5 := Array.isEmpty_iff.mp h5
    rw [e1, e2, e3, e4, e5]
  · cases h
abbrev Ks := List (Addr × Obj)
def g1 (a : Addr) (o : Obj) : Addr → Option Obj := fun c => match Nat.beq c a with
  | true => some o
  | false => none
def g2 (b : Addr) (ob : Obj) (a : Addr) (o : Obj) : Addr → Option Obj := fun c => match Nat.beq c b with
  | true => some ob
  | false => match Nat.beq c a with
    | true => some o
    | false => none
/-- b is put ahead of a -/
def ahead : Ks → Addr → Addr → Bool
  | [], _, _ => false
  | (c, _) :: r, b, a => match Nat.beq c b with
    | true => (match Nat.beq c a with
      | true => false
      | false => (r.lookup a).isSome)
    | false => match Nat.beq c a with
      | true => false
      | false => ahead r b a
section
variable (tb : String → Option Builtin) (P : Program) (w : World) (sd : SharedT) (n0 : Nat) (ann : Option Value) (q : Pos) (F : Nat)
def RoQ (p : Addr × Obj) : Prop := ∀ (b : List Stmt) (env : Env), RoIs (stepT (denote tb) P w) sd n0 ann q b env (g1 p.1 p.2) F eB (eqIsQuiet 8 (.ref p.1)) true
def RoN (p p' : Addr × Obj) : Prop := ∀ (b : List Stmt) (env : Env), RoIs (stepT (denote tb) P w) sd n0 ann q b env (g2 p.1 p.2 p'.1 p'.2) F eB (eqBool (.ref p.1) (.ref p'.1)) false
/-- the keys put are told apart by reading alone -/
def KtOk (ks : Ks) : Prop := (∀ p ∈ ks, RoQ tb P w sd n0 ann q F p) ∧ ks.Pairwise (RoN tb P w sd n0 ann q F)
theorem KtOk.pre {ks ks' : Ks} (h : ks <+: ks') (k : KtOk tb P w sd n0 ann q F ks') : KtOk tb P w sd n0 ann q F ks :=
  ⟨fun p hp => k.1 p (h.subset hp), k.2.sublist h.sublist⟩
end
theorem lookup_some {a : Addr} {o : Obj} : ∀ {r : Ks}, r.lookup a = some o → (a, o) ∈ r
  | [], h => by cases h
  | (c, u) :: r, h => by
    have h2 : (match a == c with | true => some u | false => r.lookup a) = some o := h
    cases q : (a == c) with
    | true => rw [q] at h2; rw [beq_iff_eq.mp q, Option.some.inj h2]; exact List.mem_cons_self
    | false => rw [q] at h2; exact List.mem_cons_of_mem _ (lookup_some h2)
theorem ahead_ok {R : Addr × Obj → Addr × Obj → Prop} {b a : Addr} : ∀ {ks : Ks}, ks.Pairwise R → ahead ks b a = true → ∃ ob oa, ks.lookup b = some ob ∧ ks.lookup a = some oa ∧ R (b, ob) (a, oa) ∧ b ≠ a
  | [], _, h => by cases h
  | (c, u) :: r, p, h => by
    rw [List.pairwise_cons] at p
    unfold ahead at h
    cases hb : Nat.beq c b with
    | true =>
      rw [hb] at h
      have eb := Nat.eq_of_beq_eq_true hb
      subst eb
      cases ha : Nat.beq c a with
      | true => rw [ha] at h; cases h
      | false =>
        rw [ha] at h
        obtain ⟨oa, e⟩ := Option.isSome_iff_exists.mp (show (r.lookup a).isSome = true from h)
        have ne : c ≠ a := fun z => by subst z; rw [Nat.beq_refl] at ha; cases ha
        have nb : (a == c) = false := beq_false_of_ne fun z => ne z.symm
        refine ⟨u, oa, ?_, ?_, p.1 _ (lookup_some e), ne⟩
        · show (match c == c with | true => some u | false => r.lookup c) = some u
          rw [beq_self_eq_true]
        · show (match a == c with | true => some u | false => r.lookup a) = some oa
          rw [nb]; exact e
    | false =>
      rw [hb] at h
      cases ha : Nat.beq c a with
      | true => rw [ha] at h; cases h
      | false =>
        rw [ha] at h
        obtain ⟨ob, oa, h1, h2, h3, h4⟩ := ahead_ok p.2 h
        have na : (a == c) = false := beq_false_of_ne fun z => by rw [z, Nat.beq_refl] at ha; cases ha
        have nb : (b == c) = false := beq_false_of_ne fun z => by rw [z, Nat.beq_refl] at hb; cases hb
        refine ⟨ob, oa, ?_, ?_, h3, h4⟩
        · show (match b == c with | true => some u | false => r.lookup b) = some ob
          rw [nb]; exact h1
        · show (match a == c with | true => some u | false => r.lookup a) = some oa
          rw [na]; exact h2
/-! ### runs that are sound -/
section
variable (tb : String → Option Builtin) (P : Program) (w : World) (sd : SharedT) (n0 : Nat) (ann : Option Value) (q : Pos) (F : Nat)
def G {α : Type} (gd : Bool → Bool) (lv : List Value → List Value) (t : Sem α) (x : At) (a : α) (y : At) : Prop := ∃ X, X + x.m ≤ y.m ∧ Go tb P w n0 ann q gd lv X t x a y
def Snd {α : Type} (gd : Bool → Bool) (lv : List Value → List Value) (t : Sem α) (r : At → Option (α × At)) : Prop :=
  ∀ x a y, r x = some (a, y) → x.ks <+: y.ks ∧ (KtOk tb P w sd n0 ann q F y.ks → G tb P w n0 ann q gd lv t x a y)
end
def bindR {α β : Type} (r : Option (α × At)) (f : α → At → Option (β × At)) : Option (β × At) := match r with
  | some (a, y) => f a y
  | none => none
section
variable {tb : String → Option Builtin} {P : Program} {w : World} {sd : SharedT} {n0 : Nat} {ann : Option Value} {q : Pos} {F : Nat} {gd : Bool → Bool} {lv : List Value → List Value} {α β : Type}
theorem Snd.pure {a : α} : Snd tb P w sd n0 ann q F gd lv (pure a) fun x => some (a, x) := fun x b y h => by
  cases h
  exact ⟨List.prefix_refl _, fun _ => ⟨0, by omega, go_pure⟩⟩
theorem Snd.bind {t : Sem α} {f : α → Sem β} {r : At → Option (α × At)} {g : α → At → Option (β × At)} (h : Snd tb P w sd n0 ann q F gd lv t r) (k : ∀ a, Snd tb P w sd n0 ann q F gd lv (f a) (g a)) : Snd tb P w sd n0 ann q F gd lv (t >>= f) fun x => bindR (r x) g := fun x b z e => by
  dsimp only [bindR] at e
  cases e1 : r x with
  | none => rw [e1] at e; cases e
  | some u =>
    obtain ⟨a, y⟩ := u
    rw [e1] at e
    obtain ⟨p1, g1⟩ := h x a y e1
    obtain ⟨p2, g2⟩ := k a y b z e
    refine ⟨p1.trans p2, fun kt => ?_⟩
    obtain ⟨X, l1, o1⟩ := g1 (KtOk.pre _ _ _ _ _ _ _ _ p2 kt)
    obtain ⟨Y, l2, o2⟩ := g2 kt
    exact ⟨X + Y, by omega, go_bind o1 o2⟩
theorem Snd.holding {vs : List Value} {t : Sem α} {r : At → Option (α × At)} (h : Snd tb P w sd n0 ann q F gd (hl vs lv) t r) : Snd tb P w sd n0 ann q F gd lv (holding vs t) r := fun x a y e =>
  let ⟨p, g⟩ := h x a y e
  ⟨p, fun kt => let ⟨X, l, o⟩ := g kt; ⟨X, l, go_holding o⟩⟩
theorem Snd.onRaise {t : Sem α} {k : Value → Sem Unit} {r : At → Option (α × At)} (h : Snd tb P w sd n0 ann q F gd lv t r) : Snd tb P w sd n0 ann q F gd lv (t.onRaise k) r := fun x a y e =>
  let ⟨p, g⟩ := h x a y e
  ⟨p, fun kt => let ⟨X, l, o⟩ := g kt; ⟨X, l, go_onRaise o⟩⟩
theorem Snd.leaf {E : Enc α} {t : Sem α} {M : Nat} : Snd tb P w sd n0 ann q F gd lv t (leaf (stepT (denote tb) P w) n0 ann q gd lv M E t) := fun x a y e => by
  obtain ⟨g, e1, e2⟩ := leaf_ok e
  exact ⟨by rw [e1]; exact List.prefix_refl _, fun _ => ⟨M, by omega, g⟩⟩
/-- of a known result -/
theorem Snd.with {t : Sem α} {r r' : At → Option (α × At)} (h : Snd tb P w sd n0 ann q F gd lv t r) (k : ∀ x a y, r' x = some (a, y) → r x = some (a, y)) : Snd tb P w sd n0 ann q F gd lv t r' := fun x a y e => h x a y (k x a y e)
theorem Snd.go {t : Sem α} {X : Nat} {a : α} {f : At → At} (h : ∀ x, Go tb P w n0 ann q gd lv X t x a (f x)) (hk : ∀ x, (f x).ks = x.ks) (hm : ∀ x, (f x).m = x.m + X) : Snd tb P w sd n0 ann q F gd lv t fun x => some (a, f x) := fun x b y e => by
  cases e
  exact ⟨by rw [hk]; exact List.prefix_refl _, fun _ => ⟨X, by rw [hm]; omega, h x⟩⟩
end
def At.tick (x : At) (k : Nat) : At := addN x.m k fun m => { x with m := m }
theorem At.tick_eq (x : At) (k : Nat) : x.tick k = { x with m := x.m + k } := addN_eq ..
section
variable {tb : String → Option Builtin} {P : Program} {w : World} {sd : SharedT} {n0 : Nat} {ann : Option Value} {q : Pos} {F : Nat} {gd : Bool → Bool} {lv : List Value → List Value} {α β : Type}
theorem Go.tick {X : Nat} {t : Sem α} {x y : At} {a : α} {k : Nat} (h : Go tb P w n0 ann q gd lv X t x a y) : Go tb P w n0 ann q gd lv X t x a (y.tick k) := by rw [At.tick_eq]; exact h
theorem Snd.rule {tag : String} : Snd tb P w sd n0 ann q F gd lv (rule tag) fun x => some ((), x.tick 1) := Snd.go (X := 1) (fun x => go_rule.tick) (fun _ => by rw [At.tick_eq]) fun _ => by rw [At.tick_eq]
theorem Snd.of {t : Sem α} {r : At → Option (α × At)} (h : ∀ x a y, r x = some (a, y) → x.ks <+: y.ks ∧ (KtOk tb P w sd n0 ann q F y.ks → ∃ X, X + x.m ≤ y.m ∧ Go tb P w n0 ann q gd lv X t x a y)) : Snd tb P w sd n0 ann q F gd lv t r := h
end
/-! ### a hash -/
section
variable (st : SharedT → Thread → Option (SharedT × Thread)) (n0 : Nat) (ann : Option Value) (q : Pos) (M : Nat)
def exHash (gd : Bool → Bool) (lv : List Value → List Value) (a : Addr) (x : At) : Option (Int × At) :=
  bindR (leaf st n0 ann q gd lv M eU (cRoomFor "hash" [.ref a]) x) fun _ x1 =>
  bindR (leaf st n0 ann q gd lv M eOV (specialOf (.ref a) "__hash__") x1) fun o x2 => match o with
    | some (.builtin _) => bindR (leaf st n0 ann q gd lv M eOV (specialOf (.ref a) "__hash__") x2) fun o2 x3 => match o2 with
      | some (.builtin _) => bindR (leaf st n0 ann q gd lv M eOV (callSpecialIfBoundUnlessNone? (.ref a) "__hash__" (do rule "hash.unhashable"; raiseError "TypeError" s!"unhashable type: '{← typeNameOf (.ref a)}'")) x3) fun o3 x4 => match o3 with
        | some (.int i _) => some (reduceHash i, x4.tick 1)
        | _ => none
      | _ => none
    | _ => none
end
section
variable {tb : String → Option Builtin} {P : Program} {w : World} {sd : SharedT} {n0 : Nat} {ann : Option Value} {q : Pos} {F M : Nat} {gd : Bool → Bool} {lv : List Value → List Value}
theorem go_reduced {i : Int} {x : At} : Go tb P w n0 ann q gd lv 1 (pyHashByItsType.reduced i) x (reduceHash i) (x.tick 1) := by
  unfold pyHashByItsType.reduced reduceHash
  by_cases h : (decide (-(2 ^ 63 : Int) ≤ i) && decide (i < 2 ^ 63)) = true
  · rw [if_pos h, if_pos h]
    exact (go_pure.mono (Nat.zero_le _)).tick
  · rw [if_neg h, if_neg h]
    refine Go.tick (go_bind (X := 1) (Y := 0) go_rule ?_)
    exact go_pure
theorem snd_none {α : Type} {t : Sem α} : Snd tb P w sd n0 ann q F gd lv t fun _ => none := fun x a y e => by cases e
theorem snd_hash {a : Addr} : Snd tb P w sd n0 ann q F gd lv (pyHash (.ref a)) (exHash (stepT (denote tb) P w) n0 ann q M gd lv a) := by
  unfold pyHash pyHashByItsType exHash
  refine Snd.bind Snd.leaf fun _ => Snd.bind Snd.leaf fun o => ?_
  cases o with
  | none => exact snd_none
  | some v =>
    cases v with
    | builtin id =>
      rw [if_neg (by simp)]
      refine Snd.bind Snd.leaf fun o2 => ?_
      cases o2 with
      | none => exact snd_none
      | some v2 =>
        cases v2 with
        | builtin id2 =>
          rw [if_neg (by simp)]
          refine Snd.bind Snd.leaf fun o3 => ?_
          cases o3 with
          | none => exact snd_none
          | some v3 =>
            cases v3 with
            | int i t => exact Snd.go (X := 1) (fun x => go_reduced) (fun _ => by rw [At.tick_eq]) fun _ => by rw [At.tick_eq]
            | _ => exact snd_none
        | _ => exact snd_none
    | _ => exact snd_none
end
end HR
end
section
/-! The head run, part 5: the display. -/
namespace HR
open PySem PySem.W PySem.Calls PyProof.Rows HandSHeadRun
def isBody : Code → Bool
  | .body _ _ => true
  | _ => false
theorem isBody_ok {c : Code} (h : isBody c = true) : ∃ b env, c = .body b env := by
  cases c <;> first | exact ⟨_, _, rfl⟩ | cases h
def chk (ks : Ks) (x : At) (b : Addr) : Bool := match ks.lookup b with
  | some o => (match getT x.s b with
    | some o' => sameO o o'
    | none => false)
  | none => false
theorem chk_ok {ks : Ks} {x : At} {b : Addr} (h : chk ks x b = true) : ∃ o, ks.lookup b = some o ∧ x.s.abs.heap.get? b = some o := by
  unfold chk at h
  cases e : ks.lookup b with
  | none => rw [e] at h; cases h
  | some o =>
    rw [e] at h
    dsimp only at h
    cases e2 : getT x.s b with
    | none => rw [e2] at h; cases h
    | some o' =>
      rw [e2] at h
      exact ⟨o, rfl, by rw [← getT_eq, e2, sameO_ok h]⟩
def keyOk (ks : Ks) (x : At) (a : Addr) (e : DictEntry) : Bool := match e.key with
  | .ref b => chk ks x b && ahead ks b a
  | _ => false
def withKey (ks : Ks) (a : Addr) (o : Obj) : Ks := match (ks.lookup a).isSome with
  | true => ks
  | false => ks ++ [(a, o)]
theorem withKey_pre {ks : Ks} {a : Addr} {o : Obj} : ks <+: withKey ks a o := by
  unfold withKey
  split
  · exact List.prefix_refl _
  · exact List.prefix_append _ _
section
variable (F : Nat)
def exFind (d a : Addr) (x : At) : Option (Option Nat × At) := match getT x.s d with
  | some od => (match od.data with
    | .dict es ep => (match getT x.s a with
      | some oa => (match isBody x.c && (chk (withKey x.ks a oa) x a && es.toList.all (keyOk (withKey x.ks a oa) x a)) with
        | true => frUn es.size fun z => addN x.m (1 + (F + z * F) + z * (F + 4)) fun m => some (none, { x with ks := withKey x.ks a oa, m := m })
        | false => none)
      | none => none)
    | _ => none)
  | none => none
end
section
variable {tb : String → Option Builtin} {P : Program} {w : World} {sd : SharedT} {n0 : Nat} {ann : Option Value} {q : Pos} {F M : Nat} {gd : Bool → Bool} {lv : List Value → List Value}
theorem snd_find {d a : Addr} {h : Int} : Snd tb P w sd n0 ann q F gd lv (dictFind d (.ref a) h) (exFind F d a) := fun x r y e => by
  unfold exFind at e
  cases e1 : getT x.s d with
  | none => rw [e1] at e; cases e
  | some od =>
    rw [e1] at e
    dsimp only at e
    split at e
    · rename_i es ep hdat
      cases e2 : getT x.s a with
      | none => rw [e2] at e; cases e
      | some oa =>
        rw [e2] at e
        dsimp only at e
        split at e
        · rename_i c
          rw [frUn_eq, addN_eq] at e
          cases e
          rw [Bool.and_eq_true, Bool.and_eq_true] at c
          obtain ⟨c1, c2, c3⟩ := c
          obtain ⟨b, env, hc⟩ := isBody_ok c1
          obtain ⟨o, h1, h2⟩ := chk_ok c2
          refine ⟨withKey_pre, fun kt => ⟨_, Nat.le_of_eq (Nat.add_comm _ _), ?_⟩⟩
          have hk : ∀ e ∈ es, ∃ b, e.key = .ref b ∧ chk (withKey x.ks a oa) x b = true ∧ ahead (withKey x.ks a oa) b a = true := fun e he => by
            have c4 := List.all_eq_true.mp c3 e (Array.mem_toList_iff.mpr he)
            unfold keyOk at c4
            split at c4
            · rename_i b hb
              rw [Bool.and_eq_true] at c4
              exact ⟨b, hb, c4.1, c4.2⟩
            · cases c4
          have quiet : ∀ {b : Addr} {o : Obj}, (withKey x.ks a oa).lookup b = some o → x.s.abs.heap.get? b = some o → ∀ gd lv, Go tb P w n0 ann q gd lv F (eqIsQuiet 8 (.ref b)) x true x := fun {b' o'} l1 l2 gd lv => by
            refine roIs_go (kt.1 (b', o') (lookup_some l1) b env) rfl hc fun z u hz => ?_
            unfold g1 at hz
            split at hz
            · rename_i hz2
              cases hz
              rw [Nat.eq_of_beq_eq_true hz2]; exact l2
            · cases hz
          have key : Go tb P w n0 ann q gd lv (1 + (F + es.size * F) + es.size * (F + 4)) (dictFind d (.ref a) h) x none x := by
            refine go_find (od := od) (ep := ep) (by rw [← getT_eq]; exact e1) hdat (fun e he => ?_) (quiet h1 h2) (fun e he gd lv => ?_) (fun e he gd lv => ?_)
            · obtain ⟨b', hb, _, hd⟩ := hk e he
              obtain ⟨ob, oa', _, _, _, ne⟩ := ahead_ok kt.2 hd
              exact ⟨b', hb, ne⟩
            · obtain ⟨b', hb, hx, _⟩ := hk e he
              obtain ⟨ob, l1, l2⟩ := chk_ok hx
              rw [hb]
              exact quiet l1 l2 gd lv
            · obtain ⟨b', hb, hx, hd⟩ := hk e he
              obtain ⟨ob, oa', l1, l2, rn, ne⟩ := ahead_ok kt.2 hd
              obtain ⟨ob', l3, l4⟩ := chk_ok hx
              rw [l1] at l3
              rw [h1] at l2
              cases l3
              cases l2
              rw [hb]
              refine roIs_go (rn b env) rfl hc fun z u hz => ?_
              unfold g2 at hz
              split at hz
              · rename_i hz2
                cases hz
                rw [Nat.eq_of_beq_eq_true hz2]; exact l4
              · split at hz
                · rename_i hz2
                  cases hz
                  rw [Nat.eq_of_beq_eq_true hz2]; exact h2
                · cases hz
          exact key
        · cases e
    · cases e
end
/-! ### stores -/
section
variable (st : SharedT → Thread → Option (SharedT × Thread)) (n0 : Nat) (ann : Option Value) (q : Pos) (F M : Nat) (gd : Bool → Bool)
def exSetH (lv : List Value → List Value) (d a : Addr) (h : Int) (v : Value) (x : At) : Option (Unit × At) :=
  bindR (exFind F d a x) fun o x1 => match o with
    | some _ => none
    | none => bindR (some ((), x1.tick 1)) fun _ x2 => leaf st n0 ann q gd (hl [.ref a, v] lv) M eU (updateDictKeys d (·.push ⟨h, .ref a, v⟩) (keyPart (.ref a))) x2
def exSet (lv : List Value → List Value) (d : Addr) (key v : Value) (x : At) : Option (Unit × At) := match key with
  | .ref a => bindR (exHash st n0 ann q M gd (hl [.ref a, v] lv) a x) fun h x1 => exSetH st n0 ann q F M gd (hl [.ref a, v] lv) d a h v x1
  | _ => none
def exPut (lv : List Value → List Value) (d : Addr) (h : Int) (key v : Value) (x : At) : Option (Unit × At) := match key with
  | .ref a => bindR (exFind F d a x) fun o x1 => match o with
    | some _ => none
    | none => leaf st n0 ann q gd lv M eU (updateDictKeys d (·.push ⟨h, .ref a, v⟩)) x1
  | _ => none
def exLong (lv : List Value → List Value) (d : Addr) : List (Sem Value × Sem Value) → At → Option (Unit × At)
  | [], x => some ((), x)
  | (k, v) :: r, x => bindR (leaf st n0 ann q gd lv M eV k x) fun kv x1 => bindR (leaf st n0 ann q gd (hl [kv] lv) M eV v x1) fun vv x2 =>
      bindR (exSet st n0 ann q F M gd (hl [kv, vv] lv) d kv vv x2) fun _ x3 => exLong lv d r x3
def exPairs (lv : List Value → List Value) : List (Sem Value × Sem Value) → At → Option (List (Value × Value) × At)
  | [], x => some ([], x)
  | (k, v) :: r, x => bindR (leaf st n0 ann q gd lv M eV k x) fun kv x1 => bindR (leaf st n0 ann q gd (hl [kv] lv) M eV v x1) fun vv x2 =>
      bindR (exPairs (hl [kv, vv] lv) r x2) fun l x3 => some ((kv, vv) :: l, x3)
def exAll (lv : List Value → List Value) (d : Addr) : List (Value × Value) → At → Option (Unit × At)
  | [], x => some ((), x)
  | (k, v) :: r, x => bindR (exSet st n0 ann q F M gd lv d k v x) fun _ x1 => exAll lv d r x1
def eA : Enc Addr := ⟨fun a => .ret (.ref a), fun f => match f with | .ret (.ref a) => some a | _ => none, fun f a h b e => by subst e; exact Option.some.inj h⟩
def exSub (lv : List Value → List Value) (pairs : List (Sem Value × Sem Value)) (x : At) : Option (Addr × At) :=
  bindR (leaf st n0 ann q gd lv M eA (alloc { cls := .type "dict", data := .dict #[] }) x) fun d x1 =>
  bindR (match Nat.ble pairs.length 15 with
    | true => bindR (exPairs st n0 ann q M gd (hl [.ref d] lv) pairs x1) fun vs x2 => exAll st n0 ann q F M gd (hl (vs.flatMap fun (k, v) => [k, v]) (hl [.ref d] lv)) d vs x2
    | false => bindR (some ((), x1.tick 1)) fun _ x2 => exLong st n0 ann q F M gd (hl [.ref d] lv) d pairs x2) fun _ x3 => some (d, x3)
end
section
variable {tb : String → Option Builtin} {P : Program} {w : World} {sd : SharedT} {n0 : Nat} {ann : Option Value} {q : Pos} {F M : Nat} {gd : Bool → Bool} {lv : List Value → List Value}
theorem snd_setH {d a : Addr} {h : Int} {v : Value} : Snd tb P w sd n0 ann q F gd lv (dictSetHashed d (.ref a) h v) (exSetH (stepT (denote tb) P w) n0 ann q F M gd lv d a h v) := by
  unfold dictSetHashed exSetH
  refine Snd.holding (Snd.bind snd_find fun o => ?_)
  cases o with
  | some i => exact snd_none
  | none => exact Snd.bind Snd.rule fun _ => Snd.leaf
theorem snd_set {d : Addr} {key v : Value} : Snd tb P w sd n0 ann q F gd lv (dictSet d key v) (exSet (stepT (denote tb) P w) n0 ann q F M gd lv d key v) := by
  unfold exSet
  cases key with
  | ref a =>
    unfold dictSet
    exact Snd.holding (Snd.bind snd_hash fun h => snd_setH)
  | _ => exact snd_none
theorem snd_put {d : Addr} {h : Int} {key v : Value} : Snd tb P w sd n0 ann q F gd lv (dictPut d h key v) (exPut (stepT (denote tb) P w) n0 ann q F M gd lv d h key v) := by
  unfold exPut
  cases key with
  | ref a =>
    unfold dictPut
    refine Snd.bind snd_find fun o => ?_
    cases o with
    | some i => exact snd_none
    | none => exact Snd.leaf
  | _ => exact snd_none
theorem Snd.congr {α : Type} {t t' : Sem α} {r : At → Option (α × At)} (e : t = t') (h : Snd tb P w sd n0 ann q F gd lv t' r) : Snd tb P w sd n0 ann q F gd lv t r := by rw [e]; exact h
def longB (d : Addr) : Sem Value × Sem Value → PUnit → Sem (ForInStep PUnit) := fun x _ => match x with
  | (k, v) => do
    let kv ← k
    let vv ← holding [kv] v
    holding [kv, vv] (dictSet d kv vv)
    pure (ForInStep.yield PUnit.unit)
def allB (d : Addr) : Value × Value → PUnit → Sem (ForInStep PUnit) := fun x _ => match x with
  | (k, v) => do
    dictSet d k v
    pure (ForInStep.yield PUnit.unit)
theorem snd_unit {t : Sem PUnit} {r : At → Option (PUnit × At)} (h : Snd tb P w sd n0 ann q F gd lv t r) : Snd tb P w sd n0 ann q F gd lv (t >>= fun _ => pure PUnit.unit) r := by
  rw [show (t >>= fun _ => pure PUnit.unit) = t from bind_pure t]
  exact h
theorem snd_long {d : Addr} : ∀ {l : List (Sem Value × Sem Value)}, Snd tb P w sd n0 ann q F gd lv (forIn l PUnit.unit (longB d)) (exLong (stepT (denote tb) P w) n0 ann q F M gd lv d l)
  | [] => by
    rw [List.forIn_nil]
    exact Snd.pure
  | (k, v) :: r => by
    rw [List.forIn_cons]
    refine Snd.congr (t' := k >>= fun kv => holding [kv] v >>= fun vv => holding [kv, vv] (dictSet d kv vv) >>= fun _ => forIn r PUnit.unit (longB d)) (by simp only [longB, bind_assoc, pure_bind]) ?_
    exact Snd.bind Snd.leaf fun kv => Snd.bind (Snd.holding Snd.leaf) fun vv => Snd.bind (Snd.holding snd_set) fun _ => snd_long
theorem snd_pairs : ∀ {l : List (Sem Value × Sem Value)} {lv : List Value → List Value}, Snd tb P w sd n0 ann q F gd lv (evalPairs l) (exPairs (stepT (denote tb) P w) n0 ann q M gd lv l)
  | [], lv => Snd.pure
  | (k, v) :: r, lv => by
    unfold evalPairs
    exact Snd.bind Snd.leaf fun kv => Snd.bind (Snd.holding Snd.leaf) fun vv => Snd.bind (Snd.holding snd_pairs) fun l => Snd.pure
theorem snd_all {d : Addr} : ∀ {l : List (Value × Value)}, Snd tb P w sd n0 ann q F gd lv (forIn l PUnit.unit (allB d)) (exAll (stepT (denote tb) P w) n0 ann q F M gd lv d l)
  | [] => by
    rw [List.forIn_nil]
    exact Snd.pure
  | (k, v) :: r => by
    rw [List.forIn_cons]
    refine Snd.congr (t' := dictSet d k v >>= fun _ => forIn r PUnit.unit (allB d)) (by simp only [allB, bind_assoc, pure_bind]) ?_
    exact Snd.bind snd_set fun _ => snd_all
theorem snd_sub {l : List (Sem Value × Sem Value)} : Snd tb P w sd n0 ann q F gd lv (subDict l) (exSub (stepT (denote tb) P w) n0 ann q F M gd lv l) := by
  unfold subDict exSub
  refine Snd.bind Snd.leaf fun d => Snd.bind (Snd.holding ?_) fun _ => Snd.pure
  by_cases h : l.length ≤ 15
  · rw [if_pos h, show Nat.ble l.length 15 = true from Nat.ble_eq_true_of_le h]
    refine Snd.bind snd_pairs fun vs => Snd.holding ?_
    exact snd_unit (snd_all (l := vs))
  · rw [if_neg h, show Nat.ble l.length 15 = false from by cases q : Nat.ble l.length 15 with | false => rfl | true => exact absurd (Nat.le_of_ble_eq_true q) h]
    refine Snd.bind Snd.rule fun _ => ?_
    exact snd_unit (snd_long (l := l))
end
end HR
end
section
/-! The head run, part 6: a display of many, the statement. -/
namespace HR
open PySem PySem.W PySem.Calls PyProof.Rows HandSHeadRun
def exEnt (d : Addr) (x : At) : Option (Array DictEntry × At) := match getT x.s d with
  | some od => (match od.data with
    | .dict es _ => some (es, x.tick 1)
    | _ => none)
  | none => none
def exEp (d : Addr) (x : At) : Option (Nat × At) := match getT x.s d with
  | some od => (match od.data with
    | .dict _ ep => some (ep, x.tick 1)
    | _ => none)
  | none => none
section
variable (st : SharedT → Thread → Option (SharedT × Thread)) (n0 : Nat) (ann : Option Value) (q : Pos) (F M : Nat) (gd : Bool → Bool)
def exTurns (lv : List Value → List Value) (d sub epoch : Nat) : List Nat → At → Option (Unit × At)
  | [], x => some ((), x)
  | i :: r, x => bindR (exEnt sub x) fun es x1 => match es[i]? with
    | none => none
    | some e => bindR (exPut st n0 ann q F M gd (hl [e.key, e.val] lv) d e.hash e.key e.val x1) fun _ x2 => bindR (exEp sub x2) fun ep x3 => match Nat.beq ep epoch with
      | true => exTurns lv d sub epoch r x3
      | false => none
def exMerge (lv : List Value → List Value) (d sub : Addr) (x : At) : Option (Unit × At) :=
  bindR (leaf st n0 ann q gd lv M eB (isInstance (.ref sub) (.type "dict")) x) fun b x1 => match b with
    | true => bindR (leaf st n0 ann q gd lv M eOV (specialOf (.ref sub) "__iter__") x1) fun o x2 => match o == some (.builtin "dict.__iter__") with
      | true => (match sub == sysModules with
        | false => bindR (exEnt d x2) fun es x3 => (match es.isEmpty with
          | false => bindR (exEnt sub x3) fun es2 x4 => bindR (exEp sub x4) fun ep x5 => exTurns st n0 ann q F M gd lv d sub ep (List.range es2.size) x5
          | true => none)
        | true => none)
      | false => none
    | false => none
end
section
variable {tb : String → Option Builtin} {P : Program} {w : World} {sd : SharedT} {n0 : Nat} {ann : Option Value} {q : Pos} {F M : Nat} {gd : Bool → Bool} {lv : List Value → List Value}
theorem snd_ent {d : Addr} {pt : Option Value} : Snd tb P w sd n0 ann q F gd lv (dictEntries d pt) (exEnt d) := fun x a y e => by
  unfold exEnt at e
  split at e
  · rename_i od e1
    split at e
    · rename_i es ep e2
      cases e
      exact ⟨by rw [At.tick_eq]; exact List.prefix_refl _, fun _ => ⟨1, by rw [At.tick_eq]; show 1 + x.m ≤ x.m + 1; omega, (go_entries (by rw [← getT_eq]; exact e1) e2).tick⟩⟩
    · cases e
  · cases e
theorem snd_ep {d : Addr} {pt : Option Value} : Snd tb P w sd n0 ann q F gd lv (dictEpoch d pt) (exEp d) := fun x a y e => by
  unfold exEp at e
  split at e
  · rename_i od e1
    split at e
    · rename_i es ep e2
      cases e
      exact ⟨by rw [At.tick_eq]; exact List.prefix_refl _, fun _ => ⟨1, by rw [At.tick_eq]; show 1 + x.m ≤ x.m + 1; omega, (go_epoch (by rw [← getT_eq]; exact e1) e2).tick⟩⟩
    · cases e
  · cases e
def turnB (d sub epoch : Nat) : Nat → PUnit → Sem (ForInStep PUnit) := fun i _ => do
  let es ← dictEntries sub
  match es[i]? with
  | some e => do
    holding [e.key, e.val] (dictPut d e.hash e.key e.val)
    let ep ← dictEpoch sub
    if (ep != epoch) = true then do
      unsupported "dict.changed-during-merge"
      pure (ForInStep.yield PUnit.unit)
    else pure (ForInStep.yield PUnit.unit)
  | _ => do
    unsupported "dict.changed-during-merge"
    pure (ForInStep.yield PUnit.unit)
theorem Snd.assoc {α β γ : Type} {t : Sem α} {f : α → Sem β} {g : β → Sem γ} {r : At → Option (γ × At)} (h : Snd tb P w sd n0 ann q F gd lv (t >>= fun a => f a >>= g) r) : Snd tb P w sd n0 ann q F gd lv ((t >>= f) >>= g) r := by
  rw [bind_assoc]; exact h
theorem snd_turns {d sub epoch : Nat} : ∀ {l : List Nat}, Snd tb P w sd n0 ann q F gd lv (forIn l PUnit.unit (turnB d sub epoch)) (exTurns (stepT (denote tb) P w) n0 ann q F M gd lv d sub epoch l)
  | [] => by
    rw [List.forIn_nil]
    exact Snd.pure
  | i :: r => by
    rw [List.forIn_cons]
    unfold turnB
    refine Snd.assoc (Snd.bind snd_ent fun es => ?_)
    cases hi : es[i]? with
    | none => exact snd_none
    | some e =>
      refine Snd.assoc (Snd.bind (Snd.holding snd_put) fun _ => Snd.assoc (Snd.bind snd_ep fun ep => ?_))
      cases hb : Nat.beq ep epoch with
      | false => exact snd_none
      | true =>
        have e2 := Nat.eq_of_beq_eq_true hb
        subst e2
        rw [if_neg (by simp), pure_bind]
        exact snd_turns
theorem snd_merge {d sub : Addr} : Snd tb P w sd n0 ann q F gd lv (mergeMapping d (.ref sub) false) (exMerge (stepT (denote tb) P w) n0 ann q F M gd lv d sub) := by
  unfold mergeMapping exMerge
  refine Snd.congr (by simp only [bind_assoc]; rfl) (Snd.bind Snd.leaf fun b => ?_)
  cases b with
  | false => exact snd_none
  | true =>
    rw [if_pos rfl]
    refine Snd.bind Snd.leaf fun o => ?_
    cases ho : (o == some (.builtin "dict.__iter__")) with
    | false => exact snd_none
    | true =>
      rw [pure_bind]
      dsimp only
      cases hs : (sub == sysModules) with
      | true => exact snd_none
      | false =>
        rw [if_neg (by decide)]
        refine Snd.bind snd_ent fun es => ?_
        cases he : es.isEmpty with
        | true => exact snd_none
        | false =>
          rw [if_neg (by decide)]
          refine Snd.bind snd_ent fun es2 => Snd.bind snd_ep fun ep => ?_
          simp only [Bool.false_eq_true, if_false]
          exact snd_unit (snd_turns (l := List.range es2.size))
section
variable (st : SharedT → Thread → Option (SharedT × Thread)) (n0 : Nat) (ann : Option Value) (q : Pos) (F M : Nat) (gd : Bool → Bool)
def exFlush (lv : List Value → List Value) (run : List (Sem Value × Sem Value)) (main : Option Addr) (x : At) : Option (Option Addr × At) := match run with
  | [] => some (main, x)
  | _ :: _ => match main with
    | none => bindR (exSub st n0 ann q F M gd lv run x) fun d x1 => some (some d, x1)
    | some d => bindR (exSub st n0 ann q F M gd (hl [.ref d] lv) run x) fun sub x1 => bindR (exMerge st n0 ann q F M gd (hl [.ref d, .ref sub] lv) d sub x1) fun _ x2 => some (some d, x2)
def exRuns (lv : List Value → List Value) : List (Option (Sem Value) × Sem Value) → Option Addr → List (Sem Value × Sem Value) → At → Option ((Option Addr × List (Sem Value × Sem Value)) × At)
  | [], main, run, x => some ((main, run), x)
  | (none, _) :: _, _, _, _ => none
  | (some k, v) :: r, main, run, x => match Nat.beq (run ++ [(k, v)]).length 17 with
    | true => bindR (exFlush st n0 ann q F M gd lv (run ++ [(k, v)]) main x) fun m x1 => exRuns lv r m [] x1
    | false => exRuns lv r main (run ++ [(k, v)]) x
def exDisp (lv : List Value → List Value) (items : List (Option (Sem Value) × Sem Value)) (x : At) : Option (Value × At) :=
  bindR (exRuns st n0 ann q F M gd lv items none [] x) fun u x1 => bindR (exFlush st n0 ann q F M gd lv u.2 u.1 x1) fun o x2 => match o with
    | some d => some (.ref d, x2)
    | none => none
end
def flushS (run : List (Sem Value × Sem Value)) (main : Option Addr) : Sem (Option Addr) := do
  if run.isEmpty then return main
  match main with
  | none => return some (← subDict run)
  | some d =>
    let sub ← holding [.ref d] (subDict run)
    (holding [.ref d, .ref sub] (mergeMapping d (.ref sub) false)).onRaise fun x => do let _ ← holding [.ref d, x] (runValue (.builtin "proto.let_go" {}))
    return some d
theorem snd_flush {run : List (Sem Value × Sem Value)} {main : Option Addr} : Snd tb P w sd n0 ann q F gd lv (flushS run main) (exFlush (stepT (denote tb) P w) n0 ann q F M gd lv run main) := by
  unfold flushS
  cases run with
  | nil => exact Snd.pure
  | cons p r =>
    rw [if_neg (by simp)]
    cases main with
    | none => exact Snd.bind snd_sub fun d => Snd.pure
    | some d => exact Snd.bind (Snd.holding snd_sub) fun sub => Snd.bind (Snd.onRaise (Snd.holding snd_merge)) fun _ => Snd.pure
def dispB (x : Option (Sem Value) × Sem Value) (s : Option Addr × List (Sem Value × Sem Value)) : Sem (ForInStep (Option Addr × List (Sem Value × Sem Value))) := match x with
  | (some k, v) => if ((s.2 ++ [(k, v)]).length == 17) = true then flushS (s.2 ++ [(k, v)]) s.1 >>= fun m => pure (.yield (m, [])) else pure (.yield (s.1, s.2 ++ [(k, v)]))
  | (none, v) => unsupported ""
theorem snd_runs (f : Option (Sem Value) × Sem Value → Option Addr × List (Sem Value × Sem Value) → Sem (ForInStep (Option Addr × List (Sem Value × Sem Value))))
    (hf : ∀ k v s, f (some k, v) s = dispB (some k, v) s) : ∀ {items : List (Option (Sem Value) × Sem Value)} {main : Option Addr} {run : List (Sem Value × Sem Value)},
    Snd tb P w sd n0 ann q F gd lv (forIn items (main, run) f) (exRuns (stepT (denote tb) P w) n0 ann q F M gd lv items main run)
  | [], main, run => by
    rw [List.forIn_nil]
    exact Snd.pure
  | (none, v) :: r, main, run => snd_none
  | (some k, v) :: r, main, run => by
    rw [List.forIn_cons, hf]
    unfold dispB
    cases hb : Nat.beq (run ++ [(k, v)]).length 17 with
    | true =>
      have e := Nat.eq_of_beq_eq_true hb
      have hr : (exRuns (stepT (denote tb) P w) n0 ann q F M gd lv ((some k, v) :: r) main run) = fun x => bindR (exFlush (stepT (denote tb) P w) n0 ann q F M gd lv (run ++ [(k, v)]) main x) fun m x1 => exRuns (stepT (denote tb) P w) n0 ann q F M gd lv r m [] x1 := by
        funext x
        show (match Nat.beq (run ++ [(k, v)]).length 17 with | true => _ | false => _) = _
        rw [hb]
      rw [hr]
      dsimp only
      rw [if_pos (by rw [e]; rfl)]
      refine Snd.congr (t' := flushS (run ++ [(k, v)]) main >>= fun m => forIn r (m, []) f) (by simp only [bind_assoc, pure_bind]) ?_
      exact Snd.bind snd_flush fun m => snd_runs f hf
    | false =>
      have hr : (exRuns (stepT (denote tb) P w) n0 ann q F M gd lv ((some k, v) :: r) main run) = fun x => exRuns (stepT (denote tb) P w) n0 ann q F M gd lv r main (run ++ [(k, v)]) x := by
        funext x
        show (match Nat.beq (run ++ [(k, v)]).length 17 with | true => _ | false => _) = _
        rw [hb]
      rw [hr]
      dsimp only
      rw [if_neg (by intro z; have z2 := eq_of_beq z; rw [z2] at hb; cases hb)]
      rw [pure_bind]
      exact snd_runs f hf
theorem snd_disp {items : List (Option (Sem Value) × Sem Value)} : Snd tb P w sd n0 ann q F gd lv (dictDisplay items) (exDisp (stepT (denote tb) P w) n0 ann q F M gd lv items) := by
  unfold dictDisplay exDisp
  refine Snd.bind (snd_runs _ ?_) fun u => Snd.bind snd_flush fun o => ?_
  · intro k v s
    rfl
  cases o with
  | none => exact snd_none
  | some d => exact Snd.pure
/-! ### the statement x = {..} -/
section
variable (st : SharedT → Thread → Option (SharedT × Thread)) (n0 : Nat) (ann : Option Value) (q : Pos) (F M : Nat)
def exDict (env : PySem.Env) (keys : List (Option Expr)) (values : List Expr) (targets : List Expr) (pd pos : Pos) (x : At) : Option (Flow × At) :=
  bindR (leaf st n0 ann q id id M eU (standAt pos) x) fun _ x1 => bindR (leaf st n0 ann q id id M eU (standAt pd) x1) fun _ x2 =>
  bindR (exDisp st n0 ann q F M id id ((evalEachOpt keys env).zip ((evalEach values env).map fun v => do let x ← v; standAt pd; pure x)) x2) fun v x3 =>
  leaf st n0 ann q id id M eF (do assignStores env v (← swappedStores targets (.Dict keys values pd) env) ((assignEach targets env).map (·.2))) x3
end
theorem snd_stmt {env : PySem.Env} {keys : List (Option Expr)} {values : List Expr} {targets : List Expr} {pd pos : Pos} (hs : swapsWithSole targets (.Dict keys values pd) pos.line env = pure false) :
    Snd tb P w sd n0 ann q F id id (exec (.Assign targets (.Dict keys values pd) pos) env) (exDict (stepT (denote tb) P w) n0 ann q F M env keys values targets pd pos) := by
  unfold exDict
  refine Snd.congr (t' := standAt pos >>= fun _ => standAt pd >>= fun _ => dictDisplay ((evalEachOpt keys env).zip ((evalEach values env).map fun v => do let x ← v; standAt pd; pure x)) >>= fun v => (do assignStores env v (← swappedStores targets (.Dict keys values pd) env) ((assignEach targets env).map (·.2)))) ?_ ?_
  · show (standAt pos >>= fun _ => swapsWithSole targets (.Dict keys values pd) pos.line env >>= fun b => _) = _
    rw [hs]
    simp only [pure_bind, Bool.false_eq_true, if_false]
    show (standAt pos >>= fun _ => (standAt pd >>= fun _ => dictDisplay _) >>= fun v => _) = _
    simp only [bind_assoc]
  · exact Snd.bind Snd.leaf fun _ => Snd.bind Snd.leaf fun _ => Snd.bind snd_disp fun v => Snd.leaf
end
end HR
end
noncomputable section
/-! The head run, part 7: the whole top; the head by it. -/
namespace HR
open PySem PySem.W PySem.Calls PyProof.Rows HandSHeadRun
def goT (st : SharedT → Thread → Option (SharedT × Thread)) (n0 : Nat) (ann : Option Value) : Nat → SharedT → Thread → Option (SharedT × Thread)
  | 0, s, t => some (s, t)
  | m + 1, s, t => match through t with
    | true => none
    | false => match stepOk n0 ann t with
      | false => none
      | true => match st s t with
        | some (s', t') => frS s' fun s' => goT st n0 ann m s' t'
        | none => none
theorem goT_ok {tb : String → Option Builtin} {p : Program} {w : World} {n0 : Nat} {ann : Option Value} : ∀ {m N : Nat} {s s' : SharedT} {t t' : Thread} {r : Shared}, goT (stepT (denote tb) p w) n0 ann m s t = some (s', t') → topRun tb p w n0 ann N s'.abs t' = some r → topRun tb p w n0 ann (m + N) s.abs t = some r
  | 0, N, s, s', t, t', r, h, k => by
    cases h
    rw [Nat.zero_add]; exact k
  | m + 1, N, s, s', t, t', r, h, k => by
    unfold goT at h
    cases ht : through t with
    | true => rw [ht] at h; cases h
    | false =>
      rw [ht] at h
      cases hk : stepOk n0 ann t with
      | false => rw [hk] at h; cases h
      | true =>
        rw [hk] at h
        dsimp only at h
        cases hs : stepT (denote tb) p w s t with
        | none => rw [hs] at h; cases h
        | some u =>
          obtain ⟨s2, t2⟩ := u
          rw [hs] at h
          dsimp only at h
          rw [frS_eq] at h
          have e := top_step ht hk (stepT_spec hs) (goT_ok h k)
          rw [show m + 1 + N = 1 + (m + N) by omega]
          exact e
/-- the statement x = {..} of a list -/
structure Mid where
  i : Nat
  targets : List Expr
  keys : List (Option Expr)
  values : List Expr
  pd : Pos
  pos : Pos
def midOf (b : List Stmt) (i : Nat) : Mid := match b[i]? with
  | some (.Assign ts (.Dict ks vs pd) pos) => ⟨i, ts, ks, vs, pd, pos⟩
  | _ => ⟨i, [], [], [], default, default⟩
abbrev Mid.st (m : Mid) : Stmt := .Assign m.targets (.Dict m.keys m.values m.pd) m.pos
section
variable (st : SharedT → Thread → Option (SharedT × Thread)) (n0 : Nat) (ann : Option Value) (q : Pos) (p : Program) (F M k0 Mr : Nat) (env : PySem.Env) (b : List Stmt) (d : Mid)
def midX (x : At) : Option (Unit × At) :=
  bindR (leaf st n0 ann q id id M eU (blockStart b env) x) fun _ x2 =>
  bindR (leaf st n0 ann q id id M eF (execs (b.take d.i) env) x2) fun f x3 => match f with
    | .next => bindR (exDict st n0 ann q F M env d.keys d.values d.targets d.pd d.pos x3) fun f x4 => (match f with
      | .next => some ((), x4)
      | _ => none)
    | _ => none
def topX (s0 : SharedT) : Option (SharedT × Ks × Nat) := match goT st n0 ann k0 s0 (topStub p) with
  | none => none
  | some (s1, t1) => match midX st n0 ann q F M env b d ⟨s1, t1.code, t1.pos, [], 0⟩ with
    | none => none
    | some (_, x4) => match goF st n0 ann Mr x4.s (restOf (b.drop (d.i + 1)) env x4.c x4.p [topFrame q]) with
      | some s5 => some (s5, x4.ks, x4.m)
      | none => none
end
section
variable {tb : String → Option Builtin} {p : Program} {w : World} {sd : SharedT} {n0 : Nat} {ann : Option Value} {q : Pos} {F M k0 Mr : Nat} {env : PySem.Env} {b : List Stmt} {d : Mid}
theorem topX_ok {s0 s5 : SharedT} {ks : Ks} {m : Nat} {pos : Pos} (hb : b = b.take d.i ++ d.st :: b.drop (d.i + 1)) (hs : swapsWithSole d.targets (.Dict d.keys d.values d.pd) d.pos.line env = pure false)
    (ht : (goT (stepT (denote tb) p w) n0 ann k0 s0 (topStub p)).map (·.2) = some ⟨denote tb (.body b env), .body b env, pos, [topFrame q]⟩)
    (h : topX (stepT (denote tb) p w) n0 ann q p F M k0 Mr env b d s0 = some (s5, ks, m)) (kt : KtOk tb p w sd n0 ann q F ks) :
    topRun tb p w n0 ann (k0 + (m + Mr)) s0.abs (topStub p) = some s5.abs := by
  unfold topX at h
  cases e1 : goT (stepT (denote tb) p w) n0 ann k0 s0 (topStub p) with
  | none => rw [e1] at h; cases h
  | some u =>
    obtain ⟨s1, t1⟩ := u
    rw [e1] at h ht
    have et : t1 = ⟨denote tb (.body b env), .body b env, pos, [topFrame q]⟩ := Option.some.inj ht
    subst et
    dsimp only at h
    unfold midX at h
    cases e2 : leaf (stepT (denote tb) p w) n0 ann q id id M eU (blockStart b env) ⟨s1, .body b env, pos, [], 0⟩ with
    | none => rw [e2] at h; cases h
    | some u2 =>
      obtain ⟨_, x2⟩ := u2
      rw [e2] at h
      dsimp only [bindR] at h
      cases e3 : leaf (stepT (denote tb) p w) n0 ann q id id M eF (execs (b.take d.i) env) x2 with
      | none => rw [e3] at h; cases h
      | some u3 =>
        obtain ⟨f, x3⟩ := u3
        rw [e3] at h
        cases f with
        | next =>
          dsimp only at h
          cases e4 : exDict (stepT (denote tb) p w) n0 ann q F M env d.keys d.values d.targets d.pd d.pos x3 with
          | none => rw [e4] at h; cases h
          | some u4 =>
            obtain ⟨f4, x4⟩ := u4
            rw [e4] at h
            cases f4 with
            | next =>
              dsimp only at h
              cases e5 : goF (stepT (denote tb) p w) n0 ann Mr x4.s (restOf (b.drop (d.i + 1)) env x4.c x4.p [topFrame q]) with
              | none => rw [e5] at h; cases h
              | some s6 =>
                rw [e5] at h
                cases h
                have r5 := goF_ok e5
                obtain ⟨o2, k2, m2⟩ := leaf_ok e2
                obtain ⟨o3, k3, m3⟩ := leaf_ok e3
                obtain ⟨p4, g4⟩ := snd_stmt (sd := sd) (F := F) (M := M) hs x3 .next x4 e4
                obtain ⟨X, l4, o4⟩ := g4 kt
                have r4 := o4 (fun f => match f with | .next => (execs (b.drop (d.i + 1)) env).wrap doneF (leaveH env) id id | f => doneF f) (leaveH env) Mr s5.abs r5
                have r4' : topRun tb p w n0 ann (X + Mr) x3.s.abs ⟨(execs (d.st :: b.drop (d.i + 1)) env).wrap doneF (leaveH env) id id, x3.c, x3.p, [topFrame q]⟩ = some s5.abs := by
                  rw [execs_cons_wrap]; exact r4
                have r3 := o3 (fun f => match f with | .next => (execs (d.st :: b.drop (d.i + 1)) env).wrap doneF (leaveH env) id id | f => doneF f) (leaveH env) (X + Mr) s5.abs r4'
                have r3' : topRun tb p w n0 ann (M + (X + Mr)) x2.s.abs ⟨(execs b env).wrap doneF (leaveH env) id id, x2.c, x2.p, [topFrame q]⟩ = some s5.abs := by
                  rw [hb, execs_app_wrap]; exact r3
                have r2 := o2 (fun _ => (execs b env).wrap doneF (leaveH env) id id) .raise (M + (X + Mr)) s5.abs r3'
                have r1 := goT_ok e1 (show topRun tb p w n0 ann (M + (M + (X + Mr))) s1.abs ⟨denote tb (.body b env), .body b env, pos, [topFrame q]⟩ = some s5.abs by rw [body_wrap]; exact r2)
                have m3' : x3.m = x2.m + M := m3
                have m2' : x2.m = 0 + M := m2
                have e := topRun_mono (x4.m + Mr - (M + (M + (X + Mr)))) _ _ _ _ r1
                rw [show k0 + (M + (M + (X + Mr))) + (x4.m + Mr - (M + (M + (X + Mr)))) = k0 + (x4.m + Mr) by omega] at e
                exact e
            | _ => cases h
        | _ => cases h
end
/-! ### the boot -/
/-- the state behind the top, the keys that were put, the steps -/
def endX (st : SharedT → Thread → Option (SharedT × Thread)) (F M k0 Mr : Nat) (p : Program) (env : Nat → PySem.Env) (b : List Stmt) (d : Mid) (w : World) (os : OsState) : Option (SharedT × Ks × Nat) := match putAll (boot_heap w.params).objs.toList .nil 0 with
  | some (t, n) => frNat n fun n0 => topX st n0 (bootAnn w) default p F M k0 Mr (env n0) b d (bootT w os (t, n0))
  | none => none
def preX (st : SharedT → Thread → Option (SharedT × Thread)) (k0 : Nat) (p : Program) (w : World) (os : OsState) : Option Thread := match putAll (boot_heap w.params).objs.toList .nil 0 with
  | some (t, n) => frNat n fun n0 => (goT st n0 (bootAnn w) k0 (bootT w os (t, n0)) (topStub p)).map (·.2)
  | none => none
theorem endX_ok {F M k0 Mr : Nat} {p : Program} {env : Nat → PySem.Env} {b : List Stmt} {d : Mid} {w : World} {os : OsState} {sd : SharedT} {s5 : SharedT} {ks : Ks} {m : Nat} {pos : Pos} (hb : b = b.take d.i ++ d.st :: b.drop (d.i + 1))
    (hs : ∀ n, swapsWithSole d.targets (.Dict d.keys d.values d.pd) d.pos.line (env n) = pure false)
    (ht : preX (stepT (denote treeTable) p w) k0 p w os = some ⟨denote treeTable (.body b (env (boot_heap w.params).objs.size)), .body b (env (boot_heap w.params).objs.size), pos, [topFrame default]⟩)
    (h : endX (stepT (denote treeTable) p w) F M k0 Mr p env b d w os = some (s5, ks, m)) (kt : KtOk treeTable p w sd (boot_heap w.params).objs.size (bootAnn w) default F ks) :
    topRun treeTable p w (boot_heap w.params).objs.size (bootAnn w) (k0 + (m + Mr)) ⟨boot_heap w.params, #[], boot_drawn, boot_toks, os⟩ (topStub p) = some s5.abs := by
  unfold endX at h
  unfold preX at ht
  cases e : putAll (boot_heap w.params).objs.toList .nil 0 with
  | none => rw [e] at h; cases h
  | some r =>
    obtain ⟨t, n⟩ := r
    rw [e] at h ht
    dsimp only at h ht
    rw [frNat_eq] at h ht
    have eh := putAll_heap e
    have en : (boot_heap w.params).objs.size = n := by
      rw [← eh]
      exact absHeap_size t n _
    rw [en] at ht kt ⊢
    have eb : (bootT w os (t, n)).abs = ⟨boot_heap w.params, #[], boot_drawn, boot_toks, os⟩ := by
      show (⟨absHeap t n (boot_heap w.params).life, #[], boot_drawn, boot_toks, os⟩ : Shared) = _
      rw [eh]
    rw [← eb]
    exact topX_ok hb (hs n) ht h kt
end HR
end
noncomputable section
/-! The head run, part 8: what the top leaves, told of a part of the heap. -/
namespace HR
open PySem PySem.W PySem.Calls PyProof.Rows HandSHeadRun L2 DL
/-! ### constants -/
mutual
def isB (K : PySem.W.Frag) (u : Value) : D → Bool
  | .non => (match u with
    | .none => true
    | _ => false)
  | .bl b => (match u with
    | .bool c => b == c
    | _ => false)
  | .int i => (match u with
    | .int j _ => decide (i = j)
    | _ => false)
  | .str s => (match u with
    | .str t _ => decide (s = t)
    | _ => false)
  | .ty n => (match u with
    | .type m => decide (n = m)
    | _ => false)
  | .tup ds => (match u with
    | .ref a => (match K.lookup a with
      | some ⟨.type c, _, .seq its _, _⟩ => decide (c = "tuple") && (Nat.ble its.size 1000 && isBL K its.toList ds)
      | _ => false)
    | _ => false)
  | .cl ds => (match u with
    | .ref a => (match K.lookup a with
      | some ⟨.type c, none, .seq its _, _⟩ => decide (c = "list") && (Nat.ble its.size 1000 && isBL K its.toList ds)
      | _ => false)
    | _ => false)
  | .ref _ => false
  | .cd _ _ => false
def isBL (K : PySem.W.Frag) : List Value → List D → Bool
  | [], [] => true
  | u :: us, d :: ds => isB K u d && isBL K us ds
  | _, _ => false
end
theorem size_ok {n : Nat} (h : Nat.ble n 1000 = true) : n ≤ sizeLine := Nat.le_trans (Nat.le_of_ble_eq_true h) (by decide)
mutual
theorem isB_ok {M : Md} : ∀ {d : D} {u : Value}, isB M.K u d = true → ∃ v, RelV v u ∧ ∀ H, Is M H v d
  | .non, u, h => by
    unfold isB at h
    split at h
    · exact ⟨.non, rfl, fun _ => rfl⟩
    · cases h
  | .bl b, u, h => by
    unfold isB at h
    split at h
    · exact ⟨.bl b, by rw [eq_of_beq h]; rfl, fun _ => rfl⟩
    · cases h
  | .int i, u, h => by
    unfold isB at h
    split at h
    · exact ⟨.int i, ⟨_, by rw [of_decide_eq_true h]⟩, fun _ => rfl⟩
    · cases h
  | .str s, u, h => by
    unfold isB at h
    split at h
    · exact ⟨.str s, ⟨_, by rw [of_decide_eq_true h]⟩, fun _ => rfl⟩
    · cases h
  | .ty n, u, h => by
    unfold isB at h
    split at h
    · exact ⟨.ty n, by rw [of_decide_eq_true h]; rfl, fun _ => rfl⟩
    · cases h
  | .tup ds, u, h => by
    unfold isB at h
    split at h
    · rename_i a
      split at h
      · rename_i c od its n sl hk
        rw [Bool.and_eq_true, Bool.and_eq_true] at h
        obtain ⟨vs, r, l⟩ := isBL_ok (M := M) h.2.2
        exact ⟨.ref a, rfl, fun H => ⟨a, vs, rfl, .inr ⟨_, its, n, hk, congrArg Value.type (of_decide_eq_true h.1), rfl, size_ok h.2.1, r⟩, l H⟩⟩
      · cases h
    · cases h
  | .cl ds, u, h => by
    unfold isB at h
    split at h
    · rename_i a
      split at h
      · rename_i c its n sl hk
        rw [Bool.and_eq_true, Bool.and_eq_true] at h
        obtain ⟨vs, r, l⟩ := isBL_ok (M := M) h.2.2
        exact ⟨.ref a, rfl, fun H => ⟨a, vs, rfl, .inr ⟨_, its, n, hk, congrArg Value.type (of_decide_eq_true h.1), rfl, rfl, size_ok h.2.1, r⟩, l H⟩⟩
      · cases h
    · cases h
  | .ref _, u, h => by unfold isB at h; cases h
  | .cd _ _, u, h => by unfold isB at h; cases h
theorem isBL_ok {M : Md} : ∀ {ds : List D} {us : List Value}, isBL M.K us ds = true → ∃ vs, Vals vs us ∧ ∀ H, IsL M H vs ds
  | [], [], h => ⟨[], .nil, fun _ => rfl⟩
  | [], _ :: _, h => by unfold isBL at h; cases h
  | _ :: _, [], h => by unfold isBL at h; cases h
  | d :: ds, u :: us, h => by
    unfold isBL at h
    rw [Bool.and_eq_true] at h
    obtain ⟨v, r, l⟩ := isB_ok (M := M) h.1
    obtain ⟨vs, rs, ls⟩ := isBL_ok (M := M) h.2
    exact ⟨v :: vs, .cons r rs, fun H => IsL.cons (l H) (ls H)⟩
end
/-! ### dicts -/
def entB (K : PySem.W.Frag) : List DictEntry → List Key → List D → Bool
  | [], [], [] => true
  | e :: es, k :: kk, d :: ds => keyIs k e.key && (isB K e.val d && entB K es kk ds)
  | _, _, _ => false
def keysB : List Value → List Key → Bool
  | [], [] => true
  | u :: us, k :: kk => keyIs k u && keysB us kk
  | _, _ => false
def entTB (K : PySem.W.Frag) : List DictEntry → List (List Key) → List D → Bool
  | [], [], [] => true
  | e :: es, k :: kk, d :: ds => (match e.key with
    | .ref b => (match K.lookup b with
      | some ⟨.type c, _, .seq its _, _⟩ => decide (c = "tuple") && keysB its.toList k
      | _ => false)
    | _ => false) && (isB K e.val d && entTB K es kk ds)
  | _, _, _ => false
inductive Cn where
  | val (x : Str) (d : D)
  | dic (x : Str) (kk : List Key) (ds : List D)
  | dict (x : Str) (kk : List (List Key)) (ds : List D)
def Cn.x : Cn → Str
  | .val x _ => x
  | .dic x _ _ => x
  | .dict x _ _ => x
def Cn.d : Cn → D
  | .val _ d => d
  | .dic _ kk ds => .cd (kk.map kD) ds
  | .dict _ kk ds => .cd (kk.map fun l => .tup (l.map kD)) ds
def dictAt (K : PySem.W.Frag) (x : Str) : Option (Addr × Array DictEntry) := match PySem.W.nsIn K mainGlobals x with
  | some (some (.ref a)) => (match K.lookup a with
    | some ⟨.type c, none, .dict es _, sl⟩ => (match decide (c = "dict") && (sl.isEmpty && !(a == sysModules)) with
      | true => some (a, es)
      | false => none)
    | _ => none)
  | _ => none
def Cn.ok (K : PySem.W.Frag) : Cn → Bool
  | .val x d => (match PySem.W.nsIn K mainGlobals x with
    | some (some u) => isB K u d
    | _ => false)
  | .dic x kk ds => (match dictAt K x with
    | some (_, es) => entB K es.toList kk ds && decide kk.Nodup
    | none => false)
  | .dict x kk ds => (match dictAt K x with
    | some (_, es) => entTB K es.toList kk ds && decide kk.Nodup
    | none => false)
def hashes (K : PySem.W.Frag) (x : Str) : List Int := match dictAt K x with
  | some (_, es) => es.toList.map (·.hash)
  | none => []
def Cn.hs (K : PySem.W.Frag) : Cn → List Int
  | .val _ _ => []
  | .dic x _ _ => hashes K x
  | .dict x _ _ => hashes K x
def Cn.hv (P : Program) (w : World) : Cn → List Int
  | .val _ _ => []
  | .dic _ kk _ => kk.map (keyH w)
  | .dict _ kk _ => kk.map (tupleKeyHash (mixKind P w))
theorem dictAt_ok {K : PySem.W.Frag} {x : Str} {a : Addr} {es : Array DictEntry} (h : dictAt K x = some (a, es)) : PySem.W.nsIn K mainGlobals x = some (some (.ref a)) ∧ (∃ ep, K.lookup a = some { cls := .type "dict", dict := none, data := .dict es ep, slots := #[] }) ∧ (a == sysModules) = false := by
  unfold dictAt at h
  split at h
  · rename_i b hn
    split at h
    · rename_i c es' n sl hk
      split at h
      · rename_i hc
        cases h
        rw [Bool.and_eq_true, Bool.and_eq_true] at hc
        refine ⟨hn, ⟨n, ?_⟩, ?_⟩
        · rw [hk, of_decide_eq_true hc.1, Array.isEmpty_iff.mp hc.2.1]
        · cases q : a == sysModules with
          | false => rfl
          | true => rw [q] at hc; cases hc.2.2
      · cases h
    · cases h
  · cases h
theorem entB_ok {M : Md} : ∀ {es : List DictEntry} {kk : List Key} {ds : List D}, entB M.K es kk ds = true → es.map (·.hash) = kk.map (keyH M.w) →
    ∃ us vs, Vals us vs ∧ (∀ H, IsL M H us ds) ∧ kk.length = us.length ∧ Pairs (mixKind M.P M.w) es (kk.zip vs) ∧ ∀ e ∈ es, ∃ k, (mixKind M.P M.w).is k e.key = true ∧ e.hash = (mixKind M.P M.w).hash k
  | [], [], [], _, _ => ⟨[], [], .nil, fun _ => rfl, rfl, .nil, fun e he => by cases he⟩
  | e :: es, k :: kk, d :: ds, h, g => by
    unfold entB at h
    rw [Bool.and_eq_true, Bool.and_eq_true] at h
    rw [List.map_cons, List.map_cons] at g
    injection g with g1 g2
    obtain ⟨v, r, l⟩ := isB_ok (M := M) h.2.1
    obtain ⟨us, vs, rs, ls, len, ps, ke⟩ := entB_ok (M := M) h.2.2 g2
    refine ⟨v :: us, e.val :: vs, .cons r rs, fun H => IsL.cons (l H) (ls H), by rw [List.length_cons, List.length_cons, len], Pairs.cons h.1 rfl ps, fun e' he => ?_⟩
    rcases List.mem_cons.mp he with z | z
    · subst z; exact ⟨k, h.1, g1⟩
    · exact ke e' z
  | [], [], _ :: _, h, _ => by cases h
  | [], _ :: _, [], h, _ => by cases h
  | [], _ :: _, _ :: _, h, _ => by cases h
  | _ :: _, [], [], h, _ => by cases h
  | _ :: _, [], _ :: _, h, _ => by cases h
  | _ :: _, _ :: _, [], h, _ => by cases h
theorem zip_fst {α β : Type} : ∀ {l : List α} {m : List β}, l.length = m.length → (l.zip m).map (·.1) = l
  | [], [], _ => rfl
  | [], _ :: _, h => by cases h
  | _ :: _, [], h => by cases h
  | a :: l, b :: m, h => by
    rw [List.zip_cons_cons, List.map_cons, zip_fst (by simpa using h)]
theorem keysB_ok {P : Program} {w : World} : ∀ {us : List Value} {k : List Key}, keysB us k = true → PySem.ItemsAre (mixKind P w) k us
  | [], [], _ => .nil
  | u :: us, k :: kk, h => by
    unfold keysB at h
    rw [Bool.and_eq_true] at h
    exact .cons h.1 (keysB_ok h.2)
  | [], _ :: _, h => by cases h
  | _ :: _, [], h => by cases h
theorem entTB_ok {M : Md} : ∀ {es : List DictEntry} {kk : List (List Key)} {ds : List D}, entTB M.K es kk ds = true → es.map (·.hash) = kk.map (tupleKeyHash (mixKind M.P M.w)) →
    ∃ us vs, Vals us vs ∧ (∀ H, IsL M H us ds) ∧ kk.length = us.length ∧ ∃ xs : List (List Key × Addr × Value), es = xs.map (entryOfKey (tupleKind (mixKind M.P M.w))) ∧ pairsH xs = kk.zip vs ∧ xs.map (·.1) = kk ∧ ∀ h : Heap, M.K.In h → ∀ x ∈ xs, (tupleKind (mixKind M.P M.w)).is h x.1 x.2.1
  | [], [], [], _, _ => ⟨[], [], .nil, fun _ => rfl, rfl, [], rfl, rfl, rfl, fun _ _ x hx => by cases hx⟩
  | e :: es, k :: kk, d :: ds, h, g => by
    unfold entTB at h
    rw [Bool.and_eq_true, Bool.and_eq_true] at h
    rw [List.map_cons, List.map_cons] at g
    injection g with g1 g2
    obtain ⟨v, r, l⟩ := isB_ok (M := M) h.2.1
    obtain ⟨us, vs, rs, ls, len, xs, ex, ep, ek, ei⟩ := entTB_ok (M := M) h.2.2 g2
    have h1 := h.1
    split at h1
    · rename_i b hb
      split at h1
      · rename_i c od its n sl hk
        rw [Bool.and_eq_true] at h1
        refine ⟨v :: us, e.val :: vs, .cons r rs, fun H => IsL.cons (l H) (ls H), by rw [List.length_cons, List.length_cons, len], (k, b, e.val) :: xs, ?_, ?_, ?_, fun h' hK x hx => ?_⟩
        · rw [List.map_cons, ← ex]
          congr 1
          obtain ⟨eh, ek', ev⟩ := e
          have h1' : eh = tupleKeyHash (mixKind M.P M.w) k := g1
          have h2' : ek' = .ref b := hb
          subst h1' h2'
          rfl
        · show (k, e.val) :: pairsH xs = (k, e.val) :: kk.zip vs
          rw [ep]
        · rw [List.map_cons, ek]
        · rcases List.mem_cons.mp hx with z | z
          · subst z
            exact ⟨_, its, n, hK _ _ hk, congrArg Value.type (of_decide_eq_true h1.1), rfl, keysB_ok h1.2⟩
          · exact ei h' hK x z
      · cases h1
    · cases h1
  | [], [], _ :: _, h, _ => by cases h
  | [], _ :: _, [], h, _ => by cases h
  | [], _ :: _, _ :: _, h, _ => by cases h
  | _ :: _, [], [], h, _ => by cases h
  | _ :: _, [], _ :: _, h, _ => by cases h
  | _ :: _, _ :: _, [], h, _ => by cases h
theorem Cn.gd {M : Md} {h : Heap} {mg : Str → Option Value} (X : M.K.In h) (Gn : h.Ns mainGlobals mg) {c : Cn} (ho : c.ok M.K = true) (hh : c.hs M.K = c.hv M.P M.w) : GD M mg c.x c.d := by
  cases c with
  | val x d =>
    dsimp only [Cn.ok] at ho
    split at ho
    · rename_i u hu
      obtain ⟨v, r, l⟩ := isB_ok (M := M) ho
      exact ⟨u, v, PySem.W.mg_of X Gn hu, r, l⟩
    · cases ho
  | dic x kk ds =>
    dsimp only [Cn.ok] at ho
    split at ho
    · rename_i a es hd
      rw [Bool.and_eq_true] at ho
      obtain ⟨hn, ⟨ep, hk⟩, hs⟩ := dictAt_ok hd
      have hh2 : es.toList.map (·.hash) = kk.map (keyH M.w) := by
        have z : hashes M.K x = kk.map (keyH M.w) := hh
        unfold hashes at z
        rw [hd] at z
        exact z
      obtain ⟨us, vs, r, l, len, ps, ke⟩ := entB_ok (M := M) ho.1 hh2
      refine ⟨.ref a, .ref a, PySem.W.mg_of X Gn hn, rfl, fun H => ⟨a, us, rfl, ⟨hs, ⟨_, hk, rfl, rfl⟩, .inl ⟨kk, rfl, len, fun h' hK => ⟨vs, r, ?_⟩⟩⟩, l H⟩⟩
      exact ⟨_, es, ep, hK _ _ hk, ⟨rfl, rfl, rfl⟩, rfl, fun e he => ke e (Array.mem_toList_iff.mpr he), ps, by rw [zip_fst (len.trans r.length)]; exact of_decide_eq_true ho.2⟩
    · cases ho
  | dict x kk ds =>
    dsimp only [Cn.ok] at ho
    split at ho
    · rename_i a es hd
      rw [Bool.and_eq_true] at ho
      obtain ⟨hn, ⟨ep, hk⟩, hs⟩ := dictAt_ok hd
      have hh2 : es.toList.map (·.hash) = kk.map (tupleKeyHash (mixKind M.P M.w)) := by
        have z : hashes M.K x = kk.map (tupleKeyHash (mixKind M.P M.w)) := hh
        unfold hashes at z
        rw [hd] at z
        exact z
      obtain ⟨us, vs, r, l, len, xs, ex, epz, ek, ei⟩ := entTB_ok (M := M) ho.1 hh2
      refine ⟨.ref a, .ref a, PySem.W.mg_of X Gn hn, rfl, fun H => ⟨a, us, rfl, ⟨hs, ⟨_, hk, rfl, rfl⟩, .inr ⟨kk, rfl, len, fun h' hK => ⟨vs, r, xs, ?_, epz⟩⟩⟩, l H⟩⟩
      exact ⟨_, es, ep, hK _ _ hk, ⟨rfl, rfl, rfl⟩, rfl, ex, ei h' hK, by rw [ek]; exact of_decide_eq_true ho.2⟩
    · cases ho
end HR
end
noncomputable section
/-! The head run, part 9: the Hook, the head, the end. -/
namespace HR
open PySem PySem.W PySem.Calls PyProof.Rows HandSHeadRun L2 DL
/-! ### the Hook -/
def refsX (o : Obj) : List Addr := He.refsD o ++ match o.data with
  | .dict es _ => es.toList.flatMap fun e => He.refV e.key
  | _ => []
def growX (g : Addr → Option Obj) (as : List Addr) : List Addr := (as ++ as.flatMap fun a => match g a with
  | some o => refsX o
  | none => []).eraseDups
def asX (g : Addr → Option Obj) : Nat → List Addr
  | 0 => [mainGlobals]
  | n + 1 => growX g (asX g n)
abbrev AlC : Type := He.AlD × Bool × List (List Int)
def obsC (fa : List He.Fa) (fn : List He.DefD) (cn : List Cn) (K : PySem.W.Frag) : AlC := (He.obsD fa fn K, cn.all (fun c => c.ok K), cn.map fun c => c.hs K)
def valC (P : Program) (fn : List He.DefD) (cn : List Cn) (w : World) : AlC := (He.valD fn, true, cn.map fun c => c.hv P w)
def obsCG (n : Nat) (fa : List He.Fa) (fn : List He.DefD) (cn : List Cn) (g : Addr → Option Obj) : AlC := obsC fa fn cn (He.frG g (asX g n))
/-- what the end leans on -/
structure SaysC (P : Program) (fa : List He.Fa) (fn : List He.DefD) (cn : List Cn) (w : World) (K : PySem.W.Frag) : Prop where
  d : He.SaysD fa fn K
  ok : ∀ c ∈ cn, c.ok K = true
  hs : ∀ c ∈ cn, c.hs K = c.hv P w
theorem map_eq_mem {α β : Type} {f g : α → β} : ∀ {l : List α}, l.map f = l.map g → ∀ a ∈ l, f a = g a
  | [], _, a, h => by cases h
  | b :: l, e, a, h => by
    rw [List.map_cons, List.map_cons] at e
    injection e with e1 e2
    rcases List.mem_cons.mp h with z | z
    · subst z; exact e1
    · exact map_eq_mem e2 a z
theorem saysC_of {P : Program} {fa : List He.Fa} {fn : List He.DefD} {cn : List Cn} {w : World} {K : PySem.W.Frag} (e : obsC fa fn cn K = valC P fn cn w) : SaysC P fa fn cn w K :=
  ⟨congrArg (fun z : AlC => z.1) e, fun c hc => List.all_eq_true.mp (congrArg (fun z : AlC => z.2.1) e) c hc, map_eq_mem (congrArg (fun z : AlC => z.2.2) e)⟩
def hookC (P : Program) (n : Nat) (fa : List He.Fa) (fn : List He.DefD) (cn : List Cn) : PySem.W.Hook where
  α := AlC
  obs := fun s => obsCG n fa fn cn s.heap.get?
  val := fun w => valC P fn cn w
  says := fun w h => ∃ K : PySem.W.Frag, K.In h ∧ SaysC P fa fn cn w K
  of := fun _ _ e => ⟨_, He.frG_in, saysC_of e⟩
  keeps := fun _ _ _ ⟨K, hK, c⟩ k => ⟨K, PySem.W.Frag.In.keeps hK k, c⟩
/-- what is looked at, off the tree -/
def obT (n : Nat) (fa : List He.Fa) (fn : List He.DefD) (cn : List Cn) (s : SharedT) : AlC := obsCG n fa fn cn (getT s)
theorem obT_eq {P : Program} {n : Nat} {fa : List He.Fa} {fn : List He.DefD} {cn : List Cn} (s : SharedT) : obT n fa fn cn s = (hookC P n fa fn cn).obs s.abs := by
  unfold obT
  rw [show getT s = s.abs.heap.get? from funext (getT_eq s)]
  rfl
/-! ### the head -/
/-- behind the top, by any road -/
def TopX (p q : Program) (loose : List Str) {α : Type} (Xt : Shared → Bool) (Yf : Shared → α) (Ya : World → α) (M : Nat) (w : World) (os : OsState) : Prop :=
  ∃ s : Shared, topRun treeTable p w (boot_heap w.params).objs.size (bootAnn w) M ⟨boot_heap w.params, #[], boot_drawn, boot_toks, os⟩ (topStub p) = some s ∧
    looksF p (boot_heap w.params) s = true ∧ openSeen q loose (importedModules p.main.body) Xt true s = openGood q loose ∧ Yf s = Ya w
theorem left_x {p q : Program} {loose : List Str} {Xt : Shared → Bool} {α : Type} {Yf : Shared → α} {Ya : World → α} {M : Nat} (e : opening p = plainProg p.main.scope.names) (f : ∀ s, fenceModules? p s = some s)
    (top : ∀ w os, TopX p q loose Xt Yf Ya M w os) : LeftO p q loose Xt Yf Ya (M + 600) true := by
  intro w
  have hb := boot_open e (N := M + 600) (Nat.ble_eq_true_of_le (Nat.le_add_left _ _)) f w
  rw [Option.map_eq_some_iff] at hb
  obtain ⟨⟨hp, gs, dr, tk, os⟩, ho, hv⟩ := hb
  have hq : hp = boot_heap w.params ∧ gs = Array.mk [] ∧ dr = boot_drawn ∧ tk = boot_toks := by simpa using hv
  obtain ⟨h1, h2, h3, h4⟩ := hq
  subst h1 h2 h3 h4
  obtain ⟨s, run, lk, sn, yy⟩ := top w os
  have run' := topRun_mono 600 _ _ _ _ run
  have ft : topFrom treeTable p w (M + 600) ⟨boot_heap w.params, Array.mk [], boot_drawn, boot_toks, os⟩ = some s := by
    unfold topFrom
    show (match (boot_heap w.params).isNs mainGlobals && true with | true => _ | false => none) = _
    rw [boot_ns]
    show Option.bind (topRun treeTable p w (boot_heap w.params).objs.size (bootAnn w) (M + 600) ⟨boot_heap w.params, #[], boot_drawn, boot_toks, os⟩ (topStub p)) _ = _
    rw [run']
    show (match looksF p (boot_heap w.params) s with | true => some s | false => none) = some s
    rw [lk]
  show ((fencedOpening treeTable p w (M + 600)).bind (topFrom treeTable p w (M + 600))).map _ = _
  rw [ho]
  show (topFrom treeTable p w (M + 600) _).map _ = _
  rw [ft, Option.map_some, sn, yy]
theorem head_x {r : OpenRow} {q : Program} {H : Hook} {M : Nat} {loose : List PySem.Str} {d : DefRec} {kwd : List (PySem.Str × PySem.Expr)}
    (e : opening r.prog = plainProg r.prog.main.scope.names) (f : ∀ s, fenceModules? r.prog s = some s) (top : ∀ w os, TopX r.prog q loose (fun s => xlAt q [] s && recOk r.toRowW.records s) H.obs H.val M w os)
    (hdef : defOf q r.name = some (d, kwd)) (hp : r.prog.theDef r.name = some (d.params, d.body, d.scope)) (hk : kwWritten? d.params.kwonlyargs d.params.kw_defaults = some kwd)
    (hwr : (!r.writes || r.records.isEmpty) = true) (k1 : r.wellSaid = true) (ok : (chainsOk q && opensWell r.prog && (frees r.toRowW && r.within.isEmpty)) = true) (hb : r.prog.bare) (hw : r.toRowW.promised)
    (call : WalkO q loose (XL q []) H.says r.toRowW d kwd fun f vs => PySem.call f vs) : r.Holds :=
  holds_open (XP := XL q []) (YP := H.says) (left_x e f top) H.of H.keeps (fun s z => xl_of s (ba2 z).1) XL.keeps hdef hp hk (fun s z => recFacts_of (ba2 z).2) hwr k1 ok hb hw call
where
  ba2 {a b : Bool} (z : (a && b) = true) : a = true ∧ b = true := Bool.and_eq_true_iff.mp z
/-! ### the keys are told apart -/
def pairsOf : Ks → List ((Addr × Obj) × (Addr × Obj))
  | [] => []
  | b :: r => r.map (fun p => (b, p)) ++ pairsOf r
theorem pairsOf_pw {R : Addr × Obj → Addr × Obj → Prop} : ∀ {ks : Ks}, (∀ x ∈ pairsOf ks, R x.1 x.2) → ks.Pairwise R
  | [], _ => .nil
  | b :: r, h => by
    refine List.pairwise_cons.mpr ⟨fun p hp => ?_, pairsOf_pw fun x hx => h x (List.mem_append_right _ hx)⟩
    exact h (b, p) (List.mem_append_left _ (List.mem_map_of_mem hp))
section
variable (st : SharedT → Thread → Option (SharedT × Thread)) (sd : SharedT) (n0 : Nat) (ann : Option Value) (q : Pos) (F : Nat) (b : List Stmt) (e : PySem.Env) (gd : Bool → Bool) (lv : List Value → List Value) (pos : Pos)
def lookQ (p : Addr × Obj) : Option (Flow × Code × Pos) := roT st sd n0 ann (g1 p.1 p.2) F ⟨(eqIsQuiet 8 (.ref p.1)).wrap (fun a => .pure (.done (eB.res a))) deadEnd gd lv, .body b e, pos, [topFrame q]⟩
def lookN (p : (Addr × Obj) × (Addr × Obj)) : Option (Flow × Code × Pos) := roT st sd n0 ann (g2 p.1.1 p.1.2 p.2.1 p.2.2) F ⟨(eqBool (.ref p.1.1) (.ref p.2.1)).wrap (fun a => .pure (.done (eB.res a))) deadEnd gd lv, .body b e, pos, [topFrame q]⟩
end
def LookQ (st : SharedT → Thread → Option (SharedT × Thread)) (sd : SharedT) (n0 : Nat) (ann : Option Value) (q : Pos) (F : Nat) (l : Ks) : Prop :=
  ∀ (b : List Stmt) (e : PySem.Env) (gd : Bool → Bool) (lv : List Value → List Value) (pos : Pos), l.map (lookQ st sd n0 ann q F b e gd lv pos) = l.map fun _ => some (eB.res true, .body b e, pos)
def LookN (st : SharedT → Thread → Option (SharedT × Thread)) (sd : SharedT) (n0 : Nat) (ann : Option Value) (q : Pos) (F : Nat) (l : List ((Addr × Obj) × (Addr × Obj))) : Prop :=
  ∀ (b : List Stmt) (e : PySem.Env) (gd : Bool → Bool) (lv : List Value → List Value) (pos : Pos), l.map (lookN st sd n0 ann q F b e gd lv pos) = l.map fun _ => some (eB.res false, .body b e, pos)
theorem LookN.split {st : SharedT → Thread → Option (SharedT × Thread)} {sd : SharedT} {n0 : Nat} {ann : Option Value} {q : Pos} {F : Nat} (k : Nat) {l : List ((Addr × Obj) × (Addr × Obj))} (h1 : LookN st sd n0 ann q F (l.take k)) (h2 : LookN st sd n0 ann q F (l.drop k)) : LookN st sd n0 ann q F l := fun b e gd lv pos => by
  rw [← List.take_append_drop k l, List.map_append, List.map_append, h1 b e gd lv pos, h2 b e gd lv pos]
theorem ktOk_of {tb : String → Option Builtin} {P : Program} {w : World} {sd : SharedT} {n0 : Nat} {ann : Option Value} {q : Pos} {F : Nat} {ks : Ks} (h1 : LookQ (stepT (denote tb) P w) sd n0 ann q F ks) (h2 : LookN (stepT (denote tb) P w) sd n0 ann q F (pairsOf ks)) :
    KtOk tb P w sd n0 ann q F ks :=
  ⟨fun p hp b e gd lv pos => map_eq_mem (h1 b e gd lv pos) p hp, pairsOf_pw fun x hx b e gd lv pos => map_eq_mem (h2 b e gd lv pos) x hx⟩
/-! ### the keys alone -/
def keysX (st : SharedT → Thread → Option (SharedT × Thread)) (F M k0 : Nat) (p : Program) (env : Nat → PySem.Env) (b : List Stmt) (d : Mid) (w : World) (os : OsState) : Ks := match putAll (boot_heap w.params).objs.toList .nil 0 with
  | some (t, n) => frNat n fun n0 => match goT st n0 (bootAnn w) k0 (bootT w os (t, n0)) (topStub p) with
    | some (s1, t1) => (match midX st n0 (bootAnn w) default F M (env n0) b d ⟨s1, t1.code, t1.pos, [], 0⟩ with
      | some (_, x4) => x4.ks
      | none => [])
    | none => []
  | none => []
theorem keysX_eq {st : SharedT → Thread → Option (SharedT × Thread)} {F M k0 Mr : Nat} {p : Program} {env : Nat → PySem.Env} {b : List Stmt} {d : Mid} {w : World} {os : OsState} {s5 : SharedT} {ks : Ks} {m : Nat} (h : endX st F M k0 Mr p env b d w os = some (s5, ks, m)) : keysX st F M k0 p env b d w os = ks := by
  unfold endX at h
  unfold keysX
  cases e : putAll (boot_heap w.params).objs.toList .nil 0 with
  | none => rw [e] at h; cases h
  | some r =>
    obtain ⟨t, n⟩ := r
    rw [e] at h
    dsimp only at h ⊢
    rw [frNat_eq] at h ⊢
    unfold topX at h
    cases e1 : goT st n (bootAnn w) k0 (bootT w os (t, n)) (topStub p) with
    | none => rw [e1] at h; cases h
    | some u =>
      obtain ⟨s1, t1⟩ := u
      rw [e1] at h
      dsimp only at h ⊢
      cases e2 : midX st n (bootAnn w) default F M (env n) b d ⟨s1, t1.code, t1.pos, [], 0⟩ with
      | none => rw [e2] at h; cases h
      | some u2 =>
        obtain ⟨_, x4⟩ := u2
        rw [e2] at h
        dsimp only at h ⊢
        cases e3 : goF st n (bootAnn w) Mr x4.s (restOf (b.drop (d.i + 1)) (env n) x4.c x4.p [topFrame default]) with
        | none => rw [e3] at h; cases h
        | some s6 => rw [e3] at h; cases h; rfl
/-- a dummy -/
def sdX (w : World) (os : OsState) : SharedT := ⟨.nil, 0, (boot_heap w.params).life, #[], boot_drawn, 0, os⟩
/-- the run told by the kernel -/
abbrev RunX (r : OpenRow) (q : Program) (H : Hook) (ob : SharedT → H.α) (st : SharedT → Thread → Option (SharedT × Thread)) (F M k0 Mr Mt : Nat) (loose : List PySem.Str) (env : Nat → PySem.Env) (b : List Stmt) (d : Mid) (w : World) (os : OsState) : Prop :=
  (endX st F M k0 Mr r.prog env b d w os).map (fun z => (looksF r.prog (boot_heap w.params) z.1.abs, seenQ q loose (importedModules r.prog.main.body) (fun s => xlAt q [] s && recOk r.toRowW.records s) z.1.abs, ob z.1, frNat z.2.2 fun m => Nat.ble m Mt)) = some (true, openGood q loose, H.val w, true)
theorem top_of {r : OpenRow} {q : Program} {H : Hook} {ob : SharedT → H.α} {F M k0 Mr Mt : Nat} {loose : List PySem.Str} {env : Nat → PySem.Env} {b : List Stmt} {d : Mid} {w : World} {os : OsState} {pos : Pos} (ho : ∀ s : SharedT, ob s = H.obs s.abs)
    (hb : b = b.take d.i ++ d.st :: b.drop (d.i + 1)) (hs : ∀ n, swapsWithSole d.targets (.Dict d.keys d.values d.pd) d.pos.line (env n) = pure false)
    (ht : preX (stepQ (denQ tabQ) r.prog w) k0 r.prog w os = some ⟨denQ tabQ (.body b (env (boot_heap w.params).objs.size)), .body b (env (boot_heap w.params).objs.size), pos, [topFrame default]⟩)
    (run : RunX r q H ob (stepQ (denQ tabQ) r.prog w) F M k0 Mr Mt loose env b d w os)
    (kt1 : LookQ (stepQ (denQ tabQ) r.prog w) (sdX w os) (boot_heap w.params).objs.size (bootAnn w) default F (keysX (stepQ (denQ tabQ) r.prog w) F M k0 r.prog env b d w os))
    (kt2 : LookN (stepQ (denQ tabQ) r.prog w) (sdX w os) (boot_heap w.params).objs.size (bootAnn w) default F (pairsOf (keysX (stepQ (denQ tabQ) r.prog w) F M k0 r.prog env b d w os))) :
    TopX r.prog q loose (fun s => xlAt q [] s && recOk r.toRowW.records s) H.obs H.val (k0 + (Mt + Mr)) w os := by
  unfold RunX at run
  rw [← stepQ_eq, ← denQ_eq, ← tabQ_eq] at ht run kt1 kt2
  rw [Option.map_eq_some_iff] at run
  obtain ⟨⟨s5, ks, m⟩, hrun, hv⟩ := run
  have hv' : looksF r.prog (boot_heap w.params) s5.abs = true ∧ seenQ q loose (importedModules r.prog.main.body) (fun s => xlAt q [] s && recOk r.toRowW.records s) s5.abs = openGood q loose ∧ ob s5 = H.val w ∧ Nat.ble m Mt = true := by
    injection hv with a1 a2
    injection a2 with a2 a3
    injection a3 with a3 a4
    rw [frNat_eq] at a4
    exact ⟨a1, a2, a3, a4⟩
  obtain ⟨v1, v2, v3, v4⟩ := hv'
  rw [keysX_eq hrun] at kt1 kt2
  have tr := endX_ok hb hs ht hrun (ktOk_of kt1 kt2)
  have le := Nat.le_of_ble_eq_true v4
  have tr' := topRun_mono (Mt - m) _ _ _ _ tr
  rw [show k0 + (m + Mr) + (Mt - m) = k0 + (Mt + Mr) by omega] at tr'
  exact ⟨s5.abs, tr', v1, by rw [seenQ_eq]; exact v2, by rw [← ho]; exact v3⟩
end HR
end
noncomputable section
/-! The head run, part 10: a law walked over the D-layer. -/
namespace HR
open PySem PySem.W PySem.Calls PyProof.Rows HandSHeadRun L2 DL
theorem fz_of {K : PySem.W.Frag} {H : Hp} {a : Addr} {xs : List V} (hO : Only H) (h : SqL K H a xs) : FzL K H a xs := by
  rcases h with h | h
  · rcases hO a with e | ⟨o, ys, e⟩
    · rcases h with h | ⟨_, h⟩ <;> (rw [e] at h; cases h)
    · rcases h with h | ⟨o', h⟩
      · rw [e] at h; cases h
      · exact .inl ⟨o', h⟩
  · exact .inr h
theorem isl_ints {M : Md} {H : Hp} : ∀ ns : List Int, IsL M H (ns.map V.int) (ns.map D.int)
  | [] => .nil
  | n :: ns => .cons Is.i (isl_ints ns)
theorem lift_law {M : Md} {f : DSp} {H : Hp} {a : Addr} {ns : List Int} (hO : Only H) (hS : SqL M.K H a (ns.map V.int)) (h : ∀ (S : Sto) (Q : DK), Q (.bl true) S → f [.cl (ns.map .int)] S Q E0D) :
    lift M f [.ref a] H (fun v _ => v = .bl true) fun _ _ _ => False := by
  refine ⟨[.cl (ns.map .int)], fun _ => none, fun d _ => d = .bl true, E0D, .cons ⟨a, _, rfl, fz_of hO hS, isl_ints ns⟩ .nil, fun a c e => (by cases e), h _ _ rfl, fun v H' d S' _ i _ e => ?_, fun c o H' gs S' _ _ _ z => z⟩
  subst e
  exact i
theorem cx_no {P : Program} {w : World} {H : Hp} {s : Shared} {e : Value} {s' : Shared} (h : L2.CX P w [] H s (fun _ _ _ => False) e s') : False := by
  obtain ⟨_, _, _, _, _, _, _, _, _, _, _, _, z⟩ := h
  exact z
theorem walk_x {l : OpenLaw} {n k : Nat} {q : Program} {loose : List PySem.Str} {XP : (PySem.Str → Option Value) → Heap → Prop} {YP : World → Heap → Prop} {d : DefRec} {x : PySem.Str} {sp : DSp}
    (hn : l.most = some n) (hn2 : n ≤ sizeLine) (hdf : d.params.defaults = []) (hr : Room k callerA) (hsp : ∀ (ns : List Int) (S : Sto) (Q : DK), ns.length ≤ n → Q (.bl true) S → sp [.cl (ns.map .int)] S Q E0D)
    (F : ∀ (w : World) (mg : PySem.Str → Option Value) (fa : Addr) (h : Heap), YP w h → h.Ns mainGlobals mg → mg d.name = some (.ref fa) →
      ∃ (K : PySem.W.Frag) (fd : FuncData), K.In h ∧ (∀ (s : Shared) (u : Value), BindsTo s fd ⟨[u], []⟩ [(x, u)]) ∧
        ∀ base : Heap, K.In base → base.Ns mainGlobals mg → FnOk l.prog w K mg base (L2.CX l.prog w) k fa fd [x] (lift ⟨l.prog, w, K⟩ sp)) :
    PySem.W.WalkO q loose XP YP l.row.toRowW d [] (fun f vs => PySem.call f vs) := by
  refine Att.attach_call hn hdf fun w s₀ s₁ mg mb fa o pm cd doc a vs ns G Y ho hd hcd hmg hobj hints hlen hg => ?_
  obtain ⟨K, fd, KX, hb, hF⟩ := F w mg fa _ Y G.T.g hmg
  exact law_call KX G.T.g G.T.b G.T.builtins G.T.nolimit hg hobj hints (Nat.le_trans hlen hn2) hr hF hb (fun H hO hS => lift_law (M := ⟨l.prog, w, K⟩) hO hS fun S Q z => hsp ns S Q hlen z) fun H e s' z => cx_no z
end HR
end
noncomputable section
namespace LW
open PySem PySem.W PySem.Calls PyProof.Rows HandSHeadRun HR L2 DL
abbrev LR : OpenRow := OpenLaw.row PySem.Challenge.rw_sumwarden_k08_free_names
abbrev P0 : Program := LR.prog
def topS (i : Nat) : Stmt := PySem.Challenge.pw_sumwarden_k08_free_names.main.body.getD i (.Pass ⟨0, 0, 0, 0⟩)
def loose0 : List PySem.Str := ["WardenError", "BadFormula", "WORDS", "SMALL", "DIGITS", "ROW_SIGNS", "MOST_NUMBER", "is_row", "is_name", "FIELDS", "LEAF_KINDS", "ROWS", "MAYBES", "MOST_TREES", "is_number", "is_leaf", "fields_of", "is_shaped", "is_formula", "QUANTIFIERS", "LEAVES", "SECOND", "FIRST", "parts_of", "scoped"]
def loose1 : List PySem.Str := ["free_names", "check_formula", "names_of", "_law_bag", "_law_take", "_law_kind_same", "_law_number", "_law_name", "_law_sum", "_law_sum_names", "_law_quantified", "_law_due_names"]
def loose : List PySem.Str := loose0 ++ loose1
abbrev qv : Program := view P0 [43]
def f_is_row : He.DefD := ⟨("is_row", none), "is_row", "is_row", defArgs (topS 9), defBody (topS 9), defScope (topS 9), [], []⟩
def f_is_name : He.DefD := ⟨("is_name", none), "is_name", "is_name", defArgs (topS 10), defBody (topS 10), defScope (topS 10), [], []⟩
def f_is_number : He.DefD := ⟨("is_number", none), "is_number", "is_number", defArgs (topS 17), defBody (topS 17), defScope (topS 17), [], []⟩
def f_is_leaf : He.DefD := ⟨("is_leaf", none), "is_leaf", "is_leaf", defArgs (topS 18), defBody (topS 18), defScope (topS 18), [], []⟩
def f_fields_of : He.DefD := ⟨("fields_of", none), "fields_of", "fields_of", defArgs (topS 19), defBody (topS 19), defScope (topS 19), [], []⟩
def f_is_shaped : He.DefD := ⟨("is_shaped", none), "is_shaped", "is_shaped", defArgs (topS 20), defBody (topS 20), defScope (topS 20), [], []⟩
def f_is_formula : He.DefD := ⟨("is_formula", none), "is_formula", "is_formula", defArgs (topS 21), defBody (topS 21), defScope (topS 21), [], []⟩
def f_parts_of : He.DefD := ⟨("parts_of", none), "parts_of", "parts_of", defArgs (topS 27), defBody (topS 27), defScope (topS 27), [], []⟩
def f_scoped : He.DefD := ⟨("scoped", none), "scoped", "scoped", defArgs (topS 28), defBody (topS 28), defScope (topS 28), [], []⟩
def f_free_names : He.DefD := ⟨("free_names", none), "free_names", "free_names", defArgs (topS 29), defBody (topS 29), defScope (topS 29), [], []⟩
def f_check_formula : He.DefD := ⟨("check_formula", none), "check_formula", "check_formula", defArgs (topS 31), defBody (topS 31), defScope (topS 31), [], []⟩
def f_names_of : He.DefD := ⟨("names_of", none), "names_of", "names_of", defArgs (topS 32), defBody (topS 32), defScope (topS 32), [], []⟩
def f_law_bag : He.DefD := ⟨("_law_bag", none), "_law_bag", "_law_bag", defArgs (topS 34), defBody (topS 34), defScope (topS 34), [], []⟩
def f_law_take : He.DefD := ⟨("_law_take", none), "_law_take", "_law_take", defArgs (topS 35), defBody (topS 35), defScope (topS 35), [], []⟩
def f_law_kind_same : He.DefD := ⟨("_law_kind_same", none), "_law_kind_same", "_law_kind_same", defArgs (topS 36), defBody (topS 36), defScope (topS 36), [], []⟩
def f_law_number : He.DefD := ⟨("_law_number", none), "_law_number", "_law_number", defArgs (topS 37), defBody (topS 37), defScope (topS 37), [], []⟩
def f_law_name : He.DefD := ⟨("_law_name", none), "_law_name", "_law_name", defArgs (topS 38), defBody (topS 38), defScope (topS 38), [], []⟩
def f_law_sum : He.DefD := ⟨("_law_sum", none), "_law_sum", "_law_sum", defArgs (topS 39), defBody (topS 39), defScope (topS 39), [], []⟩
def f_law_sum_names : He.DefD := ⟨("_law_sum_names", none), "_law_sum_names", "_law_sum_names", defArgs (topS 40), defBody (topS 40), defScope (topS 40), [], []⟩
def f_law_quantified : He.DefD := ⟨("_law_quantified", none), "_law_quantified", "_law_quantified", defArgs (topS 41), defBody (topS 41), defScope (topS 41), [], []⟩
def f_law_due_names : He.DefD := ⟨("_law_due_names", none), "_law_due_names", "_law_due_names", defArgs (topS 42), defBody (topS 42), defScope (topS 42), [], []⟩
def f_law : He.DefD := ⟨("law", none), "law", "law", defArgs (topS 43), defBody (topS 43), defScope (topS 43), [], []⟩
def fn0 : List He.DefD := [f_is_row, f_is_name, f_is_number, f_is_leaf, f_fields_of, f_is_shaped, f_is_formula, f_parts_of, f_scoped, f_free_names, f_check_formula, f_names_of, f_law_bag, f_law_take, f_law_kind_same, f_law_number, f_law_name, f_law_sum, f_law_sum_names, f_law_quantified, f_law_due_names, f_law]
def fn : List He.DefD := fn0
def fa0 : List He.Fa := [.glo "is_row", .glo "is_name", .glo "is_number", .glo "is_leaf", .glo "fields_of", .glo "is_shaped", .glo "is_formula", .glo "parts_of", .glo "scoped", .glo "free_names", .glo "check_formula", .glo "names_of", .glo "_law_bag", .glo "_law_take", .glo "_law_kind_same", .glo "_law_number", .glo "_law_name", .glo "_law_sum", .glo "_law_sum_names", .glo "_law_quantified", .glo "_law_due_names", .glo "law", .free "ValueError", .free "all", .free "bool"]
def fa1 : List He.Fa := [.free "int", .free "isinstance", .free "len", .free "list", .free "range", .free "set", .free "sorted", .free "str", .free "tuple", .free "zip"]
def fa : List He.Fa := fa0 ++ fa1
def cn_WORDS : Cn := .val "WORDS" (.tup [.str "all", .str "and", .str "any", .str "asks", .str "claim", .str "else", .str "end", .str "falls", .str "fun", .str "gives", .str "if", .str "keeps", .str "not", .str "or", .str "promises", .str "some", .str "while"])
def cn_SMALL : Cn := .val "SMALL" (.str "abcdefghijklmnopqrstuvwxyz")
def cn_DIGITS : Cn := .val "DIGITS" (.str "0123456789")
def cn_ROW_SIGNS : Cn := .val "ROW_SIGNS" (.str "abcdefghijklmnopqrstuvwxyzABCDEFGHIJKLMNOPQRSTUVWXYZ0123456789_")
def cn_MOST_NUMBER : Cn := .val "MOST_NUMBER" (.int 999999)
def cn_FIELDS : Cn := .dict "FIELDS" [[.inr "sum", .inr "number"], [.inr "sum", .inr "name"], [.inr "sum", .inr "plus"], [.inr "sum", .inr "minus"], [.inr "sum", .inr "times"], [.inr "sum", .inr "over"], [.inr "sum", .inr "rest"], [.inr "formula", .inr "="], [.inr "formula", .inr "!="], [.inr "formula", .inr "<"], [.inr "formula", .inr "<="], [.inr "formula", .inr ">"], [.inr "formula", .inr ">="], [.inr "formula", .inr "not"], [.inr "formula", .inr "and"], [.inr "formula", .inr "or"], [.inr "formula", .inr "some"], [.inr "formula", .inr "all"], [.inr "statement", .inr "set"], [.inr "statement", .inr "call"], [.inr "statement", .inr "any"], [.inr "statement", .inr "claim"], [.inr "statement", .inr "if"], [.inr "statement", .inr "while"], [.inr "function", .inr "fun"]] [.tup [.str "whole"], .tup [.str "word"], .tup [.str "sum", .str "sum"], .tup [.str "sum", .str "sum"], .tup [.str "whole", .str "sum"], .tup [.str "sum", .str "divisor"], .tup [.str "sum", .str "divisor"], .tup [.str "sum", .str "sum"], .tup [.str "sum", .str "sum"], .tup [.str "sum", .str "sum"], .tup [.str "sum", .str "sum"], .tup [.str "sum", .str "sum"], .tup [.str "sum", .str "sum"], .tup [.str "formula"], .tup [.str "formula", .str "formula"], .tup [.str "formula", .str "formula"], .tup [.str "word", .str "formula"], .tup [.str "word", .str "formula"], .tup [.str "word", .str "sum"], .tup [.str "word", .str "word", .str "sums"], .tup [.str "word"], .tup [.str "formula"], .tup [.str "formula", .str "body", .str "body"], .tup [.str "formula", .str "maybe formula", .str "maybe sum", .str "body"], .tup [.str "word", .str "words", .str "word", .str "maybe formula", .str "maybe formula", .str "body"]]
def cn_LEAF_KINDS : Cn := .val "LEAF_KINDS" (.tup [.str "whole", .str "word", .str "divisor"])
def cn_ROWS : Cn := .dic "ROWS" [.inr "sums", .inr "words", .inr "body"] [.str "sum", .str "word", .str "statement"]
def cn_MAYBES : Cn := .dic "MAYBES" [.inr "maybe formula", .inr "maybe sum"] [.str "formula", .str "sum"]
def cn_MOST_TREES : Cn := .val "MOST_TREES" (.int 400)
def cn_QUANTIFIERS : Cn := .val "QUANTIFIERS" (.tup [.str "some", .str "all"])
def cn_LEAVES : Cn := .val "LEAVES" (.tup [.str "number", .str "name"])
def cn_SECOND : Cn := .val "SECOND" (.tup [.str "times", .str "some", .str "all"])
def cn_FIRST : Cn := .val "FIRST" (.tup [.str "over", .str "rest", .str "not"])
def cn : List Cn := [cn_WORDS, cn_SMALL, cn_DIGITS, cn_ROW_SIGNS, cn_MOST_NUMBER, cn_FIELDS, cn_LEAF_KINDS, cn_ROWS, cn_MAYBES, cn_MOST_TREES, cn_QUANTIFIERS, cn_LEAVES, cn_SECOND, cn_FIRST]
def hk : Hook := hookC P0 4 fa fn cn
def ob : SharedT → hk.α := obT 4 fa fn cn
def bd : List Stmt := behindTheImports P0
def env (n0 : Nat) : PySem.Env := { scope := P0.main.scope, locals := mainNs, globals := mainNs, cells := [], code := .ref (n0 + 2), frame := some (n0 + 3) }
def mid : Mid := midOf bd 12
abbrev stq (w : World) : SharedT → Thread → Option (SharedT × Thread) := stepQ (denQ tabQ) P0 w
abbrev wb (w : World) (b : Bool) : World := w.withFollow "special-get-raises" b
abbrev nb (w : World) : Nat := (boot_heap w.params).objs.size
theorem pre (w : World) (os : OsState) : preX (stq w) 12 P0 w os = some ⟨denQ tabQ (.body bd (env (nb w))), .body bd (env (nb w)), default, [topFrame default]⟩ := by kernel_rfl
theorem run_t (w : World) (os : OsState) : RunX LR qv hk ob (stq (wb w true)) 300 1000 12 20000 100000000 loose env bd mid (wb w true) os := by kernel_rfl
theorem run_f (w : World) (os : OsState) : RunX LR qv hk ob (stq (wb w false)) 300 1000 12 20000 100000000 loose env bd mid (wb w false) os := by kernel_rfl
abbrev kk (w : World) (b : Bool) (os : OsState) : Ks := keysX (stq (wb w b)) 300 1000 12 P0 env bd mid (wb w b) os
theorem kq_t (w : World) (os : OsState) : LookQ (stq (wb w true)) (sdX (wb w true) os) (nb (wb w true)) (bootAnn (wb w true)) default 300 (kk w true os) := by intro b e gd lv pos; kernel_rfl
theorem kn0_t (w : World) (os : OsState) : LookN (stq (wb w true)) (sdX (wb w true) os) (nb (wb w true)) (bootAnn (wb w true)) default 300 ((pairsOf (kk w true os)).take 100) := by intro b e gd lv pos; kernel_rfl
theorem kn1_t (w : World) (os : OsState) : LookN (stq (wb w true)) (sdX (wb w true) os) (nb (wb w true)) (bootAnn (wb w true)) default 300 (((pairsOf (kk w true os)).drop 100).take 100) := by intro b e gd lv pos; kernel_rfl
theorem kn2_t (w : World) (os : OsState) : LookN (stq (wb w true)) (sdX (wb w true) os) (nb (wb w true)) (bootAnn (wb w true)) default 300 (((pairsOf (kk w true os)).drop 100).drop 100) := by intro b e gd lv pos; kernel_rfl
theorem kq_f (w : World) (os : OsState) : LookQ (stq (wb w false)) (sdX (wb w false) os) (nb (wb w false)) (bootAnn (wb w false)) default 300 (kk w false os) := by intro b e gd lv pos; kernel_rfl
theorem kn0_f (w : World) (os : OsState) : LookN (stq (wb w false)) (sdX (wb w false) os) (nb (wb w false)) (bootAnn (wb w false)) default 300 ((pairsOf (kk w false os)).take 100) := by intro b e gd lv pos; kernel_rfl
theorem kn1_f (w : World) (os : OsState) : LookN (stq (wb w false)) (sdX (wb w false) os) (nb (wb w false)) (bootAnn (wb w false)) default 300 (((pairsOf (kk w false os)).drop 100).take 100) := by intro b e gd lv pos; kernel_rfl
theorem kn2_f (w : World) (os : OsState) : LookN (stq (wb w false)) (sdX (wb w false) os) (nb (wb w false)) (bootAnn (wb w false)) default 300 (((pairsOf (kk w false os)).drop 100).drop 100) := by intro b e gd lv pos; kernel_rfl
theorem hb : bd = bd.take mid.i ++ mid.st :: bd.drop (mid.i + 1) := by kernel_rfl
theorem hs (n : Nat) : swapsWithSole mid.targets (.Dict mid.keys mid.values mid.pd) mid.pos.line (env n) = pure false := by kernel_rfl
theorem top (w : World) (os : OsState) : TopX P0 qv loose (fun s => xlAt qv [] s && recOk LR.toRowW.records s) hk.obs hk.val (12 + (100000000 + 20000)) w os := by
  revert os
  refine byRow2 "special-get-raises" (P := fun w => ∀ os, TopX P0 qv loose (fun s => xlAt qv [] s && recOk LR.toRowW.records s) hk.obs hk.val (12 + (100000000 + 20000)) w os) (fun w os => ?_) (fun w os => ?_) w
  · exact top_of obT_eq hb hs (pre _ os) (run_f w os) (kq_f w os) (.split 100 (kn0_f w os) (.split 100 (kn1_f w os) (kn2_f w os)))
  · exact top_of obT_eq hb hs (pre _ os) (run_t w os) (kq_t w os) (.split 100 (kn0_t w os) (.split 100 (kn1_t w os) (kn2_t w os)))
end LW
end
section
/-! Trees of sums and formulas, in plain Lean. -/
namespace TR
open PySem L2 DL
inductive Op2 | plus | minus | eq | ne | lt | le | gt | ge | and | or
  deriving DecidableEq
inductive Opd | over | rest
  deriving DecidableEq
inductive Qn | some | all
  deriving DecidableEq
def Op2.w : Op2 → Str
  | .plus => "plus" | .minus => "minus" | .eq => "=" | .ne => "!=" | .lt => "<" | .le => "<=" | .gt => ">" | .ge => ">=" | .and => "and" | .or => "or"
def Opd.w : Opd → Str
  | .over => "over" | .rest => "rest"
def Qn.w : Qn → Str
  | .some => "some" | .all => "all"
def Op2.kind : Op2 → Str
  | .plus => "sum" | .minus => "sum" | _ => "formula"
def Op2.sub : Op2 → Str
  | .and => "formula" | .or => "formula" | _ => "sum"
inductive Tr where
  | num (n : Nat) | nam (s : Str) | two (o : Op2) (a b : Tr) | times (n : Nat) (a : Tr) | ovr (o : Opd) (a : Tr) (n : Nat) | neg (a : Tr) | qn (q : Qn) (x : Str) (a : Tr)
namespace Tr
def d : Tr → D
  | .num n => .tup [.str "number", .int n]
  | .nam s => .tup [.str "name", .str s]
  | .two o a b => .tup [.str o.w, a.d, b.d]
  | .times n a => .tup [.str "times", .int n, a.d]
  | .ovr o a n => .tup [.str o.w, a.d, .int n]
  | .neg a => .tup [.str "not", a.d]
  | .qn q x a => .tup [.str q.w, .str x, a.d]
def parts : Tr → List Tr
  | .num _ => [] | .nam _ => [] | .two _ a b => [a, b] | .times _ a => [a] | .ovr _ a _ => [a] | .neg a => [a] | .qn _ _ a => [a]
def sz : Tr → Nat
  | .num _ => 1 | .nam _ => 1 | .two _ a b => 1 + a.sz + b.sz | .times _ a => 1 + a.sz | .ovr _ a _ => 1 + a.sz | .neg a => 1 + a.sz | .qn _ _ a => 1 + a.sz
def ht : Tr → Nat
  | .num _ => 1 | .nam _ => 1 | .two _ a b => 1 + max a.ht b.ht | .times _ a => 1 + a.ht | .ovr _ a _ => 1 + a.ht | .neg a => 1 + a.ht | .qn _ _ a => 1 + a.ht
def kind : Tr → Str
  | .num _ => "sum" | .nam _ => "sum" | .two o _ _ => o.kind | .times _ _ => "sum" | .ovr _ _ _ => "sum" | .neg _ => "formula" | .qn _ _ _ => "formula"
def flds : Tr → List Str
  | .num _ => ["whole"] | .nam _ => ["word"] | .two o _ _ => [o.sub, o.sub] | .times _ _ => ["whole", "sum"] | .ovr _ _ _ => ["sum", "divisor"] | .neg _ => ["formula"] | .qn _ _ _ => ["word", "formula"]
/-- shaped, its numbers and names as they may be without a text -/
def wf : Tr → Prop
  | .num n => n ≤ 999999
  | .nam s => s ≠ ""
  | .two o a b => a.wf ∧ b.wf ∧ a.kind = o.sub ∧ b.kind = o.sub
  | .times n a => n ≤ 999999 ∧ a.wf ∧ a.kind = "sum"
  | .ovr _ a n => 1 ≤ n ∧ n ≤ 999999 ∧ a.wf ∧ a.kind = "sum"
  | .neg a => a.wf ∧ a.kind = "formula"
  | .qn _ x a => x ≠ "" ∧ a.wf ∧ a.kind = "formula"
theorem sz_pos : ∀ t : Tr, 1 ≤ t.sz
  | .num _ => Nat.le_refl _ | .nam _ => Nat.le_refl _ | .two _ a b => by unfold sz; omega | .times _ a => by unfold sz; omega | .ovr _ a _ => by unfold sz; omega | .neg a => by unfold sz; omega | .qn _ _ a => by unfold sz; omega
theorem sz_parts : ∀ t : Tr, t.sz = 1 + (t.parts.map sz).sum
  | .num _ => rfl | .nam _ => rfl | .two _ a b => by unfold sz parts; simp; omega | .times _ a => by unfold sz parts; simp | .ovr _ a _ => by unfold sz parts; simp | .neg a => by unfold sz parts; simp | .qn _ _ a => by unfold sz parts; simp
/-- the name that it binds below -/
def bind : Tr → List Str → List Str
  | .qn _ x _, l => if x ∈ l then l else l ++ [x]
  | _, l => l
/-- x stands free in it, told are bound -/
def free : Tr → List Str → Str → Prop
  | .num _, _, _ => False
  | .nam s, l, x => s = x ∧ x ∉ l
  | .two _ a b, l, x => a.free l x ∨ b.free l x
  | .times _ a, l, x => a.free l x
  | .ovr _ a _, l, x => a.free l x
  | .neg a, l, x => a.free l x
  | .qn _ y a, l, x => a.free (y :: l) x
theorem free_congr : ∀ (t : Tr) {l m : List Str} (x : Str), (∀ y, y ∈ l ↔ y ∈ m) → (t.free l x ↔ t.free m x)
  | .num _, l, m, x, h => Iff.rfl
  | .nam s, l, m, x, h => by unfold free; rw [h x]
  | .two _ a b, l, m, x, h => by unfold free; rw [free_congr a x h, free_congr b x h]
  | .times _ a, l, m, x, h => free_congr a x h
  | .ovr _ a _, l, m, x, h => free_congr a x h
  | .neg a, l, m, x, h => free_congr a x h
  | .qn _ y a, l, m, x, h => free_congr a x fun z => by rw [List.mem_cons, List.mem_cons, h z]
end Tr
/-! ### texts in order -/
theorem lt_irr : ∀ l : List Nat, PySem.Spec.ltCps l l = false
  | [] => rfl
  | a :: l => by
    unfold PySem.Spec.ltCps
    simp [lt_irr l]
theorem lt_total : ∀ a b : List Nat, PySem.Spec.ltCps a b = false → PySem.Spec.ltCps b a = false → a = b
  | [], [], _, _ => rfl
  | [], y :: b, h, _ => by simp [PySem.Spec.ltCps] at h
  | x :: a, [], _, h => by simp [PySem.Spec.ltCps] at h
  | x :: a, y :: b, h, g => by
    unfold PySem.Spec.ltCps at h g
    simp only [Bool.or_eq_false_iff, decide_eq_false_iff_not, Bool.and_eq_false_imp, beq_iff_eq] at h g
    have e : x = y := by omega
    subst e
    rw [lt_total a b (h.2 rfl) (g.2 rfl)]
end TR
end
section
/-! Rows of texts in order; the names of a tree. -/
namespace TR
open PySem L2 DL PyProof.Rows
theorem str_cps {x y : Str} (h : x.cps.toList = y.cps.toList) : x = y := by
  cases x with
  | mk a =>
    cases y with
    | mk b =>
      have e : a = b := by
        cases a; cases b
        simp at h
        rw [h]
      rw [e]
/-- not above -/
def leS (x y : Str) : Prop := PySem.Spec.ltCps y.cps.toList x.cps.toList = false
theorem ltc_trans : ∀ a b c : List Nat, PySem.Spec.ltCps b a = false → PySem.Spec.ltCps c b = false → PySem.Spec.ltCps c a = false
  | [], b, [], _, _ => rfl
  | x :: a, b, [], h, g => by
    cases b with
    | nil => simp [PySem.Spec.ltCps] at h
    | cons y b => simp [PySem.Spec.ltCps] at g
  | [], b, z :: c, _, _ => rfl
  | x :: a, [], z :: c, h, g => by simp [PySem.Spec.ltCps] at h
  | x :: a, y :: b, z :: c, h, g => by
    unfold PySem.Spec.ltCps at h g ⊢
    simp only [Bool.or_eq_false_iff, decide_eq_false_iff_not, Bool.and_eq_false_imp, beq_iff_eq] at h g ⊢
    refine ⟨by omega, fun e => ?_⟩
    subst e
    have e : z = y := by omega
    subst e
    exact ltc_trans a b c (h.2 rfl) (g.2 rfl)
theorem leS_trans {x y z : Str} (h : leS x y) (g : leS y z) : leS x z := ltc_trans _ _ _ h g
theorem leS_anti {x y : Str} (h : leS x y) (g : leS y x) : x = y := str_cps (lt_total _ _ g h)
theorem risingS_iff : ∀ (ns : List Str) (p : Str), risingS p ns = true ↔ (p :: ns).Pairwise leS
  | [], p => by simp [risingS]
  | x :: r, p => by
    have ih := risingS_iff r x
    unfold risingS
    simp only [Bool.and_eq_true, Bool.not_eq_true', ih]
    constructor
    · rintro ⟨hpx, hx⟩
      refine List.pairwise_cons.mpr ⟨fun y hy => ?_, hx⟩
      rcases List.mem_cons.mp hy with rfl | hm
      · exact hpx
      · exact leS_trans hpx ((List.pairwise_cons.mp hx).1 y hm)
    · intro h
      have h' := List.pairwise_cons.mp h
      exact ⟨h'.1 x (List.mem_cons_self ..), h'.2⟩
theorem sortedS_iff : ∀ ns : List Str, sortedS ns = true ↔ ns.Pairwise leS
  | [] => by simp [sortedS]
  | x :: r => risingS_iff r x
theorem sorted_eq {xs ys : List Str} (p : xs.Perm ys) (h : sortedS xs = true) (g : sortedS ys = true) : xs = ys :=
  List.Perm.eq_of_pairwise (fun a b _ _ h g => leS_anti h g) ((sortedS_iff xs).mp h) ((sortedS_iff ys).mp g) p
/-- the names that stand free in it, in order -/
structure FN (t : Tr) (ys : List Str) : Prop where
  s : sortedS ys = true
  n : ys.Nodup
  m : ∀ x, x ∈ ys ↔ t.free [] x
theorem FN.uniq {t : Tr} {xs ys : List Str} (h : FN t xs) (g : FN t ys) : xs = ys :=
  sorted_eq ((List.perm_ext_iff_of_nodup h.n g.n).mpr fun x => by rw [h.m, g.m]) h.s g.s
end TR
end
section
/-! What stands directly in a tree. -/
namespace TR
open PySem L2 DL PyProof.Rows
/-- a leaf that may be handed in -/
def LeafT (v : D) (k : Str) : Prop := (∃ n : Nat, v = .int n ∧ n ≤ 999999 ∧ (k = "whole" ∨ (k = "divisor" ∧ 1 ≤ n))) ∨ ∃ s : Str, v = .str s ∧ k = "word" ∧ s ≠ ""
namespace Tr
def word : Tr → Str
  | .num _ => "number" | .nam _ => "name" | .two o _ _ => o.w | .times _ _ => "times" | .ovr o _ _ => o.w | .neg _ => "not" | .qn q _ _ => q.w
def args : Tr → List D
  | .num n => [.int n] | .nam s => [.str s] | .two _ a b => [a.d, b.d] | .times n a => [.int n, a.d] | .ovr _ a n => [a.d, .int n] | .neg a => [a.d] | .qn _ x a => [.str x, a.d]
theorem d_eq (t : Tr) : t.d = .tup (.str t.word :: t.args) := by cases t <;> rfl
theorem kind2 (t : Tr) : t.kind = "sum" ∨ t.kind = "formula" := by
  cases t with
  | two o a b => cases o <;> first | exact .inl rfl | exact .inr rfl
  | _ => first | exact .inl rfl | exact .inr rfl
end Tr
inductive Itm where
  | tree (t : Tr) | leaf (v : D) (k : Str)
namespace Itm
def d : Itm → D
  | .tree t => .tup [t.d, .str t.kind]
  | .leaf v k => .tup [v, .str k]
def ok : Itm → Prop
  | .tree t => t.wf
  | .leaf v k => LeafT v k
def sz : Itm → Nat
  | .tree t => t.sz
  | .leaf _ _ => 0
def wt : Itm → Nat
  | .tree t => 3 * t.sz
  | .leaf _ _ => 1
end Itm
def kids : Tr → List Itm
  | .num n => [.leaf (.int n) "whole"] | .nam s => [.leaf (.str s) "word"] | .two _ a b => [.tree a, .tree b] | .times n a => [.leaf (.int n) "whole", .tree a] | .ovr _ a n => [.tree a, .leaf (.int n) "divisor"] | .neg a => [.tree a] | .qn _ x a => [.leaf (.str x) "word", .tree a]
theorem kids_ok {t : Tr} (h : t.wf) : ∀ i ∈ kids t, i.ok := by
  intro i hi
  cases t with
  | num n => simp [kids] at hi; subst hi; exact .inl ⟨n, rfl, h, .inl rfl⟩
  | nam s => simp [kids] at hi; subst hi; exact .inr ⟨s, rfl, rfl, h⟩
  | two o a b =>
    obtain ⟨h1, h2, _, _⟩ := h
    simp [kids] at hi
    rcases hi with rfl | rfl
    · exact h1
    · exact h2
  | times n a =>
    obtain ⟨h1, h2, _⟩ := h
    simp [kids] at hi
    rcases hi with rfl | rfl
    · exact .inl ⟨n, rfl, h1, .inl rfl⟩
    · exact h2
  | ovr o a n =>
    obtain ⟨h1, h2, h3, _⟩ := h
    simp [kids] at hi
    rcases hi with rfl | rfl
    · exact h3
    · exact .inl ⟨n, rfl, h2, .inr ⟨rfl, h1⟩⟩
  | neg a => simp [kids] at hi; subst hi; exact h.1
  | qn q x a =>
    obtain ⟨h1, h2, _⟩ := h
    simp [kids] at hi
    rcases hi with rfl | rfl
    · exact .inr ⟨x, rfl, rfl, h1⟩
    · exact h2
theorem kids_sz (t : Tr) : ((kids t).map Itm.sz).sum + 1 = t.sz := by
  cases t <;> simp [kids, Itm.sz, Tr.sz] <;> omega
theorem kids_wt (t : Tr) : ((kids t).map Itm.wt).sum < 3 * t.sz := by
  cases t <;> simp [kids, Itm.wt, Tr.sz] <;> omega
theorem kids_len (t : Tr) : (kids t).length ≤ 2 := by cases t <;> simp [kids]
theorem args_len (t : Tr) : t.args.length = t.flds.length ∧ t.args.length ≤ 2 := by cases t <;> simp [Tr.args, Tr.flds]
theorem kids_d {t : Tr} (h : t.wf) : List.zipWith (fun x y => D.tup [x, y]) t.args (t.flds.map .str) = (kids t).map Itm.d := by
  cases t with
  | two o a b =>
    obtain ⟨_, _, h1, h2⟩ := h
    simp [Tr.args, Tr.flds, kids, Itm.d, h1, h2]
  | times n a => simp [Tr.args, Tr.flds, kids, Itm.d, h.2.2]
  | ovr o a n => simp [Tr.args, Tr.flds, kids, Itm.d, h.2.2.2]
  | neg a => simp [Tr.args, Tr.flds, kids, Itm.d, h.2]
  | qn q x a => simp [Tr.args, Tr.flds, kids, Itm.d, h.2.2]
  | num n => rfl
  | nam s => rfl
theorem cut1 {x : D} {xs : List D} : DL.cutD (x :: xs) (some 1) none = xs := by
  unfold DL.cutD
  rw [HT.sIx_none, show (1 : Int) = ((1 : Nat) : Int) from rfl, HT.sIx_nat, List.length_cons, Nat.min_eq_left (by omega), List.drop_succ_cons, List.drop_zero]
  exact List.take_of_length_le (by omega)
theorem free_parts (t : Tr) (l : List Str) (x : Str) : t.free l x ↔ (t = .nam x ∧ x ∉ l) ∨ ∃ v ∈ t.parts, v.free (t.bind l) x := by
  cases t with
  | num n => simp [Tr.free, Tr.parts]
  | nam s =>
    simp only [Tr.free, Tr.parts, Tr.nam.injEq, List.not_mem_nil, false_and, exists_false, or_false]
  | two o a b => simp [Tr.free, Tr.parts, Tr.bind]
  | times n a => simp [Tr.free, Tr.parts, Tr.bind]
  | ovr o a n => simp [Tr.free, Tr.parts, Tr.bind]
  | neg a => simp [Tr.free, Tr.parts, Tr.bind]
  | qn q y a =>
    simp only [Tr.free, Tr.parts, List.mem_singleton, exists_eq_left, reduceCtorEq, false_and, false_or]
    refine Tr.free_congr a x fun z => ?_
    show z ∈ y :: l ↔ z ∈ if y ∈ l then l else l ++ [y]
    split
    · rename_i h
      rw [List.mem_cons]
      exact ⟨fun e => e.elim (fun e => e ▸ h) id, .inr⟩
    · rw [List.mem_cons, List.mem_append, List.mem_singleton]
      exact ⟨fun e => e.elim .inr .inl, fun e => e.elim .inr .inl⟩
theorem word_q (u : Tr) : (∃ q x a, u = .qn q x a) ∨ inV (.str u.word) [.str "some", .str "all"] = false := by
  rcases u with n | s | ⟨o, a, b⟩ | ⟨n, a⟩ | ⟨o, a, n⟩ | a | ⟨o, x, a⟩
  · exact .inr rfl
  · exact .inr rfl
  · cases o <;> exact .inr rfl
  · exact .inr rfl
  · cases o <;> exact .inr rfl
  · exact .inr rfl
  · exact .inl ⟨_, _, _, rfl⟩
theorem parts_len (t : Tr) : t.parts.length ≤ 2 := by cases t <;> simp [Tr.parts]
theorem parts_sz {t v : Tr} (h : v ∈ t.parts) : v.sz < t.sz := by
  cases t <;> simp [Tr.parts] at h <;> first | (subst h; simp [Tr.sz]; try omega) | (rcases h with h | h <;> (subst h; simp [Tr.sz]; omega))
theorem bind_len (t : Tr) (l : List Str) : (t.bind l).length ≤ l.length + 1 := by
  unfold Tr.bind
  split
  · split
    · omega
    · simp
  · omega
end TR
end
section
/-! What the functions answer. -/
namespace K08
open PySem L2 DL DLZ TR PyProof.Rows
def sp_is_number : DSp := fun ds S Q _ => ∃ n lo hi : Int, ds = [.int n, .int lo, .int hi] ∧ Q (.bl (decide (lo ≤ n) && decide (n ≤ hi))) S
def sp_is_leaf : DSp := fun ds S Q _ => ∃ v k, ds = [v, .str k, .bl false] ∧ LeafT v k ∧ Q (.bl true) S
def sp_fields_of : DSp := fun ds S Q _ => ∃ t : Tr, ds = [t.d, .str t.kind] ∧ Q (.tup (t.flds.map .str)) S
/-- a formula that may be handed in -/
structure Good (t : Tr) : Prop where
  wf : t.wf
  kind : t.kind = "formula"
  sz : t.sz ≤ 400
def sp_is_shaped : DSp := fun ds S Q _ => ∃ t : Tr, Good t ∧ ds = [t.d, .str "formula", .bl false, .int 400, .non] ∧ Q (.bl true) S
def sp_is_formula : DSp := fun ds S Q _ => ∃ t : Tr, Good t ∧ ds = [t.d] ∧ Q (.bl true) S
def sp_parts_of : DSp := fun ds S Q _ => ∃ t : Tr, ds = [t.d] ∧ Q (.tup (t.parts.map Tr.d)) S
def vis (p : Tr × List Str) : D := .tup [p.1.d, .tup (p.2.map .str)]
/-- a name that stands free there -/
def hit (ls : List (Tr × List Str)) (x : Str) : Prop := ∃ l, (Tr.nam x, l) ∈ ls ∧ x ∉ l
def sp_scoped : DSp := fun ds S Q _ => ∃ t : Tr, ds = [t.d] ∧ t.sz ≤ 400 ∧ ∀ p ls, (∀ x, hit ls x ↔ t.free [] x) → ls.length ≤ 400 → S p = none → Q (.ref p) (put S p (.lst (ls.map vis)))
def sp_free_names : DSp := fun ds S Q _ => ∃ t : Tr, ds = [t.d] ∧ t.sz ≤ 400 ∧ ∀ ys, FN t ys → ys.length ≤ 400 → Q (.tup (ys.map .str)) S
def sp_check_formula : DSp := fun ds S Q _ => ∃ t : Tr, Good t ∧ ds = [t.d] ∧ Q .non S
def sp_names_of : DSp := fun ds S Q _ => ∃ t : Tr, Good t ∧ ds = [t.d] ∧ ∀ ys, FN t ys → ys.length ≤ 400 → Q (.tup (ys.map .str)) S
/-! the bag -/
structure Bag (S : Sto) (b g : Addr) (c : Nat) : Prop where
  ex : ∃ (gs : List Int) (seed n : Int), S g = some (.lst (gs.map .int)) ∧ S b = some (.lst [.ref g, .int seed, .int n]) ∧ 0 ≤ seed ∧ seed < 2 ^ 31 ∧ 0 ≤ n ∧ n ≤ c
  ne : b ≠ g
/-- only the bag changed, and what was not told yet -/
def Kp (S S' : Sto) (b g : Addr) : Prop := ∀ a c, a ≠ b → a ≠ g → S a = some c → S' a = some c
theorem Bag.up {S : Sto} {b g : Addr} {c d : Nat} (h : Bag S b g c) (l : c ≤ d) : Bag S b g d := by
  obtain ⟨⟨gs, s, n, a, b, c, d, e, f⟩, z⟩ := h
  exact ⟨⟨gs, s, n, a, b, c, d, e, by omega⟩, z⟩
theorem Bag.b {S : Sto} {b g : Addr} {c : Nat} (h : Bag S b g c) : S b ≠ none := by
  obtain ⟨⟨gs, s, n, a, b, c, d, e, f⟩, z⟩ := h
  intro e; rw [b] at e; cases e
theorem Bag.g {S : Sto} {b g : Addr} {c : Nat} (h : Bag S b g c) : S g ≠ none := by
  obtain ⟨⟨gs, s, n, a, b, c, d, e, f⟩, z⟩ := h
  intro e; rw [a] at e; cases e
theorem Kp.trans {S S1 S2 : Sto} {b g : Addr} (h : Kp S S1 b g) (k : Kp S1 S2 b g) : Kp S S2 b g := fun a c h1 h2 h3 => k a c h1 h2 (h a c h1 h2 h3)
theorem Bag.put' {S : Sto} {b g p : Addr} {c : Nat} {cl : Cell} (h : Bag S b g c) (hp : S p = none) : Bag (put S p cl) b g c := by
  obtain ⟨⟨gs, s, n, a, b, c, d, e, f⟩, z⟩ := h
  exact ⟨⟨gs, s, n, lePut (fun _ _ h => h) hp _ _ a, lePut (fun _ _ h => h) hp _ _ b, c, d, e, f⟩, z⟩
theorem Kp.put' {S S1 : Sto} {b g p : Addr} {cl : Cell} (h : Kp S S1 b g) (hp : S1 p = none) : Kp S (put S1 p cl) b g := fun a c h1 h2 h3 => lePut (fun _ _ h => h) hp _ _ (h a c h1 h2 h3)
theorem Bag.fresh {S : Sto} {b g p : Addr} {c : Nat} (h : Bag S b g c) (hp : S p = none) : p ≠ b ∧ p ≠ g := by
  obtain ⟨⟨gs, s, n, a, b, c, d, e, f⟩, z⟩ := h
  exact ⟨fun e => (by subst e; rw [b] at hp; cases hp), fun e => (by subst e; rw [a] at hp; cases hp)⟩
def sp_law_bag : DSp := fun ds S Q _ => ∃ ns : List Int, ds = [.cl (ns.map .int)] ∧ ∀ b g S', Bag S' b g 0 → S b = none → S g = none → Kp S S' b g → Q (.ref b) S'
def sp_law_take : DSp := fun ds S Q _ => ∃ (b g : Addr) (c : Nat) (many : Int), ds = [.ref b, .int many] ∧ 0 < many ∧ many ≤ 2 ^ 31 ∧ c ≤ 2 ^ 31 ∧ Bag S b g c ∧ ∀ r S', 0 ≤ r → r < many → Bag S' b g (c + 1) → Kp S S' b g → Q (.int r) S'
/-- values without objects -/
def pur : D → Bool
  | .non => true
  | .bl _ => true
  | .int _ => true
  | .str _ => true
  | .tup xs => purL xs
  | _ => false
where purL : List D → Bool
  | [] => true
  | x :: xs => pur x && purL xs
def sp_law_kind_same : DSp := fun ds S Q _ => ∃ xs : List Str, ds = [.tup (xs.map .str), .tup (xs.map .str)] ∧ xs.length ≤ 100000 ∧ Q (.bl true) S
def sp_law_number : DSp := fun ds S Q _ => ∃ (b g : Addr) (c : Nat), ds = [.ref b] ∧ c + 2 ≤ 2 ^ 31 ∧ Bag S b g c ∧ ∀ (r : Nat) S', r ≤ 999999 → Bag S' b g (c + 2) → Kp S S' b g → Q (.int r) S'
/-- a list of names -/
def Nms (S : Sto) (a : Addr) (xs : List Str) : Prop := S a = some (.lst (xs.map .str)) ∧ ∀ x ∈ xs, x ≠ ""
def sp_law_name : DSp := fun ds S Q _ => ∃ (b g u : Addr) (c : Nat) (xs : List Str), ds = [.ref b, .ref u] ∧ c + 4 ≤ 2 ^ 31 ∧ Bag S b g c ∧ u ≠ b ∧ u ≠ g ∧ Nms S u xs ∧ xs.length ≤ 100 ∧
  ∀ d S' ys, Bag S' b g (c + 4) → Nms S' u ys → xs.length ≤ ys.length → ys.length ≤ xs.length + 1 → (∀ a cl, a ≠ b → a ≠ g → a ≠ u → S a = some cl → S' a = some cl) → Q d S'
structure SumT (n : Nat) (t : Tr) : Prop where
  wf : t.wf
  kind : t.kind = "sum"
  ht : t.ht ≤ n + 1
  sz : t.sz + 1 ≤ 2 ^ (n + 1)
def sp_law_sum (N : Nat) : DSp := fun ds S Q _ => ∃ (n : Nat) (b g u : Addr) (c : Nat) (xs : List Str), n ≤ N ∧ ds = [.ref b, .ref u, .int n] ∧ c + 4 * 3 ^ n ≤ 2 ^ 31 ∧ Bag S b g c ∧ u ≠ b ∧ u ≠ g ∧ Nms S u xs ∧ xs.length ≤ 1000 ∧
  ∀ t S', SumT n t → Bag S' b g (c + 4 * 3 ^ n) → Kp S S' b g → Q t.d S'
def sp_law_sum_names (N : Nat) : DSp := fun ds S Q _ => ∃ t : Tr, t.ht ≤ N ∧ t.wf ∧ t.kind = "sum" ∧ t.sz ≤ 10000 ∧ ds = [t.d] ∧ ∀ p (ys : List Str), (∀ x, x ∈ ys ↔ t.free [] x) → ys.length ≤ t.sz → S p = none → Q (.ref p) (put S p (.lst (ys.map .str)))
structure FmT (n : Nat) (t : Tr) : Prop where
  wf : t.wf
  kind : t.kind = "formula"
  ht : t.ht ≤ n + 4
  sz : t.sz + 1 ≤ 12 * 2 ^ n
def sp_law_quantified (N : Nat) : DSp := fun ds S Q _ => ∃ (n : Nat) (b g u : Addr) (c : Nat) (xs : List Str), n ≤ N ∧ ds = [.ref b, .ref u, .int n] ∧ c + 50 * 3 ^ n ≤ 2 ^ 31 ∧ Bag S b g c ∧ u ≠ b ∧ u ≠ g ∧ Nms S u xs ∧ xs.length ≤ 1000 ∧ xs ≠ [] ∧
  ∀ t S', FmT n t → Bag S' b g (c + 50 * 3 ^ n) → Kp S S' b g → Q t.d S'
def sp_law_due_names (N : Nat) : DSp := fun ds S Q _ => ∃ (t : Tr) (u : Addr) (l : List Str), t.ht ≤ N ∧ t.wf ∧ t.kind = "formula" ∧ l.length + t.sz ≤ 10000 ∧ ds = [t.d, .ref u] ∧ S u = some (.lst (l.map .str)) ∧
  ∀ p (ys : List Str), (∀ x, x ∈ ys ↔ t.free l x) → ys.length ≤ t.sz → S p = none → Q (.ref p) (put S p (.lst (ys.map .str)))
def sp_law : DSp := fun ds S Q _ => ∃ ns : List Int, ds = [.cl (ns.map .int)] ∧ Q (.bl true) S
/-! printed by gen.py: constants and readings -/
abbrev D_MOST_NUMBER : D := .int 999999
abbrev D_FIELDS : D := .cd [.tup [.str "sum", .str "number"], .tup [.str "sum", .str "name"], .tup [.str "sum", .str "plus"], .tup [.str "sum", .str "minus"], .tup [.str "sum", .str "times"], .tup [.str "sum", .str "over"], .tup [.str "sum", .str "rest"], .tup [.str "formula", .str "="], .tup [.str "formula", .str "!="], .tup [.str "formula", .str "<"], .tup [.str "formula", .str "<="], .tup [.str "formula", .str ">"], .tup [.str "formula", .str ">="], .tup [.str "formula", .str "not"], .tup [.str "formula", .str "and"], .tup [.str "formula", .str "or"], .tup [.str "formula", .str "some"], .tup [.str "formula", .str "all"], .tup [.str "statement", .str "set"], .tup [.str "statement", .str "call"], .tup [.str "statement", .str "any"], .tup [.str "statement", .str "claim"], .tup [.str "statement", .str "if"], .tup [.str "statement", .str "while"], .tup [.str "function", .str "fun"]] [.tup [.str "whole"], .tup [.str "word"], .tup [.str "sum", .str "sum"], .tup [.str "sum", .str "sum"], .tup [.str "whole", .str "sum"], .tup [.str "sum", .str "divisor"], .tup [.str "sum", .str "divisor"], .tup [.str "sum", .str "sum"], .tup [.str "sum", .str "sum"], .tup [.str "sum", .str "sum"], .tup [.str "sum", .str "sum"], .tup [.str "sum", .str "sum"], .tup [.str "sum", .str "sum"], .tup [.str "formula"], .tup [.str "formula", .str "formula"], .tup [.str "formula", .str "formula"], .tup [.str "word", .str "formula"], .tup [.str "word", .str "formula"], .tup [.str "word", .str "sum"], .tup [.str "word", .str "word", .str "sums"], .tup [.str "word"], .tup [.str "formula"], .tup [.str "formula", .str "body", .str "body"], .tup [.str "formula", .str "maybe formula", .str "maybe sum", .str "body"], .tup [.str "word", .str "words", .str "word", .str "maybe formula", .str "maybe formula", .str "body"]]
abbrev D_LEAF_KINDS : D := .tup [.str "whole", .str "word", .str "divisor"]
abbrev D_ROWS : D := .cd [.str "sums", .str "words", .str "body"] [.str "sum", .str "word", .str "statement"]
abbrev D_MAYBES : D := .cd [.str "maybe formula", .str "maybe sum"] [.str "formula", .str "sum"]
abbrev D_MOST_TREES : D := .int 400
abbrev D_QUANTIFIERS : D := .tup [.str "some", .str "all"]
abbrev D_LEAVES : D := .tup [.str "number", .str "name"]
abbrev D_SECOND : D := .tup [.str "times", .str "some", .str "all"]
abbrev D_FIRST : D := .tup [.str "over", .str "rest", .str "not"]
def t_is_number : DTS := dSeq (dIf (dOr (dNot (dTru (dCB oIsi (dCons (dVar 0) (dCons (dC (.ty "int")) (dNil)))))) (dTru (dCB oIsi (dCons (dVar 0) (dCons (dC (.ty "bool")) (dNil)))))) (dRet (dC (.bl false))) (dSkip)) (dRet (dAndV (dOp oLe (dVar 1) (dVar 0)) (dOrV (dOp oIsN (dVar 2) (dC .non)) (dOp oLe (dVar 0) (dVar 2)))))
def t_is_leaf : DTS := dSeq (dIf (dTB (dOp oEq (dVar 1) (dC (.str "whole")))) (dRet (dCall (sp_is_number) (dCons (dVar 0) (dCons (dC (.int 0)) (dCons (dC D_MOST_NUMBER) (dNil)))))) (dSkip)) (dSeq (dIf (dTB (dOp oEq (dVar 1) (dC (.str "divisor")))) (dRet (dCall (sp_is_number) (dCons (dVar 0) (dCons (dIfE (dTru (dVar 2)) (dC (.int 0)) (dC (.int 1))) (dCons (dC D_MOST_NUMBER) (dNil)))))) (dSkip)) (dSeq (dIf (dTru (dVar 2)) (dNev) (dSkip)) (dRet (dAndV (dCB oIsi (dCons (dVar 0) (dCons (dC (.ty "str")) (dNil)))) (dOp oNe (dVar 0) (dC (.str "")))))))
def t_fields_of : DTS := dSeq (dIf (dOr (dNot (dTru (dCB oIsi (dCons (dVar 0) (dCons (dC (.ty "tuple")) (dNil)))))) (dOr (dTB (dOp oLt (dCB oLen (dCons (dVar 0) (dNil))) (dC (.int 2)))) (dNot (dTru (dCB oIsi (dCons (dOp ixA (dVar 0) (dC (.int 0))) (dCons (dC (.ty "str")) (dNil)))))))) (dRet (dC .non)) (dSkip)) (dSeq (dSet 2 (dCdGet (dC D_FIELDS) (dTup (dCons (dVar 1) (dCons (dOp ixA (dVar 0) (dC (.int 0))) (dNil)))))) (dSeq (dIf (dOr (dTB (dOp oIsN (dVar 2) (dC .non))) (dTB (dOp oNe (dOp oAdd (dCB oLen (dCons (dVar 2) (dNil))) (dC (.int 1))) (dCB oLen (dCons (dVar 0) (dNil)))))) (dRet (dC .non)) (dSkip)) (dRet (dVar 2))))
def t_is_shaped : DTS := dSeq (dSet2 5 6 (dC (.int 0))) (dSeq (dSet 7 (dLst (dCons (dTup (dCons (dVar 0) (dCons (dVar 1) (dNil)))) (dNil)))) (dSeq (dWhile (dTru (dVar 7)) (dSeq (dAsg (dPop (dVar 7)) (gTu (gCo (gN 8) (gCo (gN 9) (gNi))))) (dIf (dTB (dOp oIn (dVar 9) (dC D_LEAF_KINDS))) (dIf (dNot (dTru (dCall (sp_is_leaf) (dCons (dVar 8) (dCons (dVar 9) (dCons (dVar 2) (dNil))))))) (dRet (dC (.bl false))) (dSkip)) (dIf (dTB (dOp oIn (dVar 9) (dC D_ROWS))) (dSeq (dIf (dNot (dTru (dCB oIsi (dCons (dVar 8) (dCons (dC (.ty "tuple")) (dNil)))))) (dRet (dC (.bl false))) (dSkip)) (dSeq (dSet 10 (dOp ixA (dC D_ROWS) (dVar 9))) (dDrop (dExtend (dVar 7) (dLc (iD (dVar 8)) (gN 11) (dYes) (dTup (dCons (dVar 11) (dCons (dVar 10) (dNil)))) [11]))))) (dIf (dTB (dOp oIn (dVar 9) (dC D_MAYBES))) (dIf (dTB (dOp oNotN (dVar 8) (dC .non))) (dDrop (dAppend (dVar 7) (dTup (dCons (dVar 8) (dCons (dOp ixA (dC D_MAYBES) (dVar 9)) (dNil)))))) (dSkip)) (dSeq (dSet 12 (dCall (sp_fields_of) (dCons (dVar 8) (dCons (dVar 9) (dNil))))) (dSeq (dIf (dTB (dOp oIsN (dVar 12) (dC .non))) (dRet (dC (.bl false))) (dSkip)) (dSeq (dAug 6 (dIfE (dTB (dOp oEq (dVar 9) (dC (.str "statement")))) (dC (.int 1)) (dC (.int 0))) oAddI) (dSeq (dAug 5 (dIfE (dTB (dOp oIn (dVar 9) (dTup (dCons (dC (.str "sum")) (dCons (dC (.str "formula")) (dNil)))))) (dC (.int 1)) (dC (.int 0))) oAddI) (dSeq (dIf (dOr (dAnd (dTB (dOp oNotN (dVar 3) (dC .non))) (dTB (dOp oGt (dVar 5) (dVar 3)))) (dAnd (dTB (dOp oNotN (dVar 4) (dC .non))) (dTB (dOp oGt (dVar 6) (dVar 4))))) (dRet (dC (.bl false))) (dSkip)) (dDrop (dExtend (dVar 7) (dListZip (dCons (dSl (dVar 8) (dSomeP (dC (.int 1))) dNoP) (dCons (dVar 12) (dNil)))))))))))))))) (dRet (dC (.bl true)))))
def t_is_formula : DTS := dRet (dCall (sp_is_shaped) (dCons (dVar 0) (dCons (dC (.str "formula")) (dCons (dC (.bl false)) (dCons (dC D_MOST_TREES) (dCons (dC .non) (dNil)))))))
def t_parts_of : DTS := dSeq (dSet 1 (dOp ixA (dVar 0) (dC (.int 0)))) (dSeq (dIf (dTB (dOp oIn (dVar 1) (dC D_LEAVES))) (dRet (dTup (dNil))) (dSkip)) (dSeq (dIf (dTB (dOp oIn (dVar 1) (dC D_SECOND))) (dRet (dTup (dCons (dOp ixA (dVar 0) (dC (.int 2))) (dNil)))) (dSkip)) (dSeq (dIf (dTB (dOp oIn (dVar 1) (dC D_FIRST))) (dRet (dTup (dCons (dOp ixA (dVar 0) (dC (.int 1))) (dNil)))) (dSkip)) (dRet (dTup (dCons (dOp ixA (dVar 0) (dC (.int 1))) (dCons (dOp ixA (dVar 0) (dC (.int 2))) (dNil))))))))
def t_scoped : DTS := dSeq (dSet 1 (dLst (dNil))) (dSeq (dSet 2 (dLst (dCons (dTup (dCons (dVar 0) (dCons (dTup (dNil)) (dNil)))) (dNil)))) (dSeq (dWhile (dTru (dVar 2)) (dSeq (dAsg (dPop (dVar 2)) (gTu (gCo (gN 3) (gCo (gN 4) (gNi))))) (dSeq (dDrop (dAppend (dVar 1) (dTup (dCons (dVar 3) (dCons (dVar 4) (dNil)))))) (dSeq (dSet 5 (dVar 4)) (dSeq (dIf (dAnd (dTB (dOp oIn (dOp ixA (dVar 3) (dC (.int 0))) (dC D_QUANTIFIERS))) (dTB (dOp oNotIn (dOp ixA (dVar 3) (dC (.int 1))) (dVar 4)))) (dSet 5 (dOp oAdd (dVar 4) (dTup (dCons (dOp ixA (dVar 3) (dC (.int 1))) (dNil))))) (dSkip)) (dDrop (dExtend (dVar 2) (dLc (iD (dCall (sp_parts_of) (dCons (dVar 3) (dNil)))) (gN 6) (dYes) (dTup (dCons (dVar 6) (dCons (dVar 5) (dNil)))) [6])))))))) (dSeq (dDrop (dReverse (dVar 1))) (dRet (dVar 1)))))
def t_free_names : DTS := dRet (dCB oTuple (dCons (dCB oSorted (dCons (dSc (iD (dCall (sp_scoped) (dCons (dVar 0) (dNil)))) (gTu (gCo (gN 1) (gCo (gN 2) (gNi)))) (dAnd (dTB (dOp oEq (dOp ixA (dVar 1) (dC (.int 0))) (dC (.str "name")))) (dTB (dOp oNotIn (dOp ixA (dVar 1) (dC (.int 1))) (dVar 2)))) (dOp ixA (dVar 1) (dC (.int 1))) [1, 2]) (dNil))) (dNil)))
def t_check_formula : DTS := dIf (dNot (dTru (dCall (sp_is_formula) (dCons (dVar 0) (dNil))))) (dNev) (dSkip)
def t_names_of : DTS := dSeq (dDrop (dCall (sp_check_formula) (dCons (dVar 0) (dNil)))) (dRet (dCall (sp_free_names) (dCons (dVar 0) (dNil))))
def t_law_bag : DTS := dSeq (dSet 1 (dLst (dNil))) (dSeq (dSet 2 (dC (.int 11))) (dSeq (dFor (iD (dSl (dVar 0) dNoP (dSomeP (dC (.int 63))))) (gN 3) (dSeq (dIf (dTB (dOp oGe (dVar 3) (dOp oPow (dC (.int 10)) (dC (.int 18))))) (dDrop (dAppend (dVar 1) (dOp oMod (dCB oInt1 (dCons (dVar 3) (dNil))) (dOp oPow (dOp oPow (dC (.int 10)) (dC (.int 60))) (dC (.int 12)))))) (dSkip)) (dSet 2 (dOp oMod (dCB oInt1 (dCons (dOp oAdd (dOp oAdd (dOp oMul (dVar 2) (dC (.int 1000003))) (dOp oMod (dCB oInt1 (dCons (dVar 3) (dNil))) (dC (.int 2147483629)))) (dC (.int 7))) (dNil))) (dC (.int 2147483647)))))) (dRet (dLst (dCons (dVar 1) (dCons (dVar 2) (dCons (dC (.int 0)) (dNil))))))))
def t_law_take : DTS := dSeq (dSetL (dOp oAdd (dOp ixA (dVar 0) (dC (.int 2))) (dC (.int 1))) (dVar 0) (dC (.int 2))) (dSeq (dSet 2 (dOp ixA (dVar 0) (dC (.int 0)))) (dSeq (dIf (dTru (dVar 2)) (dSeq (dSet 3 (dOp oMod (dCB oInt1 (dCons (dOp ixA (dVar 2) (dC (.int 0))) (dNil))) (dVar 1))) (dSeq (dSetL (dOp oDiv (dCB oInt1 (dCons (dOp ixA (dVar 2) (dC (.int 0))) (dNil))) (dVar 1)) (dVar 2) (dC (.int 0))) (dSeq (dIf (dTB (dOp oEq (dOp ixA (dVar 2) (dC (.int 0))) (dC (.int 0)))) (dDrop (dPopAt (dVar 2) (dC (.int 0)))) (dSkip)) (dRet (dVar 3))))) (dSkip)) (dSeq (dSet 4 (dOp oMod (dCB oInt1 (dCons (dOp oAdd (dOp ixA (dVar 0) (dC (.int 1))) (dOp oMul (dOp ixA (dVar 0) (dC (.int 2))) (dC (.int 69621)))) (dNil))) (dC (.int 2147483647)))) (dSeq (dSet 4 (dOp oMod (dCB oInt1 (dCons (dOp oAdd (dOp oMul (dVar 4) (dC (.int 48271))) (dOp ixA (dVar 0) (dC (.int 2)))) (dNil))) (dC (.int 2147483629)))) (dSeq (dSet 4 (dOp oMod (dCB oInt1 (dCons (dOp oAdd (dOp oAdd (dOp oMul (dVar 4) (dVar 4)) (dOp oMul (dVar 4) (dC (.int 16807)))) (dC (.int 13))) (dNil))) (dC (.int 2147483647)))) (dSeq (dSet 4 (dOp oMod (dCB oInt1 (dCons (dOp oAdd (dOp oMul (dVar 4) (dVar 4)) (dOp ixA (dVar 0) (dC (.int 1)))) (dNil))) (dC (.int 2147483629)))) (dRet (dOp oMod (dCB oInt1 (dCons (dOp oDiv (dVar 4) (dC (.int 3))) (dNil))) (dVar 1)))))))))
def t_law_kind_same : DTS := dSeq (dSet 2 (dLst (dCons (dTup (dCons (dVar 0) (dCons (dVar 1) (dNil)))) (dNil)))) (dSeq (dWhile (dTru (dVar 2)) (dSeq (dAsg (dPop (dVar 2)) (gTu (gCo (gN 3) (gCo (gN 4) (gNi))))) (dIf (dTru (dCB oIsi (dCons (dVar 4) (dCons (dTup (dCons (dC (.ty "tuple")) (dCons (dC (.ty "list")) (dNil)))) (dNil))))) (dSeq (dIf (dOr (dNot (dTru (dCB oIsi (dCons (dVar 3) (dCons (dTup (dCons (dC (.ty "tuple")) (dCons (dC (.ty "list")) (dNil)))) (dNil)))))) (dOr (dTB (dOp oNe (dCB oIsi (dCons (dVar 3) (dCons (dC (.ty "list")) (dNil)))) (dCB oIsi (dCons (dVar 4) (dCons (dC (.ty "list")) (dNil)))))) (dTB (dOp oNe (dCB oLen (dCons (dVar 3) (dNil))) (dCB oLen (dCons (dVar 4) (dNil))))))) (dRet (dC (.bl false))) (dSkip)) (dSet 2 (dOp oAdd (dVar 2) (dLc (iR1 (dCB oLen (dCons (dVar 4) (dNil)))) (gN 5) (dYes) (dTup (dCons (dOp ixA (dVar 3) (dVar 5)) (dCons (dOp ixA (dVar 4) (dVar 5)) (dNil)))) [5])))) (dIf (dOr (dTB (dOp oIsN (dVar 4) (dC .non))) (dTru (dCB oIsi (dCons (dVar 4) (dCons (dC (.ty "bool")) (dNil)))))) (dIf (dAnd (dNot (dAnd (dTB (dOp oIsN (dVar 3) (dC .non))) (dTB (dOp oIsN (dVar 4) (dC .non))))) (dNot (dAnd (dTru (dCB oIsi (dCons (dVar 3) (dCons (dC (.ty "bool")) (dNil))))) (dTB (dOp oEq (dVar 3) (dVar 4)))))) (dRet (dC (.bl false))) (dSkip)) (dIf (dTru (dCB oIsi (dCons (dVar 4) (dCons (dC (.ty "int")) (dNil))))) (dIf (dOr (dTru (dCB oIsi (dCons (dVar 3) (dCons (dC (.ty "bool")) (dNil))))) (dOr (dNot (dTru (dCB oIsi (dCons (dVar 3) (dCons (dC (.ty "int")) (dNil)))))) (dTB (dOp oNe (dVar 3) (dVar 4))))) (dRet (dC (.bl false))) (dSkip)) (dIf (dOr (dNot (dTru (dCB oIsi (dCons (dVar 3) (dCons (dC (.ty "str")) (dNil)))))) (dTB (dOp oNe (dVar 3) (dVar 4)))) (dRet (dC (.bl false))) (dSkip))))))) (dRet (dC (.bl true))))
def t_law_number : DTS := dSeq (dSet 1 (dCall (sp_law_take) (dCons (dVar 0) (dCons (dC (.int 8)) (dNil))))) (dSeq (dIf (dTB (dOp oEq (dVar 1) (dC (.int 0)))) (dRet (dC (.int 0))) (dSkip)) (dSeq (dIf (dTB (dOp oEq (dVar 1) (dC (.int 1)))) (dRet (dOp oSub (dC (.int 999999)) (dCall (sp_law_take) (dCons (dVar 0) (dCons (dC (.int 3)) (dNil)))))) (dSkip)) (dSeq (dIf (dTB (dOp oEq (dVar 1) (dC (.int 2)))) (dRet (dCall (sp_law_take) (dCons (dVar 0) (dCons (dC (.int 1000000)) (dNil))))) (dSkip)) (dRet (dCall (sp_law_take) (dCons (dVar 0) (dCons (dC (.int 14)) (dNil))))))))
def t_law_name : DTS := dSeq (dSet 2 (dLst (dCons (dC (.str "all")) (dCons (dC (.str "and")) (dCons (dC (.str "any")) (dCons (dC (.str "asks")) (dCons (dC (.str "claim")) (dCons (dC (.str "else")) (dCons (dC (.str "end")) (dCons (dC (.str "falls")) (dCons (dC (.str "fun")) (dCons (dC (.str "gives")) (dCons (dC (.str "if")) (dCons (dC (.str "keeps")) (dCons (dC (.str "not")) (dCons (dC (.str "or")) (dCons (dC (.str "promises")) (dCons (dC (.str "some")) (dCons (dC (.str "while")) (dNil)))))))))))))))))))) (dSeq (dSet 3 (dLst (dCons (dC (.str "a")) (dCons (dC (.str "b")) (dCons (dC (.str "x")) (dCons (dC (.str "n")) (dCons (dC (.str "iff")) (dCons (dC (.str "ends")) (dCons (dC (.str "anyx")) (dCons (dC (.str "fun1")) (dCons (dC (.str "not_")) (dCons (dC (.str "or0")) (dCons (dC (.str "somehow")) (dCons (dC (.str "allB")) (dCons (dC (.str "keep")) (dCons (dC (.str "fall")) (dCons (dC (.str "gives2")) (dCons (dC (.str "q_")) (dCons (dC (.str "zZ")) (dCons (dC (.str "elsewhere")) (dCons (dC (.str "claims")) (dCons (dC (.str "whiles")) (dCons (dC (.str "end_")) (dCons (dC (.str "andy")) (dCons (dC (.str "ask")) (dCons (dC (.str "promise")) (dNil))))))))))))))))))))))))))) (dSeq (dSet 4 (dOp ixA (dVar 3) (dCall (sp_law_take) (dCons (dVar 0) (dCons (dCB oLen (dCons (dVar 3) (dNil))) (dNil)))))) (dSeq (dIf (dTB (dOp oEq (dCall (sp_law_take) (dCons (dVar 0) (dCons (dC (.int 3)) (dNil)))) (dC (.int 0)))) (dSeq (dSet 5 (dC (.str "abcdefghijklmnopqrstuvwxyzABCDEFGHIJKLMNOPQRSTUVWXYZ0123456789_"))) (dSet 4 (dOp oAdd (dOp oAdd (dVar 4) (dOp ixA (dVar 5) (dCall (sp_law_take) (dCons (dVar 0) (dCons (dC (.int 63)) (dNil)))))) (dOp ixA (dVar 5) (dCall (sp_law_take) (dCons (dVar 0) (dCons (dC (.int 63)) (dNil)))))))) (dSkip)) (dSeq (dFor (iR1 (dC (.int 60))) (gN 6) (dSeq (dSet 7 (dVar 4)) (dSeq (dIf (dTB (dOp oGt (dVar 6) (dC (.int 0)))) (dSet 7 (dOp oAdd (dOp oAdd (dVar 4) (dC (.str "_"))) (dCB oStrI (dCons (dVar 6) (dNil))))) (dSkip)) (dIf (dAnd (dTB (dOp oNotIn (dVar 7) (dVar 1))) (dTB (dOp oNotIn (dVar 7) (dVar 2)))) (dSeq (dDrop (dAppend (dVar 1) (dVar 7))) (dRet (dVar 7))) (dSkip))))) (dRet (dC (.str "unused")))))))
def t_law_sum (sp_law_sum : DSp) (k : Nat) : DTS := dSeq (dSet 3 (dCall (sp_law_take) (dCons (dVar 0) (dCons (dC (.int 12)) (dNil))))) (dSeq (dIf (dOr (dTB (dOp oEq (dVar 2) (dC (.int 0)))) (dTB (dOp oLt (dVar 3) (dC (.int 3))))) (dSeq (dIf (dAnd (dTru (dVar 1)) (dTB (dOp oGt (dCall (sp_law_take) (dCons (dVar 0) (dCons (dC (.int 3)) (dNil)))) (dC (.int 0))))) (dRet (dTup (dCons (dC (.str "name")) (dCons (dOp ixA (dVar 1) (dCall (sp_law_take) (dCons (dVar 0) (dCons (dCB oLen (dCons (dVar 1) (dNil))) (dNil))))) (dNil))))) (dSkip)) (dRet (dTup (dCons (dC (.str "number")) (dCons (dCall (sp_law_number) (dCons (dVar 0) (dNil))) (dNil)))))) (dSkip)) (dSeq (dSet 4 (dCall (sp_law_sum) (dCons (dVar 0) (dCons (dVar 1) (dCons (dOp oSub (dVar 2) (dC (.int 1))) (dNil)))))) (dSeq (dIf (dTB (dOp oLt (dVar 3) (dC (.int 6)))) (dRet (dTup (dCons (dC (.str "plus")) (dCons (dVar 4) (dCons (dCall (sp_law_sum) (dCons (dVar 0) (dCons (dVar 1) (dCons (dOp oSub (dVar 2) (dC (.int 1))) (dNil))))) (dNil)))))) (dSkip)) (dSeq (dIf (dTB (dOp oEq (dVar 3) (dC (.int 6)))) (dRet (dTup (dCons (dC (.str "minus")) (dCons (dVar 4) (dCons (dCall (sp_law_sum) (dCons (dVar 0) (dCons (dVar 1) (dCons (dOp oSub (dVar 2) (dC (.int 1))) (dNil))))) (dNil)))))) (dSkip)) (dSeq (dIf (dTB (dOp oLt (dVar 3) (dC (.int 9)))) (dRet (dTup (dCons (dC (.str "times")) (dCons (dCall (sp_law_number) (dCons (dVar 0) (dNil))) (dCons (dVar 4) (dNil)))))) (dSkip)) (dSeq (dIf (dTB (dOp oLt (dVar 3) (dC (.int 11)))) (dRet (dTup (dCons (dC (.str "over")) (dCons (dVar 4) (dCons (dOp oAdd (dC (.int 1)) (dOp oDiv (dCall (sp_law_number) (dCons (dVar 0) (dNil))) (dC (.int 2)))) (dNil)))))) (dSkip)) (dRet (dTup (dCons (dC (.str "rest")) (dCons (dVar 4) (dCons (dOp oAdd (dC (.int 1)) (dOp oDiv (dCall (sp_law_number) (dCons (dVar 0) (dNil))) (dC (.int 2)))) (dNil))))))))))))
def t_law_sum_names (sp_law_sum_names : DSp) (k : Nat) : DTS := dSeq (dIf (dTB (dOp oEq (dOp ixA (dVar 0) (dC (.int 0))) (dC (.str "number")))) (dRet (dLst (dNil))) (dSkip)) (dSeq (dIf (dTB (dOp oEq (dOp ixA (dVar 0) (dC (.int 0))) (dC (.str "name")))) (dRet (dLst (dCons (dOp ixA (dVar 0) (dC (.int 1))) (dNil)))) (dSkip)) (dSeq (dIf (dTB (dOp oEq (dOp ixA (dVar 0) (dC (.int 0))) (dC (.str "times")))) (dRet (dCall (sp_law_sum_names) (dCons (dOp ixA (dVar 0) (dC (.int 2))) (dNil)))) (dSkip)) (dSeq (dIf (dOr (dTB (dOp oEq (dOp ixA (dVar 0) (dC (.int 0))) (dC (.str "over")))) (dTB (dOp oEq (dOp ixA (dVar 0) (dC (.int 0))) (dC (.str "rest"))))) (dRet (dCall (sp_law_sum_names) (dCons (dOp ixA (dVar 0) (dC (.int 1))) (dNil)))) (dSkip)) (dRet (dOp oAdd (dCall (sp_law_sum_names) (dCons (dOp ixA (dVar 0) (dC (.int 1))) (dNil))) (dCall (sp_law_sum_names) (dCons (dOp ixA (dVar 0) (dC (.int 2))) (dNil))))))))
def t_law_quantified (sp_law_quantified : DSp) (k : Nat) : DTS := dSeq (dSet 3 (dCall (sp_law_take) (dCons (dVar 0) (dCons (dC (.int 9)) (dNil))))) (dSeq (dIf (dOr (dTB (dOp oEq (dVar 2) (dC (.int 0)))) (dTB (dOp oEq (dVar 3) (dC (.int 0))))) (dSeq (dSet 4 (dOp ixA (dLst (dCons (dC (.str "=")) (dCons (dC (.str "!=")) (dCons (dC (.str "<")) (dCons (dC (.str "<=")) (dCons (dC (.str ">")) (dCons (dC (.str ">=")) (dNil)))))))) (dCall (sp_law_take) (dCons (dVar 0) (dCons (dC (.int 6)) (dNil)))))) (dRet (dTup (dCons (dVar 4) (dCons (dCall ((sp_law_sum 2)) (dCons (dVar 0) (dCons (dVar 1) (dCons (dC (.int 2)) (dNil))))) (dCons (dCall ((sp_law_sum 2)) (dCons (dVar 0) (dCons (dVar 1) (dCons (dC (.int 1)) (dNil))))) (dNil))))))) (dSkip)) (dSeq (dSet 5 (dCall (sp_law_quantified) (dCons (dVar 0) (dCons (dVar 1) (dCons (dOp oSub (dVar 2) (dC (.int 1))) (dNil)))))) (dSeq (dIf (dTB (dOp oEq (dVar 3) (dC (.int 1)))) (dRet (dTup (dCons (dC (.str "not")) (dCons (dVar 5) (dNil))))) (dSkip)) (dSeq (dIf (dTB (dOp oLt (dVar 3) (dC (.int 5)))) (dRet (dTup (dCons (dOp ixA (dLst (dCons (dC (.str "and")) (dCons (dC (.str "or")) (dNil)))) (dOp oDiv (dVar 3) (dC (.int 4)))) (dCons (dVar 5) (dCons (dCall (sp_law_quantified) (dCons (dVar 0) (dCons (dVar 1) (dCons (dOp oSub (dVar 2) (dC (.int 1))) (dNil))))) (dNil)))))) (dSkip)) (dRet (dTup (dCons (dOp ixA (dLst (dCons (dC (.str "some")) (dCons (dC (.str "all")) (dNil)))) (dOp oDiv (dVar 3) (dC (.int 7)))) (dCons (dOp ixA (dVar 1) (dCall (sp_law_take) (dCons (dVar 0) (dCons (dCB oLen (dCons (dVar 1) (dNil))) (dNil))))) (dCons (dVar 5) (dNil))))))))))
def t_law_due_names (sp_law_due_names : DSp) (k : Nat) : DTS := dSeq (dSet 2 (dOp ixA (dVar 0) (dC (.int 0)))) (dSeq (dIf (dTB (dOp oEq (dVar 2) (dC (.str "not")))) (dRet (dCall (sp_law_due_names) (dCons (dOp ixA (dVar 0) (dC (.int 1))) (dCons (dVar 1) (dNil))))) (dSkip)) (dSeq (dIf (dOr (dTB (dOp oEq (dVar 2) (dC (.str "and")))) (dTB (dOp oEq (dVar 2) (dC (.str "or"))))) (dRet (dOp oAdd (dCall (sp_law_due_names) (dCons (dOp ixA (dVar 0) (dC (.int 1))) (dCons (dVar 1) (dNil)))) (dCall (sp_law_due_names) (dCons (dOp ixA (dVar 0) (dC (.int 2))) (dCons (dVar 1) (dNil)))))) (dSkip)) (dSeq (dIf (dOr (dTB (dOp oEq (dVar 2) (dC (.str "some")))) (dTB (dOp oEq (dVar 2) (dC (.str "all"))))) (dRet (dCall (sp_law_due_names) (dCons (dOp ixA (dVar 0) (dC (.int 2))) (dCons (dOp oAdd (dVar 1) (dLst (dCons (dOp ixA (dVar 0) (dC (.int 1))) (dNil)))) (dNil))))) (dSkip)) (dRet (dLc (iD (dOp oAdd (dCall ((sp_law_sum_names k)) (dCons (dOp ixA (dVar 0) (dC (.int 1))) (dNil))) (dCall ((sp_law_sum_names k)) (dCons (dOp ixA (dVar 0) (dC (.int 2))) (dNil))))) (gN 3) (dTB (dOp oNotIn (dVar 3) (dVar 1))) (dVar 3) [3])))))
def t_law : DTS := dSeq (dSet 1 (dCall (sp_law_bag) (dCons (dVar 0) (dNil)))) (dSeq (dSet 2 (dLst (dCons (dC (.str "x")) (dCons (dC (.str "x1")) (dCons (dC (.str "X")) (dCons (dC (.str "x'0")) (dCons (dC (.str "'1")) (dCons (dC (.str "a b")) (dCons (dC (.str "b")) (dNil)))))))))) (dSeq (dFor (iR1 (dC (.int 4))) (gN 3) (dSeq (dDrop (dCall (sp_law_name) (dCons (dVar 1) (dCons (dVar 2) (dNil))))) (dSeq (dSet 4 (dSl (dVar 2) (dSomeP (dCall (sp_law_take) (dCons (dVar 1) (dCons (dC (.int 4)) (dNil))))) (dSomeP (dOp oAdd (dC (.int 4)) (dCall (sp_law_take) (dCons (dVar 1) (dCons (dC (.int 7)) (dNil)))))))) (dSeq (dSet 5 (dCall ((sp_law_quantified 5)) (dCons (dVar 1) (dCons (dVar 4) (dCons (dC (.int 5)) (dNil)))))) (dSeq (dSet 6 (dCB oTuple (dCons (dCB oSorted (dCons (dCB oSetOf (dCons (dCall ((sp_law_due_names 9)) (dCons (dVar 5) (dCons (dLst (dNil)) (dNil)))) (dNil))) (dNil))) (dNil)))) (dIf (dOr (dNot (dTru (dCall (sp_law_kind_same) (dCons (dCall (sp_names_of) (dCons (dVar 5) (dNil))) (dCons (dVar 6) (dNil)))))) (dNot (dTru (dCall (sp_law_kind_same) (dCons (dCall (sp_names_of) (dCons (dVar 5) (dNil))) (dCons (dVar 6) (dNil))))))) (dRet (dC (.bl false))) (dSkip))))))) (dRet (dC (.bl true)))))
end K08
end
section
namespace K08
open PySem L2 DL DLZ TR PyProof.Rows
local macro_rules | `(tactic| walk_at "st") => `(tactic| ((with_reducible refine ifT ?he ?_); (case he => rfl)))
local macro_rules | `(tactic| walk_at "st") => `(tactic| ((with_reducible refine ifF ?he ?_); (case he => rfl)))
local macro_rules | `(tactic| walk_at "st") => `(tactic| ((with_reducible refine ifT ?he ?_); (case he => decide +kernel)))
local macro_rules | `(tactic| walk_at "st") => `(tactic| ((with_reducible refine ifF ?he ?_); (case he => decide +kernel)))
local macro_rules | `(tactic| walk_at "st") => `(tactic| ((with_reducible refine i_isiT (T := ?tt) (b := false) ?he ?hf ?_); (case he => rfl); (case hf => decide +kernel)))
local macro_rules | `(tactic| walk_at "st") => `(tactic| ((with_reducible refine i_isi (T := ?tt) (b := false) ?he ?hf ?_); (case he => rfl); (case hf => decide +kernel)))
local macro_rules | `(tactic| walk_at "st") => `(tactic| ((with_reducible refine i_isiT (T := ?tt) (b := true) ?he ?hf ?_); (case he => rfl); (case hf => decide +kernel)))
local macro_rules | `(tactic| walk_at "st") => `(tactic| ((with_reducible refine i_isi (T := ?tt) (b := true) ?he ?hf ?_); (case he => rfl); (case hf => decide +kernel)))
local macro_rules | `(tactic| walk_at "st") => `(tactic| ((with_reducible refine i_len ?he ?_); (case he => rfl)))
local macro_rules | `(tactic| walk_at "st") => `(tactic| ((with_reducible refine i_niT (v := ?vv) (us := ?uu) ?he ?hf ?_); (case he => rfl); (case hf => rfl)))
local macro_rules | `(tactic| walk_at "st") => `(tactic| ((with_reducible refine i_inT (v := ?vv) (us := ?uu) ?he ?hf ?_); (case he => rfl); (case hf => rfl)))
local macro_rules | `(tactic| walk_at "st") => `(tactic| ((with_reducible refine i_ixC (d := ?dd) ?he ?_); (case he => rfl)))
local macro_rules | `(tactic| walk_at "st") => `(tactic| ((with_reducible refine i_ixT (d := ?dd) ?he ?_); (case he => rfl)))
local macro_rules | `(tactic| walk_at "st") => `(tactic| ((with_reducible refine i_aug (x := ?dd) ?he ?_); (case he => rfl)))
local macro_rules | `(tactic| walk_at "st") => `(tactic| ((with_reducible refine i_var (d := ?dd) ?he ?_); (case he => rfl)))
local macro_rules | `(tactic| walk_at "st") => `(tactic| with_reducible refine i_truN ?_)
local macro_rules | `(tactic| walk_at "st") => `(tactic| with_reducible refine i_truT ?_)
local macro_rules | `(tactic| walk_at "st") => `(tactic| with_reducible refine i_truI ?_)
local macro_rules | `(tactic| walk_at "st") => `(tactic| with_reducible refine i_truB ?_)
local macro_rules | `(tactic| walk_at "st") => `(tactic| with_reducible refine i_tupT ?_)
local macro_rules | `(tactic| walk_at "st") => `(tactic| with_reducible refine i_slT ?_)
local macro_rules | `(tactic| walk_at "st") => `(tactic| with_reducible refine i_lenC ?_)
local macro_rules | `(tactic| walk_at "st") => `(tactic| with_reducible refine i_lenT ?_)
local macro_rules | `(tactic| walk_at "st") => `(tactic| with_reducible refine i_int1 ?_)
local macro_rules | `(tactic| walk_at "st") => `(tactic| with_reducible refine i_int ?_)
local macro_rules | `(tactic| walk_at "st") => `(tactic| with_reducible refine i_addII ?_)
local macro_rules | `(tactic| walk_at "st") => `(tactic| with_reducible refine i_addI ?_)
local macro_rules | `(tactic| walk_at "st") => `(tactic| with_reducible refine i_noN ?_)
local macro_rules | `(tactic| walk_at "st") => `(tactic| with_reducible refine i_isN ?_)
local macro_rules | `(tactic| walk_at "st") => `(tactic| with_reducible refine i_neS ?_)
local macro_rules | `(tactic| walk_at "st") => `(tactic| with_reducible refine i_neI ?_)
local macro_rules | `(tactic| walk_at "st") => `(tactic| with_reducible refine i_eqB ?_)
local macro_rules | `(tactic| walk_at "st") => `(tactic| with_reducible refine i_eqS ?_)
local macro_rules | `(tactic| walk_at "st") => `(tactic| with_reducible refine i_eqI ?_)
local macro_rules | `(tactic| walk_at "st") => `(tactic| with_reducible refine i_yes ?_)
local macro_rules | `(tactic| walk_at "st") => `(tactic| with_reducible refine i_gNi ?_)
local macro_rules | `(tactic| walk_at "st") => `(tactic| with_reducible refine i_gCo ?_)
local macro_rules | `(tactic| walk_at "st") => `(tactic| with_reducible refine i_gTu ?_)
local macro_rules | `(tactic| walk_at "st") => `(tactic| with_reducible refine i_gN ?_)
local macro_rules | `(tactic| walk_at "st") => `(tactic| with_reducible refine i_iR1 ?_)
local macro_rules | `(tactic| walk_at "st") => `(tactic| with_reducible refine i_iD ?_)
local macro_rules | `(tactic| walk_at "st") => `(tactic| with_reducible refine i_cdG ?_)
local macro_rules | `(tactic| walk_at "st") => `(tactic| with_reducible refine i_reverse ?_)
local macro_rules | `(tactic| walk_at "st") => `(tactic| with_reducible refine i_pop ?_)
local macro_rules | `(tactic| walk_at "st") => `(tactic| with_reducible refine i_extend ?_)
local macro_rules | `(tactic| walk_at "st") => `(tactic| with_reducible refine i_append ?_)
local macro_rules | `(tactic| walk_at "st") => `(tactic| with_reducible refine i_someP ?_)
local macro_rules | `(tactic| walk_at "st") => `(tactic| with_reducible refine i_noP ?_)
local macro_rules | `(tactic| walk_at "st") => `(tactic| with_reducible refine i_sl ?_)
local macro_rules | `(tactic| walk_at "st") => `(tactic| with_reducible refine i_call ?_)
local macro_rules | `(tactic| walk_at "st") => `(tactic| with_reducible refine i_cb ?_)
local macro_rules | `(tactic| walk_at "st") => `(tactic| with_reducible refine i_neg1 ?_)
local macro_rules | `(tactic| walk_at "st") => `(tactic| with_reducible refine i_neg ?_)
local macro_rules | `(tactic| walk_at "st") => `(tactic| with_reducible refine i_ifE ?_)
local macro_rules | `(tactic| walk_at "st") => `(tactic| with_reducible refine i_notV ?_)
local macro_rules | `(tactic| walk_at "st") => `(tactic| with_reducible refine i_orV ?_)
local macro_rules | `(tactic| walk_at "st") => `(tactic| with_reducible refine i_andV ?_)
local macro_rules | `(tactic| walk_at "st") => `(tactic| with_reducible refine i_not ?_)
local macro_rules | `(tactic| walk_at "st") => `(tactic| with_reducible refine i_or ?_)
local macro_rules | `(tactic| walk_at "st") => `(tactic| with_reducible refine i_and ?_)
local macro_rules | `(tactic| walk_at "st") => `(tactic| with_reducible refine i_tru ?_)
local macro_rules | `(tactic| walk_at "st") => `(tactic| with_reducible refine i_bl ?_)
local macro_rules | `(tactic| walk_at "st") => `(tactic| with_reducible refine i_tb ?_)
local macro_rules | `(tactic| walk_at "st") => `(tactic| with_reducible refine i_cons ?_)
local macro_rules | `(tactic| walk_at "st") => `(tactic| with_reducible refine i_nil ?_)
local macro_rules | `(tactic| walk_at "st") => `(tactic| with_reducible refine i_lst ?_)
local macro_rules | `(tactic| walk_at "st") => `(tactic| with_reducible refine i_tup ?_)
local macro_rules | `(tactic| walk_at "st") => `(tactic| with_reducible refine i_op ?_)
local macro_rules | `(tactic| walk_at "st") => `(tactic| with_reducible refine i_c ?_)
local macro_rules | `(tactic| walk_at "st") => `(tactic| with_reducible refine i_par2 ?_)
local macro_rules | `(tactic| walk_at "st") => `(tactic| with_reducible refine i_par ?_)
local macro_rules | `(tactic| walk_at "st") => `(tactic| with_reducible refine i_setL ?_)
local macro_rules | `(tactic| walk_at "st") => `(tactic| with_reducible refine i_cnt ?_)
local macro_rules | `(tactic| walk_at "st") => `(tactic| with_reducible refine i_brk ?_)
local macro_rules | `(tactic| walk_at "st") => `(tactic| with_reducible refine i_skip ?_)
local macro_rules | `(tactic| walk_at "st") => `(tactic| with_reducible refine i_if ?_)
local macro_rules | `(tactic| walk_at "st") => `(tactic| with_reducible refine i_retN ?_)
local macro_rules | `(tactic| walk_at "st") => `(tactic| with_reducible refine i_ret ?_)
local macro_rules | `(tactic| walk_at "st") => `(tactic| with_reducible refine i_drop ?_)
local macro_rules | `(tactic| walk_at "st") => `(tactic| with_reducible refine i_asg ?_)
local macro_rules | `(tactic| walk_at "st") => `(tactic| with_reducible refine i_set2 ?_)
local macro_rules | `(tactic| walk_at "st") => `(tactic| with_reducible refine i_set ?_)
local macro_rules | `(tactic| walk_at "st") => `(tactic| with_reducible refine i_seq ?_)
local macro_rules | `(tactic| walk_at "sts") => `(tactic| repeat walk_at "st")
theorem rd_is_number (ds : List D) (S : Sto) (Q : DK) (E : DX) (h : sp_is_number ds S Q E) : t_is_number { nx := fun _ S' => Dn Q .non S', rt := Dn Q } (startD 3 ds) S := by
  obtain ⟨n, lo, hi, rfl, q⟩ := h
  unfold t_is_number
  walk_at "sts"
  refine ifD (fun h1 => ?_) fun h1 => ?_
  · walk_at "sts"
    rw [decide_eq_true h1] at q
    exact i_dn q
  · walk_at "sts"
    rw [decide_eq_false h1] at q
    rw [decide_eq_false h1]
    exact i_dn q
theorem rd_is_leaf (ds : List D) (S : Sto) (Q : DK) (E : DX) (h : sp_is_leaf ds S Q E) : t_is_leaf { nx := fun _ S' => Dn Q .non S', rt := Dn Q } (startD 3 ds) S := by
  obtain ⟨v, k, rfl, l, q⟩ := h
  unfold t_is_leaf
  rcases l with ⟨n, rfl, hn, rfl | ⟨rfl, h1⟩⟩ | ⟨s, rfl, rfl, hs⟩
  · walk_at "sts"
    refine ⟨n, 0, 999999, rfl, ?_⟩
    rw [decide_eq_true (by omega : (0 : Int) ≤ n), decide_eq_true (by omega : (n : Int) ≤ 999999)]
    walk_at "sts"
    exact i_dn q
  · walk_at "sts"
    refine ⟨n, 1, 999999, rfl, ?_⟩
    rw [decide_eq_true (by omega : (1 : Int) ≤ n), decide_eq_true (by omega : (n : Int) ≤ 999999)]
    walk_at "sts"
    exact i_dn q
  · walk_at "sts"
    rw [decide_eq_false hs]
    exact i_dn q
theorem rd_fields_of (ds : List D) (S : Sto) (Q : DK) (E : DX) (h : sp_fields_of ds S Q E) : t_fields_of { nx := fun _ S' => Dn Q .non S', rt := Dn Q } (startD 3 ds) S := by
  obtain ⟨t, rfl, q⟩ := h
  unfold t_fields_of
  rcases t with n | s | ⟨o, a, b⟩ | ⟨n, a⟩ | ⟨o, a, n⟩ | a | ⟨o, x, a⟩
  · simp only [Tr.d, Tr.kind, Tr.flds, Op2.w, Op2.kind, Op2.sub, Opd.w, Qn.w, List.map] at q ⊢
    walk_at "sts"
    refine ⟨_, _, rfl, ?_⟩
    walk_at "sts"
    refine ⟨by decide +kernel, .tup [.str "whole"], rfl, ?_⟩
    walk_at "sts"
    exact i_dn q
  · simp only [Tr.d, Tr.kind, Tr.flds, Op2.w, Op2.kind, Op2.sub, Opd.w, Qn.w, List.map] at q ⊢
    walk_at "sts"
    refine ⟨_, _, rfl, ?_⟩
    walk_at "sts"
    refine ⟨by decide +kernel, .tup [.str "word"], rfl, ?_⟩
    walk_at "sts"
    exact i_dn q
  · cases o
    · simp only [Tr.d, Tr.kind, Tr.flds, Op2.w, Op2.kind, Op2.sub, Opd.w, Qn.w, List.map] at q ⊢
      walk_at "sts"
      refine ⟨_, _, rfl, ?_⟩
      walk_at "sts"
      refine ⟨by decide +kernel, .tup [.str "sum", .str "sum"], rfl, ?_⟩
      walk_at "sts"
      exact i_dn q
    · simp only [Tr.d, Tr.kind, Tr.flds, Op2.w, Op2.kind, Op2.sub, Opd.w, Qn.w, List.map] at q ⊢
      walk_at "sts"
      refine ⟨_, _, rfl, ?_⟩
      walk_at "sts"
      refine ⟨by decide +kernel, .tup [.str "sum", .str "sum"], rfl, ?_⟩
      walk_at "sts"
      exact i_dn q
    · simp only [Tr.d, Tr.kind, Tr.flds, Op2.w, Op2.kind, Op2.sub, Opd.w, Qn.w, List.map] at q ⊢
      walk_at "sts"
      refine ⟨_, _, rfl, ?_⟩
      walk_at "sts"
      refine ⟨by decide +kernel, .tup [.str "sum", .str "sum"], rfl, ?_⟩
      walk_at "sts"
      exact i_dn q
    · simp only [Tr.d, Tr.kind, Tr.flds, Op2.w, Op2.kind, Op2.sub, Opd.w, Qn.w, List.map] at q ⊢
      walk_at "sts"
      refine ⟨_, _, rfl, ?_⟩
      walk_at "sts"
      refine ⟨by decide +kernel, .tup [.str "sum", .str "sum"], rfl, ?_⟩
      walk_at "sts"
      exact i_dn q
    · simp only [Tr.d, Tr.kind, Tr.flds, Op2.w, Op2.kind, Op2.sub, Opd.w, Qn.w, List.map] at q ⊢
      walk_at "sts"
      refine ⟨_, _, rfl, ?_⟩
      walk_at "sts"
      refine ⟨by decide +kernel, .tup [.str "sum", .str "sum"], rfl, ?_⟩
      walk_at "sts"
      exact i_dn q
    · simp only [Tr.d, Tr.kind, Tr.flds, Op2.w, Op2.kind, Op2.sub, Opd.w, Qn.w, List.map] at q ⊢
      walk_at "sts"
      refine ⟨_, _, rfl, ?_⟩
      walk_at "sts"
      refine ⟨by decide +kernel, .tup [.str "sum", .str "sum"], rfl, ?_⟩
      walk_at "sts"
      exact i_dn q
    · simp only [Tr.d, Tr.kind, Tr.flds, Op2.w, Op2.kind, Op2.sub, Opd.w, Qn.w, List.map] at q ⊢
      walk_at "sts"
      refine ⟨_, _, rfl, ?_⟩
      walk_at "sts"
      refine ⟨by decide +kernel, .tup [.str "sum", .str "sum"], rfl, ?_⟩
      walk_at "sts"
      exact i_dn q
    · simp only [Tr.d, Tr.kind, Tr.flds, Op2.w, Op2.kind, Op2.sub, Opd.w, Qn.w, List.map] at q ⊢
      walk_at "sts"
      refine ⟨_, _, rfl, ?_⟩
      walk_at "sts"
      refine ⟨by decide +kernel, .tup [.str "sum", .str "sum"], rfl, ?_⟩
      walk_at "sts"
      exact i_dn q
    · simp only [Tr.d, Tr.kind, Tr.flds, Op2.w, Op2.kind, Op2.sub, Opd.w, Qn.w, List.map] at q ⊢
      walk_at "sts"
      refine ⟨_, _, rfl, ?_⟩
      walk_at "sts"
      refine ⟨by decide +kernel, .tup [.str "formula", .str "formula"], rfl, ?_⟩
      walk_at "sts"
      exact i_dn q
    · simp only [Tr.d, Tr.kind, Tr.flds, Op2.w, Op2.kind, Op2.sub, Opd.w, Qn.w, List.map] at q ⊢
      walk_at "sts"
      refine ⟨_, _, rfl, ?_⟩
      walk_at "sts"
      refine ⟨by decide +kernel, .tup [.str "formula", .str "formula"], rfl, ?_⟩
      walk_at "sts"
      exact i_dn q
  · simp only [Tr.d, Tr.kind, Tr.flds, Op2.w, Op2.kind, Op2.sub, Opd.w, Qn.w, List.map] at q ⊢
    walk_at "sts"
    refine ⟨_, _, rfl, ?_⟩
    walk_at "sts"
    refine ⟨by decide +kernel, .tup [.str "whole", .str "sum"], rfl, ?_⟩
    walk_at "sts"
    exact i_dn q
  · cases o
    · simp only [Tr.d, Tr.kind, Tr.flds, Op2.w, Op2.kind, Op2.sub, Opd.w, Qn.w, List.map] at q ⊢
      walk_at "sts"
      refine ⟨_, _, rfl, ?_⟩
      walk_at "sts"
      refine ⟨by decide +kernel, .tup [.str "sum", .str "divisor"], rfl, ?_⟩
      walk_at "sts"
      exact i_dn q
    · simp only [Tr.d, Tr.kind, Tr.flds, Op2.w, Op2.kind, Op2.sub, Opd.w, Qn.w, List.map] at q ⊢
      walk_at "sts"
      refine ⟨_, _, rfl, ?_⟩
      walk_at "sts"
      refine ⟨by decide +kernel, .tup [.str "sum", .str "divisor"], rfl, ?_⟩
      walk_at "sts"
      exact i_dn q
  · simp only [Tr.d, Tr.kind, Tr.flds, Op2.w, Op2.kind, Op2.sub, Opd.w, Qn.w, List.map] at q ⊢
    walk_at "sts"
    refine ⟨_, _, rfl, ?_⟩
    walk_at "sts"
    refine ⟨by decide +kernel, .tup [.str "formula"], rfl, ?_⟩
    walk_at "sts"
    exact i_dn q
  · cases o
    · simp only [Tr.d, Tr.kind, Tr.flds, Op2.w, Op2.kind, Op2.sub, Opd.w, Qn.w, List.map] at q ⊢
      walk_at "sts"
      refine ⟨_, _, rfl, ?_⟩
      walk_at "sts"
      refine ⟨by decide +kernel, .tup [.str "word", .str "formula"], rfl, ?_⟩
      walk_at "sts"
      exact i_dn q
    · simp only [Tr.d, Tr.kind, Tr.flds, Op2.w, Op2.kind, Op2.sub, Opd.w, Qn.w, List.map] at q ⊢
      walk_at "sts"
      refine ⟨_, _, rfl, ?_⟩
      walk_at "sts"
      refine ⟨by decide +kernel, .tup [.str "word", .str "formula"], rfl, ?_⟩
      walk_at "sts"
      exact i_dn q
end K08
end
section
namespace K08
open PySem L2 DL DLZ TR PyProof.Rows
local macro_rules | `(tactic| walk_at "st") => `(tactic| ((with_reducible refine ifT ?he ?_); (case he => rfl)))
local macro_rules | `(tactic| walk_at "st") => `(tactic| ((with_reducible refine ifF ?he ?_); (case he => rfl)))
local macro_rules | `(tactic| walk_at "st") => `(tactic| ((with_reducible refine ifT ?he ?_); (case he => decide +kernel)))
local macro_rules | `(tactic| walk_at "st") => `(tactic| ((with_reducible refine ifF ?he ?_); (case he => decide +kernel)))
local macro_rules | `(tactic| walk_at "st") => `(tactic| ((with_reducible refine i_isiT (T := ?tt) (b := false) ?he ?hf ?_); (case he => rfl); (case hf => decide +kernel)))
local macro_rules | `(tactic| walk_at "st") => `(tactic| ((with_reducible refine i_isi (T := ?tt) (b := false) ?he ?hf ?_); (case he => rfl); (case hf => decide +kernel)))
local macro_rules | `(tactic| walk_at "st") => `(tactic| ((with_reducible refine i_isiT (T := ?tt) (b := true) ?he ?hf ?_); (case he => rfl); (case hf => decide +kernel)))
local macro_rules | `(tactic| walk_at "st") => `(tactic| ((with_reducible refine i_isi (T := ?tt) (b := true) ?he ?hf ?_); (case he => rfl); (case hf => decide +kernel)))
local macro_rules | `(tactic| walk_at "st") => `(tactic| ((with_reducible refine i_len ?he ?_); (case he => rfl)))
local macro_rules | `(tactic| walk_at "st") => `(tactic| ((with_reducible refine i_niT (v := ?vv) (us := ?uu) ?he ?hf ?_); (case he => rfl); (case hf => rfl)))
local macro_rules | `(tactic| walk_at "st") => `(tactic| ((with_reducible refine i_inT (v := ?vv) (us := ?uu) ?he ?hf ?_); (case he => rfl); (case hf => rfl)))
local macro_rules | `(tactic| walk_at "st") => `(tactic| ((with_reducible refine i_ixC (d := ?dd) ?he ?_); (case he => rfl)))
local macro_rules | `(tactic| walk_at "st") => `(tactic| ((with_reducible refine i_ixT (d := ?dd) ?he ?_); (case he => rfl)))
local macro_rules | `(tactic| walk_at "st") => `(tactic| ((with_reducible refine i_aug (x := ?dd) ?he ?_); (case he => rfl)))
local macro_rules | `(tactic| walk_at "st") => `(tactic| ((with_reducible refine i_var (d := ?dd) ?he ?_); (case he => rfl)))
local macro_rules | `(tactic| walk_at "st") => `(tactic| with_reducible refine i_truN ?_)
local macro_rules | `(tactic| walk_at "st") => `(tactic| with_reducible refine i_truT ?_)
local macro_rules | `(tactic| walk_at "st") => `(tactic| with_reducible refine i_truI ?_)
local macro_rules | `(tactic| walk_at "st") => `(tactic| with_reducible refine i_truB ?_)
local macro_rules | `(tactic| walk_at "st") => `(tactic| with_reducible refine i_tupT ?_)
local macro_rules | `(tactic| walk_at "st") => `(tactic| with_reducible refine i_slT ?_)
local macro_rules | `(tactic| walk_at "st") => `(tactic| with_reducible refine i_lenC ?_)
local macro_rules | `(tactic| walk_at "st") => `(tactic| with_reducible refine i_lenT ?_)
local macro_rules | `(tactic| walk_at "st") => `(tactic| with_reducible refine i_int1 ?_)
local macro_rules | `(tactic| walk_at "st") => `(tactic| with_reducible refine i_int ?_)
local macro_rules | `(tactic| walk_at "st") => `(tactic| with_reducible refine i_addII ?_)
local macro_rules | `(tactic| walk_at "st") => `(tactic| with_reducible refine i_addI ?_)
local macro_rules | `(tactic| walk_at "st") => `(tactic| with_reducible refine i_noN ?_)
local macro_rules | `(tactic| walk_at "st") => `(tactic| with_reducible refine i_isN ?_)
local macro_rules | `(tactic| walk_at "st") => `(tactic| with_reducible refine i_neS ?_)
local macro_rules | `(tactic| walk_at "st") => `(tactic| with_reducible refine i_neI ?_)
local macro_rules | `(tactic| walk_at "st") => `(tactic| with_reducible refine i_eqB ?_)
local macro_rules | `(tactic| walk_at "st") => `(tactic| with_reducible refine i_eqS ?_)
local macro_rules | `(tactic| walk_at "st") => `(tactic| with_reducible refine i_eqI ?_)
local macro_rules | `(tactic| walk_at "st") => `(tactic| with_reducible refine i_yes ?_)
local macro_rules | `(tactic| walk_at "st") => `(tactic| with_reducible refine i_gNi ?_)
local macro_rules | `(tactic| walk_at "st") => `(tactic| with_reducible refine i_gCo ?_)
local macro_rules | `(tactic| walk_at "st") => `(tactic| with_reducible refine i_gTu ?_)
local macro_rules | `(tactic| walk_at "st") => `(tactic| with_reducible refine i_gN ?_)
local macro_rules | `(tactic| walk_at "st") => `(tactic| with_reducible refine i_iR1 ?_)
local macro_rules | `(tactic| walk_at "st") => `(tactic| with_reducible refine i_iD ?_)
local macro_rules | `(tactic| walk_at "st") => `(tactic| with_reducible refine i_cdG ?_)
local macro_rules | `(tactic| walk_at "st") => `(tactic| with_reducible refine i_reverse ?_)
local macro_rules | `(tactic| walk_at "st") => `(tactic| with_reducible refine i_pop ?_)
local macro_rules | `(tactic| walk_at "st") => `(tactic| with_reducible refine i_extend ?_)
local macro_rules | `(tactic| walk_at "st") => `(tactic| with_reducible refine i_append ?_)
local macro_rules | `(tactic| walk_at "st") => `(tactic| with_reducible refine i_someP ?_)
local macro_rules | `(tactic| walk_at "st") => `(tactic| with_reducible refine i_noP ?_)
local macro_rules | `(tactic| walk_at "st") => `(tactic| with_reducible refine i_sl ?_)
local macro_rules | `(tactic| walk_at "st") => `(tactic| with_reducible refine i_call ?_)
local macro_rules | `(tactic| walk_at "st") => `(tactic| with_reducible refine i_cb ?_)
local macro_rules | `(tactic| walk_at "st") => `(tactic| with_reducible refine i_neg1 ?_)
local macro_rules | `(tactic| walk_at "st") => `(tactic| with_reducible refine i_neg ?_)
local macro_rules | `(tactic| walk_at "st") => `(tactic| with_reducible refine i_ifE ?_)
local macro_rules | `(tactic| walk_at "st") => `(tactic| with_reducible refine i_notV ?_)
local macro_rules | `(tactic| walk_at "st") => `(tactic| with_reducible refine i_orV ?_)
local macro_rules | `(tactic| walk_at "st") => `(tactic| with_reducible refine i_andV ?_)
local macro_rules | `(tactic| walk_at "st") => `(tactic| with_reducible refine i_not ?_)
local macro_rules | `(tactic| walk_at "st") => `(tactic| with_reducible refine i_or ?_)
local macro_rules | `(tactic| walk_at "st") => `(tactic| with_reducible refine i_and ?_)
local macro_rules | `(tactic| walk_at "st") => `(tactic| with_reducible refine i_tru ?_)
local macro_rules | `(tactic| walk_at "st") => `(tactic| with_reducible refine i_bl ?_)
local macro_rules | `(tactic| walk_at "st") => `(tactic| with_reducible refine i_tb ?_)
local macro_rules | `(tactic| walk_at "st") => `(tactic| with_reducible refine i_cons ?_)
local macro_rules | `(tactic| walk_at "st") => `(tactic| with_reducible refine i_nil ?_)
local macro_rules | `(tactic| walk_at "st") => `(tactic| with_reducible refine i_lst ?_)
local macro_rules | `(tactic| walk_at "st") => `(tactic| with_reducible refine i_tup ?_)
local macro_rules | `(tactic| walk_at "st") => `(tactic| with_reducible refine i_op ?_)
local macro_rules | `(tactic| walk_at "st") => `(tactic| with_reducible refine i_c ?_)
local macro_rules | `(tactic| walk_at "st") => `(tactic| with_reducible refine i_par2 ?_)
local macro_rules | `(tactic| walk_at "st") => `(tactic| with_reducible refine i_par ?_)
local macro_rules | `(tactic| walk_at "st") => `(tactic| with_reducible refine i_setL ?_)
local macro_rules | `(tactic| walk_at "st") => `(tactic| with_reducible refine i_cnt ?_)
local macro_rules | `(tactic| walk_at "st") => `(tactic| with_reducible refine i_brk ?_)
local macro_rules | `(tactic| walk_at "st") => `(tactic| with_reducible refine i_skip ?_)
local macro_rules | `(tactic| walk_at "st") => `(tactic| with_reducible refine i_if ?_)
local macro_rules | `(tactic| walk_at "st") => `(tactic| with_reducible refine i_retN ?_)
local macro_rules | `(tactic| walk_at "st") => `(tactic| with_reducible refine i_ret ?_)
local macro_rules | `(tactic| walk_at "st") => `(tactic| with_reducible refine i_drop ?_)
local macro_rules | `(tactic| walk_at "st") => `(tactic| with_reducible refine i_asg ?_)
local macro_rules | `(tactic| walk_at "st") => `(tactic| with_reducible refine i_set2 ?_)
local macro_rules | `(tactic| walk_at "st") => `(tactic| with_reducible refine i_set ?_)
local macro_rules | `(tactic| walk_at "st") => `(tactic| with_reducible refine i_seq ?_)
local macro_rules | `(tactic| walk_at "sts") => `(tactic| repeat walk_at "st")
structure ShW (t : Tr) (p : Addr) (S : Sto) (m : Nat) (ε : DL.Env) (S1 : Sto) (its : List Itm) (met : Nat) (e8 e9 e12 : Option D) : Prop where
  e : ε = [some t.d, some (.str "formula"), some (.bl false), some (.int 400), some .non, some (.int met), some (.int 0), some (.ref p), e8, e9, none, none, e12]
  s : S1 p = some (.lst (its.map Itm.d))
  l : Le S S1
  o : ∀ i ∈ its, i.ok
  z : met + (its.map Itm.sz).sum ≤ 400
  n : its.length ≤ met + 1
  m : m = (its.map Itm.wt).sum
def ShWe (t : Tr) (p : Addr) (S : Sto) (m : Nat) (ε : DL.Env) (S1 : Sto) : Prop := ∃ its met e8 e9 e12, ShW t p S m ε S1 its met e8 e9 e12
theorem rd_is_shaped (ds : List D) (S : Sto) (Q : DK) (E : DX) (h : sp_is_shaped ds S Q E) : t_is_shaped { nx := fun _ S' => Dn Q .non S', rt := Dn Q } (startD 13 ds) S := by
  obtain ⟨t, g, rfl, q⟩ := h
  unfold t_is_shaped
  walk_at "sts"
  intro p hp
  walk_at "sts"
  refine ⟨ShWe t p S, ⟨_, [.tree t], 0, none, none, none, rfl, ?_, ?_, ?_, ?_, ?_, rfl⟩, fun m ε S1 w => ?_⟩
  · rw [put_same]
    show _ = some (Cell.lst [.tup [t.d, .str t.kind]])
    rw [g.kind]
  · exact lePut (Le.refl S) hp
  · intro i hi
    have e : i = .tree t := by simpa using hi
    subst e
    exact g.wf
  · simpa [Itm.sz] using g.sz
  · simp
  · obtain ⟨its, met, e8, e9, e12, rfl, hS, hL, ho, hz, hl, rfl⟩ := w
    walk_at "sts"
    refine i_truR hS ?_
    rcases nilOrApp its with rfl | ⟨r, i, rfl⟩
    · walk_at "sts"
      exact i_dnL hL q
    · have hi := ho i (by simp)
      refine ifT (by simp) ?_
      walk_at "sts"
      have hd : ((r ++ [i]).map Itm.d).dropLast = r.map Itm.d := by rw [List.map_append, List.map_singleton, List.dropLast_concat]
      refine ⟨p, _, i.d, rfl, hS, by simp, ?_⟩
      rw [hd]
      rw [List.map_append, List.sum_append, List.map_singleton, List.sum_singleton] at hz
      rw [List.length_append, List.length_singleton] at hl
      have hm : ((r ++ [i]).map Itm.wt).sum = (r.map Itm.wt).sum + i.wt := by rw [List.map_append, List.sum_append, List.map_singleton, List.sum_singleton]
      rw [hm]
      have hr : ∀ j ∈ r, j.ok := fun j hj => ho j (by simp [hj])
      cases i with
      | leaf v k =>
        show gTu _ (.tup [v, .str k]) _ _ _
        have hk : k = "whole" ∨ k = "divisor" ∨ k = "word" := by
          rcases hi with ⟨n, _, _, h | ⟨h, _⟩⟩ | ⟨s, _, h, _⟩ <;> simp [h]
        rcases hk with rfl | rfl | rfl
        · walk_at "sts"
          refine ⟨v, _, rfl, hi, ?_⟩
          walk_at "sts"
          exact ⟨_, Nat.lt_succ_self _, r, met, _, _, _, rfl, put_same, lePut hL hp, hr, by omega, by omega, rfl⟩
        · walk_at "sts"
          refine ⟨v, _, rfl, hi, ?_⟩
          walk_at "sts"
          exact ⟨_, Nat.lt_succ_self _, r, met, _, _, _, rfl, put_same, lePut hL hp, hr, by omega, by omega, rfl⟩
        · walk_at "sts"
          refine ⟨v, _, rfl, hi, ?_⟩
          walk_at "sts"
          exact ⟨_, Nat.lt_succ_self _, r, met, _, _, _, rfl, put_same, lePut hL hp, hr, by omega, by omega, rfl⟩
      | tree u =>
        show gTu _ (.tup [u.d, .str u.kind]) _ _ _
        have hu : u.wf := hi
        have hus := TR.Tr.sz_pos u
        have hk2 := u.kind2
        generalize hk : u.kind = k at hk2 ⊢
        rcases hk2 with rfl | rfl
        · walk_at "sts"
          refine i_inD (by decide +kernel) ?_
          walk_at "sts"
          refine i_inD (by decide +kernel) ?_
          walk_at "sts"
          refine ⟨u, by rw [hk], ?_⟩
          walk_at "sts"
          refine ifF (decide_eq_false (by simp only [Itm.sz] at hz; omega)) ?_
          walk_at "sts"
          refine ⟨p, _, rfl, put_same, ?_⟩
          unfold dListZip
          walk_at "sts"
          rw [Tr.d_eq u]
          walk_at "sts"
          rw [cut1]
          have la := args_len u
          have lk := kids_len u
          refine ⟨u.args, _, rfl, by rw [List.length_map]; exact la.1, Nat.le_trans la.2 (by decide), fun z hz2 => ?_⟩
          have hzp : p ≠ z := fun e => by subst e; rw [put_same] at hz2; cases hz2
          refine ⟨z, _, _, rfl, (put_ne hzp).trans put_same, put_same, ?_, ?_⟩
          · have e : (List.zipWith (fun x y => D.tup [x, y]) u.args (u.flds.map D.str)).length ≤ 2 := by rw [List.length_zipWith]; omega
            rw [List.length_map]
            exact Nat.le_trans (by omega : _ ≤ 1000) (by decide)
          · rw [kids_d hu, ← List.map_append]
            have w1 := kids_wt u
            have w2 := kids_sz u
            refine ⟨((r ++ kids u).map Itm.wt).sum, ?_, r ++ kids u, met + 1, _, _, _, rfl, put_same, ?_, ?_, ?_, ?_, rfl⟩
            · rw [List.map_append, List.sum_append]
              show _ < _ + 3 * u.sz
              omega
            · exact lePut (Le.put (lePut hL hp) hz2) hp
            · intro j hj
              rcases List.mem_append.mp hj with h | h
              · exact hr j h
              · exact kids_ok hu j h
            · rw [List.map_append, List.sum_append]
              simp only [Itm.sz] at hz
              omega
            · rw [List.length_append]
              omega
        · walk_at "sts"
          refine i_inD (by decide +kernel) ?_
          walk_at "sts"
          refine i_inD (by decide +kernel) ?_
          walk_at "sts"
          refine ⟨u, by rw [hk], ?_⟩
          walk_at "sts"
          refine ifF (decide_eq_false (by simp only [Itm.sz] at hz; omega)) ?_
          walk_at "sts"
          refine ⟨p, _, rfl, put_same, ?_⟩
          unfold dListZip
          walk_at "sts"
          rw [Tr.d_eq u]
          walk_at "sts"
          rw [cut1]
          have la := args_len u
          have lk := kids_len u
          refine ⟨u.args, _, rfl, by rw [List.length_map]; exact la.1, Nat.le_trans la.2 (by decide), fun z hz2 => ?_⟩
          have hzp : p ≠ z := fun e => by subst e; rw [put_same] at hz2; cases hz2
          refine ⟨z, _, _, rfl, (put_ne hzp).trans put_same, put_same, ?_, ?_⟩
          · have e : (List.zipWith (fun x y => D.tup [x, y]) u.args (u.flds.map D.str)).length ≤ 2 := by rw [List.length_zipWith]; omega
            rw [List.length_map]
            exact Nat.le_trans (by omega : _ ≤ 1000) (by decide)
          · rw [kids_d hu, ← List.map_append]
            have w1 := kids_wt u
            have w2 := kids_sz u
            refine ⟨((r ++ kids u).map Itm.wt).sum, ?_, r ++ kids u, met + 1, _, _, _, rfl, put_same, ?_, ?_, ?_, ?_, rfl⟩
            · rw [List.map_append, List.sum_append]
              show _ < _ + 3 * u.sz
              omega
            · exact lePut (Le.put (lePut hL hp) hz2) hp
            · intro j hj
              rcases List.mem_append.mp hj with h | h
              · exact hr j h
              · exact kids_ok hu j h
            · rw [List.map_append, List.sum_append]
              simp only [Itm.sz] at hz
              omega
            · rw [List.length_append]
              omega
end K08
end
section
namespace K08
open PySem L2 DL DLZ TR PyProof.Rows
local macro_rules | `(tactic| walk_at "st") => `(tactic| ((with_reducible refine ifT ?he ?_); (case he => rfl)))
local macro_rules | `(tactic| walk_at "st") => `(tactic| ((with_reducible refine ifF ?he ?_); (case he => rfl)))
local macro_rules | `(tactic| walk_at "st") => `(tactic| ((with_reducible refine ifT ?he ?_); (case he => decide +kernel)))
local macro_rules | `(tactic| walk_at "st") => `(tactic| ((with_reducible refine ifF ?he ?_); (case he => decide +kernel)))
local macro_rules | `(tactic| walk_at "st") => `(tactic| ((with_reducible refine i_isiT (T := ?tt) (b := false) ?he ?hf ?_); (case he => rfl); (case hf => decide +kernel)))
local macro_rules | `(tactic| walk_at "st") => `(tactic| ((with_reducible refine i_isi (T := ?tt) (b := false) ?he ?hf ?_); (case he => rfl); (case hf => decide +kernel)))
local macro_rules | `(tactic| walk_at "st") => `(tactic| ((with_reducible refine i_isiT (T := ?tt) (b := true) ?he ?hf ?_); (case he => rfl); (case hf => decide +kernel)))
local macro_rules | `(tactic| walk_at "st") => `(tactic| ((with_reducible refine i_isi (T := ?tt) (b := true) ?he ?hf ?_); (case he => rfl); (case hf => decide +kernel)))
local macro_rules | `(tactic| walk_at "st") => `(tactic| ((with_reducible refine i_len ?he ?_); (case he => rfl)))
local macro_rules | `(tactic| walk_at "st") => `(tactic| ((with_reducible refine i_niT (v := ?vv) (us := ?uu) ?he ?hf ?_); (case he => rfl); (case hf => rfl)))
local macro_rules | `(tactic| walk_at "st") => `(tactic| ((with_reducible refine i_inT (v := ?vv) (us := ?uu) ?he ?hf ?_); (case he => rfl); (case hf => rfl)))
local macro_rules | `(tactic| walk_at "st") => `(tactic| ((with_reducible refine i_ixC (d := ?dd) ?he ?_); (case he => rfl)))
local macro_rules | `(tactic| walk_at "st") => `(tactic| ((with_reducible refine i_ixT (d := ?dd) ?he ?_); (case he => rfl)))
local macro_rules | `(tactic| walk_at "st") => `(tactic| ((with_reducible refine i_aug (x := ?dd) ?he ?_); (case he => rfl)))
local macro_rules | `(tactic| walk_at "st") => `(tactic| ((with_reducible refine i_var (d := ?dd) ?he ?_); (case he => rfl)))
local macro_rules | `(tactic| walk_at "st") => `(tactic| with_reducible refine i_truN ?_)
local macro_rules | `(tactic| walk_at "st") => `(tactic| with_reducible refine i_truT ?_)
local macro_rules | `(tactic| walk_at "st") => `(tactic| with_reducible refine i_truI ?_)
local macro_rules | `(tactic| walk_at "st") => `(tactic| with_reducible refine i_truB ?_)
local macro_rules | `(tactic| walk_at "st") => `(tactic| with_reducible refine i_tupT ?_)
local macro_rules | `(tactic| walk_at "st") => `(tactic| with_reducible refine i_slT ?_)
local macro_rules | `(tactic| walk_at "st") => `(tactic| with_reducible refine i_lenC ?_)
local macro_rules | `(tactic| walk_at "st") => `(tactic| with_reducible refine i_lenT ?_)
local macro_rules | `(tactic| walk_at "st") => `(tactic| with_reducible refine i_int1 ?_)
local macro_rules | `(tactic| walk_at "st") => `(tactic| with_reducible refine i_int ?_)
local macro_rules | `(tactic| walk_at "st") => `(tactic| with_reducible refine i_addII ?_)
local macro_rules | `(tactic| walk_at "st") => `(tactic| with_reducible refine i_addI ?_)
local macro_rules | `(tactic| walk_at "st") => `(tactic| with_reducible refine i_noN ?_)
local macro_rules | `(tactic| walk_at "st") => `(tactic| with_reducible refine i_isN ?_)
local macro_rules | `(tactic| walk_at "st") => `(tactic| with_reducible refine i_neS ?_)
local macro_rules | `(tactic| walk_at "st") => `(tactic| with_reducible refine i_neI ?_)
local macro_rules | `(tactic| walk_at "st") => `(tactic| with_reducible refine i_eqB ?_)
local macro_rules | `(tactic| walk_at "st") => `(tactic| with_reducible refine i_eqS ?_)
local macro_rules | `(tactic| walk_at "st") => `(tactic| with_reducible refine i_eqI ?_)
local macro_rules | `(tactic| walk_at "st") => `(tactic| with_reducible refine i_yes ?_)
local macro_rules | `(tactic| walk_at "st") => `(tactic| with_reducible refine i_gNi ?_)
local macro_rules | `(tactic| walk_at "st") => `(tactic| with_reducible refine i_gCo ?_)
local macro_rules | `(tactic| walk_at "st") => `(tactic| with_reducible refine i_gTu ?_)
local macro_rules | `(tactic| walk_at "st") => `(tactic| with_reducible refine i_gN ?_)
local macro_rules | `(tactic| walk_at "st") => `(tactic| with_reducible refine i_iR1 ?_)
local macro_rules | `(tactic| walk_at "st") => `(tactic| with_reducible refine i_iD ?_)
local macro_rules | `(tactic| walk_at "st") => `(tactic| with_reducible refine i_cdG ?_)
local macro_rules | `(tactic| walk_at "st") => `(tactic| with_reducible refine i_reverse ?_)
local macro_rules | `(tactic| walk_at "st") => `(tactic| with_reducible refine i_pop ?_)
local macro_rules | `(tactic| walk_at "st") => `(tactic| with_reducible refine i_extend ?_)
local macro_rules | `(tactic| walk_at "st") => `(tactic| with_reducible refine i_append ?_)
local macro_rules | `(tactic| walk_at "st") => `(tactic| with_reducible refine i_someP ?_)
local macro_rules | `(tactic| walk_at "st") => `(tactic| with_reducible refine i_noP ?_)
local macro_rules | `(tactic| walk_at "st") => `(tactic| with_reducible refine i_sl ?_)
local macro_rules | `(tactic| walk_at "st") => `(tactic| with_reducible refine i_call ?_)
local macro_rules | `(tactic| walk_at "st") => `(tactic| with_reducible refine i_cb ?_)
local macro_rules | `(tactic| walk_at "st") => `(tactic| with_reducible refine i_neg1 ?_)
local macro_rules | `(tactic| walk_at "st") => `(tactic| with_reducible refine i_neg ?_)
local macro_rules | `(tactic| walk_at "st") => `(tactic| with_reducible refine i_ifE ?_)
local macro_rules | `(tactic| walk_at "st") => `(tactic| with_reducible refine i_notV ?_)
local macro_rules | `(tactic| walk_at "st") => `(tactic| with_reducible refine i_orV ?_)
local macro_rules | `(tactic| walk_at "st") => `(tactic| with_reducible refine i_andV ?_)
local macro_rules | `(tactic| walk_at "st") => `(tactic| with_reducible refine i_not ?_)
local macro_rules | `(tactic| walk_at "st") => `(tactic| with_reducible refine i_or ?_)
local macro_rules | `(tactic| walk_at "st") => `(tactic| with_reducible refine i_and ?_)
local macro_rules | `(tactic| walk_at "st") => `(tactic| with_reducible refine i_tru ?_)
local macro_rules | `(tactic| walk_at "st") => `(tactic| with_reducible refine i_bl ?_)
local macro_rules | `(tactic| walk_at "st") => `(tactic| with_reducible refine i_tb ?_)
local macro_rules | `(tactic| walk_at "st") => `(tactic| with_reducible refine i_cons ?_)
local macro_rules | `(tactic| walk_at "st") => `(tactic| with_reducible refine i_nil ?_)
local macro_rules | `(tactic| walk_at "st") => `(tactic| with_reducible refine i_lst ?_)
local macro_rules | `(tactic| walk_at "st") => `(tactic| with_reducible refine i_tup ?_)
local macro_rules | `(tactic| walk_at "st") => `(tactic| with_reducible refine i_op ?_)
local macro_rules | `(tactic| walk_at "st") => `(tactic| with_reducible refine i_c ?_)
local macro_rules | `(tactic| walk_at "st") => `(tactic| with_reducible refine i_par2 ?_)
local macro_rules | `(tactic| walk_at "st") => `(tactic| with_reducible refine i_par ?_)
local macro_rules | `(tactic| walk_at "st") => `(tactic| with_reducible refine i_setL ?_)
local macro_rules | `(tactic| walk_at "st") => `(tactic| with_reducible refine i_cnt ?_)
local macro_rules | `(tactic| walk_at "st") => `(tactic| with_reducible refine i_brk ?_)
local macro_rules | `(tactic| walk_at "st") => `(tactic| with_reducible refine i_skip ?_)
local macro_rules | `(tactic| walk_at "st") => `(tactic| with_reducible refine i_if ?_)
local macro_rules | `(tactic| walk_at "st") => `(tactic| with_reducible refine i_retN ?_)
local macro_rules | `(tactic| walk_at "st") => `(tactic| with_reducible refine i_ret ?_)
local macro_rules | `(tactic| walk_at "st") => `(tactic| with_reducible refine i_drop ?_)
local macro_rules | `(tactic| walk_at "st") => `(tactic| with_reducible refine i_asg ?_)
local macro_rules | `(tactic| walk_at "st") => `(tactic| with_reducible refine i_set2 ?_)
local macro_rules | `(tactic| walk_at "st") => `(tactic| with_reducible refine i_set ?_)
local macro_rules | `(tactic| walk_at "st") => `(tactic| with_reducible refine i_seq ?_)
local macro_rules | `(tactic| walk_at "sts") => `(tactic| repeat walk_at "st")
theorem rd_is_formula (ds : List D) (S : Sto) (Q : DK) (E : DX) (h : sp_is_formula ds S Q E) : t_is_formula { nx := fun _ S' => Dn Q .non S', rt := Dn Q } (startD 1 ds) S := by
  obtain ⟨t, g, rfl, q⟩ := h
  unfold t_is_formula
  walk_at "sts"
  exact ⟨t, g, rfl, i_dn q⟩
theorem rd_check_formula (ds : List D) (S : Sto) (Q : DK) (E : DX) (h : sp_check_formula ds S Q E) : t_check_formula { nx := fun _ S' => Dn Q .non S', rt := Dn Q } (startD 1 ds) S := by
  obtain ⟨t, g, rfl, q⟩ := h
  unfold t_check_formula
  walk_at "sts"
  refine ⟨t, g, rfl, ?_⟩
  walk_at "sts"
  exact i_dn q
theorem rd_names_of (ds : List D) (S : Sto) (Q : DK) (E : DX) (h : sp_names_of ds S Q E) : t_names_of { nx := fun _ S' => Dn Q .non S', rt := Dn Q } (startD 1 ds) S := by
  obtain ⟨t, g, rfl, q⟩ := h
  unfold t_names_of
  walk_at "sts"
  refine ⟨t, g, rfl, ?_⟩
  walk_at "sts"
  exact ⟨t, rfl, g.sz, fun ys h1 h2 => i_dn (q ys h1 h2)⟩
theorem rd_parts_of (ds : List D) (S : Sto) (Q : DK) (E : DX) (h : sp_parts_of ds S Q E) : t_parts_of { nx := fun _ S' => Dn Q .non S', rt := Dn Q } (startD 2 ds) S := by
  obtain ⟨t, rfl, q⟩ := h
  unfold t_parts_of
  rcases t with n | s | ⟨o, a, b⟩ | ⟨n, a⟩ | ⟨o, a, n⟩ | a | ⟨o, x, a⟩
  · simp only [Tr.d, Tr.parts, List.map] at q ⊢; walk_at "sts"; exact i_dn q
  · simp only [Tr.d, Tr.parts, List.map] at q ⊢; walk_at "sts"; exact i_dn q
  · cases o <;> (simp only [Tr.d, Tr.parts, List.map, Op2.w] at q ⊢; walk_at "sts"; exact i_dn q)
  · simp only [Tr.d, Tr.parts, List.map] at q ⊢; walk_at "sts"; exact i_dn q
  · cases o <;> (simp only [Tr.d, Tr.parts, List.map, Opd.w] at q ⊢; walk_at "sts"; exact i_dn q)
  · simp only [Tr.d, Tr.parts, List.map] at q ⊢; walk_at "sts"; exact i_dn q
  · cases o <;> (simp only [Tr.d, Tr.parts, List.map, Qn.w] at q ⊢; walk_at "sts"; exact i_dn q)
end K08
end
section
namespace K08
open PySem L2 DL DLZ TR PyProof.Rows
local macro_rules | `(tactic| walk_at "st") => `(tactic| ((with_reducible refine ifT ?he ?_); (case he => rfl)))
local macro_rules | `(tactic| walk_at "st") => `(tactic| ((with_reducible refine ifF ?he ?_); (case he => rfl)))
local macro_rules | `(tactic| walk_at "st") => `(tactic| ((with_reducible refine ifT ?he ?_); (case he => decide +kernel)))
local macro_rules | `(tactic| walk_at "st") => `(tactic| ((with_reducible refine ifF ?he ?_); (case he => decide +kernel)))
local macro_rules | `(tactic| walk_at "st") => `(tactic| ((with_reducible refine i_isiT (T := ?tt) (b := false) ?he ?hf ?_); (case he => rfl); (case hf => decide +kernel)))
local macro_rules | `(tactic| walk_at "st") => `(tactic| ((with_reducible refine i_isi (T := ?tt) (b := false) ?he ?hf ?_); (case he => rfl); (case hf => decide +kernel)))
local macro_rules | `(tactic| walk_at "st") => `(tactic| ((with_reducible refine i_isiT (T := ?tt) (b := true) ?he ?hf ?_); (case he => rfl); (case hf => decide +kernel)))
local macro_rules | `(tactic| walk_at "st") => `(tactic| ((with_reducible refine i_isi (T := ?tt) (b := true) ?he ?hf ?_); (case he => rfl); (case hf => decide +kernel)))
local macro_rules | `(tactic| walk_at "st") => `(tactic| ((with_reducible refine i_len ?he ?_); (case he => rfl)))
local macro_rules | `(tactic| walk_at "st") => `(tactic| ((with_reducible refine i_niT (v := ?vv) (us := ?uu) ?he ?hf ?_); (case he => rfl); (case hf => rfl)))
local macro_rules | `(tactic| walk_at "st") => `(tactic| ((with_reducible refine i_inT (v := ?vv) (us := ?uu) ?he ?hf ?_); (case he => rfl); (case hf => rfl)))
local macro_rules | `(tactic| walk_at "st") => `(tactic| ((with_reducible refine i_ixC (d := ?dd) ?he ?_); (case he => rfl)))
local macro_rules | `(tactic| walk_at "st") => `(tactic| ((with_reducible refine i_ixT (d := ?dd) ?he ?_); (case he => rfl)))
local macro_rules | `(tactic| walk_at "st") => `(tactic| ((with_reducible refine i_aug (x := ?dd) ?he ?_); (case he => rfl)))
local macro_rules | `(tactic| walk_at "st") => `(tactic| ((with_reducible refine i_var (d := ?dd) ?he ?_); (case he => rfl)))
local macro_rules | `(tactic| walk_at "st") => `(tactic| with_reducible refine i_truN ?_)
local macro_rules | `(tactic| walk_at "st") => `(tactic| with_reducible refine i_truT ?_)
local macro_rules | `(tactic| walk_at "st") => `(tactic| with_reducible refine i_truI ?_)
local macro_rules | `(tactic| walk_at "st") => `(tactic| with_reducible refine i_truB ?_)
local macro_rules | `(tactic| walk_at "st") => `(tactic| with_reducible refine i_tupT ?_)
local macro_rules | `(tactic| walk_at "st") => `(tactic| with_reducible refine i_slT ?_)
local macro_rules | `(tactic| walk_at "st") => `(tactic| with_reducible refine i_lenC ?_)
local macro_rules | `(tactic| walk_at "st") => `(tactic| with_reducible refine i_lenT ?_)
local macro_rules | `(tactic| walk_at "st") => `(tactic| with_reducible refine i_int1 ?_)
local macro_rules | `(tactic| walk_at "st") => `(tactic| with_reducible refine i_int ?_)
local macro_rules | `(tactic| walk_at "st") => `(tactic| with_reducible refine i_addII ?_)
local macro_rules | `(tactic| walk_at "st") => `(tactic| with_reducible refine i_addI ?_)
local macro_rules | `(tactic| walk_at "st") => `(tactic| with_reducible refine i_noN ?_)
local macro_rules | `(tactic| walk_at "st") => `(tactic| with_reducible refine i_isN ?_)
local macro_rules | `(tactic| walk_at "st") => `(tactic| with_reducible refine i_neS ?_)
local macro_rules | `(tactic| walk_at "st") => `(tactic| with_reducible refine i_neI ?_)
local macro_rules | `(tactic| walk_at "st") => `(tactic| with_reducible refine i_eqB ?_)
local macro_rules | `(tactic| walk_at "st") => `(tactic| with_reducible refine i_eqS ?_)
local macro_rules | `(tactic| walk_at "st") => `(tactic| with_reducible refine i_eqI ?_)
local macro_rules | `(tactic| walk_at "st") => `(tactic| with_reducible refine i_yes ?_)
local macro_rules | `(tactic| walk_at "st") => `(tactic| with_reducible refine i_gNi ?_)
local macro_rules | `(tactic| walk_at "st") => `(tactic| with_reducible refine i_gCo ?_)
local macro_rules | `(tactic| walk_at "st") => `(tactic| with_reducible refine i_gTu ?_)
local macro_rules | `(tactic| walk_at "st") => `(tactic| with_reducible refine i_gN ?_)
local macro_rules | `(tactic| walk_at "st") => `(tactic| with_reducible refine i_iR1 ?_)
local macro_rules | `(tactic| walk_at "st") => `(tactic| with_reducible refine i_iD ?_)
local macro_rules | `(tactic| walk_at "st") => `(tactic| with_reducible refine i_cdG ?_)
local macro_rules | `(tactic| walk_at "st") => `(tactic| with_reducible refine i_reverse ?_)
local macro_rules | `(tactic| walk_at "st") => `(tactic| with_reducible refine i_pop ?_)
local macro_rules | `(tactic| walk_at "st") => `(tactic| with_reducible refine i_extend ?_)
local macro_rules | `(tactic| walk_at "st") => `(tactic| with_reducible refine i_append ?_)
local macro_rules | `(tactic| walk_at "st") => `(tactic| with_reducible refine i_someP ?_)
local macro_rules | `(tactic| walk_at "st") => `(tactic| with_reducible refine i_noP ?_)
local macro_rules | `(tactic| walk_at "st") => `(tactic| with_reducible refine i_sl ?_)
local macro_rules | `(tactic| walk_at "st") => `(tactic| with_reducible refine i_call ?_)
local macro_rules | `(tactic| walk_at "st") => `(tactic| with_reducible refine i_cb ?_)
local macro_rules | `(tactic| walk_at "st") => `(tactic| with_reducible refine i_neg1 ?_)
local macro_rules | `(tactic| walk_at "st") => `(tactic| with_reducible refine i_neg ?_)
local macro_rules | `(tactic| walk_at "st") => `(tactic| with_reducible refine i_ifE ?_)
local macro_rules | `(tactic| walk_at "st") => `(tactic| with_reducible refine i_notV ?_)
local macro_rules | `(tactic| walk_at "st") => `(tactic| with_reducible refine i_orV ?_)
local macro_rules | `(tactic| walk_at "st") => `(tactic| with_reducible refine i_andV ?_)
local macro_rules | `(tactic| walk_at "st") => `(tactic| with_reducible refine i_not ?_)
local macro_rules | `(tactic| walk_at "st") => `(tactic| with_reducible refine i_or ?_)
local macro_rules | `(tactic| walk_at "st") => `(tactic| with_reducible refine i_and ?_)
local macro_rules | `(tactic| walk_at "st") => `(tactic| with_reducible refine i_tru ?_)
local macro_rules | `(tactic| walk_at "st") => `(tactic| with_reducible refine i_bl ?_)
local macro_rules | `(tactic| walk_at "st") => `(tactic| with_reducible refine i_tb ?_)
local macro_rules | `(tactic| walk_at "st") => `(tactic| with_reducible refine i_cons ?_)
local macro_rules | `(tactic| walk_at "st") => `(tactic| with_reducible refine i_nil ?_)
local macro_rules | `(tactic| walk_at "st") => `(tactic| with_reducible refine i_lst ?_)
local macro_rules | `(tactic| walk_at "st") => `(tactic| with_reducible refine i_tup ?_)
local macro_rules | `(tactic| walk_at "st") => `(tactic| with_reducible refine i_op ?_)
local macro_rules | `(tactic| walk_at "st") => `(tactic| with_reducible refine i_c ?_)
local macro_rules | `(tactic| walk_at "st") => `(tactic| with_reducible refine i_par2 ?_)
local macro_rules | `(tactic| walk_at "st") => `(tactic| with_reducible refine i_par ?_)
local macro_rules | `(tactic| walk_at "st") => `(tactic| with_reducible refine i_setL ?_)
local macro_rules | `(tactic| walk_at "st") => `(tactic| with_reducible refine i_cnt ?_)
local macro_rules | `(tactic| walk_at "st") => `(tactic| with_reducible refine i_brk ?_)
local macro_rules | `(tactic| walk_at "st") => `(tactic| with_reducible refine i_skip ?_)
local macro_rules | `(tactic| walk_at "st") => `(tactic| with_reducible refine i_if ?_)
local macro_rules | `(tactic| walk_at "st") => `(tactic| with_reducible refine i_retN ?_)
local macro_rules | `(tactic| walk_at "st") => `(tactic| with_reducible refine i_ret ?_)
local macro_rules | `(tactic| walk_at "st") => `(tactic| with_reducible refine i_drop ?_)
local macro_rules | `(tactic| walk_at "st") => `(tactic| with_reducible refine i_asg ?_)
local macro_rules | `(tactic| walk_at "st") => `(tactic| with_reducible refine i_set2 ?_)
local macro_rules | `(tactic| walk_at "st") => `(tactic| with_reducible refine i_set ?_)
local macro_rules | `(tactic| walk_at "st") => `(tactic| with_reducible refine i_seq ?_)
local macro_rules | `(tactic| walk_at "sts") => `(tactic| repeat walk_at "st")
theorem scTail_ok {u : Tr} {inner : List Str} {r : List (Tr × List Str)} {e0 e1 e4 e6 : Option D} {q : Addr} {S1 : Sto} {F : DEnds} (hq : S1 q = some (.lst (r.map vis))) (hr : r.length ≤ 1000)
    (k : ∀ S2, (∀ a c, a ≠ q → S1 a = some c → S2 a = some c) → S2 q = some (.lst ((r ++ u.parts.map fun v => (v, inner)).map vis)) → F.nx [e0, e1, some (.ref q), some u.d, e4, some (.tup (inner.map .str)), e6] S2) :
    dDrop (dExtend (dVar 2) (dLc (iD (dCall sp_parts_of (dCons (dVar 3) dNil))) (gN 6) dYes (dTup (dCons (dVar 6) (dCons (dVar 5) dNil))) [6])) F [e0, e1, some (.ref q), some u.d, e4, some (.tup (inner.map .str)), e6] S1 := by
  walk_at "sts"
  refine ⟨q, _, rfl, hq, ?_⟩
  unfold dLc
  walk_at "sts"
  refine ⟨u, rfl, _, rfl, fun p hp => ?_⟩
  have hqp : q ≠ p := fun e => by subst e; rw [hq] at hp; cases hp
  refine ⟨fun i acc S => acc = (u.parts.take i).map (fun v => vis (v, inner)) ∧ S p = some (.lst acc) ∧ Le S1 S, ⟨by simp, put_same, lePut (Le.refl S1) hp⟩, fun _ _ _ _ _ => trivial, fun i x acc S hx w => ?_, fun acc S w => ?_⟩
  · obtain ⟨ha, hs, hL⟩ := w
    have hlen := parts_len u
    rw [List.getElem?_map] at hx
    obtain ⟨v, hv, rfl⟩ := Option.map_eq_some_iff.mp hx
    have hi : i < u.parts.length := (List.getElem?_eq_some_iff.mp hv).1
    walk_at "sts"
    refine ⟨hs, ?_, ?_, put_same, lePut hL hp⟩
    · rw [ha, List.length_map, List.length_take]
      exact Nat.lt_of_le_of_lt (by omega : _ ≤ 2) (by decide)
    · rw [ha, List.take_add_one, hv, List.map_append]
      rfl
  · obtain ⟨ha, hs, hL⟩ := w
    rw [List.length_map, List.take_length] at ha
    have hlen := parts_len u
    refine ⟨p, _, _, rfl, hL _ _ hq, hs, ?_, ?_⟩
    · rw [ha, List.length_map, List.length_map]
      exact Nat.le_trans (by omega : _ ≤ 1002) (by decide)
    · refine k _ (fun a c h1 h2 => ?_) ?_
      · rw [put_ne h1]; exact hL _ _ h2
      · rw [put_same, ha, List.map_append, List.map_map]
        rfl
theorem unD {te : DTE} {F : DEnds} {e0 e1 e3 e4 e5 e6 : Option D} {q : D} {S : Sto} (h : dDrop (dExtend (dVar 2) te) F [e0, e1, some q, e3, e4, e5, e6] S) :
    ∃ a xs, q = .ref a ∧ S a = some (.lst xs) ∧ te [e0, e1, some q, e3, e4, e5, e6] S fun y S2 => ∃ b ys zs, y = .ref b ∧ S2 a = some (.lst ys) ∧ S2 b = some (.lst zs) ∧ ys.length + zs.length ≤ sizeLine ∧ F.nx [e0, e1, some q, e3, e4, e5, e6] (put S2 a (.lst (ys ++ zs))) := by
  obtain ⟨d, e, h⟩ := h
  cases e
  exact h
structure ScW (t : Tr) (p q : Addr) (S : Sto) (m : Nat) (ε : DL.Env) (S1 : Sto) (fs ws : List (Tr × List Str)) (e3 e4 e5 : Option D) : Prop where
  e : ε = [some t.d, some (.ref p), some (.ref q), e3, e4, e5, none]
  sp : S1 p = some (.lst (fs.map vis))
  sq : S1 q = some (.lst (ws.map vis))
  l : Le S S1
  i : ∀ x, (hit fs x ∨ ∃ w ∈ ws, w.1.free w.2 x) ↔ t.free [] x
  z : fs.length + (ws.map fun w => w.1.sz).sum ≤ 400
  b : ∀ w ∈ ws, w.2.length + w.1.sz ≤ 400
  n : ws.length ≤ fs.length + 1
  m : m = (ws.map fun w => w.1.sz).sum
def ScWe (t : Tr) (p q : Addr) (S : Sto) (m : Nat) (ε : DL.Env) (S1 : Sto) : Prop := ∃ fs ws e3 e4 e5, ScW t p q S m ε S1 fs ws e3 e4 e5
theorem rd_scoped (ds : List D) (S : Sto) (Q : DK) (E : DX) (h : sp_scoped ds S Q E) : t_scoped { nx := fun _ S' => Dn Q .non S', rt := Dn Q } (startD 7 ds) S := by
  obtain ⟨t, rfl, hz, k⟩ := h
  unfold t_scoped
  walk_at "sts"
  intro p hp
  walk_at "sts"
  intro q hq
  have hpq : p ≠ q := fun e => by subst e; rw [put_same] at hq; cases hq
  have hq0 : S q = none := by rw [put_ne (Ne.symm hpq)] at hq; exact hq
  walk_at "sts"
  refine ⟨ScWe t p q S, ⟨_, [], [(t, [])], none, none, none, rfl, (put_ne hpq).trans put_same, put_same, lePut (lePut (Le.refl S) hp) hq0, ?_, ?_, ?_, ?_, rfl⟩, fun m ε S1 w => ?_⟩
  · intro x
    simp [hit]
  · simpa using hz
  · simpa using hz
  · simp
  · obtain ⟨fs, ws, e3, e4, e5, rfl, h1, h2, hL, hi, hz, hb, hn, rfl⟩ := w
    walk_at "sts"
    refine i_truR h2 ?_
    rcases nilOrApp ws with rfl | ⟨r, ⟨u, l⟩, rfl⟩
    · walk_at "sts"
      refine ⟨p, _, rfl, h1, ?_⟩
      walk_at "sts"
      rw [← List.map_reverse]
      refine i_dnL (lePut2 hL) (k p fs.reverse (fun x => ?_) (by rw [List.length_reverse]; omega) hp)
      rw [← hi x]
      simp [hit]
    · refine ifT (by simp) ?_
      walk_at "sts"
      have hd : ((r ++ [(u, l)]).map vis).dropLast = r.map vis := by rw [List.map_append, List.map_singleton, List.dropLast_concat]
      refine ⟨q, _, vis (u, l), rfl, h2, by simp, ?_⟩
      rw [hd]
      rw [List.map_append, List.sum_append, List.map_singleton, List.sum_singleton] at hz ⊢
      rw [List.length_append, List.length_singleton] at hn
      have hu := hb (u, l) (by simp)
      have hus := TR.Tr.sz_pos u
      show gTu _ (.tup [u.d, .tup (l.map .str)]) _ _ _
      simp only at hu hz ⊢
      walk_at "sts"
      refine ⟨p, _, rfl, (put_ne hpq).trans h1, ?_⟩
      walk_at "sts"
      refine ⟨_, (put_ne hpq).trans h1, ?_, ?_⟩
      · rw [List.length_map]
        exact Nat.lt_of_lt_of_le (by omega : fs.length < 1000) (by decide)
      have fin : ∀ inner, inner = u.bind l → dDrop (dExtend (dVar 2) (dLc (iD (dCall sp_parts_of (dCons (dVar 3) dNil))) (gN 6) dYes (dTup (dCons (dVar 6) (dCons (dVar 5) dNil))) [6]))
          { nx := fun ε' S' => ∃ m', m' < (List.map (fun w => w.fst.sz) r).sum + u.sz ∧ ScWe t p q S m' ε' S', rt := Dn Q,
            bk := dSeq (dDrop (dReverse (dVar 1))) (dRet (dVar 1)) { nx := fun x S' => Dn Q D.non S', rt := Dn Q },
            ct := fun ε' S' => ∃ m', m' < (List.map (fun w => w.fst.sz) r).sum + u.sz ∧ ScWe t p q S m' ε' S' }
          [some t.d, some (.ref p), some (.ref q), some u.d, some (.tup (l.map .str)), some (.tup (inner.map .str)), none]
          (put (put S1 q (Cell.lst (List.map vis r))) p (Cell.lst (List.map vis fs ++ [D.tup [u.d, D.tup (List.map D.str l)]]))) := by
        intro inner hin
        refine scTail_ok (r := r) ((put_ne (Ne.symm hpq)).trans put_same) (by omega) fun S2 o2 hq2 => ?_
        have e := TR.Tr.sz_parts u
        have hsum : ((r ++ u.parts.map fun v => (v, inner)).map fun w => w.1.sz).sum = (r.map fun w => w.1.sz).sum + (u.parts.map TR.Tr.sz).sum := by
          rw [List.map_append, List.sum_append, List.map_map]
          rfl
        refine ⟨_, ?_, fs ++ [(u, l)], r ++ u.parts.map (fun v => (v, inner)), _, _, _, rfl, ?_, hq2, ?_, ?_, ?_, ?_, ?_, rfl⟩
        · rw [hsum]; omega
        · refine o2 _ _ hpq ?_
          rw [put_same, List.map_append]
          rfl
        · intro a c ha
          by_cases e1 : a = q
          · subst e1; rw [hq0] at ha; cases ha
          · refine o2 _ _ e1 ?_
            by_cases e2 : a = p
            · subst e2; rw [hp] at ha; cases ha
            · rw [put_ne e2, put_ne e1]; exact hL _ _ ha
        · intro x
          rw [← hi x, hin]
          have fp := free_parts u l x
          constructor
          · rintro (h | ⟨w, hw, h⟩)
            · obtain ⟨l', hl', hx⟩ := h
              rcases List.mem_append.mp hl' with h | h
              · exact .inl ⟨l', h, hx⟩
              · have h := List.mem_singleton.mp h
                cases h
                exact .inr ⟨(.nam x, l), by simp, fp.mpr (.inl ⟨rfl, hx⟩)⟩
            · rcases List.mem_append.mp hw with h' | h'
              · exact .inr ⟨w, by simp [h'], h⟩
              · obtain ⟨v, hv, rfl⟩ := List.mem_map.mp h'
                exact .inr ⟨(u, l), by simp, fp.mpr (.inr ⟨v, hv, h⟩)⟩
          · rintro (⟨l', hl', hx⟩ | ⟨w, hw, h⟩)
            · exact .inl ⟨l', by simp [hl'], hx⟩
            · rcases List.mem_append.mp hw with h' | h'
              · exact .inr ⟨w, by simp [h'], h⟩
              · have h' := List.mem_singleton.mp h'
                subst h'
                rcases fp.mp h with ⟨e, hx⟩ | ⟨v, hv, h⟩
                · subst e
                  exact .inl ⟨l, by simp, hx⟩
                · exact .inr ⟨(v, u.bind l), by simp [hv], h⟩
        · rw [hsum, List.length_append, List.length_singleton]
          omega
        · intro w hw
          rcases List.mem_append.mp hw with h' | h'
          · exact hb w (by simp [h'])
          · obtain ⟨v, hv, rfl⟩ := List.mem_map.mp h'
            have := parts_sz hv
            have := bind_len u l
            rw [hin]
            show (u.bind l).length + v.sz ≤ 400
            omega
        · have := parts_len u
          rw [List.length_append, List.length_append, List.length_map, List.length_singleton]
          omega
      rcases word_q u with ⟨qq, x, a, rfl⟩ | hw
      · cases qq with
        | some =>
          walk_at "sts"
          rw [Tr.d_eq]
          walk_at "sts"
          refine i_niTs ?_
          walk_at "sts"
          refine ifN (fun h => ?_) fun h => ?_
          · walk_at "sts"
            refine i_addT ?_ ?_
            · rw [List.length_map]
              exact Nat.le_trans (by simp only [List.length_singleton]; omega : _ ≤ 1000) (by decide)
            · walk_at "sts"
              rw [← Tr.d_eq, ← List.map_singleton (f := D.str), ← List.map_append]
              exact unD (fin (l ++ [x]) (by show _ = if x ∈ l then l else l ++ [x]; rw [if_neg h]))
          · walk_at "sts"
            rw [← Tr.d_eq]
            exact unD (fin l (by show _ = if x ∈ l then l else l ++ [x]; rw [if_pos h]))
        | all =>
          walk_at "sts"
          rw [Tr.d_eq]
          walk_at "sts"
          refine i_niTs ?_
          walk_at "sts"
          refine ifN (fun h => ?_) fun h => ?_
          · walk_at "sts"
            refine i_addT ?_ ?_
            · rw [List.length_map]
              exact Nat.le_trans (by simp only [List.length_singleton]; omega : _ ≤ 1000) (by decide)
            · walk_at "sts"
              rw [← Tr.d_eq, ← List.map_singleton (f := D.str), ← List.map_append]
              exact unD (fin (l ++ [x]) (by show _ = if x ∈ l then l else l ++ [x]; rw [if_neg h]))
          · walk_at "sts"
            rw [← Tr.d_eq]
            exact unD (fin l (by show _ = if x ∈ l then l else l ++ [x]; rw [if_pos h]))
      · walk_at "sts"
        rw [Tr.d_eq u]
        refine i_ix0 ?_
        walk_at "sts"
        refine ifF hw ?_
        walk_at "sts"
        rw [← Tr.d_eq]
        refine unD (fin l ?_)
        cases u with
        | qn qq x a => cases qq <;> exact (nomatch (show true = false from hw))
        | _ => rfl
end K08
end
section
namespace K08
open PySem L2 DL DLZ TR PyProof.Rows
local macro_rules | `(tactic| walk_at "st") => `(tactic| ((with_reducible refine ifT ?he ?_); (case he => rfl)))
local macro_rules | `(tactic| walk_at "st") => `(tactic| ((with_reducible refine ifF ?he ?_); (case he => rfl)))
local macro_rules | `(tactic| walk_at "st") => `(tactic| ((with_reducible refine ifT ?he ?_); (case he => decide +kernel)))
local macro_rules | `(tactic| walk_at "st") => `(tactic| ((with_reducible refine ifF ?he ?_); (case he => decide +kernel)))
local macro_rules | `(tactic| walk_at "st") => `(tactic| ((with_reducible refine i_isiT (T := ?tt) (b := false) ?he ?hf ?_); (case he => rfl); (case hf => decide +kernel)))
local macro_rules | `(tactic| walk_at "st") => `(tactic| ((with_reducible refine i_isi (T := ?tt) (b := false) ?he ?hf ?_); (case he => rfl); (case hf => decide +kernel)))
local macro_rules | `(tactic| walk_at "st") => `(tactic| ((with_reducible refine i_isiT (T := ?tt) (b := true) ?he ?hf ?_); (case he => rfl); (case hf => decide +kernel)))
local macro_rules | `(tactic| walk_at "st") => `(tactic| ((with_reducible refine i_isi (T := ?tt) (b := true) ?he ?hf ?_); (case he => rfl); (case hf => decide +kernel)))
local macro_rules | `(tactic| walk_at "st") => `(tactic| ((with_reducible refine i_len ?he ?_); (case he => rfl)))
local macro_rules | `(tactic| walk_at "st") => `(tactic| ((with_reducible refine i_niT (v := ?vv) (us := ?uu) ?he ?hf ?_); (case he => rfl); (case hf => rfl)))
local macro_rules | `(tactic| walk_at "st") => `(tactic| ((with_reducible refine i_inT (v := ?vv) (us := ?uu) ?he ?hf ?_); (case he => rfl); (case hf => rfl)))
local macro_rules | `(tactic| walk_at "st") => `(tactic| ((with_reducible refine i_ixC (d := ?dd) ?he ?_); (case he => rfl)))
local macro_rules | `(tactic| walk_at "st") => `(tactic| ((with_reducible refine i_ixT (d := ?dd) ?he ?_); (case he => rfl)))
local macro_rules | `(tactic| walk_at "st") => `(tactic| ((with_reducible refine i_aug (x := ?dd) ?he ?_); (case he => rfl)))
local macro_rules | `(tactic| walk_at "st") => `(tactic| ((with_reducible refine i_var (d := ?dd) ?he ?_); (case he => rfl)))
local macro_rules | `(tactic| walk_at "st") => `(tactic| with_reducible refine i_truN ?_)
local macro_rules | `(tactic| walk_at "st") => `(tactic| with_reducible refine i_truT ?_)
local macro_rules | `(tactic| walk_at "st") => `(tactic| with_reducible refine i_truI ?_)
local macro_rules | `(tactic| walk_at "st") => `(tactic| with_reducible refine i_truB ?_)
local macro_rules | `(tactic| walk_at "st") => `(tactic| with_reducible refine i_tupT ?_)
local macro_rules | `(tactic| walk_at "st") => `(tactic| with_reducible refine i_slT ?_)
local macro_rules | `(tactic| walk_at "st") => `(tactic| with_reducible refine i_lenC ?_)
local macro_rules | `(tactic| walk_at "st") => `(tactic| with_reducible refine i_lenT ?_)
local macro_rules | `(tactic| walk_at "st") => `(tactic| with_reducible refine i_int1 ?_)
local macro_rules | `(tactic| walk_at "st") => `(tactic| with_reducible refine i_int ?_)
local macro_rules | `(tactic| walk_at "st") => `(tactic| with_reducible refine i_addII ?_)
local macro_rules | `(tactic| walk_at "st") => `(tactic| with_reducible refine i_addI ?_)
local macro_rules | `(tactic| walk_at "st") => `(tactic| with_reducible refine i_noN ?_)
local macro_rules | `(tactic| walk_at "st") => `(tactic| with_reducible refine i_isN ?_)
local macro_rules | `(tactic| walk_at "st") => `(tactic| with_reducible refine i_neS ?_)
local macro_rules | `(tactic| walk_at "st") => `(tactic| with_reducible refine i_neI ?_)
local macro_rules | `(tactic| walk_at "st") => `(tactic| with_reducible refine i_eqB ?_)
local macro_rules | `(tactic| walk_at "st") => `(tactic| with_reducible refine i_eqS ?_)
local macro_rules | `(tactic| walk_at "st") => `(tactic| with_reducible refine i_eqI ?_)
local macro_rules | `(tactic| walk_at "st") => `(tactic| with_reducible refine i_yes ?_)
local macro_rules | `(tactic| walk_at "st") => `(tactic| with_reducible refine i_gNi ?_)
local macro_rules | `(tactic| walk_at "st") => `(tactic| with_reducible refine i_gCo ?_)
local macro_rules | `(tactic| walk_at "st") => `(tactic| with_reducible refine i_gTu ?_)
local macro_rules | `(tactic| walk_at "st") => `(tactic| with_reducible refine i_gN ?_)
local macro_rules | `(tactic| walk_at "st") => `(tactic| with_reducible refine i_iR1 ?_)
local macro_rules | `(tactic| walk_at "st") => `(tactic| with_reducible refine i_iD ?_)
local macro_rules | `(tactic| walk_at "st") => `(tactic| with_reducible refine i_cdG ?_)
local macro_rules | `(tactic| walk_at "st") => `(tactic| with_reducible refine i_reverse ?_)
local macro_rules | `(tactic| walk_at "st") => `(tactic| with_reducible refine i_pop ?_)
local macro_rules | `(tactic| walk_at "st") => `(tactic| with_reducible refine i_extend ?_)
local macro_rules | `(tactic| walk_at "st") => `(tactic| with_reducible refine i_append ?_)
local macro_rules | `(tactic| walk_at "st") => `(tactic| with_reducible refine i_someP ?_)
local macro_rules | `(tactic| walk_at "st") => `(tactic| with_reducible refine i_noP ?_)
local macro_rules | `(tactic| walk_at "st") => `(tactic| with_reducible refine i_sl ?_)
local macro_rules | `(tactic| walk_at "st") => `(tactic| with_reducible refine i_call ?_)
local macro_rules | `(tactic| walk_at "st") => `(tactic| with_reducible refine i_cb ?_)
local macro_rules | `(tactic| walk_at "st") => `(tactic| with_reducible refine i_neg1 ?_)
local macro_rules | `(tactic| walk_at "st") => `(tactic| with_reducible refine i_neg ?_)
local macro_rules | `(tactic| walk_at "st") => `(tactic| with_reducible refine i_ifE ?_)
local macro_rules | `(tactic| walk_at "st") => `(tactic| with_reducible refine i_notV ?_)
local macro_rules | `(tactic| walk_at "st") => `(tactic| with_reducible refine i_orV ?_)
local macro_rules | `(tactic| walk_at "st") => `(tactic| with_reducible refine i_andV ?_)
local macro_rules | `(tactic| walk_at "st") => `(tactic| with_reducible refine i_not ?_)
local macro_rules | `(tactic| walk_at "st") => `(tactic| with_reducible refine i_or ?_)
local macro_rules | `(tactic| walk_at "st") => `(tactic| with_reducible refine i_and ?_)
local macro_rules | `(tactic| walk_at "st") => `(tactic| with_reducible refine i_tru ?_)
local macro_rules | `(tactic| walk_at "st") => `(tactic| with_reducible refine i_bl ?_)
local macro_rules | `(tactic| walk_at "st") => `(tactic| with_reducible refine i_tb ?_)
local macro_rules | `(tactic| walk_at "st") => `(tactic| with_reducible refine i_cons ?_)
local macro_rules | `(tactic| walk_at "st") => `(tactic| with_reducible refine i_nil ?_)
local macro_rules | `(tactic| walk_at "st") => `(tactic| with_reducible refine i_lst ?_)
local macro_rules | `(tactic| walk_at "st") => `(tactic| with_reducible refine i_tup ?_)
local macro_rules | `(tactic| walk_at "st") => `(tactic| with_reducible refine i_op ?_)
local macro_rules | `(tactic| walk_at "st") => `(tactic| with_reducible refine i_c ?_)
local macro_rules | `(tactic| walk_at "st") => `(tactic| with_reducible refine i_par2 ?_)
local macro_rules | `(tactic| walk_at "st") => `(tactic| with_reducible refine i_par ?_)
local macro_rules | `(tactic| walk_at "st") => `(tactic| with_reducible refine i_setL ?_)
local macro_rules | `(tactic| walk_at "st") => `(tactic| with_reducible refine i_cnt ?_)
local macro_rules | `(tactic| walk_at "st") => `(tactic| with_reducible refine i_brk ?_)
local macro_rules | `(tactic| walk_at "st") => `(tactic| with_reducible refine i_skip ?_)
local macro_rules | `(tactic| walk_at "st") => `(tactic| with_reducible refine i_if ?_)
local macro_rules | `(tactic| walk_at "st") => `(tactic| with_reducible refine i_retN ?_)
local macro_rules | `(tactic| walk_at "st") => `(tactic| with_reducible refine i_ret ?_)
local macro_rules | `(tactic| walk_at "st") => `(tactic| with_reducible refine i_drop ?_)
local macro_rules | `(tactic| walk_at "st") => `(tactic| with_reducible refine i_asg ?_)
local macro_rules | `(tactic| walk_at "st") => `(tactic| with_reducible refine i_set2 ?_)
local macro_rules | `(tactic| walk_at "st") => `(tactic| with_reducible refine i_set ?_)
local macro_rules | `(tactic| walk_at "st") => `(tactic| with_reducible refine i_seq ?_)
local macro_rules | `(tactic| walk_at "sts") => `(tactic| repeat walk_at "st")
theorem word_name {u : Tr} (h : u.word = "name") : ∃ s, u = .nam s := by
  rcases u with n | s | ⟨o, a, b⟩ | ⟨n, a⟩ | ⟨o, a, n⟩ | a | ⟨o, x, a⟩
  · exact absurd h (by decide +kernel : ¬ ("number" : Str) = "name")
  · exact ⟨s, rfl⟩
  · cases o <;> exact absurd h (by show ¬ ((_ : Str) = "name"); simp only [Tr.word, Op2.w]; decide +kernel)
  · exact absurd h (by decide +kernel : ¬ ("times" : Str) = "name")
  · cases o <;> exact absurd h (by show ¬ ((_ : Str) = "name"); simp only [Tr.word, Opd.w]; decide +kernel)
  · exact absurd h (by decide +kernel : ¬ ("not" : Str) = "name")
  · cases o <;> exact absurd h (by show ¬ ((_ : Str) = "name"); simp only [Tr.word, Qn.w]; decide +kernel)
theorem rd_free_names (ds : List D) (S : Sto) (Q : DK) (E : DX) (h : sp_free_names ds S Q E) : t_free_names { nx := fun _ S' => Dn Q .non S', rt := Dn Q } (startD 3 ds) S := by
  obtain ⟨t, rfl, hz, k⟩ := h
  unfold t_free_names
  walk_at "sts"
  unfold dSc
  walk_at "sts"
  refine ⟨t, rfl, hz, fun a ls hl hn ha => ⟨ls.map vis, ?_, fun p hp => ?_⟩⟩
  · show (match put S a _ a with | some (.lst xs) => some xs | _ => none) = _
    rw [put_same]
  have hap : a ≠ p := fun e => by subst e; rw [put_same] at hp; cases hp
  have hp0 : S p = none := by rw [put_ne (Ne.symm hap)] at hp; exact hp
  refine ⟨fun i acc S1 => ∃ ns : List Str, acc = ns.map .str ∧ ns.Nodup ∧ (∀ x, x ∈ ns ↔ hit (ls.take i) x) ∧ ns.length ≤ i ∧ S1 p = some (.set acc) ∧ S1 a = some (.lst (ls.map vis)) ∧ Le S S1,
    ⟨[], rfl, .nil, by simp [hit], by simp, put_same, (put_ne hap).trans put_same, lePut (lePut (Le.refl S) ha) hp0⟩, fun i acc S1 _ w => ?_, fun i x acc S1 hx w => ?_, fun acc S1 w => ?_⟩
  · obtain ⟨ns, _, _, _, _, _, h, _⟩ := w
    exact h
  · obtain ⟨ns, rfl, h1, h2, h3, h4, h5, h6⟩ := w
    rw [List.getElem?_map] at hx
    obtain ⟨⟨u, l⟩, hv, rfl⟩ := Option.map_eq_some_iff.mp hx
    have hi : i < ls.length := (List.getElem?_eq_some_iff.mp hv).1
    have ht : ls.take (i + 1) = ls.take i ++ [(u, l)] := by rw [List.take_add_one, hv]; rfl
    show gTu _ (.tup [u.d, .tup (l.map .str)]) _ _ _
    walk_at "sts"
    rw [Tr.d_eq u]
    refine i_ix0 ?_
    walk_at "sts"
    refine ifD (fun hw => ?_) fun hw => ?_
    · obtain ⟨s, rfl⟩ := word_name hw
      walk_at "sts"
      refine i_niTs ?_
      walk_at "sts"
      refine ifN (fun hs => ?_) fun hs => ?_
      · walk_at "sts"
        refine ⟨h4, rfl, ?_, putS ns s, ?_, putS_nodup h1 s, fun x => ?_, Nat.le_trans putS_len (by omega), put_same, (put_ne hap).trans h5, lePut h6 hp0⟩
        · rw [List.length_map]; exact Nat.lt_of_le_of_lt (by omega : _ ≤ 401) (by decide)
        · rw [putD_str]
        · rw [putS_mem, h2, ht]
          constructor
          · rintro (⟨l', h, hx⟩ | rfl)
            · exact ⟨l', by simp [h], hx⟩
            · exact ⟨l, by simp, hs⟩
          · rintro ⟨l', h, hx⟩
            rcases List.mem_append.mp h with h | h
            · exact .inl ⟨l', h, hx⟩
            · have h := List.mem_singleton.mp h
              cases h
              exact .inr rfl
      · refine ⟨ns, rfl, h1, fun x => ?_, by omega, h4, h5, h6⟩
        rw [h2, ht]
        constructor
        · rintro ⟨l', h, hx⟩
          exact ⟨l', by simp [h], hx⟩
        · rintro ⟨l', h, hx⟩
          rcases List.mem_append.mp h with h | h
          · exact ⟨l', h, hx⟩
          · have h := List.mem_singleton.mp h
            cases h
            exact absurd hs hx
    · refine ⟨ns, rfl, h1, fun x => ?_, by omega, h4, h5, h6⟩
      rw [h2, ht]
      constructor
      · rintro ⟨l', h, hx⟩
        exact ⟨l', by simp [h], hx⟩
      · rintro ⟨l', h, hx⟩
        rcases List.mem_append.mp h with h | h
        · exact ⟨l', h, hx⟩
        · have h := List.mem_singleton.mp h
          cases h
          exact absurd rfl hw
  · obtain ⟨ns, rfl, h1, h2, h3, h4, h5, h6⟩ := w
    rw [List.length_map] at h3
    rw [List.length_map, List.take_length] at h2
    walk_at "sts"
    refine ⟨p, ns, rfl, .inl h4, fun ys q hy hs hq => ?_⟩
    refine ⟨_, ys.map .str, rfl, ?_, ?_⟩
    · show (match put S1 q _ q with | some (.lst xs) => some xs | _ => none) = _
      rw [put_same]
    · refine i_dnL ?_ (k ys ⟨hs, hy.nodup_iff.mpr h1, fun x => ?_⟩ ?_)
      · exact Le.put h6 hq
      · rw [hy.mem_iff, h2, hl]
      · rw [hy.length_eq]; omega
end K08
end
section
namespace K08
open PySem L2 DL DLZ TR PyProof.Rows
local macro_rules | `(tactic| walk_at "st") => `(tactic| ((with_reducible refine ifT ?he ?_); (case he => rfl)))
local macro_rules | `(tactic| walk_at "st") => `(tactic| ((with_reducible refine ifF ?he ?_); (case he => rfl)))
local macro_rules | `(tactic| walk_at "st") => `(tactic| ((with_reducible refine ifT ?he ?_); (case he => decide +kernel)))
local macro_rules | `(tactic| walk_at "st") => `(tactic| ((with_reducible refine ifF ?he ?_); (case he => decide +kernel)))
local macro_rules | `(tactic| walk_at "st") => `(tactic| ((with_reducible refine i_isiT (T := ?tt) (b := false) ?he ?hf ?_); (case he => rfl); (case hf => decide +kernel)))
local macro_rules | `(tactic| walk_at "st") => `(tactic| ((with_reducible refine i_isi (T := ?tt) (b := false) ?he ?hf ?_); (case he => rfl); (case hf => decide +kernel)))
local macro_rules | `(tactic| walk_at "st") => `(tactic| ((with_reducible refine i_isiT (T := ?tt) (b := true) ?he ?hf ?_); (case he => rfl); (case hf => decide +kernel)))
local macro_rules | `(tactic| walk_at "st") => `(tactic| ((with_reducible refine i_isi (T := ?tt) (b := true) ?he ?hf ?_); (case he => rfl); (case hf => decide +kernel)))
local macro_rules | `(tactic| walk_at "st") => `(tactic| ((with_reducible refine i_len ?he ?_); (case he => rfl)))
local macro_rules | `(tactic| walk_at "st") => `(tactic| ((with_reducible refine i_niT (v := ?vv) (us := ?uu) ?he ?hf ?_); (case he => rfl); (case hf => rfl)))
local macro_rules | `(tactic| walk_at "st") => `(tactic| ((with_reducible refine i_inT (v := ?vv) (us := ?uu) ?he ?hf ?_); (case he => rfl); (case hf => rfl)))
local macro_rules | `(tactic| walk_at "st") => `(tactic| ((with_reducible refine i_ixC (d := ?dd) ?he ?_); (case he => rfl)))
local macro_rules | `(tactic| walk_at "st") => `(tactic| ((with_reducible refine i_ixT (d := ?dd) ?he ?_); (case he => rfl)))
local macro_rules | `(tactic| walk_at "st") => `(tactic| ((with_reducible refine i_aug (x := ?dd) ?he ?_); (case he => rfl)))
local macro_rules | `(tactic| walk_at "st") => `(tactic| ((with_reducible refine i_var (d := ?dd) ?he ?_); (case he => rfl)))
local macro_rules | `(tactic| walk_at "st") => `(tactic| with_reducible refine i_truN ?_)
local macro_rules | `(tactic| walk_at "st") => `(tactic| with_reducible refine i_truT ?_)
local macro_rules | `(tactic| walk_at "st") => `(tactic| with_reducible refine i_truI ?_)
local macro_rules | `(tactic| walk_at "st") => `(tactic| with_reducible refine i_truB ?_)
local macro_rules | `(tactic| walk_at "st") => `(tactic| with_reducible refine i_tupT ?_)
local macro_rules | `(tactic| walk_at "st") => `(tactic| with_reducible refine i_slT ?_)
local macro_rules | `(tactic| walk_at "st") => `(tactic| with_reducible refine i_lenC ?_)
local macro_rules | `(tactic| walk_at "st") => `(tactic| with_reducible refine i_lenT ?_)
local macro_rules | `(tactic| walk_at "st") => `(tactic| with_reducible refine i_int1 ?_)
local macro_rules | `(tactic| walk_at "st") => `(tactic| with_reducible refine i_int ?_)
local macro_rules | `(tactic| walk_at "st") => `(tactic| with_reducible refine i_addII ?_)
local macro_rules | `(tactic| walk_at "st") => `(tactic| with_reducible refine i_addI ?_)
local macro_rules | `(tactic| walk_at "st") => `(tactic| with_reducible refine i_noN ?_)
local macro_rules | `(tactic| walk_at "st") => `(tactic| with_reducible refine i_isN ?_)
local macro_rules | `(tactic| walk_at "st") => `(tactic| with_reducible refine i_neS ?_)
local macro_rules | `(tactic| walk_at "st") => `(tactic| with_reducible refine i_neI ?_)
local macro_rules | `(tactic| walk_at "st") => `(tactic| with_reducible refine i_eqB ?_)
local macro_rules | `(tactic| walk_at "st") => `(tactic| with_reducible refine i_eqS ?_)
local macro_rules | `(tactic| walk_at "st") => `(tactic| with_reducible refine i_eqI ?_)
local macro_rules | `(tactic| walk_at "st") => `(tactic| with_reducible refine i_yes ?_)
local macro_rules | `(tactic| walk_at "st") => `(tactic| with_reducible refine i_gNi ?_)
local macro_rules | `(tactic| walk_at "st") => `(tactic| with_reducible refine i_gCo ?_)
local macro_rules | `(tactic| walk_at "st") => `(tactic| with_reducible refine i_gTu ?_)
local macro_rules | `(tactic| walk_at "st") => `(tactic| with_reducible refine i_gN ?_)
local macro_rules | `(tactic| walk_at "st") => `(tactic| with_reducible refine i_iR1 ?_)
local macro_rules | `(tactic| walk_at "st") => `(tactic| with_reducible refine i_iD ?_)
local macro_rules | `(tactic| walk_at "st") => `(tactic| with_reducible refine i_cdG ?_)
local macro_rules | `(tactic| walk_at "st") => `(tactic| with_reducible refine i_reverse ?_)
local macro_rules | `(tactic| walk_at "st") => `(tactic| with_reducible refine i_pop ?_)
local macro_rules | `(tactic| walk_at "st") => `(tactic| with_reducible refine i_extend ?_)
local macro_rules | `(tactic| walk_at "st") => `(tactic| with_reducible refine i_append ?_)
local macro_rules | `(tactic| walk_at "st") => `(tactic| with_reducible refine i_someP ?_)
local macro_rules | `(tactic| walk_at "st") => `(tactic| with_reducible refine i_noP ?_)
local macro_rules | `(tactic| walk_at "st") => `(tactic| with_reducible refine i_sl ?_)
local macro_rules | `(tactic| walk_at "st") => `(tactic| with_reducible refine i_call ?_)
local macro_rules | `(tactic| walk_at "st") => `(tactic| with_reducible refine i_cb ?_)
local macro_rules | `(tactic| walk_at "st") => `(tactic| with_reducible refine i_neg1 ?_)
local macro_rules | `(tactic| walk_at "st") => `(tactic| with_reducible refine i_neg ?_)
local macro_rules | `(tactic| walk_at "st") => `(tactic| with_reducible refine i_ifE ?_)
local macro_rules | `(tactic| walk_at "st") => `(tactic| with_reducible refine i_notV ?_)
local macro_rules | `(tactic| walk_at "st") => `(tactic| with_reducible refine i_orV ?_)
local macro_rules | `(tactic| walk_at "st") => `(tactic| with_reducible refine i_andV ?_)
local macro_rules | `(tactic| walk_at "st") => `(tactic| with_reducible refine i_not ?_)
local macro_rules | `(tactic| walk_at "st") => `(tactic| with_reducible refine i_or ?_)
local macro_rules | `(tactic| walk_at "st") => `(tactic| with_reducible refine i_and ?_)
local macro_rules | `(tactic| walk_at "st") => `(tactic| with_reducible refine i_tru ?_)
local macro_rules | `(tactic| walk_at "st") => `(tactic| with_reducible refine i_bl ?_)
local macro_rules | `(tactic| walk_at "st") => `(tactic| with_reducible refine i_tb ?_)
local macro_rules | `(tactic| walk_at "st") => `(tactic| with_reducible refine i_cons ?_)
local macro_rules | `(tactic| walk_at "st") => `(tactic| with_reducible refine i_nil ?_)
local macro_rules | `(tactic| walk_at "st") => `(tactic| with_reducible refine i_lst ?_)
local macro_rules | `(tactic| walk_at "st") => `(tactic| with_reducible refine i_tup ?_)
local macro_rules | `(tactic| walk_at "st") => `(tactic| with_reducible refine i_op ?_)
local macro_rules | `(tactic| walk_at "st") => `(tactic| with_reducible refine i_c ?_)
local macro_rules | `(tactic| walk_at "st") => `(tactic| with_reducible refine i_par2 ?_)
local macro_rules | `(tactic| walk_at "st") => `(tactic| with_reducible refine i_par ?_)
local macro_rules | `(tactic| walk_at "st") => `(tactic| with_reducible refine i_setL ?_)
local macro_rules | `(tactic| walk_at "st") => `(tactic| with_reducible refine i_cnt ?_)
local macro_rules | `(tactic| walk_at "st") => `(tactic| with_reducible refine i_brk ?_)
local macro_rules | `(tactic| walk_at "st") => `(tactic| with_reducible refine i_skip ?_)
local macro_rules | `(tactic| walk_at "st") => `(tactic| with_reducible refine i_if ?_)
local macro_rules | `(tactic| walk_at "st") => `(tactic| with_reducible refine i_retN ?_)
local macro_rules | `(tactic| walk_at "st") => `(tactic| with_reducible refine i_ret ?_)
local macro_rules | `(tactic| walk_at "st") => `(tactic| with_reducible refine i_drop ?_)
local macro_rules | `(tactic| walk_at "st") => `(tactic| with_reducible refine i_asg ?_)
local macro_rules | `(tactic| walk_at "st") => `(tactic| with_reducible refine i_set2 ?_)
local macro_rules | `(tactic| walk_at "st") => `(tactic| with_reducible refine i_set ?_)
local macro_rules | `(tactic| walk_at "st") => `(tactic| with_reducible refine i_seq ?_)
local macro_rules | `(tactic| walk_at "sts") => `(tactic| repeat walk_at "st")
theorem rd_law_take (ds : List D) (S : Sto) (Q : DK) (E : DX) (h : sp_law_take ds S Q E) : t_law_take { nx := fun _ S' => Dn Q .non S', rt := Dn Q } (startD 5 ds) S := by
  obtain ⟨b, g, c, many, rfl, m0, m1, hc, ⟨⟨gs, seed, n, hg, hb, s0, s1, n0, n1⟩, hbg⟩, k⟩ := h
  unfold t_law_take
  walk_at "sts"
  refine i_ixR (d := .int n) hb rfl ?_
  walk_at "sts"
  refine ⟨b, _, 2, 2, rfl, rfl, hb, rfl, ?_⟩
  walk_at "sts"
  refine i_ixR (d := .ref g) put_same rfl ?_
  walk_at "sts"
  have hg1 : put S b (.lst ([.ref g, .int seed, .int n].set 2 (.int (n + 1)))) g = some (.lst (gs.map .int)) := (put_ne (Ne.symm hbg)).trans hg
  refine i_truR hg1 ?_
  rcases gs with _ | ⟨x, gs⟩
  · have fin : ∀ r, 0 ≤ r → r < many → Dn Q (.int r) (put S b (.lst ([.ref g, .int seed, .int n].set 2 (.int (n + 1))))) := fun r r0 r1 =>
      i_dn (k r _ r0 r1 ⟨⟨[], seed, n + 1, hg1, put_same, s0, s1, by omega, by omega⟩, hbg⟩ fun a c h1 h2 h3 => (put_ne h1).trans h3)
    walk_at "sts"
    refine i_ixR (d := .int seed) put_same rfl ?_
    walk_at "sts"
    refine i_ixR (d := .int (n + 1)) put_same rfl ?_
    walk_at "sts"
    refine i_mulS (by omega) (by omega) ?_
    walk_at "sts"
    refine i_modB (by omega) fun x x0 x1 _ => ?_
    walk_at "sts"
    refine i_mulS (by omega) (by omega) ?_
    walk_at "sts"
    refine i_ixR (d := .int (n + 1)) put_same rfl ?_
    walk_at "sts"
    refine i_modB (by omega) fun y y0 y1 _ => ?_
    walk_at "sts"
    refine i_mulS (by omega) (by omega) ?_
    walk_at "sts"
    refine i_mulS (by omega) (by omega) ?_
    walk_at "sts"
    refine i_modB (by omega) fun z z0 z1 _ => ?_
    walk_at "sts"
    refine i_mulS (by omega) (by omega) ?_
    walk_at "sts"
    refine i_ixR (d := .int seed) put_same rfl ?_
    walk_at "sts"
    refine i_modB (by omega) fun w w0 w1 _ => ?_
    walk_at "sts"
    refine i_divS (by omega) (by omega) ?_
    walk_at "sts"
    refine i_modB m0 fun v v0 v1 _ => ?_
    exact fin v v0 v1
  · walk_at "sts"
    refine i_ixR (d := .int x) hg1 atI0 ?_
    walk_at "sts"
    refine i_modB m0 fun v v0 v1 _ => ?_
    walk_at "sts"
    refine i_ixR (d := .int x) hg1 atI0 ?_
    walk_at "sts"
    refine i_divS m0 (by omega) ?_
    walk_at "sts"
    refine ⟨g, _, 0, 0, rfl, rfl, hg1, by unfold ixN; rw [if_pos (by omega), if_pos (by simp)]; rfl, ?_⟩
    walk_at "sts"
    refine i_ixR (d := .int (x / many)) put_same atI0 ?_
    walk_at "sts"
    refine ifD (fun hz => ?_) fun hz => ?_
    · walk_at "sts"
      unfold dPopAt
      walk_at "sts"
      refine ⟨g, _, rfl, put_same, ?_⟩
      walk_at "sts"
      refine ⟨0, 0, _, .int (x / many), rfl, put_same, by decide, by decide, ?_, rfl, ?_⟩
      · unfold seqIndex?
        simp
      · walk_at "sts"
        refine i_dn (k v _ v0 v1 ⟨⟨gs, seed, n + 1, put_same, (put_ne hbg).trans ((put_ne hbg).trans put_same), s0, s1, by omega, by omega⟩, hbg⟩ fun a c h1 h2 h3 => ?_)
        rw [put_ne h2, put_ne h2, put_ne h1]; exact h3
    · walk_at "sts"
      refine i_dn (k v _ v0 v1 ⟨⟨(x / many) :: gs, seed, n + 1, put_same, (put_ne hbg).trans put_same, s0, s1, by omega, by omega⟩, hbg⟩ fun a c h1 h2 h3 => ?_)
      rw [put_ne h2, put_ne h1]; exact h3
theorem rd_law_number (ds : List D) (S : Sto) (Q : DK) (E : DX) (h : sp_law_number ds S Q E) : t_law_number { nx := fun _ S' => Dn Q .non S', rt := Dn Q } (startD 2 ds) S := by
  obtain ⟨b, g, c, rfl, hc, hb, k⟩ := h
  unfold t_law_number
  walk_at "sts"
  refine ⟨b, g, c, 8, rfl, by decide, by decide, by omega, hb, fun r S1 r0 r1 hb1 k1 => ?_⟩
  have up : ∀ S', Bag S' b g (c + 1) → Bag S' b g (c + 2) := fun S' ⟨⟨gs, s, n, a, b, c, d, e, f⟩, z⟩ => ⟨⟨gs, s, n, a, b, c, d, e, by omega⟩, z⟩
  walk_at "sts"
  refine ifD (fun h => ?_) fun h => ?_
  · walk_at "sts"
    exact i_dn (k 0 _ (by omega) (up _ hb1) k1)
  walk_at "sts"
  refine ifD (fun h => ?_) fun h => ?_
  · walk_at "sts"
    refine ⟨b, g, c + 1, 3, rfl, by decide, by decide, by omega, hb1, fun v S2 v0 v1 hb2 k2 => ?_⟩
    walk_at "sts"
    refine i_dn ?_
    have e : (999999 : Int) - v = ((999999 - v).toNat : Int) := by omega
    rw [e]
    exact k _ _ (by omega) hb2 fun a c h1 h2 h3 => k2 a c h1 h2 (k1 a c h1 h2 h3)
  walk_at "sts"
  refine ifD (fun h => ?_) fun h => ?_
  · walk_at "sts"
    refine ⟨b, g, c + 1, 1000000, rfl, by decide, by decide, by omega, hb1, fun v S2 v0 v1 hb2 k2 => ?_⟩
    refine i_dn ?_
    have e : v = (v.toNat : Int) := by omega
    rw [e]
    exact k _ _ (by omega) hb2 fun a c h1 h2 h3 => k2 a c h1 h2 (k1 a c h1 h2 h3)
  walk_at "sts"
  refine ⟨b, g, c + 1, 14, rfl, by decide, by decide, by omega, hb1, fun v S2 v0 v1 hb2 k2 => ?_⟩
  refine i_dn ?_
  have e : v = (v.toNat : Int) := by omega
  rw [e]
  exact k _ _ (by omega) hb2 fun a c h1 h2 h3 => k2 a c h1 h2 (k1 a c h1 h2 h3)
end K08
end
section
namespace K08
open PySem L2 DL DLZ TR PyProof.Rows
local macro_rules | `(tactic| walk_at "st") => `(tactic| ((with_reducible refine ifT ?he ?_); (case he => rfl)))
local macro_rules | `(tactic| walk_at "st") => `(tactic| ((with_reducible refine ifF ?he ?_); (case he => rfl)))
local macro_rules | `(tactic| walk_at "st") => `(tactic| ((with_reducible refine ifT ?he ?_); (case he => decide +kernel)))
local macro_rules | `(tactic| walk_at "st") => `(tactic| ((with_reducible refine ifF ?he ?_); (case he => decide +kernel)))
local macro_rules | `(tactic| walk_at "st") => `(tactic| ((with_reducible refine i_isiT (T := ?tt) (b := false) ?he ?hf ?_); (case he => rfl); (case hf => decide +kernel)))
local macro_rules | `(tactic| walk_at "st") => `(tactic| ((with_reducible refine i_isi (T := ?tt) (b := false) ?he ?hf ?_); (case he => rfl); (case hf => decide +kernel)))
local macro_rules | `(tactic| walk_at "st") => `(tactic| ((with_reducible refine i_isiT (T := ?tt) (b := true) ?he ?hf ?_); (case he => rfl); (case hf => decide +kernel)))
local macro_rules | `(tactic| walk_at "st") => `(tactic| ((with_reducible refine i_isi (T := ?tt) (b := true) ?he ?hf ?_); (case he => rfl); (case hf => decide +kernel)))
local macro_rules | `(tactic| walk_at "st") => `(tactic| ((with_reducible refine i_len ?he ?_); (case he => rfl)))
local macro_rules | `(tactic| walk_at "st") => `(tactic| ((with_reducible refine i_niT (v := ?vv) (us := ?uu) ?he ?hf ?_); (case he => rfl); (case hf => rfl)))
local macro_rules | `(tactic| walk_at "st") => `(tactic| ((with_reducible refine i_inT (v := ?vv) (us := ?uu) ?he ?hf ?_); (case he => rfl); (case hf => rfl)))
local macro_rules | `(tactic| walk_at "st") => `(tactic| ((with_reducible refine i_ixC (d := ?dd) ?he ?_); (case he => rfl)))
local macro_rules | `(tactic| walk_at "st") => `(tactic| ((with_reducible refine i_ixT (d := ?dd) ?he ?_); (case he => rfl)))
local macro_rules | `(tactic| walk_at "st") => `(tactic| ((with_reducible refine i_aug (x := ?dd) ?he ?_); (case he => rfl)))
local macro_rules | `(tactic| walk_at "st") => `(tactic| ((with_reducible refine i_var (d := ?dd) ?he ?_); (case he => rfl)))
local macro_rules | `(tactic| walk_at "st") => `(tactic| with_reducible refine i_truN ?_)
local macro_rules | `(tactic| walk_at "st") => `(tactic| with_reducible refine i_truT ?_)
local macro_rules | `(tactic| walk_at "st") => `(tactic| with_reducible refine i_truI ?_)
local macro_rules | `(tactic| walk_at "st") => `(tactic| with_reducible refine i_truB ?_)
local macro_rules | `(tactic| walk_at "st") => `(tactic| with_reducible refine i_tupT ?_)
local macro_rules | `(tactic| walk_at "st") => `(tactic| with_reducible refine i_slT ?_)
local macro_rules | `(tactic| walk_at "st") => `(tactic| with_reducible refine i_lenC ?_)
local macro_rules | `(tactic| walk_at "st") => `(tactic| with_reducible refine i_lenT ?_)
local macro_rules | `(tactic| walk_at "st") => `(tactic| with_reducible refine i_int1 ?_)
local macro_rules | `(tactic| walk_at "st") => `(tactic| with_reducible refine i_int ?_)
local macro_rules | `(tactic| walk_at "st") => `(tactic| with_reducible refine i_addII ?_)
local macro_rules | `(tactic| walk_at "st") => `(tactic| with_reducible refine i_addI ?_)
local macro_rules | `(tactic| walk_at "st") => `(tactic| with_reducible refine i_noN ?_)
local macro_rules | `(tactic| walk_at "st") => `(tactic| with_reducible refine i_isN ?_)
local macro_rules | `(tactic| walk_at "st") => `(tactic| with_reducible refine i_neS ?_)
local macro_rules | `(tactic| walk_at "st") => `(tactic| with_reducible refine i_neI ?_)
local macro_rules | `(tactic| walk_at "st") => `(tactic| with_reducible refine i_eqB ?_)
local macro_rules | `(tactic| walk_at "st") => `(tactic| with_reducible refine i_eqS ?_)
local macro_rules | `(tactic| walk_at "st") => `(tactic| with_reducible refine i_eqI ?_)
local macro_rules | `(tactic| walk_at "st") => `(tactic| with_reducible refine i_yes ?_)
local macro_rules | `(tactic| walk_at "st") => `(tactic| with_reducible refine i_gNi ?_)
local macro_rules | `(tactic| walk_at "st") => `(tactic| with_reducible refine i_gCo ?_)
local macro_rules | `(tactic| walk_at "st") => `(tactic| with_reducible refine i_gTu ?_)
local macro_rules | `(tactic| walk_at "st") => `(tactic| with_reducible refine i_gN ?_)
local macro_rules | `(tactic| walk_at "st") => `(tactic| with_reducible refine i_iR1 ?_)
local macro_rules | `(tactic| walk_at "st") => `(tactic| with_reducible refine i_iD ?_)
local macro_rules | `(tactic| walk_at "st") => `(tactic| with_reducible refine i_cdG ?_)
local macro_rules | `(tactic| walk_at "st") => `(tactic| with_reducible refine i_reverse ?_)
local macro_rules | `(tactic| walk_at "st") => `(tactic| with_reducible refine i_pop ?_)
local macro_rules | `(tactic| walk_at "st") => `(tactic| with_reducible refine i_extend ?_)
local macro_rules | `(tactic| walk_at "st") => `(tactic| with_reducible refine i_append ?_)
local macro_rules | `(tactic| walk_at "st") => `(tactic| with_reducible refine i_someP ?_)
local macro_rules | `(tactic| walk_at "st") => `(tactic| with_reducible refine i_noP ?_)
local macro_rules | `(tactic| walk_at "st") => `(tactic| with_reducible refine i_sl ?_)
local macro_rules | `(tactic| walk_at "st") => `(tactic| with_reducible refine i_call ?_)
local macro_rules | `(tactic| walk_at "st") => `(tactic| with_reducible refine i_cb ?_)
local macro_rules | `(tactic| walk_at "st") => `(tactic| with_reducible refine i_neg1 ?_)
local macro_rules | `(tactic| walk_at "st") => `(tactic| with_reducible refine i_neg ?_)
local macro_rules | `(tactic| walk_at "st") => `(tactic| with_reducible refine i_ifE ?_)
local macro_rules | `(tactic| walk_at "st") => `(tactic| with_reducible refine i_notV ?_)
local macro_rules | `(tactic| walk_at "st") => `(tactic| with_reducible refine i_orV ?_)
local macro_rules | `(tactic| walk_at "st") => `(tactic| with_reducible refine i_andV ?_)
local macro_rules | `(tactic| walk_at "st") => `(tactic| with_reducible refine i_not ?_)
local macro_rules | `(tactic| walk_at "st") => `(tactic| with_reducible refine i_or ?_)
local macro_rules | `(tactic| walk_at "st") => `(tactic| with_reducible refine i_and ?_)
local macro_rules | `(tactic| walk_at "st") => `(tactic| with_reducible refine i_tru ?_)
local macro_rules | `(tactic| walk_at "st") => `(tactic| with_reducible refine i_bl ?_)
local macro_rules | `(tactic| walk_at "st") => `(tactic| with_reducible refine i_tb ?_)
local macro_rules | `(tactic| walk_at "st") => `(tactic| with_reducible refine i_cons ?_)
local macro_rules | `(tactic| walk_at "st") => `(tactic| with_reducible refine i_nil ?_)
local macro_rules | `(tactic| walk_at "st") => `(tactic| with_reducible refine i_lst ?_)
local macro_rules | `(tactic| walk_at "st") => `(tactic| with_reducible refine i_tup ?_)
local macro_rules | `(tactic| walk_at "st") => `(tactic| with_reducible refine i_op ?_)
local macro_rules | `(tactic| walk_at "st") => `(tactic| with_reducible refine i_c ?_)
local macro_rules | `(tactic| walk_at "st") => `(tactic| with_reducible refine i_par2 ?_)
local macro_rules | `(tactic| walk_at "st") => `(tactic| with_reducible refine i_par ?_)
local macro_rules | `(tactic| walk_at "st") => `(tactic| with_reducible refine i_setL ?_)
local macro_rules | `(tactic| walk_at "st") => `(tactic| with_reducible refine i_cnt ?_)
local macro_rules | `(tactic| walk_at "st") => `(tactic| with_reducible refine i_brk ?_)
local macro_rules | `(tactic| walk_at "st") => `(tactic| with_reducible refine i_skip ?_)
local macro_rules | `(tactic| walk_at "st") => `(tactic| with_reducible refine i_if ?_)
local macro_rules | `(tactic| walk_at "st") => `(tactic| with_reducible refine i_retN ?_)
local macro_rules | `(tactic| walk_at "st") => `(tactic| with_reducible refine i_ret ?_)
local macro_rules | `(tactic| walk_at "st") => `(tactic| with_reducible refine i_drop ?_)
local macro_rules | `(tactic| walk_at "st") => `(tactic| with_reducible refine i_asg ?_)
local macro_rules | `(tactic| walk_at "st") => `(tactic| with_reducible refine i_set2 ?_)
local macro_rules | `(tactic| walk_at "st") => `(tactic| with_reducible refine i_set ?_)
local macro_rules | `(tactic| walk_at "st") => `(tactic| with_reducible refine i_seq ?_)
local macro_rules | `(tactic| walk_at "sts") => `(tactic| repeat walk_at "st")
theorem cut_map {α : Type} (f : α → D) (xs : List α) (n : Nat) : ∃ ys : List α, DL.cutD (xs.map f) none (some (n : Int)) = ys.map f ∧ ys.length ≤ n := by
  unfold DL.cutD
  rw [HT.sIx_none, HT.sIx_nat, List.drop_zero, Nat.sub_zero]
  refine ⟨xs.take (min n (xs.map f).length), ?_, ?_⟩
  · rw [List.map_take]
  · rw [List.length_take]; omega
theorem rd_law_bag (ds : List D) (S : Sto) (Q : DK) (E : DX) (h : sp_law_bag ds S Q E) : t_law_bag { nx := fun _ S' => Dn Q .non S', rt := Dn Q } (startD 4 ds) S := by
  obtain ⟨ns, rfl, k⟩ := h
  unfold t_law_bag
  walk_at "sts"
  intro g hg
  walk_at "sts"
  unfold dFor
  walk_at "sts"
  intro p hp
  have hpg : p ≠ g := fun e => by subst e; rw [put_same] at hp; cases hp
  obtain ⟨ms, hms, hl⟩ := cut_map D.int ns 63
  rw [show (63 : Int) = ((63 : Nat) : Int) from rfl, hms]
  refine ⟨ms.map .int, ?_, ?_⟩
  · show (match put _ p _ p with | some (.lst xs) => some xs | _ => none) = _
    rw [put_same]
  refine ⟨fun i ε S1 => ∃ (gs : List Int) (seed : Int) (e3 : Option D), ε = [some (.cl (ns.map .int)), some (.ref g), some (.int seed), e3] ∧ S1 g = some (.lst (gs.map .int)) ∧ S1 p = some (.lst (ms.map .int)) ∧ 0 ≤ seed ∧ seed < 2 ^ 31 ∧ Le S S1 ∧ gs.length ≤ i,
    ⟨[], 11, none, rfl, (put_ne (Ne.symm hpg)).trans put_same, put_same, by decide, by decide, lePut (lePut (Le.refl S) hg) (by rw [put_ne hpg] at hp; exact hp), Nat.le_refl 0⟩, fun i ε S1 _ w => ?_, fun i x ε S1 hx w => ?_, fun ε S1 w => ?_⟩
  · obtain ⟨gs, seed, e3, _, _, h, _⟩ := w
    exact h
  · obtain ⟨gs, seed, e3, rfl, h1, h2, h3, h4, h5, h6⟩ := w
    rw [List.getElem?_map] at hx
    obtain ⟨v, hv, rfl⟩ := Option.map_eq_some_iff.mp hx
    have hi : i < ms.length := (List.getElem?_eq_some_iff.mp hv).1
    walk_at "sts"
    refine i_intC ⟨by decide, by decide +kernel⟩ ?_
    walk_at "sts"
    refine ifD (fun hb => ?_) fun hb => ?_
    · walk_at "sts"
      refine ⟨g, _, rfl, h1, ?_⟩
      walk_at "sts"
      refine i_intC ⟨by decide, by decide +kernel⟩ ?_
      walk_at "sts"
      refine i_intC ⟨by decide, by decide +kernel⟩ ?_
      refine i_modB (by decide +kernel) fun x x0 x1 _ => ?_
      refine ⟨_, h1, ?_, ?_⟩
      · rw [List.length_map]; exact Nat.lt_of_le_of_lt (by omega : _ ≤ 100) (by decide)
      · walk_at "sts"
        refine i_mulS (by omega) (by omega) ?_
        walk_at "sts"
        refine i_modB (by omega) fun y y0 y1 _ => ?_
        walk_at "sts"
        refine i_modB (by omega) fun z z0 z1 _ => ?_
        exact ⟨gs ++ [x], z, _, rfl, by rw [put_same, List.map_append]; rfl, (put_ne hpg).trans h2, z0, by omega, lePut h5 hg, by rw [List.length_append, List.length_singleton]; omega⟩
    · walk_at "sts"
      refine i_mulS (by omega) (by omega) ?_
      walk_at "sts"
      refine i_modB (by omega) fun y y0 y1 _ => ?_
      walk_at "sts"
      refine i_modB (by omega) fun z z0 z1 _ => ?_
      exact ⟨gs, z, _, rfl, h1, h2, z0, by omega, h5, by omega⟩
  · obtain ⟨gs, seed, e3, rfl, h1, h2, h3, h4, h5, h6⟩ := w
    walk_at "sts"
    intro b hb
    have hgb : b ≠ g := fun e => by subst e; rw [h1] at hb; cases hb
    have hSb : S b = none := by
      cases e : S b with
      | none => rfl
      | some c => rw [h5 b c e] at hb; cases hb
    exact i_dn (k b g _ ⟨⟨gs, seed, 0, (put_ne (Ne.symm hgb)).trans h1, put_same, h3, h4, by decide, by decide⟩, hgb⟩ hSb hg fun a c z1 z2 z3 => (put_ne z1).trans (h5 a c z3))
end K08
end
section
namespace K08
open PySem L2 DL DLZ TR PyProof.Rows
local macro_rules | `(tactic| walk_at "st") => `(tactic| ((with_reducible refine ifT ?he ?_); (case he => rfl)))
local macro_rules | `(tactic| walk_at "st") => `(tactic| ((with_reducible refine ifF ?he ?_); (case he => rfl)))
local macro_rules | `(tactic| walk_at "st") => `(tactic| ((with_reducible refine ifT ?he ?_); (case he => decide +kernel)))
local macro_rules | `(tactic| walk_at "st") => `(tactic| ((with_reducible refine ifF ?he ?_); (case he => decide +kernel)))
local macro_rules | `(tactic| walk_at "st") => `(tactic| ((with_reducible refine i_isiT (T := ?tt) (b := false) ?he ?hf ?_); (case he => rfl); (case hf => decide +kernel)))
local macro_rules | `(tactic| walk_at "st") => `(tactic| ((with_reducible refine i_isi (T := ?tt) (b := false) ?he ?hf ?_); (case he => rfl); (case hf => decide +kernel)))
local macro_rules | `(tactic| walk_at "st") => `(tactic| ((with_reducible refine i_isiT (T := ?tt) (b := true) ?he ?hf ?_); (case he => rfl); (case hf => decide +kernel)))
local macro_rules | `(tactic| walk_at "st") => `(tactic| ((with_reducible refine i_isi (T := ?tt) (b := true) ?he ?hf ?_); (case he => rfl); (case hf => decide +kernel)))
local macro_rules | `(tactic| walk_at "st") => `(tactic| ((with_reducible refine i_len ?he ?_); (case he => rfl)))
local macro_rules | `(tactic| walk_at "st") => `(tactic| ((with_reducible refine i_niT (v := ?vv) (us := ?uu) ?he ?hf ?_); (case he => rfl); (case hf => rfl)))
local macro_rules | `(tactic| walk_at "st") => `(tactic| ((with_reducible refine i_inT (v := ?vv) (us := ?uu) ?he ?hf ?_); (case he => rfl); (case hf => rfl)))
local macro_rules | `(tactic| walk_at "st") => `(tactic| ((with_reducible refine i_ixC (d := ?dd) ?he ?_); (case he => rfl)))
local macro_rules | `(tactic| walk_at "st") => `(tactic| ((with_reducible refine i_ixT (d := ?dd) ?he ?_); (case he => rfl)))
local macro_rules | `(tactic| walk_at "st") => `(tactic| ((with_reducible refine i_aug (x := ?dd) ?he ?_); (case he => rfl)))
local macro_rules | `(tactic| walk_at "st") => `(tactic| ((with_reducible refine i_var (d := ?dd) ?he ?_); (case he => rfl)))
local macro_rules | `(tactic| walk_at "st") => `(tactic| with_reducible refine i_truN ?_)
local macro_rules | `(tactic| walk_at "st") => `(tactic| with_reducible refine i_truT ?_)
local macro_rules | `(tactic| walk_at "st") => `(tactic| with_reducible refine i_truI ?_)
local macro_rules | `(tactic| walk_at "st") => `(tactic| with_reducible refine i_truB ?_)
local macro_rules | `(tactic| walk_at "st") => `(tactic| with_reducible refine i_tupT ?_)
local macro_rules | `(tactic| walk_at "st") => `(tactic| with_reducible refine i_slT ?_)
local macro_rules | `(tactic| walk_at "st") => `(tactic| with_reducible refine i_lenC ?_)
local macro_rules | `(tactic| walk_at "st") => `(tactic| with_reducible refine i_lenT ?_)
local macro_rules | `(tactic| walk_at "st") => `(tactic| with_reducible refine i_int1 ?_)
local macro_rules | `(tactic| walk_at "st") => `(tactic| with_reducible refine i_int ?_)
local macro_rules | `(tactic| walk_at "st") => `(tactic| with_reducible refine i_addII ?_)
local macro_rules | `(tactic| walk_at "st") => `(tactic| with_reducible refine i_addI ?_)
local macro_rules | `(tactic| walk_at "st") => `(tactic| with_reducible refine i_noN ?_)
local macro_rules | `(tactic| walk_at "st") => `(tactic| with_reducible refine i_isN ?_)
local macro_rules | `(tactic| walk_at "st") => `(tactic| with_reducible refine i_neS ?_)
local macro_rules | `(tactic| walk_at "st") => `(tactic| with_reducible refine i_neI ?_)
local macro_rules | `(tactic| walk_at "st") => `(tactic| with_reducible refine i_eqB ?_)
local macro_rules | `(tactic| walk_at "st") => `(tactic| with_reducible refine i_eqS ?_)
local macro_rules | `(tactic| walk_at "st") => `(tactic| with_reducible refine i_eqI ?_)
local macro_rules | `(tactic| walk_at "st") => `(tactic| with_reducible refine i_yes ?_)
local macro_rules | `(tactic| walk_at "st") => `(tactic| with_reducible refine i_gNi ?_)
local macro_rules | `(tactic| walk_at "st") => `(tactic| with_reducible refine i_gCo ?_)
local macro_rules | `(tactic| walk_at "st") => `(tactic| with_reducible refine i_gTu ?_)
local macro_rules | `(tactic| walk_at "st") => `(tactic| with_reducible refine i_gN ?_)
local macro_rules | `(tactic| walk_at "st") => `(tactic| with_reducible refine i_iR1 ?_)
local macro_rules | `(tactic| walk_at "st") => `(tactic| with_reducible refine i_iD ?_)
local macro_rules | `(tactic| walk_at "st") => `(tactic| with_reducible refine i_cdG ?_)
local macro_rules | `(tactic| walk_at "st") => `(tactic| with_reducible refine i_reverse ?_)
local macro_rules | `(tactic| walk_at "st") => `(tactic| with_reducible refine i_pop ?_)
local macro_rules | `(tactic| walk_at "st") => `(tactic| with_reducible refine i_extend ?_)
local macro_rules | `(tactic| walk_at "st") => `(tactic| with_reducible refine i_append ?_)
local macro_rules | `(tactic| walk_at "st") => `(tactic| with_reducible refine i_someP ?_)
local macro_rules | `(tactic| walk_at "st") => `(tactic| with_reducible refine i_noP ?_)
local macro_rules | `(tactic| walk_at "st") => `(tactic| with_reducible refine i_sl ?_)
local macro_rules | `(tactic| walk_at "st") => `(tactic| with_reducible refine i_call ?_)
local macro_rules | `(tactic| walk_at "st") => `(tactic| with_reducible refine i_cb ?_)
local macro_rules | `(tactic| walk_at "st") => `(tactic| with_reducible refine i_neg1 ?_)
local macro_rules | `(tactic| walk_at "st") => `(tactic| with_reducible refine i_neg ?_)
local macro_rules | `(tactic| walk_at "st") => `(tactic| with_reducible refine i_ifE ?_)
local macro_rules | `(tactic| walk_at "st") => `(tactic| with_reducible refine i_notV ?_)
local macro_rules | `(tactic| walk_at "st") => `(tactic| with_reducible refine i_orV ?_)
local macro_rules | `(tactic| walk_at "st") => `(tactic| with_reducible refine i_andV ?_)
local macro_rules | `(tactic| walk_at "st") => `(tactic| with_reducible refine i_not ?_)
local macro_rules | `(tactic| walk_at "st") => `(tactic| with_reducible refine i_or ?_)
local macro_rules | `(tactic| walk_at "st") => `(tactic| with_reducible refine i_and ?_)
local macro_rules | `(tactic| walk_at "st") => `(tactic| with_reducible refine i_tru ?_)
local macro_rules | `(tactic| walk_at "st") => `(tactic| with_reducible refine i_bl ?_)
local macro_rules | `(tactic| walk_at "st") => `(tactic| with_reducible refine i_tb ?_)
local macro_rules | `(tactic| walk_at "st") => `(tactic| with_reducible refine i_cons ?_)
local macro_rules | `(tactic| walk_at "st") => `(tactic| with_reducible refine i_nil ?_)
local macro_rules | `(tactic| walk_at "st") => `(tactic| with_reducible refine i_lst ?_)
local macro_rules | `(tactic| walk_at "st") => `(tactic| with_reducible refine i_tup ?_)
local macro_rules | `(tactic| walk_at "st") => `(tactic| with_reducible refine i_op ?_)
local macro_rules | `(tactic| walk_at "st") => `(tactic| with_reducible refine i_c ?_)
local macro_rules | `(tactic| walk_at "st") => `(tactic| with_reducible refine i_par2 ?_)
local macro_rules | `(tactic| walk_at "st") => `(tactic| with_reducible refine i_par ?_)
local macro_rules | `(tactic| walk_at "st") => `(tactic| with_reducible refine i_setL ?_)
local macro_rules | `(tactic| walk_at "st") => `(tactic| with_reducible refine i_cnt ?_)
local macro_rules | `(tactic| walk_at "st") => `(tactic| with_reducible refine i_brk ?_)
local macro_rules | `(tactic| walk_at "st") => `(tactic| with_reducible refine i_skip ?_)
local macro_rules | `(tactic| walk_at "st") => `(tactic| with_reducible refine i_if ?_)
local macro_rules | `(tactic| walk_at "st") => `(tactic| with_reducible refine i_retN ?_)
local macro_rules | `(tactic| walk_at "st") => `(tactic| with_reducible refine i_ret ?_)
local macro_rules | `(tactic| walk_at "st") => `(tactic| with_reducible refine i_drop ?_)
local macro_rules | `(tactic| walk_at "st") => `(tactic| with_reducible refine i_asg ?_)
local macro_rules | `(tactic| walk_at "st") => `(tactic| with_reducible refine i_set2 ?_)
local macro_rules | `(tactic| walk_at "st") => `(tactic| with_reducible refine i_set ?_)
local macro_rules | `(tactic| walk_at "st") => `(tactic| with_reducible refine i_seq ?_)
local macro_rules | `(tactic| walk_at "sts") => `(tactic| repeat walk_at "st")
/-- a name, not long -/
def Sht (n : Nat) (s : Str) : Prop := 0 < s.length ∧ s.length ≤ n
theorem Sht.ne {n : Nat} {s : Str} (h : Sht n s) : s ≠ "" := fun e => by
  subst e
  exact absurd h.1 (by decide +kernel)
theorem strK : ∀ k, k < 60 → ((toString ((k : Nat) : Int) : Str)).length ≤ 20 := by decide +kernel
def stems : List Str := ["a", "b", "x", "n", "iff", "ends", "anyx", "fun1", "not_", "or0", "somehow", "allB", "keep", "fall", "gives2", "q_", "zZ", "elsewhere", "claims", "whiles", "end_", "andy", "ask", "promise"]
def words : List Str := ["all", "and", "any", "asks", "claim", "else", "end", "falls", "fun", "gives", "if", "keeps", "not", "or", "promises", "some", "while"]
theorem stems_ok : ∀ s ∈ stems, Sht 9 s := by
  have h : (stems.all fun s => decide (0 < s.length) && decide (s.length ≤ 9)) = true := by decide +kernel
  intro s hs
  have := List.all_eq_true.mp h s hs
  simpa [Sht] using this
structure NmS (S : Sto) (b g u w p : Addr) (xs : List Str) (c : Nat) (S' : Sto) : Prop where
  bag : Bag S' b g c
  w : S' w = some (.lst (words.map .str))
  p : S' p = some (.lst (stems.map .str))
  u : S' u = some (.lst (xs.map .str))
  k : ∀ a c, a ≠ b → a ≠ g → S a = some c → S' a = some c
theorem NmS.step {S : Sto} {b g u w p : Addr} {xs : List Str} {c d : Nat} {S1 S2 : Sto} (h : NmS S b g u w p xs c S1) (hw : w ≠ b ∧ w ≠ g) (hp : p ≠ b ∧ p ≠ g) (hu : u ≠ b ∧ u ≠ g) (b2 : Bag S2 b g d) (k : Kp S1 S2 b g) : NmS S b g u w p xs d S2 :=
  ⟨b2, k _ _ hw.1 hw.2 h.w, k _ _ hp.1 hp.2 h.p, k _ _ hu.1 hu.2 h.u, fun a c h1 h2 h3 => k _ _ h1 h2 (h.k a c h1 h2 h3)⟩
theorem rd_law_name (ds : List D) (S : Sto) (Q : DK) (E : DX) (h : sp_law_name ds S Q E) : t_law_name { nx := fun _ S' => Dn Q .non S', rt := Dn Q } (startD 8 ds) S := by
  obtain ⟨b, g, u, c, xs, rfl, hc, hb, hub, hug, ⟨hx, hxe⟩, hxl, k⟩ := h
  unfold t_law_name
  walk_at "sts"
  intro w hw
  walk_at "sts"
  intro p hp
  have hwp : w ≠ p := fun e => by subst e; rw [put_same] at hp; cases hp
  have hp0 : S p = none := by rw [put_ne (Ne.symm hwp)] at hp; exact hp
  have nb : ∀ {a : Addr}, S a = none → a ≠ b ∧ a ≠ g := fun h => ⟨fun e => hb.b (e ▸ h), fun e => hb.g (e ▸ h)⟩
  have hwn := nb hw
  have hpn := nb hp0
  have huw : u ≠ w := fun e => by subst e; rw [hx] at hw; cases hw
  have hup : u ≠ p := fun e => by subst e; rw [hx] at hp0; cases hp0
  obtain ⟨S1, hS1⟩ : ∃ S1, S1 = put (put S w (.lst (words.map .str))) p (.lst (stems.map .str)) := ⟨_, rfl⟩
  have n1 : NmS S b g u w p xs c S1 := by
    refine ⟨?_, ?_, ?_, ?_, fun a c h1 h2 h3 => ?_⟩
    · obtain ⟨⟨gs, s, n, a1, a2, a3, a4, a5, a6⟩, z⟩ := hb
      exact ⟨⟨gs, s, n, by rw [hS1, put_ne (Ne.symm hpn.2), put_ne (Ne.symm hwn.2)]; exact a1, by rw [hS1, put_ne (Ne.symm hpn.1), put_ne (Ne.symm hwn.1)]; exact a2, a3, a4, a5, a6⟩, z⟩
    · rw [hS1, put_ne hwp, put_same]
    · rw [hS1, put_same]
    · rw [hS1, put_ne hup, put_ne huw]; exact hx
    · rw [hS1]; exact lePut (lePut (fun _ _ h => h) hw) hp0 _ _ h3
  walk_at "sts"
  show oLen [.ref p] (put (put S w (.lst (words.map .str))) p (.lst (stems.map .str))) _
  rw [← hS1]
  refine i_lenR n1.p ?_
  walk_at "sts"
  refine ⟨b, g, c, 24, rfl, by decide, by decide, by omega, n1.bag, fun r S2 r0 r1 b2 k2 => ?_⟩
  have n2 := n1.step hwn hpn ⟨hub, hug⟩ b2 k2
  refine i_ixRs n2.p r0 r1 fun st hst => ?_
  have hs := stems_ok st hst
  walk_at "sts"
  refine ⟨b, g, c + 1, 3, rfl, by decide, by decide, by omega, n2.bag, fun r3 S3 r30 r31 b3 k3 => ?_⟩
  have n3 := n2.step hwn hpn ⟨hub, hug⟩ b3 k3
  have fin : ∀ (st : Str) (S4 : Sto) (e5 : Option D), Sht 11 st → NmS S b g u w p xs (c + 4) S4 → dSeq (dFor (iR1 (dC (.int 60))) (gN 6) (dSeq (dSet 7 (dVar 4)) (dSeq (dIf (dTB (dOp oGt (dVar 6) (dC (.int 0)))) (dSet 7 (dOp oAdd (dOp oAdd (dVar 4) (dC (.str "_"))) (dCB oStrI (dCons (dVar 6) (dNil))))) (dSkip)) (dIf (dAnd (dTB (dOp oNotIn (dVar 7) (dVar 1))) (dTB (dOp oNotIn (dVar 7) (dVar 2)))) (dSeq (dDrop (dAppend (dVar 1) (dVar 7))) (dRet (dVar 7))) (dSkip))))) (dRet (dC (.str "unused")))
      { nx := fun _ S' => Dn Q .non S', rt := Dn Q } [some (.ref b), some (.ref u), some (.ref w), some (.ref p), some (.str st), e5, none, none] S4 := by
    intro st S4 e5 hst n4
    have fk : ∀ a cl, a ≠ b → a ≠ g → a ≠ u → S a = some cl → S4 a = some cl := fun a cl h1 h2 _ h3 => n4.k a cl h1 h2 h3
    walk_at "sts"
    unfold dFor
    walk_at "sts"
    refine ⟨by decide, by decide, fun i ε S5 => S5 = S4 ∧ ∃ e6 e7, ε = [some (.ref b), some (.ref u), some (.ref w), some (.ref p), some (.str st), e5, e6, e7], ⟨rfl, _, _, rfl⟩, fun _ _ _ _ _ => trivial, fun i x ε S5 hx ww => ?_, fun ε S5 ww => ?_⟩
    · obtain ⟨rfl, e6, e7, rfl⟩ := ww
      rw [List.getElem?_map] at hx
      obtain ⟨j, hj, rfl⟩ := Option.map_eq_some_iff.mp hx
      have hi : j < 60 := by
        have := List.mem_of_getElem? hj
        simpa using this
      have body : ∀ (nm : Str) (e : Option D), Sht 40 nm → dIf (dAnd (dTB (dOp oNotIn (dVar 7) (dVar 1))) (dTB (dOp oNotIn (dVar 7) (dVar 2)))) (dSeq (dDrop (dAppend (dVar 1) (dVar 7))) (dRet (dVar 7))) (dSkip)
          { nx := fun ε S' => S' = S5 ∧ ∃ e6 e7, ε = [some (.ref b), some (.ref u), some (.ref w), some (.ref p), some (.str st), e5, e6, e7], ct := fun ε S' => S' = S5 ∧ ∃ e6 e7, ε = [some (.ref b), some (.ref u), some (.ref w), some (.ref p), some (.str st), e5, e6, e7], rt := Dn Q, bk := dRet (dC (.str "unused")) { nx := fun _ S' => Dn Q .non S', rt := Dn Q } }
          [some (.ref b), some (.ref u), some (.ref w), some (.ref p), some (.str st), e5, e, some (.str nm)] S5 := by
        intro nm e hnm
        walk_at "sts"
        refine i_niRs n4.u ?_
        walk_at "sts"
        refine ifN (fun h1 => ?_) fun h1 => ?_
        · walk_at "sts"
          refine i_niRs n4.w ?_
          walk_at "sts"
          refine ifN (fun h2 => ?_) fun h2 => ?_
          · walk_at "sts"
            refine ⟨u, _, rfl, n4.u, ?_⟩
            walk_at "sts"
            refine ⟨_, n4.u, ?_, ?_⟩
            · rw [List.length_map]; exact Nat.lt_of_le_of_lt hxl (by decide)
            · walk_at "sts"
              refine i_dn (k _ _ (xs ++ [nm]) ?_ ⟨by rw [put_same, List.map_append]; rfl, fun x hx => ?_⟩ (by rw [List.length_append]; omega) (by rw [List.length_append, List.length_singleton]; omega) fun a cl z1 z2 z3 z4 => (put_ne z3).trans (fk a cl z1 z2 z3 z4))
              · obtain ⟨⟨gs, s, n, a1, a2, a3, a4, a5, a6⟩, z⟩ := n4.bag
                exact ⟨⟨gs, s, n, (put_ne (Ne.symm hug)).trans a1, (put_ne (Ne.symm hub)).trans a2, a3, a4, a5, a6⟩, z⟩
              · rcases List.mem_append.mp hx with h | h
                · exact hxe x h
                · rw [List.mem_singleton.mp h]; exact hnm.ne
          · exact ⟨rfl, _, _, rfl⟩
        · walk_at "sts"
          exact ⟨rfl, _, _, rfl⟩
      walk_at "sts"
      refine ifD (fun h => ?_) fun h => ?_
      · walk_at "sts"
        have zj := strK j hi
        have z0 := hst.1
        have z1 := hst.2
        have e1 : (st ++ (Str.ofString "_")).length = st.length + 1 := by rw [PySem.Str.length_append]; rfl
        refine i_addS (Nat.le_trans (by show st.length + 1 ≤ 100; omega : _ ≤ 100) (by decide)) ?_
        walk_at "sts"
        refine ⟨_, rfl, ?_, ?_⟩
        · have := log2S (n := ((j : Nat) : Int).natAbs) (by omega)
          omega
        · refine i_addS (Nat.le_trans (by rw [e1]; omega : _ ≤ 100) (by decide)) ?_
          exact body _ _ ⟨by rw [PySem.Str.length_append, e1]; omega, by rw [PySem.Str.length_append, e1]; omega⟩
      · exact body _ _ ⟨hst.1, Nat.le_trans hst.2 (by decide)⟩
    · obtain ⟨rfl, e6, e7, rfl⟩ := ww
      walk_at "sts"
      exact i_dn (k _ _ xs n4.bag ⟨n4.u, hxe⟩ (Nat.le_refl _) (by omega) fk)
  walk_at "sts"
  refine ifD (fun h => ?_) fun h => ?_
  · walk_at "sts"
    refine ⟨b, g, c + 2, 63, rfl, by decide, by decide, by omega, n3.bag, fun r4 S4 r40 r41 b4 k4 => ?_⟩
    have n4 := n3.step hwn hpn ⟨hub, hug⟩ b4 k4
    refine i_ixSc (by decide +kernel) r40 (by have e : ((Str.ofString "abcdefghijklmnopqrstuvwxyzABCDEFGHIJKLMNOPQRSTUVWXYZ0123456789_").cps.toList.length) = 63 := by decide +kernel
                                              rw [e]; exact r41) fun c1 => ?_
    have z1 : (st ++ ⟨#[c1]⟩ : Str).length = st.length + 1 := by rw [PySem.Str.length_append]; rfl
    have hs1 := hs.1
    have hs2 := hs.2
    refine i_addS (Nat.le_trans (by show st.length + 1 ≤ 100; omega : _ ≤ 100) (by decide)) ?_
    walk_at "sts"
    refine ⟨b, g, c + 3, 63, rfl, by decide, by decide, by omega, n4.bag.up (by omega), fun r5 S5 r50 r51 b5 k5 => ?_⟩
    have n5 := n4.step hwn hpn ⟨hub, hug⟩ b5 k5
    refine i_ixSc (by decide +kernel) r50 (by have e : ((Str.ofString "abcdefghijklmnopqrstuvwxyzABCDEFGHIJKLMNOPQRSTUVWXYZ0123456789_").cps.toList.length) = 63 := by decide +kernel
                                              rw [e]; exact r51) fun c2 => ?_
    have z2 : (st ++ ⟨#[c1]⟩ ++ ⟨#[c2]⟩ : Str).length = st.length + 2 := by rw [PySem.Str.length_append, z1]; rfl
    refine i_addS (Nat.le_trans (by rw [z1]; show st.length + 1 + 1 ≤ 100; omega : _ ≤ 100) (by decide)) ?_
    walk_at "sts"
    exact fin _ _ _ ⟨by rw [z2]; omega, by rw [z2]; omega⟩ n5
  · exact fin _ _ _ ⟨hs.1, by have := hs.2; omega⟩ (n3.step hwn hpn ⟨hub, hug⟩ (n3.bag.up (by omega)) fun _ _ _ _ h => h)
end K08
end
section
namespace K08
open PySem L2 DL DLZ TR PyProof.Rows
local macro_rules | `(tactic| walk_at "st") => `(tactic| ((with_reducible refine ifT ?he ?_); (case he => rfl)))
local macro_rules | `(tactic| walk_at "st") => `(tactic| ((with_reducible refine ifF ?he ?_); (case he => rfl)))
local macro_rules | `(tactic| walk_at "st") => `(tactic| ((with_reducible refine ifT ?he ?_); (case he => decide +kernel)))
local macro_rules | `(tactic| walk_at "st") => `(tactic| ((with_reducible refine ifF ?he ?_); (case he => decide +kernel)))
local macro_rules | `(tactic| walk_at "st") => `(tactic| ((with_reducible refine i_isiT (T := ?tt) (b := false) ?he ?hf ?_); (case he => rfl); (case hf => decide +kernel)))
local macro_rules | `(tactic| walk_at "st") => `(tactic| ((with_reducible refine i_isi (T := ?tt) (b := false) ?he ?hf ?_); (case he => rfl); (case hf => decide +kernel)))
local macro_rules | `(tactic| walk_at "st") => `(tactic| ((with_reducible refine i_isiT (T := ?tt) (b := true) ?he ?hf ?_); (case he => rfl); (case hf => decide +kernel)))
local macro_rules | `(tactic| walk_at "st") => `(tactic| ((with_reducible refine i_isi (T := ?tt) (b := true) ?he ?hf ?_); (case he => rfl); (case hf => decide +kernel)))
local macro_rules | `(tactic| walk_at "st") => `(tactic| ((with_reducible refine i_len ?he ?_); (case he => rfl)))
local macro_rules | `(tactic| walk_at "st") => `(tactic| ((with_reducible refine i_niT (v := ?vv) (us := ?uu) ?he ?hf ?_); (case he => rfl); (case hf => rfl)))
local macro_rules | `(tactic| walk_at "st") => `(tactic| ((with_reducible refine i_inT (v := ?vv) (us := ?uu) ?he ?hf ?_); (case he => rfl); (case hf => rfl)))
local macro_rules | `(tactic| walk_at "st") => `(tactic| ((with_reducible refine i_ixC (d := ?dd) ?he ?_); (case he => rfl)))
local macro_rules | `(tactic| walk_at "st") => `(tactic| ((with_reducible refine i_ixT (d := ?dd) ?he ?_); (case he => rfl)))
local macro_rules | `(tactic| walk_at "st") => `(tactic| ((with_reducible refine i_aug (x := ?dd) ?he ?_); (case he => rfl)))
local macro_rules | `(tactic| walk_at "st") => `(tactic| ((with_reducible refine i_var (d := ?dd) ?he ?_); (case he => rfl)))
local macro_rules | `(tactic| walk_at "st") => `(tactic| with_reducible refine i_truN ?_)
local macro_rules | `(tactic| walk_at "st") => `(tactic| with_reducible refine i_truT ?_)
local macro_rules | `(tactic| walk_at "st") => `(tactic| with_reducible refine i_truI ?_)
local macro_rules | `(tactic| walk_at "st") => `(tactic| with_reducible refine i_truB ?_)
local macro_rules | `(tactic| walk_at "st") => `(tactic| with_reducible refine i_tupT ?_)
local macro_rules | `(tactic| walk_at "st") => `(tactic| with_reducible refine i_slT ?_)
local macro_rules | `(tactic| walk_at "st") => `(tactic| with_reducible refine i_lenC ?_)
local macro_rules | `(tactic| walk_at "st") => `(tactic| with_reducible refine i_lenT ?_)
local macro_rules | `(tactic| walk_at "st") => `(tactic| with_reducible refine i_int1 ?_)
local macro_rules | `(tactic| walk_at "st") => `(tactic| with_reducible refine i_int ?_)
local macro_rules | `(tactic| walk_at "st") => `(tactic| with_reducible refine i_addII ?_)
local macro_rules | `(tactic| walk_at "st") => `(tactic| with_reducible refine i_addI ?_)
local macro_rules | `(tactic| walk_at "st") => `(tactic| with_reducible refine i_noN ?_)
local macro_rules | `(tactic| walk_at "st") => `(tactic| with_reducible refine i_isN ?_)
local macro_rules | `(tactic| walk_at "st") => `(tactic| with_reducible refine i_neS ?_)
local macro_rules | `(tactic| walk_at "st") => `(tactic| with_reducible refine i_neI ?_)
local macro_rules | `(tactic| walk_at "st") => `(tactic| with_reducible refine i_eqB ?_)
local macro_rules | `(tactic| walk_at "st") => `(tactic| with_reducible refine i_eqS ?_)
local macro_rules | `(tactic| walk_at "st") => `(tactic| with_reducible refine i_eqI ?_)
local macro_rules | `(tactic| walk_at "st") => `(tactic| with_reducible refine i_yes ?_)
local macro_rules | `(tactic| walk_at "st") => `(tactic| with_reducible refine i_gNi ?_)
local macro_rules | `(tactic| walk_at "st") => `(tactic| with_reducible refine i_gCo ?_)
local macro_rules | `(tactic| walk_at "st") => `(tactic| with_reducible refine i_gTu ?_)
local macro_rules | `(tactic| walk_at "st") => `(tactic| with_reducible refine i_gN ?_)
local macro_rules | `(tactic| walk_at "st") => `(tactic| with_reducible refine i_iR1 ?_)
local macro_rules | `(tactic| walk_at "st") => `(tactic| with_reducible refine i_iD ?_)
local macro_rules | `(tactic| walk_at "st") => `(tactic| with_reducible refine i_cdG ?_)
local macro_rules | `(tactic| walk_at "st") => `(tactic| with_reducible refine i_reverse ?_)
local macro_rules | `(tactic| walk_at "st") => `(tactic| with_reducible refine i_pop ?_)
local macro_rules | `(tactic| walk_at "st") => `(tactic| with_reducible refine i_extend ?_)
local macro_rules | `(tactic| walk_at "st") => `(tactic| with_reducible refine i_append ?_)
local macro_rules | `(tactic| walk_at "st") => `(tactic| with_reducible refine i_someP ?_)
local macro_rules | `(tactic| walk_at "st") => `(tactic| with_reducible refine i_noP ?_)
local macro_rules | `(tactic| walk_at "st") => `(tactic| with_reducible refine i_sl ?_)
local macro_rules | `(tactic| walk_at "st") => `(tactic| with_reducible refine i_call ?_)
local macro_rules | `(tactic| walk_at "st") => `(tactic| with_reducible refine i_cb ?_)
local macro_rules | `(tactic| walk_at "st") => `(tactic| with_reducible refine i_neg1 ?_)
local macro_rules | `(tactic| walk_at "st") => `(tactic| with_reducible refine i_neg ?_)
local macro_rules | `(tactic| walk_at "st") => `(tactic| with_reducible refine i_ifE ?_)
local macro_rules | `(tactic| walk_at "st") => `(tactic| with_reducible refine i_notV ?_)
local macro_rules | `(tactic| walk_at "st") => `(tactic| with_reducible refine i_orV ?_)
local macro_rules | `(tactic| walk_at "st") => `(tactic| with_reducible refine i_andV ?_)
local macro_rules | `(tactic| walk_at "st") => `(tactic| with_reducible refine i_not ?_)
local macro_rules | `(tactic| walk_at "st") => `(tactic| with_reducible refine i_or ?_)
local macro_rules | `(tactic| walk_at "st") => `(tactic| with_reducible refine i_and ?_)
local macro_rules | `(tactic| walk_at "st") => `(tactic| with_reducible refine i_tru ?_)
local macro_rules | `(tactic| walk_at "st") => `(tactic| with_reducible refine i_bl ?_)
local macro_rules | `(tactic| walk_at "st") => `(tactic| with_reducible refine i_tb ?_)
local macro_rules | `(tactic| walk_at "st") => `(tactic| with_reducible refine i_cons ?_)
local macro_rules | `(tactic| walk_at "st") => `(tactic| with_reducible refine i_nil ?_)
local macro_rules | `(tactic| walk_at "st") => `(tactic| with_reducible refine i_lst ?_)
local macro_rules | `(tactic| walk_at "st") => `(tactic| with_reducible refine i_tup ?_)
local macro_rules | `(tactic| walk_at "st") => `(tactic| with_reducible refine i_op ?_)
local macro_rules | `(tactic| walk_at "st") => `(tactic| with_reducible refine i_c ?_)
local macro_rules | `(tactic| walk_at "st") => `(tactic| with_reducible refine i_par2 ?_)
local macro_rules | `(tactic| walk_at "st") => `(tactic| with_reducible refine i_par ?_)
local macro_rules | `(tactic| walk_at "st") => `(tactic| with_reducible refine i_setL ?_)
local macro_rules | `(tactic| walk_at "st") => `(tactic| with_reducible refine i_cnt ?_)
local macro_rules | `(tactic| walk_at "st") => `(tactic| with_reducible refine i_brk ?_)
local macro_rules | `(tactic| walk_at "st") => `(tactic| with_reducible refine i_skip ?_)
local macro_rules | `(tactic| walk_at "st") => `(tactic| with_reducible refine i_if ?_)
local macro_rules | `(tactic| walk_at "st") => `(tactic| with_reducible refine i_retN ?_)
local macro_rules | `(tactic| walk_at "st") => `(tactic| with_reducible refine i_ret ?_)
local macro_rules | `(tactic| walk_at "st") => `(tactic| with_reducible refine i_drop ?_)
local macro_rules | `(tactic| walk_at "st") => `(tactic| with_reducible refine i_asg ?_)
local macro_rules | `(tactic| walk_at "st") => `(tactic| with_reducible refine i_set2 ?_)
local macro_rules | `(tactic| walk_at "st") => `(tactic| with_reducible refine i_set ?_)
local macro_rules | `(tactic| walk_at "st") => `(tactic| with_reducible refine i_seq ?_)
local macro_rules | `(tactic| walk_at "sts") => `(tactic| repeat walk_at "st")
def sumPrev : Nat → DSp
  | 0 => fun _ _ _ _ => False
  | n + 1 => sp_law_sum n
theorem rd_law_sum (N k : Nat) (ds : List D) (S : Sto) (Q : DK) (E : DX) (h : sp_law_sum N ds S Q E) : t_law_sum (sumPrev N) k { nx := fun _ S' => Dn Q .non S', rt := Dn Q } (startD 5 ds) S := by
  obtain ⟨n, b, g, u, c, xs, hn, rfl, hc, hb, hub, hug, ⟨hx, hxe⟩, hxl, K⟩ := h
  have p2 : 1 ≤ 2 ^ n := Nat.one_le_two_pow
  have p3 : 1 ≤ 3 ^ n := Nat.one_le_pow _ _ (by decide)
  have e2 : 2 ^ (n + 1) = 2 * 2 ^ n := by rw [Nat.pow_succ]; omega
  have done : ∀ t S' c', SumT n t → Bag S' b g c' → c' ≤ c + 4 * 3 ^ n → Kp S S' b g → Dn Q t.d S' := fun t S' c' h1 h2 h3 h4 => i_dn (K t S' h1 (h2.up h3) h4)
  have num : ∀ v : Nat, v ≤ 999999 → SumT n (.num v) := fun v hv => ⟨hv, rfl, by show 1 ≤ n + 1; omega, by show 1 + 1 ≤ _; omega⟩
  unfold t_law_sum
  walk_at "sts"
  refine ⟨b, g, c, 12, rfl, by decide, by decide, by omega, hb, fun kd S1 k0 k1 b1 q1 => ?_⟩
  have hx1 := q1 u _ hub hug hx
  have leaf : ∀ F : DL.Env → Sto → Prop, dSeq (dIf (dAnd (dTru (dVar 1)) (dTB (dOp oGt (dCall (sp_law_take) (dCons (dVar 0) (dCons (dC (.int 3)) (dNil)))) (dC (.int 0))))) (dRet (dTup (dCons (dC (.str "name")) (dCons (dOp ixA (dVar 1) (dCall (sp_law_take) (dCons (dVar 0) (dCons (dCB oLen (dCons (dVar 1) (dNil))) (dNil))))) (dNil))))) (dSkip)) (dRet (dTup (dCons (dC (.str "number")) (dCons (dCall (sp_law_number) (dCons (dVar 0) (dNil))) (dNil)))))
      { nx := F, rt := Dn Q } [some (.ref b), some (.ref u), some (.int n), some (.int kd), none] S1 := by
    intro F
    have number : ∀ S2, Bag S2 b g (c + 2) → Kp S S2 b g → dRet (dTup (dCons (dC (.str "number")) (dCons (dCall (sp_law_number) (dCons (dVar 0) (dNil))) (dNil)))) { nx := F, rt := Dn Q } [some (.ref b), some (.ref u), some (.int n), some (.int kd), none] S2 := by
      intro S2 b2 q2
      walk_at "sts"
      refine ⟨b, g, c + 2, rfl, by omega, b2, fun r S3 hr b3 q3 => ?_⟩
      walk_at "sts"
      exact done (.num r) _ (c + 2 + 2) (num r hr) b3 (by omega) (q2.trans q3)
    walk_at "sts"
    refine i_truR hx1 ?_
    refine if2 (fun h => ?_) fun h => ?_
    · have hxs : xs ≠ [] := by rintro rfl; exact absurd h (by decide)
      walk_at "sts"
      refine ⟨b, g, c + 1, 3, rfl, by decide, by decide, by omega, b1, fun r S2 r0 r1 b2 q2 => ?_⟩
      have hx2 := q2 u _ hub hug hx1
      walk_at "sts"
      refine ifD (fun h => ?_) fun h => ?_
      · walk_at "sts"
        refine i_lenR hx2 ?_
        walk_at "sts"
        have hl : 0 < xs.length := List.length_pos_iff.mpr hxs
        rw [List.length_map]
        refine ⟨b, g, c + 2, xs.length, rfl, by omega, by omega, by omega, b2, fun v S3 v0 v1 b3 q3 => ?_⟩
        refine i_ixRs (q3 u _ hub hug hx2) v0 v1 fun x hx' => ?_
        walk_at "sts"
        exact done (.nam x) _ (c + 2 + 1) ⟨hxe x hx', rfl, by show 1 ≤ n + 1; omega, by show 1 + 1 ≤ _; omega⟩ b3 (by omega) ((q1.trans q2).trans q3)
      · exact number S2 b2 (q1.trans q2)
    · exact number S1 (b1.up (by omega)) q1
  walk_at "sts"
  refine ifD (fun h => ifT rfl (leaf _)) fun h0 => ?_
  walk_at "sts"
  refine ifD (fun h => leaf _) fun h3 => ?_
  obtain ⟨m, rfl⟩ : ∃ m, n = m + 1 := ⟨n - 1, by omega⟩
  obtain ⟨M, rfl⟩ : ∃ M, N = M + 1 := ⟨N - 1, by omega⟩
  have e3 : 3 ^ (m + 1) = 3 * 3 ^ m := by rw [Nat.pow_succ]; omega
  have p3m : 1 ≤ 3 ^ m := Nat.one_le_pow _ _ (by decide)
  have f2 : 2 ^ (m + 1) = 2 * 2 ^ m := by rw [Nat.pow_succ]; omega
  have hm : ((m + 1 : Nat) : Int) - 1 = (m : Int) := by omega
  walk_at "sts"
  rw [hm]
  refine ⟨m, b, g, u, c + 1, xs, by omega, rfl, by omega, b1, hub, hug, ⟨hx1, hxe⟩, hxl, fun ta S2 hta b2 q2 => ?_⟩
  have hx2 := q2 u _ hub hug hx1
  have ha1 := hta.ht
  have ha2 := hta.sz
  walk_at "sts"
  refine ifD (fun h => ?_) fun h6 => ?_
  · walk_at "sts"
    rw [hm]
    refine ⟨m, b, g, u, c + 1 + 4 * 3 ^ m, xs, by omega, rfl, by omega, b2, hub, hug, ⟨hx2, hxe⟩, hxl, fun tb S3 htb b3 q3 => ?_⟩
    have hb1 := htb.ht
    have hb2 := htb.sz
    walk_at "sts"
    exact done (.two .plus ta tb) _ _ ⟨⟨hta.wf, htb.wf, hta.kind, htb.kind⟩, rfl, by show 1 + max ta.ht tb.ht ≤ _; omega, by show 1 + ta.sz + tb.sz + 1 ≤ _; omega⟩ b3 (by omega) ((q1.trans q2).trans q3)
  walk_at "sts"
  refine ifD (fun h => ?_) fun h7 => ?_
  · walk_at "sts"
    rw [hm]
    refine ⟨m, b, g, u, c + 1 + 4 * 3 ^ m, xs, by omega, rfl, by omega, b2, hub, hug, ⟨hx2, hxe⟩, hxl, fun tb S3 htb b3 q3 => ?_⟩
    have hb1 := htb.ht
    have hb2 := htb.sz
    walk_at "sts"
    exact done (.two .minus ta tb) _ _ ⟨⟨hta.wf, htb.wf, hta.kind, htb.kind⟩, rfl, by show 1 + max ta.ht tb.ht ≤ _; omega, by show 1 + ta.sz + tb.sz + 1 ≤ _; omega⟩ b3 (by omega) ((q1.trans q2).trans q3)
  walk_at "sts"
  refine ifD (fun h => ?_) fun h8 => ?_
  · walk_at "sts"
    refine ⟨b, g, c + 1 + 4 * 3 ^ m, rfl, by omega, b2, fun r S3 hr b3 q3 => ?_⟩
    walk_at "sts"
    exact done (.times r ta) _ _ ⟨⟨hr, hta.wf, hta.kind⟩, rfl, by show 1 + ta.ht ≤ _; omega, by show 1 + ta.sz + 1 ≤ _; omega⟩ b3 (by omega) ((q1.trans q2).trans q3)
  walk_at "sts"
  refine ifD (fun h => ?_) fun h9 => ?_
  · walk_at "sts"
    refine ⟨b, g, c + 1 + 4 * 3 ^ m, rfl, by omega, b2, fun r S3 hr b3 q3 => ?_⟩
    walk_at "sts"
    refine i_divS (by decide) (by decide) ?_
    walk_at "sts"
    rw [show (1 : Int) + (r : Int) / 2 = ((1 + r / 2 : Nat) : Int) by omega]
    exact done (.ovr .over ta (1 + r / 2)) _ _ ⟨⟨by omega, by omega, hta.wf, hta.kind⟩, rfl, by show 1 + ta.ht ≤ _; omega, by show 1 + ta.sz + 1 ≤ _; omega⟩ b3 (by omega) ((q1.trans q2).trans q3)
  · walk_at "sts"
    refine ⟨b, g, c + 1 + 4 * 3 ^ m, rfl, by omega, b2, fun r S3 hr b3 q3 => ?_⟩
    walk_at "sts"
    refine i_divS (by decide) (by decide) ?_
    walk_at "sts"
    rw [show (1 : Int) + (r : Int) / 2 = ((1 + r / 2 : Nat) : Int) by omega]
    exact done (.ovr .rest ta (1 + r / 2)) _ _ ⟨⟨by omega, by omega, hta.wf, hta.kind⟩, rfl, by show 1 + ta.ht ≤ _; omega, by show 1 + ta.sz + 1 ≤ _; omega⟩ b3 (by omega) ((q1.trans q2).trans q3)
end K08
end
section
namespace K08
open PySem L2 DL DLZ TR PyProof.Rows
local macro_rules | `(tactic| walk_at "st") => `(tactic| ((with_reducible refine ifT ?he ?_); (case he => rfl)))
local macro_rules | `(tactic| walk_at "st") => `(tactic| ((with_reducible refine ifF ?he ?_); (case he => rfl)))
local macro_rules | `(tactic| walk_at "st") => `(tactic| ((with_reducible refine ifT ?he ?_); (case he => decide +kernel)))
local macro_rules | `(tactic| walk_at "st") => `(tactic| ((with_reducible refine ifF ?he ?_); (case he => decide +kernel)))
local macro_rules | `(tactic| walk_at "st") => `(tactic| ((with_reducible refine i_isiT (T := ?tt) (b := false) ?he ?hf ?_); (case he => rfl); (case hf => decide +kernel)))
local macro_rules | `(tactic| walk_at "st") => `(tactic| ((with_reducible refine i_isi (T := ?tt) (b := false) ?he ?hf ?_); (case he => rfl); (case hf => decide +kernel)))
local macro_rules | `(tactic| walk_at "st") => `(tactic| ((with_reducible refine i_isiT (T := ?tt) (b := true) ?he ?hf ?_); (case he => rfl); (case hf => decide +kernel)))
local macro_rules | `(tactic| walk_at "st") => `(tactic| ((with_reducible refine i_isi (T := ?tt) (b := true) ?he ?hf ?_); (case he => rfl); (case hf => decide +kernel)))
local macro_rules | `(tactic| walk_at "st") => `(tactic| ((with_reducible refine i_len ?he ?_); (case he => rfl)))
local macro_rules | `(tactic| walk_at "st") => `(tactic| ((with_reducible refine i_niT (v := ?vv) (us := ?uu) ?he ?hf ?_); (case he => rfl); (case hf => rfl)))
local macro_rules | `(tactic| walk_at "st") => `(tactic| ((with_reducible refine i_inT (v := ?vv) (us := ?uu) ?he ?hf ?_); (case he => rfl); (case hf => rfl)))
local macro_rules | `(tactic| walk_at "st") => `(tactic| ((with_reducible refine i_ixC (d := ?dd) ?he ?_); (case he => rfl)))
local macro_rules | `(tactic| walk_at "st") => `(tactic| ((with_reducible refine i_ixT (d := ?dd) ?he ?_); (case he => rfl)))
local macro_rules | `(tactic| walk_at "st") => `(tactic| ((with_reducible refine i_aug (x := ?dd) ?he ?_); (case he => rfl)))
local macro_rules | `(tactic| walk_at "st") => `(tactic| ((with_reducible refine i_var (d := ?dd) ?he ?_); (case he => rfl)))
local macro_rules | `(tactic| walk_at "st") => `(tactic| with_reducible refine i_truN ?_)
local macro_rules | `(tactic| walk_at "st") => `(tactic| with_reducible refine i_truT ?_)
local macro_rules | `(tactic| walk_at "st") => `(tactic| with_reducible refine i_truI ?_)
local macro_rules | `(tactic| walk_at "st") => `(tactic| with_reducible refine i_truB ?_)
local macro_rules | `(tactic| walk_at "st") => `(tactic| with_reducible refine i_tupT ?_)
local macro_rules | `(tactic| walk_at "st") => `(tactic| with_reducible refine i_slT ?_)
local macro_rules | `(tactic| walk_at "st") => `(tactic| with_reducible refine i_lenC ?_)
local macro_rules | `(tactic| walk_at "st") => `(tactic| with_reducible refine i_lenT ?_)
local macro_rules | `(tactic| walk_at "st") => `(tactic| with_reducible refine i_int1 ?_)
local macro_rules | `(tactic| walk_at "st") => `(tactic| with_reducible refine i_int ?_)
local macro_rules | `(tactic| walk_at "st") => `(tactic| with_reducible refine i_addII ?_)
local macro_rules | `(tactic| walk_at "st") => `(tactic| with_reducible refine i_addI ?_)
local macro_rules | `(tactic| walk_at "st") => `(tactic| with_reducible refine i_noN ?_)
local macro_rules | `(tactic| walk_at "st") => `(tactic| with_reducible refine i_isN ?_)
local macro_rules | `(tactic| walk_at "st") => `(tactic| with_reducible refine i_neS ?_)
local macro_rules | `(tactic| walk_at "st") => `(tactic| with_reducible refine i_neI ?_)
local macro_rules | `(tactic| walk_at "st") => `(tactic| with_reducible refine i_eqB ?_)
local macro_rules | `(tactic| walk_at "st") => `(tactic| with_reducible refine i_eqS ?_)
local macro_rules | `(tactic| walk_at "st") => `(tactic| with_reducible refine i_eqI ?_)
local macro_rules | `(tactic| walk_at "st") => `(tactic| with_reducible refine i_yes ?_)
local macro_rules | `(tactic| walk_at "st") => `(tactic| with_reducible refine i_gNi ?_)
local macro_rules | `(tactic| walk_at "st") => `(tactic| with_reducible refine i_gCo ?_)
local macro_rules | `(tactic| walk_at "st") => `(tactic| with_reducible refine i_gTu ?_)
local macro_rules | `(tactic| walk_at "st") => `(tactic| with_reducible refine i_gN ?_)
local macro_rules | `(tactic| walk_at "st") => `(tactic| with_reducible refine i_iR1 ?_)
local macro_rules | `(tactic| walk_at "st") => `(tactic| with_reducible refine i_iD ?_)
local macro_rules | `(tactic| walk_at "st") => `(tactic| with_reducible refine i_cdG ?_)
local macro_rules | `(tactic| walk_at "st") => `(tactic| with_reducible refine i_reverse ?_)
local macro_rules | `(tactic| walk_at "st") => `(tactic| with_reducible refine i_pop ?_)
local macro_rules | `(tactic| walk_at "st") => `(tactic| with_reducible refine i_extend ?_)
local macro_rules | `(tactic| walk_at "st") => `(tactic| with_reducible refine i_append ?_)
local macro_rules | `(tactic| walk_at "st") => `(tactic| with_reducible refine i_someP ?_)
local macro_rules | `(tactic| walk_at "st") => `(tactic| with_reducible refine i_noP ?_)
local macro_rules | `(tactic| walk_at "st") => `(tactic| with_reducible refine i_sl ?_)
local macro_rules | `(tactic| walk_at "st") => `(tactic| with_reducible refine i_call ?_)
local macro_rules | `(tactic| walk_at "st") => `(tactic| with_reducible refine i_cb ?_)
local macro_rules | `(tactic| walk_at "st") => `(tactic| with_reducible refine i_neg1 ?_)
local macro_rules | `(tactic| walk_at "st") => `(tactic| with_reducible refine i_neg ?_)
local macro_rules | `(tactic| walk_at "st") => `(tactic| with_reducible refine i_ifE ?_)
local macro_rules | `(tactic| walk_at "st") => `(tactic| with_reducible refine i_notV ?_)
local macro_rules | `(tactic| walk_at "st") => `(tactic| with_reducible refine i_orV ?_)
local macro_rules | `(tactic| walk_at "st") => `(tactic| with_reducible refine i_andV ?_)
local macro_rules | `(tactic| walk_at "st") => `(tactic| with_reducible refine i_not ?_)
local macro_rules | `(tactic| walk_at "st") => `(tactic| with_reducible refine i_or ?_)
local macro_rules | `(tactic| walk_at "st") => `(tactic| with_reducible refine i_and ?_)
local macro_rules | `(tactic| walk_at "st") => `(tactic| with_reducible refine i_tru ?_)
local macro_rules | `(tactic| walk_at "st") => `(tactic| with_reducible refine i_bl ?_)
local macro_rules | `(tactic| walk_at "st") => `(tactic| with_reducible refine i_tb ?_)
local macro_rules | `(tactic| walk_at "st") => `(tactic| with_reducible refine i_cons ?_)
local macro_rules | `(tactic| walk_at "st") => `(tactic| with_reducible refine i_nil ?_)
local macro_rules | `(tactic| walk_at "st") => `(tactic| with_reducible refine i_lst ?_)
local macro_rules | `(tactic| walk_at "st") => `(tactic| with_reducible refine i_tup ?_)
local macro_rules | `(tactic| walk_at "st") => `(tactic| with_reducible refine i_op ?_)
local macro_rules | `(tactic| walk_at "st") => `(tactic| with_reducible refine i_c ?_)
local macro_rules | `(tactic| walk_at "st") => `(tactic| with_reducible refine i_par2 ?_)
local macro_rules | `(tactic| walk_at "st") => `(tactic| with_reducible refine i_par ?_)
local macro_rules | `(tactic| walk_at "st") => `(tactic| with_reducible refine i_setL ?_)
local macro_rules | `(tactic| walk_at "st") => `(tactic| with_reducible refine i_cnt ?_)
local macro_rules | `(tactic| walk_at "st") => `(tactic| with_reducible refine i_brk ?_)
local macro_rules | `(tactic| walk_at "st") => `(tactic| with_reducible refine i_skip ?_)
local macro_rules | `(tactic| walk_at "st") => `(tactic| with_reducible refine i_if ?_)
local macro_rules | `(tactic| walk_at "st") => `(tactic| with_reducible refine i_retN ?_)
local macro_rules | `(tactic| walk_at "st") => `(tactic| with_reducible refine i_ret ?_)
local macro_rules | `(tactic| walk_at "st") => `(tactic| with_reducible refine i_drop ?_)
local macro_rules | `(tactic| walk_at "st") => `(tactic| with_reducible refine i_asg ?_)
local macro_rules | `(tactic| walk_at "st") => `(tactic| with_reducible refine i_set2 ?_)
local macro_rules | `(tactic| walk_at "st") => `(tactic| with_reducible refine i_set ?_)
local macro_rules | `(tactic| walk_at "st") => `(tactic| with_reducible refine i_seq ?_)
local macro_rules | `(tactic| walk_at "sts") => `(tactic| repeat walk_at "st")
def quaPrev : Nat → DSp
  | 0 => fun _ _ _ _ => False
  | n + 1 => sp_law_quantified n
theorem sign_op {x : Str} (h : x ∈ (["=", "!=", "<", "<=", ">", ">="] : List Str)) : ∃ o : Op2, o.w = x ∧ o.kind = "formula" ∧ o.sub = "sum" := by
  simp only [List.mem_cons, List.not_mem_nil, or_false] at h
  rcases h with rfl | rfl | rfl | rfl | rfl | rfl
  · exact ⟨.eq, rfl, rfl, rfl⟩
  · exact ⟨.ne, rfl, rfl, rfl⟩
  · exact ⟨.lt, rfl, rfl, rfl⟩
  · exact ⟨.le, rfl, rfl, rfl⟩
  · exact ⟨.gt, rfl, rfl, rfl⟩
  · exact ⟨.ge, rfl, rfl, rfl⟩
theorem join_op {x : Str} (h : x ∈ (["and", "or"] : List Str)) : ∃ o : Op2, o.w = x ∧ o.kind = "formula" ∧ o.sub = "formula" := by
  simp only [List.mem_cons, List.not_mem_nil, or_false] at h
  rcases h with rfl | rfl
  · exact ⟨.and, rfl, rfl, rfl⟩
  · exact ⟨.or, rfl, rfl, rfl⟩
theorem qua_op {x : Str} (h : x ∈ (["some", "all"] : List Str)) : ∃ o : Qn, o.w = x := by
  simp only [List.mem_cons, List.not_mem_nil, or_false] at h
  rcases h with rfl | rfl
  · exact ⟨.some, rfl⟩
  · exact ⟨.all, rfl⟩
theorem rd_law_quantified (N k : Nat) (ds : List D) (S : Sto) (Q : DK) (E : DX) (h : sp_law_quantified N ds S Q E) : t_law_quantified (quaPrev N) k { nx := fun _ S' => Dn Q .non S', rt := Dn Q } (startD 6 ds) S := by
  obtain ⟨n, b, g, u, c, xs, hn, rfl, hc, hb, hub, hug, ⟨hx, hxe⟩, hxl, hxs, K⟩ := h
  have p2 : 1 ≤ 2 ^ n := Nat.one_le_two_pow
  have p3 : 1 ≤ 3 ^ n := Nat.one_le_pow _ _ (by decide)
  have hl : 0 < xs.length := List.length_pos_iff.mpr hxs
  have done : ∀ t S' c', FmT n t → Bag S' b g c' → c' ≤ c + 50 * 3 ^ n → Kp S S' b g → Dn Q t.d S' := fun t S' c' h1 h2 h3 h4 => i_dn (K t S' h1 (h2.up h3) h4)
  unfold t_law_quantified
  walk_at "sts"
  refine ⟨b, g, c, 9, rfl, by decide, by decide, by omega, hb, fun kd S1 k0 k1 b1 q1 => ?_⟩
  have hx1 := q1 u _ hub hug hx
  have leaf : ∀ F : DL.Env → Sto → Prop, dSeq (dSet 4 (dOp ixA (dLst (dCons (dC (.str "=")) (dCons (dC (.str "!=")) (dCons (dC (.str "<")) (dCons (dC (.str "<=")) (dCons (dC (.str ">")) (dCons (dC (.str ">=")) (dNil)))))))) (dCall (sp_law_take) (dCons (dVar 0) (dCons (dC (.int 6)) (dNil)))))) (dRet (dTup (dCons (dVar 4) (dCons (dCall (sp_law_sum 2) (dCons (dVar 0) (dCons (dVar 1) (dCons (dC (.int 2)) (dNil))))) (dCons (dCall (sp_law_sum 2) (dCons (dVar 0) (dCons (dVar 1) (dCons (dC (.int 1)) (dNil))))) (dNil))))))
      { nx := F, rt := Dn Q } [some (.ref b), some (.ref u), some (.int n), some (.int kd), none, none] S1 := by
    intro F
    walk_at "sts"
    intro p hp
    have hpn := b1.fresh hp
    walk_at "sts"
    refine ⟨b, g, c + 1, 6, rfl, by decide, by decide, by omega, b1.put' hp, fun r S2 r0 r1 b2 q2 => ?_⟩
    refine i_ixRs (xs := ["=", "!=", "<", "<=", ">", ">="]) (q2 p _ hpn.1 hpn.2 put_same) r0 r1 fun x hx' => ?_
    obtain ⟨o, rfl, ok1, ok2⟩ := sign_op hx'
    have q2' : Kp S S2 b g := (q1.put' hp).trans q2
    have hx2 := q2' u _ hub hug hx
    walk_at "sts"
    refine ⟨2, b, g, u, c + 2, xs, by decide, rfl, by omega, b2, hub, hug, ⟨hx2, hxe⟩, hxl, fun ta S3 hta b3 q3 => ?_⟩
    have hx3 := q3 u _ hub hug hx2
    walk_at "sts"
    refine ⟨1, b, g, u, c + 2 + 4 * 3 ^ 2, xs, by decide, rfl, by omega, b3, hub, hug, ⟨hx3, hxe⟩, hxl, fun tb S4 htb b4 q4 => ?_⟩
    have ha1 := hta.ht
    have ha2 := hta.sz
    have hb1 := htb.ht
    have hb2 := htb.sz
    walk_at "sts"
    exact done (.two o ta tb) _ _ ⟨⟨hta.wf, htb.wf, by rw [ok2]; exact hta.kind, by rw [ok2]; exact htb.kind⟩, ok1, by show 1 + max ta.ht tb.ht ≤ _; omega, by show 1 + ta.sz + tb.sz + 1 ≤ _; omega⟩ b4 (by omega) ((q2'.trans q3).trans q4)
  walk_at "sts"
  refine ifD (fun h => ifT rfl (leaf _)) fun h0 => ?_
  walk_at "sts"
  refine ifD (fun h => leaf _) fun h3 => ?_
  obtain ⟨m, rfl⟩ : ∃ m, n = m + 1 := ⟨n - 1, by omega⟩
  obtain ⟨M, rfl⟩ : ∃ M, N = M + 1 := ⟨N - 1, by omega⟩
  have e3 : 3 ^ (m + 1) = 3 * 3 ^ m := by rw [Nat.pow_succ]; omega
  have p3m : 1 ≤ 3 ^ m := Nat.one_le_pow _ _ (by decide)
  have f2 : 2 ^ (m + 1) = 2 * 2 ^ m := by rw [Nat.pow_succ]; omega
  have hm : ((m + 1 : Nat) : Int) - 1 = (m : Int) := by omega
  walk_at "sts"
  rw [hm]
  refine ⟨m, b, g, u, c + 1, xs, by omega, rfl, by omega, b1, hub, hug, ⟨hx1, hxe⟩, hxl, hxs, fun ta S2 hta b2 q2 => ?_⟩
  have hx2 := q2 u _ hub hug hx1
  have ha1 := hta.ht
  have ha2 := hta.sz
  walk_at "sts"
  refine ifD (fun h => ?_) fun h6 => ?_
  · walk_at "sts"
    exact done (.neg ta) _ _ ⟨⟨hta.wf, hta.kind⟩, rfl, by show 1 + ta.ht ≤ _; omega, by show 1 + ta.sz + 1 ≤ _; omega⟩ b2 (by omega) (q1.trans q2)
  walk_at "sts"
  refine ifD (fun h => ?_) fun h7 => ?_
  · walk_at "sts"
    intro p hp
    have hpn := b2.fresh hp
    walk_at "sts"
    refine i_divS (by decide) (by decide) ?_
    refine i_ixRs (xs := ["and", "or"]) put_same (by omega) (by show kd / 4 < 2; omega) fun x hx' => ?_
    obtain ⟨o, rfl, ok1, ok2⟩ := join_op hx'
    walk_at "sts"
    rw [hm]
    refine ⟨m, b, g, u, c + 1 + 50 * 3 ^ m, xs, by omega, rfl, by omega, b2.put' hp, hub, hug, ⟨lePut (fun _ _ h => h) hp _ _ hx2, hxe⟩, hxl, hxs, fun tb S3 htb b3 q3 => ?_⟩
    have hb1 := htb.ht
    have hb2 := htb.sz
    walk_at "sts"
    exact done (.two o ta tb) _ _ ⟨⟨hta.wf, htb.wf, by rw [ok2]; exact hta.kind, by rw [ok2]; exact htb.kind⟩, ok1, by show 1 + max ta.ht tb.ht ≤ _; omega, by show 1 + ta.sz + tb.sz + 1 ≤ _; omega⟩ b3 (by omega) (((q1.trans q2).put' hp).trans q3)
  · walk_at "sts"
    intro p hp
    have hpn := b2.fresh hp
    walk_at "sts"
    refine i_divS (by decide) (by decide) ?_
    refine i_ixRs (xs := ["some", "all"]) put_same (by omega) (by show kd / 7 < 2; omega) fun x hx' => ?_
    obtain ⟨o, rfl⟩ := qua_op hx'
    walk_at "sts"
    refine i_lenR (lePut (fun _ _ h => h) hp _ _ hx2) ?_
    walk_at "sts"
    rw [List.length_map]
    refine ⟨b, g, c + 1 + 50 * 3 ^ m, xs.length, rfl, by omega, by omega, by omega, b2.put' hp, fun v S3 v0 v1 b3 q3 => ?_⟩
    refine i_ixRs (q3 u _ hub hug (lePut (fun _ _ h => h) hp _ _ hx2)) v0 v1 fun y hy => ?_
    walk_at "sts"
    exact done (.qn o y ta) _ _ ⟨⟨hxe y hy, hta.wf, hta.kind⟩, rfl, by show 1 + ta.ht ≤ _; omega, by show 1 + ta.sz + 1 ≤ _; omega⟩ b3 (by omega) (((q1.trans q2).put' hp).trans q3)
end K08
end
section
namespace K08
open PySem L2 DL DLZ TR PyProof.Rows
local macro_rules | `(tactic| walk_at "st") => `(tactic| ((with_reducible refine ifT ?he ?_); (case he => rfl)))
local macro_rules | `(tactic| walk_at "st") => `(tactic| ((with_reducible refine ifF ?he ?_); (case he => rfl)))
local macro_rules | `(tactic| walk_at "st") => `(tactic| ((with_reducible refine ifT ?he ?_); (case he => decide +kernel)))
local macro_rules | `(tactic| walk_at "st") => `(tactic| ((with_reducible refine ifF ?he ?_); (case he => decide +kernel)))
local macro_rules | `(tactic| walk_at "st") => `(tactic| ((with_reducible refine i_isiT (T := ?tt) (b := false) ?he ?hf ?_); (case he => rfl); (case hf => decide +kernel)))
local macro_rules | `(tactic| walk_at "st") => `(tactic| ((with_reducible refine i_isi (T := ?tt) (b := false) ?he ?hf ?_); (case he => rfl); (case hf => decide +kernel)))
local macro_rules | `(tactic| walk_at "st") => `(tactic| ((with_reducible refine i_isiT (T := ?tt) (b := true) ?he ?hf ?_); (case he => rfl); (case hf => decide +kernel)))
local macro_rules | `(tactic| walk_at "st") => `(tactic| ((with_reducible refine i_isi (T := ?tt) (b := true) ?he ?hf ?_); (case he => rfl); (case hf => decide +kernel)))
local macro_rules | `(tactic| walk_at "st") => `(tactic| ((with_reducible refine i_len ?he ?_); (case he => rfl)))
local macro_rules | `(tactic| walk_at "st") => `(tactic| ((with_reducible refine i_niT (v := ?vv) (us := ?uu) ?he ?hf ?_); (case he => rfl); (case hf => rfl)))
local macro_rules | `(tactic| walk_at "st") => `(tactic| ((with_reducible refine i_inT (v := ?vv) (us := ?uu) ?he ?hf ?_); (case he => rfl); (case hf => rfl)))
local macro_rules | `(tactic| walk_at "st") => `(tactic| ((with_reducible refine i_ixC (d := ?dd) ?he ?_); (case he => rfl)))
local macro_rules | `(tactic| walk_at "st") => `(tactic| ((with_reducible refine i_ixT (d := ?dd) ?he ?_); (case he => rfl)))
local macro_rules | `(tactic| walk_at "st") => `(tactic| ((with_reducible refine i_aug (x := ?dd) ?he ?_); (case he => rfl)))
local macro_rules | `(tactic| walk_at "st") => `(tactic| ((with_reducible refine i_var (d := ?dd) ?he ?_); (case he => rfl)))
local macro_rules | `(tactic| walk_at "st") => `(tactic| with_reducible refine i_truN ?_)
local macro_rules | `(tactic| walk_at "st") => `(tactic| with_reducible refine i_truT ?_)
local macro_rules | `(tactic| walk_at "st") => `(tactic| with_reducible refine i_truI ?_)
local macro_rules | `(tactic| walk_at "st") => `(tactic| with_reducible refine i_truB ?_)
local macro_rules | `(tactic| walk_at "st") => `(tactic| with_reducible refine i_tupT ?_)
local macro_rules | `(tactic| walk_at "st") => `(tactic| with_reducible refine i_slT ?_)
local macro_rules | `(tactic| walk_at "st") => `(tactic| with_reducible refine i_lenC ?_)
local macro_rules | `(tactic| walk_at "st") => `(tactic| with_reducible refine i_lenT ?_)
local macro_rules | `(tactic| walk_at "st") => `(tactic| with_reducible refine i_int1 ?_)
local macro_rules | `(tactic| walk_at "st") => `(tactic| with_reducible refine i_int ?_)
local macro_rules | `(tactic| walk_at "st") => `(tactic| with_reducible refine i_addII ?_)
local macro_rules | `(tactic| walk_at "st") => `(tactic| with_reducible refine i_addI ?_)
local macro_rules | `(tactic| walk_at "st") => `(tactic| with_reducible refine i_noN ?_)
local macro_rules | `(tactic| walk_at "st") => `(tactic| with_reducible refine i_isN ?_)
local macro_rules | `(tactic| walk_at "st") => `(tactic| with_reducible refine i_neS ?_)
local macro_rules | `(tactic| walk_at "st") => `(tactic| with_reducible refine i_neI ?_)
local macro_rules | `(tactic| walk_at "st") => `(tactic| with_reducible refine i_eqB ?_)
local macro_rules | `(tactic| walk_at "st") => `(tactic| with_reducible refine i_eqS ?_)
local macro_rules | `(tactic| walk_at "st") => `(tactic| with_reducible refine i_eqI ?_)
local macro_rules | `(tactic| walk_at "st") => `(tactic| with_reducible refine i_yes ?_)
local macro_rules | `(tactic| walk_at "st") => `(tactic| with_reducible refine i_gNi ?_)
local macro_rules | `(tactic| walk_at "st") => `(tactic| with_reducible refine i_gCo ?_)
local macro_rules | `(tactic| walk_at "st") => `(tactic| with_reducible refine i_gTu ?_)
local macro_rules | `(tactic| walk_at "st") => `(tactic| with_reducible refine i_gN ?_)
local macro_rules | `(tactic| walk_at "st") => `(tactic| with_reducible refine i_iR1 ?_)
local macro_rules | `(tactic| walk_at "st") => `(tactic| with_reducible refine i_iD ?_)
local macro_rules | `(tactic| walk_at "st") => `(tactic| with_reducible refine i_cdG ?_)
local macro_rules | `(tactic| walk_at "st") => `(tactic| with_reducible refine i_reverse ?_)
local macro_rules | `(tactic| walk_at "st") => `(tactic| with_reducible refine i_pop ?_)
local macro_rules | `(tactic| walk_at "st") => `(tactic| with_reducible refine i_extend ?_)
local macro_rules | `(tactic| walk_at "st") => `(tactic| with_reducible refine i_append ?_)
local macro_rules | `(tactic| walk_at "st") => `(tactic| with_reducible refine i_someP ?_)
local macro_rules | `(tactic| walk_at "st") => `(tactic| with_reducible refine i_noP ?_)
local macro_rules | `(tactic| walk_at "st") => `(tactic| with_reducible refine i_sl ?_)
local macro_rules | `(tactic| walk_at "st") => `(tactic| with_reducible refine i_call ?_)
local macro_rules | `(tactic| walk_at "st") => `(tactic| with_reducible refine i_cb ?_)
local macro_rules | `(tactic| walk_at "st") => `(tactic| with_reducible refine i_neg1 ?_)
local macro_rules | `(tactic| walk_at "st") => `(tactic| with_reducible refine i_neg ?_)
local macro_rules | `(tactic| walk_at "st") => `(tactic| with_reducible refine i_ifE ?_)
local macro_rules | `(tactic| walk_at "st") => `(tactic| with_reducible refine i_notV ?_)
local macro_rules | `(tactic| walk_at "st") => `(tactic| with_reducible refine i_orV ?_)
local macro_rules | `(tactic| walk_at "st") => `(tactic| with_reducible refine i_andV ?_)
local macro_rules | `(tactic| walk_at "st") => `(tactic| with_reducible refine i_not ?_)
local macro_rules | `(tactic| walk_at "st") => `(tactic| with_reducible refine i_or ?_)
local macro_rules | `(tactic| walk_at "st") => `(tactic| with_reducible refine i_and ?_)
local macro_rules | `(tactic| walk_at "st") => `(tactic| with_reducible refine i_tru ?_)
local macro_rules | `(tactic| walk_at "st") => `(tactic| with_reducible refine i_bl ?_)
local macro_rules | `(tactic| walk_at "st") => `(tactic| with_reducible refine i_tb ?_)
local macro_rules | `(tactic| walk_at "st") => `(tactic| with_reducible refine i_cons ?_)
local macro_rules | `(tactic| walk_at "st") => `(tactic| with_reducible refine i_nil ?_)
local macro_rules | `(tactic| walk_at "st") => `(tactic| with_reducible refine i_lst ?_)
local macro_rules | `(tactic| walk_at "st") => `(tactic| with_reducible refine i_tup ?_)
local macro_rules | `(tactic| walk_at "st") => `(tactic| with_reducible refine i_op ?_)
local macro_rules | `(tactic| walk_at "st") => `(tactic| with_reducible refine i_c ?_)
local macro_rules | `(tactic| walk_at "st") => `(tactic| with_reducible refine i_par2 ?_)
local macro_rules | `(tactic| walk_at "st") => `(tactic| with_reducible refine i_par ?_)
local macro_rules | `(tactic| walk_at "st") => `(tactic| with_reducible refine i_setL ?_)
local macro_rules | `(tactic| walk_at "st") => `(tactic| with_reducible refine i_cnt ?_)
local macro_rules | `(tactic| walk_at "st") => `(tactic| with_reducible refine i_brk ?_)
local macro_rules | `(tactic| walk_at "st") => `(tactic| with_reducible refine i_skip ?_)
local macro_rules | `(tactic| walk_at "st") => `(tactic| with_reducible refine i_if ?_)
local macro_rules | `(tactic| walk_at "st") => `(tactic| with_reducible refine i_retN ?_)
local macro_rules | `(tactic| walk_at "st") => `(tactic| with_reducible refine i_ret ?_)
local macro_rules | `(tactic| walk_at "st") => `(tactic| with_reducible refine i_drop ?_)
local macro_rules | `(tactic| walk_at "st") => `(tactic| with_reducible refine i_asg ?_)
local macro_rules | `(tactic| walk_at "st") => `(tactic| with_reducible refine i_set2 ?_)
local macro_rules | `(tactic| walk_at "st") => `(tactic| with_reducible refine i_set ?_)
local macro_rules | `(tactic| walk_at "st") => `(tactic| with_reducible refine i_seq ?_)
local macro_rules | `(tactic| walk_at "sts") => `(tactic| repeat walk_at "st")
def namPrev : Nat → DSp
  | 0 => fun _ _ _ _ => False
  | n + 1 => sp_law_sum_names n
def duePrev : Nat → DSp
  | 0 => fun _ _ _ _ => False
  | n + 1 => sp_law_due_names n
theorem rd_law_sum_names (N k : Nat) (ds : List D) (S : Sto) (Q : DK) (E : DX) (h : sp_law_sum_names N ds S Q E) : t_law_sum_names (namPrev N) k { nx := fun _ S' => Dn Q .non S', rt := Dn Q } (startD 1 ds) S := by
  obtain ⟨t, ht, hw, hk, hz, rfl, K⟩ := h
  unfold t_law_sum_names
  rcases t with n | s | ⟨o, a, b⟩ | ⟨n, a⟩ | ⟨o, a, n⟩ | a | ⟨o, x, a⟩
  · simp only [Tr.d]
    walk_at "sts"
    intro p hp
    exact i_dn (K p [] (fun x => by simp [Tr.free]) (Nat.zero_le _) hp)
  · simp only [Tr.d]
    walk_at "sts"
    intro p hp
    exact i_dn (K p [s] (fun x => by simp [Tr.free, eq_comm]) (Nat.le_refl 1) hp)
  · obtain ⟨M, rfl⟩ : ∃ M, N = M + 1 := ⟨N - 1, by have : (Tr.two o a b).ht = 1 + max a.ht b.ht := rfl; omega⟩
    have e1 : (Tr.two o a b).ht = 1 + max a.ht b.ht := rfl
    have e2 : (Tr.two o a b).sz = 1 + a.sz + b.sz := rfl
    obtain ⟨wa, wb, ka, kb⟩ := hw
    have hne : o = .plus ∨ o = .minus := by
      cases o <;> first | exact .inl rfl | exact .inr rfl | exact absurd hk (by decide +kernel : ¬ ("formula" : Str) = "sum")
    rcases hne with rfl | rfl <;>
    · simp only [Tr.d, Op2.w]
      walk_at "sts"
      refine ⟨a, by omega, wa, ka, by omega, rfl, fun p ys hy yl hp => ?_⟩
      walk_at "sts"
      refine ⟨b, by omega, wb, kb, by omega, rfl, fun q zs hz' zl hq => ?_⟩
      have hpq : p ≠ q := fun e => by subst e; rw [put_same] at hq; cases hq
      have hq0 : S q = none := by rw [put_ne (Ne.symm hpq)] at hq; exact hq
      refine ⟨_, _, (put_ne hpq).trans put_same, put_same, ?_, fun r hr => ?_⟩
      · rw [List.length_map, List.length_map]; exact Nat.le_trans (by omega : _ ≤ 20000) (by decide)
      · have hrp : r ≠ p := fun e => by subst e; rw [put_ne hpq, put_same] at hr; cases hr
        have hrq : r ≠ q := fun e => by subst e; rw [put_same] at hr; cases hr
        have hr0 : S r = none := by rw [put_ne hrq, put_ne hrp] at hr; exact hr
        rw [← List.map_append]
        refine i_dnL (lePut2 (lePut (lePut (Le.refl S) hp) hq0)) (K r (ys ++ zs) (fun x => ?_) (by rw [List.length_append]; omega) hr0)
        rw [List.mem_append, hy, hz']
        rfl
  · obtain ⟨M, rfl⟩ : ∃ M, N = M + 1 := ⟨N - 1, by have : (Tr.times n a).ht = 1 + a.ht := rfl; omega⟩
    have e1 : (Tr.times n a).ht = 1 + a.ht := rfl
    have e2 : (Tr.times n a).sz = 1 + a.sz := rfl
    simp only [Tr.d]
    walk_at "sts"
    exact ⟨a, by omega, hw.2.1, hw.2.2, by omega, rfl, fun p ys hy yl hp => i_dn (K p ys hy (by omega) hp)⟩
  · obtain ⟨M, rfl⟩ : ∃ M, N = M + 1 := ⟨N - 1, by have : (Tr.ovr o a n).ht = 1 + a.ht := rfl; omega⟩
    have e1 : (Tr.ovr o a n).ht = 1 + a.ht := rfl
    have e2 : (Tr.ovr o a n).sz = 1 + a.sz := rfl
    cases o <;>
    · simp only [Tr.d, Opd.w]
      walk_at "sts"
      exact ⟨a, by omega, hw.2.2.1, hw.2.2.2, by omega, rfl, fun p ys hy yl hp => i_dn (K p ys hy (by omega) hp)⟩
  · exact absurd hk (by decide +kernel : ¬ ("formula" : Str) = "sum")
  · exact absurd hk (by decide +kernel : ¬ ("formula" : Str) = "sum")
end K08
end
section
namespace K08
open PySem L2 DL DLZ TR PyProof.Rows
local macro_rules | `(tactic| walk_at "st") => `(tactic| ((with_reducible refine ifT ?he ?_); (case he => rfl)))
local macro_rules | `(tactic| walk_at "st") => `(tactic| ((with_reducible refine ifF ?he ?_); (case he => rfl)))
local macro_rules | `(tactic| walk_at "st") => `(tactic| ((with_reducible refine ifT ?he ?_); (case he => decide +kernel)))
local macro_rules | `(tactic| walk_at "st") => `(tactic| ((with_reducible refine ifF ?he ?_); (case he => decide +kernel)))
local macro_rules | `(tactic| walk_at "st") => `(tactic| ((with_reducible refine i_isiT (T := ?tt) (b := false) ?he ?hf ?_); (case he => rfl); (case hf => decide +kernel)))
local macro_rules | `(tactic| walk_at "st") => `(tactic| ((with_reducible refine i_isi (T := ?tt) (b := false) ?he ?hf ?_); (case he => rfl); (case hf => decide +kernel)))
local macro_rules | `(tactic| walk_at "st") => `(tactic| ((with_reducible refine i_isiT (T := ?tt) (b := true) ?he ?hf ?_); (case he => rfl); (case hf => decide +kernel)))
local macro_rules | `(tactic| walk_at "st") => `(tactic| ((with_reducible refine i_isi (T := ?tt) (b := true) ?he ?hf ?_); (case he => rfl); (case hf => decide +kernel)))
local macro_rules | `(tactic| walk_at "st") => `(tactic| ((with_reducible refine i_len ?he ?_); (case he => rfl)))
local macro_rules | `(tactic| walk_at "st") => `(tactic| ((with_reducible refine i_niT (v := ?vv) (us := ?uu) ?he ?hf ?_); (case he => rfl); (case hf => rfl)))
local macro_rules | `(tactic| walk_at "st") => `(tactic| ((with_reducible refine i_inT (v := ?vv) (us := ?uu) ?he ?hf ?_); (case he => rfl); (case hf => rfl)))
local macro_rules | `(tactic| walk_at "st") => `(tactic| ((with_reducible refine i_ixC (d := ?dd) ?he ?_); (case he => rfl)))
local macro_rules | `(tactic| walk_at "st") => `(tactic| ((with_reducible refine i_ixT (d := ?dd) ?he ?_); (case he => rfl)))
local macro_rules | `(tactic| walk_at "st") => `(tactic| ((with_reducible refine i_aug (x := ?dd) ?he ?_); (case he => rfl)))
local macro_rules | `(tactic| walk_at "st") => `(tactic| ((with_reducible refine i_var (d := ?dd) ?he ?_); (case he => rfl)))
local macro_rules | `(tactic| walk_at "st") => `(tactic| with_reducible refine i_truN ?_)
local macro_rules | `(tactic| walk_at "st") => `(tactic| with_reducible refine i_truT ?_)
local macro_rules | `(tactic| walk_at "st") => `(tactic| with_reducible refine i_truI ?_)
local macro_rules | `(tactic| walk_at "st") => `(tactic| with_reducible refine i_truB ?_)
local macro_rules | `(tactic| walk_at "st") => `(tactic| with_reducible refine i_tupT ?_)
local macro_rules | `(tactic| walk_at "st") => `(tactic| with_reducible refine i_slT ?_)
local macro_rules | `(tactic| walk_at "st") => `(tactic| with_reducible refine i_lenC ?_)
local macro_rules | `(tactic| walk_at "st") => `(tactic| with_reducible refine i_lenT ?_)
local macro_rules | `(tactic| walk_at "st") => `(tactic| with_reducible refine i_int1 ?_)
local macro_rules | `(tactic| walk_at "st") => `(tactic| with_reducible refine i_int ?_)
local macro_rules | `(tactic| walk_at "st") => `(tactic| with_reducible refine i_addII ?_)
local macro_rules | `(tactic| walk_at "st") => `(tactic| with_reducible refine i_addI ?_)
local macro_rules | `(tactic| walk_at "st") => `(tactic| with_reducible refine i_noN ?_)
local macro_rules | `(tactic| walk_at "st") => `(tactic| with_reducible refine i_isN ?_)
local macro_rules | `(tactic| walk_at "st") => `(tactic| with_reducible refine i_neS ?_)
local macro_rules | `(tactic| walk_at "st") => `(tactic| with_reducible refine i_neI ?_)
local macro_rules | `(tactic| walk_at "st") => `(tactic| with_reducible refine i_eqB ?_)
local macro_rules | `(tactic| walk_at "st") => `(tactic| with_reducible refine i_eqS ?_)
local macro_rules | `(tactic| walk_at "st") => `(tactic| with_reducible refine i_eqI ?_)
local macro_rules | `(tactic| walk_at "st") => `(tactic| with_reducible refine i_yes ?_)
local macro_rules | `(tactic| walk_at "st") => `(tactic| with_reducible refine i_gNi ?_)
local macro_rules | `(tactic| walk_at "st") => `(tactic| with_reducible refine i_gCo ?_)
local macro_rules | `(tactic| walk_at "st") => `(tactic| with_reducible refine i_gTu ?_)
local macro_rules | `(tactic| walk_at "st") => `(tactic| with_reducible refine i_gN ?_)
local macro_rules | `(tactic| walk_at "st") => `(tactic| with_reducible refine i_iR1 ?_)
local macro_rules | `(tactic| walk_at "st") => `(tactic| with_reducible refine i_iD ?_)
local macro_rules | `(tactic| walk_at "st") => `(tactic| with_reducible refine i_cdG ?_)
local macro_rules | `(tactic| walk_at "st") => `(tactic| with_reducible refine i_reverse ?_)
local macro_rules | `(tactic| walk_at "st") => `(tactic| with_reducible refine i_pop ?_)
local macro_rules | `(tactic| walk_at "st") => `(tactic| with_reducible refine i_extend ?_)
local macro_rules | `(tactic| walk_at "st") => `(tactic| with_reducible refine i_append ?_)
local macro_rules | `(tactic| walk_at "st") => `(tactic| with_reducible refine i_someP ?_)
local macro_rules | `(tactic| walk_at "st") => `(tactic| with_reducible refine i_noP ?_)
local macro_rules | `(tactic| walk_at "st") => `(tactic| with_reducible refine i_sl ?_)
local macro_rules | `(tactic| walk_at "st") => `(tactic| with_reducible refine i_call ?_)
local macro_rules | `(tactic| walk_at "st") => `(tactic| with_reducible refine i_cb ?_)
local macro_rules | `(tactic| walk_at "st") => `(tactic| with_reducible refine i_neg1 ?_)
local macro_rules | `(tactic| walk_at "st") => `(tactic| with_reducible refine i_neg ?_)
local macro_rules | `(tactic| walk_at "st") => `(tactic| with_reducible refine i_ifE ?_)
local macro_rules | `(tactic| walk_at "st") => `(tactic| with_reducible refine i_notV ?_)
local macro_rules | `(tactic| walk_at "st") => `(tactic| with_reducible refine i_orV ?_)
local macro_rules | `(tactic| walk_at "st") => `(tactic| with_reducible refine i_andV ?_)
local macro_rules | `(tactic| walk_at "st") => `(tactic| with_reducible refine i_not ?_)
local macro_rules | `(tactic| walk_at "st") => `(tactic| with_reducible refine i_or ?_)
local macro_rules | `(tactic| walk_at "st") => `(tactic| with_reducible refine i_and ?_)
local macro_rules | `(tactic| walk_at "st") => `(tactic| with_reducible refine i_tru ?_)
local macro_rules | `(tactic| walk_at "st") => `(tactic| with_reducible refine i_bl ?_)
local macro_rules | `(tactic| walk_at "st") => `(tactic| with_reducible refine i_tb ?_)
local macro_rules | `(tactic| walk_at "st") => `(tactic| with_reducible refine i_cons ?_)
local macro_rules | `(tactic| walk_at "st") => `(tactic| with_reducible refine i_nil ?_)
local macro_rules | `(tactic| walk_at "st") => `(tactic| with_reducible refine i_lst ?_)
local macro_rules | `(tactic| walk_at "st") => `(tactic| with_reducible refine i_tup ?_)
local macro_rules | `(tactic| walk_at "st") => `(tactic| with_reducible refine i_op ?_)
local macro_rules | `(tactic| walk_at "st") => `(tactic| with_reducible refine i_c ?_)
local macro_rules | `(tactic| walk_at "st") => `(tactic| with_reducible refine i_par2 ?_)
local macro_rules | `(tactic| walk_at "st") => `(tactic| with_reducible refine i_par ?_)
local macro_rules | `(tactic| walk_at "st") => `(tactic| with_reducible refine i_setL ?_)
local macro_rules | `(tactic| walk_at "st") => `(tactic| with_reducible refine i_cnt ?_)
local macro_rules | `(tactic| walk_at "st") => `(tactic| with_reducible refine i_brk ?_)
local macro_rules | `(tactic| walk_at "st") => `(tactic| with_reducible refine i_skip ?_)
local macro_rules | `(tactic| walk_at "st") => `(tactic| with_reducible refine i_if ?_)
local macro_rules | `(tactic| walk_at "st") => `(tactic| with_reducible refine i_retN ?_)
local macro_rules | `(tactic| walk_at "st") => `(tactic| with_reducible refine i_ret ?_)
local macro_rules | `(tactic| walk_at "st") => `(tactic| with_reducible refine i_drop ?_)
local macro_rules | `(tactic| walk_at "st") => `(tactic| with_reducible refine i_asg ?_)
local macro_rules | `(tactic| walk_at "st") => `(tactic| with_reducible refine i_set2 ?_)
local macro_rules | `(tactic| walk_at "st") => `(tactic| with_reducible refine i_set ?_)
local macro_rules | `(tactic| walk_at "st") => `(tactic| with_reducible refine i_seq ?_)
local macro_rules | `(tactic| walk_at "sts") => `(tactic| repeat walk_at "st")
theorem sum_free : ∀ (t : Tr) (l : List Str) (x : Str), t.wf → t.kind = "sum" → (t.free l x ↔ t.free [] x ∧ x ∉ l)
  | .num _, l, x, _, _ => by simp [Tr.free]
  | .nam s, l, x, _, _ => by
    simp only [Tr.free, List.not_mem_nil, not_false_eq_true, and_true]
  | .two o a b, l, x, ⟨h1, h2, h3, h4⟩, hk => by
    have hs : o.sub = "sum" := by cases o <;> first | rfl | exact absurd hk (by decide +kernel : ¬ ("formula" : Str) = "sum")
    rw [hs] at h3 h4
    have e1 := sum_free a l x h1 h3
    have e2 := sum_free b l x h2 h4
    simp only [Tr.free]
    rw [e1, e2]
    constructor
    · rintro (⟨h, n⟩ | ⟨h, n⟩)
      · exact ⟨.inl h, n⟩
      · exact ⟨.inr h, n⟩
    · rintro ⟨h | h, n⟩
      · exact .inl ⟨h, n⟩
      · exact .inr ⟨h, n⟩
  | .times n a, l, x, ⟨_, h1, h2⟩, _ => sum_free a l x h1 h2
  | .ovr o a n, l, x, ⟨_, _, h1, h2⟩, _ => sum_free a l x h1 h2
  | .neg a, l, x, _, hk => absurd hk (by decide +kernel : ¬ ("formula" : Str) = "sum")
  | .qn q y a, l, x, _, hk => absurd hk (by decide +kernel : ¬ ("formula" : Str) = "sum")
theorem due_lc {k : Nat} {a b : Tr} {w : Str} {u : Addr} {l : List Str} {S : Sto} {Q : DK} {e2 : Option D} (ha : a.wf ∧ a.kind = "sum" ∧ a.ht ≤ k) (hb : b.wf ∧ b.kind = "sum" ∧ b.ht ≤ k) (hz : l.length + a.sz + b.sz ≤ 10000) (hu : S u = some (.lst (l.map .str)))
    (K : ∀ p (ys : List Str), (∀ x, x ∈ ys ↔ a.free l x ∨ b.free l x) → ys.length ≤ a.sz + b.sz → S p = none → Q (.ref p) (put S p (.lst (ys.map .str)))) :
    dLc (iD (dOp oAdd (dCall (sp_law_sum_names k) (dCons (dOp ixA (dVar 0) (dC (.int 1))) (dNil))) (dCall (sp_law_sum_names k) (dCons (dOp ixA (dVar 0) (dC (.int 2))) (dNil))))) (gN 3) (dTB (dOp oNotIn (dVar 3) (dVar 1))) (dVar 3) [3] [some (.tup [.str w, a.d, b.d]), some (.ref u), e2, none] S (Dn Q) := by
  unfold dLc
  walk_at "sts"
  refine ⟨a, ha.2.2, ha.1, ha.2.1, by omega, rfl, fun p ys hy yl hp => ?_⟩
  walk_at "sts"
  refine ⟨b, hb.2.2, hb.1, hb.2.1, by omega, rfl, fun q zs hz' zl hq => ?_⟩
  have hpq : p ≠ q := fun e => by subst e; rw [put_same] at hq; cases hq
  have hq0 : S q = none := by rw [put_ne (Ne.symm hpq)] at hq; exact hq
  refine ⟨_, _, (put_ne hpq).trans put_same, put_same, ?_, fun r hr => ?_⟩
  · rw [List.length_map, List.length_map]; exact Nat.le_trans (by omega : _ ≤ 20000) (by decide)
  have hrp : r ≠ p := fun e => by subst e; rw [put_ne hpq, put_same] at hr; cases hr
  have hrq : r ≠ q := fun e => by subst e; rw [put_same] at hr; cases hr
  have hr0 : S r = none := by rw [put_ne hrq, put_ne hrp] at hr; exact hr
  have hur : u ≠ r := fun e => by subst e; rw [hu] at hr0; cases hr0
  rw [← List.map_append]
  refine ⟨(ys ++ zs).map .str, ?_, fun v hv => ?_⟩
  · show (match put _ r _ r with | some (.lst xs) => some xs | _ => none) = _
    rw [put_same]
  have hvr : v ≠ r := fun e => by subst e; rw [put_same] at hv; cases hv
  have hv0 : S v = none := by
    rw [put_ne hvr] at hv
    by_cases e1 : v = q
    · subst e1; rw [put_same] at hv; cases hv
    · by_cases e2 : v = p
      · subst e2; rw [put_ne e1, put_same] at hv; cases hv
      · rw [put_ne e1, put_ne e2] at hv; exact hv
  have L0 : Le S (put (put (put (put S p (.lst (ys.map .str))) q (.lst (zs.map .str))) r (.lst ((ys ++ zs).map .str))) v (.lst [])) := lePut (lePut (lePut (lePut (Le.refl S) hp) hq0) hr0) hv0
  refine ⟨fun i acc S2 => ∃ ns : List Str, acc = ns.map .str ∧ (∀ x, x ∈ ns ↔ x ∈ (ys ++ zs).take i ∧ x ∉ l) ∧ ns.length ≤ i ∧ S2 v = some (.lst acc) ∧ S2 r = some (.lst ((ys ++ zs).map .str)) ∧ Le S S2,
    ⟨[], rfl, by simp, by simp, put_same, (put_ne (Ne.symm hvr)).trans put_same, L0⟩, fun i acc S2 _ w => ?_, fun i x acc S2 hx w => ?_, fun acc S2 w => ?_⟩
  · obtain ⟨ns, _, _, _, _, h, _⟩ := w
    exact h
  · obtain ⟨ns, rfl, h1, h2, h3, h4, h5⟩ := w
    rw [List.getElem?_map] at hx
    obtain ⟨s, hs, rfl⟩ := Option.map_eq_some_iff.mp hx
    have hi : i < (ys ++ zs).length := (List.getElem?_eq_some_iff.mp hs).1
    rw [List.length_append] at hi
    have ht : (ys ++ zs).take (i + 1) = (ys ++ zs).take i ++ [s] := by rw [List.take_add_one, hs]; rfl
    walk_at "sts"
    refine i_niRs (h5 _ _ hu) ?_
    walk_at "sts"
    refine ifN (fun hn => ?_) fun hn => ?_
    · walk_at "sts"
      refine ⟨h3, ?_, ns ++ [s], by rw [List.map_append]; rfl, fun x => ?_, by rw [List.length_append, List.length_singleton]; omega, put_same, (put_ne (Ne.symm hvr)).trans h4, lePut h5 hv0⟩
      · rw [List.length_map]; exact Nat.lt_of_le_of_lt (by omega : _ ≤ 20000) (by decide)
      · rw [List.mem_append, h1, ht, List.mem_append, List.mem_singleton]
        constructor
        · rintro (⟨h, n⟩ | rfl)
          · exact ⟨.inl h, n⟩
          · exact ⟨.inr rfl, hn⟩
        · rintro ⟨h | rfl, n⟩
          · exact .inl ⟨h, n⟩
          · exact .inr rfl
    · refine ⟨ns, rfl, fun x => ?_, by omega, h3, h4, h5⟩
      rw [h1, ht, List.mem_append, List.mem_singleton]
      constructor
      · rintro ⟨h, n⟩
        exact ⟨.inl h, n⟩
      · rintro ⟨h | rfl, n⟩
        · exact ⟨h, n⟩
        · exact absurd hn n
  · obtain ⟨ns, rfl, h1, h2, h3, h4, h5⟩ := w
    rw [List.length_map, List.take_length] at h1
    rw [List.length_map, List.length_append] at h2
    refine i_dnL (S' := put S v (.lst (ns.map .str))) (fun c cl hc => ?_) (K v ns (fun x => ?_) (by omega) hv0)
    · by_cases e : c = v
      · subst e; rw [put_same] at hc; rw [h3]; exact hc
      · rw [put_ne e] at hc; exact h5 _ _ hc
    · rw [h1, List.mem_append, hy, hz', sum_free a l x ha.1 ha.2.1, sum_free b l x hb.1 hb.2.1]
      constructor
      · rintro ⟨h | h, n⟩
        · exact .inl ⟨h, n⟩
        · exact .inr ⟨h, n⟩
      · rintro (⟨h, n⟩ | ⟨h, n⟩)
        · exact ⟨.inl h, n⟩
        · exact ⟨.inr h, n⟩
theorem rd_law_due_names (k : Nat) (ds : List D) (S : Sto) (Q : DK) (E : DX) (h : sp_law_due_names (k + 1) ds S Q E) : t_law_due_names (sp_law_due_names k) k { nx := fun _ S' => Dn Q .non S', rt := Dn Q } (startD 4 ds) S := by
  obtain ⟨t, u, l, ht, hw, hk, hz, rfl, hu, K⟩ := h
  unfold t_law_due_names
  rcases t with n | s | ⟨o, a, b⟩ | ⟨n, a⟩ | ⟨o, a, n⟩ | a | ⟨o, x, a⟩
  · exact absurd hk (by decide +kernel : ¬ ("sum" : Str) = "formula")
  · exact absurd hk (by decide +kernel : ¬ ("sum" : Str) = "formula")
  · have e1 : (Tr.two o a b).ht = 1 + max a.ht b.ht := rfl
    have e2 : (Tr.two o a b).sz = 1 + a.sz + b.sz := rfl
    obtain ⟨wa, wb, ka, kb⟩ := hw
    by_cases hj : o = .and ∨ o = .or
    · rcases hj with rfl | rfl <;>
      · simp only [Tr.d, Op2.w]
        walk_at "sts"
        refine ⟨a, u, l, by omega, wa, ka, by omega, rfl, hu, fun p ys hy yl hp => ?_⟩
        have hup : u ≠ p := fun e => by subst e; rw [hu] at hp; cases hp
        walk_at "sts"
        refine ⟨b, u, l, by omega, wb, kb, by omega, rfl, (put_ne hup).trans hu, fun q zs hz' zl hq => ?_⟩
        have hpq : p ≠ q := fun e => by subst e; rw [put_same] at hq; cases hq
        have hq0 : S q = none := by rw [put_ne (Ne.symm hpq)] at hq; exact hq
        refine ⟨_, _, (put_ne hpq).trans put_same, put_same, ?_, fun r hr => ?_⟩
        · rw [List.length_map, List.length_map]; exact Nat.le_trans (by omega : _ ≤ 20000) (by decide)
        · have hrp : r ≠ p := fun e => by subst e; rw [put_ne hpq, put_same] at hr; cases hr
          have hrq : r ≠ q := fun e => by subst e; rw [put_same] at hr; cases hr
          have hr0 : S r = none := by rw [put_ne hrq, put_ne hrp] at hr; exact hr
          rw [← List.map_append]
          refine i_dnL (lePut2 (lePut (lePut (Le.refl S) hp) hq0)) (K r (ys ++ zs) (fun x => ?_) (by rw [List.length_append]; omega) hr0)
          rw [List.mem_append, hy, hz']
          rfl
    · have hs : o.sub = "sum" ∧ o ≠ .and ∧ o ≠ .or ∧ o ≠ .plus ∧ o ≠ .minus := by
        cases o <;> first | exact (hj (.inl rfl)).elim | exact (hj (.inr rfl)).elim | exact absurd hk (by decide +kernel : ¬ ("sum" : Str) = "formula") | exact ⟨rfl, (by intro h; cases h), (by intro h; cases h), (by intro h; cases h), (by intro h; cases h)⟩
      rw [hs.1] at ka kb
      obtain ⟨_, n1, n2, n3, n4⟩ := hs
      have fin := fun e2 => due_lc (k := k) (Q := Q) (w := o.w) (e2 := e2) (u := u) (S := S) ⟨wa, ka, by omega⟩ ⟨wb, kb, by omega⟩ (by omega) hu (fun p ys hy hl hp => K p ys hy (by omega) hp)
      cases o <;> first | exact absurd rfl n1 | exact absurd rfl n2 | exact absurd rfl n3 | exact absurd rfl n4 |
        (simp only [Tr.d, Op2.w]
         walk_at "sts"
         exact fin _)
  · exact absurd hk (by decide +kernel : ¬ ("sum" : Str) = "formula")
  · exact absurd hk (by decide +kernel : ¬ ("sum" : Str) = "formula")
  · have e1 : (Tr.neg a).ht = 1 + a.ht := rfl
    have e2 : (Tr.neg a).sz = 1 + a.sz := rfl
    simp only [Tr.d]
    walk_at "sts"
    exact ⟨a, u, l, by omega, hw.1, hw.2, by omega, rfl, hu, fun p ys hy yl hp => i_dn (K p ys hy (by omega) hp)⟩
  · have e1 : (Tr.qn o x a).ht = 1 + a.ht := rfl
    have e2 : (Tr.qn o x a).sz = 1 + a.sz := rfl
    cases o <;>
    · simp only [Tr.d, Qn.w]
      walk_at "sts"
      intro p hp
      have hup : u ≠ p := fun e => by subst e; rw [hu] at hp; cases hp
      refine ⟨_, _, (put_ne hup).trans hu, put_same, ?_, fun r hr => ?_⟩
      · rw [List.length_map]; exact Nat.le_trans (by simp only [List.length_singleton]; omega : _ ≤ 20000) (by decide)
      have hrp : r ≠ p := fun e => by subst e; rw [put_same] at hr; cases hr
      have hr0 : S r = none := by rw [put_ne hrp] at hr; exact hr
      walk_at "sts"
      refine ⟨a, r, l ++ [x], by omega, hw.2.1, hw.2.2, by rw [List.length_append, List.length_singleton]; omega, rfl, by rw [put_same, List.map_append]; rfl, fun q ys hy yl hq => ?_⟩
      have hq0 : S q = none := by
        have hqr : q ≠ r := fun e => by subst e; rw [put_same] at hq; cases hq
        have hqp : q ≠ p := fun e => by subst e; rw [put_ne hqr, put_same] at hq; cases hq
        rw [put_ne hqr, put_ne hqp] at hq; exact hq
      refine i_dnL (lePut2 (lePut (lePut (Le.refl S) hp) hr0)) (K q ys (fun y => ?_) (by omega) hq0)
      rw [hy]
      show _ ↔ a.free (x :: l) y
      exact Tr.free_congr a y fun z => by simp [or_comm]
end K08
end
section
namespace K08
open PySem L2 DL DLZ TR PyProof.Rows
local macro_rules | `(tactic| walk_at "st") => `(tactic| ((with_reducible refine ifT ?he ?_); (case he => rfl)))
local macro_rules | `(tactic| walk_at "st") => `(tactic| ((with_reducible refine ifF ?he ?_); (case he => rfl)))
local macro_rules | `(tactic| walk_at "st") => `(tactic| ((with_reducible refine ifT ?he ?_); (case he => decide +kernel)))
local macro_rules | `(tactic| walk_at "st") => `(tactic| ((with_reducible refine ifF ?he ?_); (case he => decide +kernel)))
local macro_rules | `(tactic| walk_at "st") => `(tactic| ((with_reducible refine i_isiT (T := ?tt) (b := false) ?he ?hf ?_); (case he => rfl); (case hf => decide +kernel)))
local macro_rules | `(tactic| walk_at "st") => `(tactic| ((with_reducible refine i_isi (T := ?tt) (b := false) ?he ?hf ?_); (case he => rfl); (case hf => decide +kernel)))
local macro_rules | `(tactic| walk_at "st") => `(tactic| ((with_reducible refine i_isiT (T := ?tt) (b := true) ?he ?hf ?_); (case he => rfl); (case hf => decide +kernel)))
local macro_rules | `(tactic| walk_at "st") => `(tactic| ((with_reducible refine i_isi (T := ?tt) (b := true) ?he ?hf ?_); (case he => rfl); (case hf => decide +kernel)))
local macro_rules | `(tactic| walk_at "st") => `(tactic| ((with_reducible refine i_len ?he ?_); (case he => rfl)))
local macro_rules | `(tactic| walk_at "st") => `(tactic| ((with_reducible refine i_niT (v := ?vv) (us := ?uu) ?he ?hf ?_); (case he => rfl); (case hf => rfl)))
local macro_rules | `(tactic| walk_at "st") => `(tactic| ((with_reducible refine i_inT (v := ?vv) (us := ?uu) ?he ?hf ?_); (case he => rfl); (case hf => rfl)))
local macro_rules | `(tactic| walk_at "st") => `(tactic| ((with_reducible refine i_ixC (d := ?dd) ?he ?_); (case he => rfl)))
local macro_rules | `(tactic| walk_at "st") => `(tactic| ((with_reducible refine i_ixT (d := ?dd) ?he ?_); (case he => rfl)))
local macro_rules | `(tactic| walk_at "st") => `(tactic| ((with_reducible refine i_aug (x := ?dd) ?he ?_); (case he => rfl)))
local macro_rules | `(tactic| walk_at "st") => `(tactic| ((with_reducible refine i_var (d := ?dd) ?he ?_); (case he => rfl)))
local macro_rules | `(tactic| walk_at "st") => `(tactic| with_reducible refine i_truN ?_)
local macro_rules | `(tactic| walk_at "st") => `(tactic| with_reducible refine i_truT ?_)
local macro_rules | `(tactic| walk_at "st") => `(tactic| with_reducible refine i_truI ?_)
local macro_rules | `(tactic| walk_at "st") => `(tactic| with_reducible refine i_truB ?_)
local macro_rules | `(tactic| walk_at "st") => `(tactic| with_reducible refine i_tupT ?_)
local macro_rules | `(tactic| walk_at "st") => `(tactic| with_reducible refine i_slT ?_)
local macro_rules | `(tactic| walk_at "st") => `(tactic| with_reducible refine i_lenC ?_)
local macro_rules | `(tactic| walk_at "st") => `(tactic| with_reducible refine i_lenT ?_)
local macro_rules | `(tactic| walk_at "st") => `(tactic| with_reducible refine i_int1 ?_)
local macro_rules | `(tactic| walk_at "st") => `(tactic| with_reducible refine i_int ?_)
local macro_rules | `(tactic| walk_at "st") => `(tactic| with_reducible refine i_addII ?_)
local macro_rules | `(tactic| walk_at "st") => `(tactic| with_reducible refine i_addI ?_)
local macro_rules | `(tactic| walk_at "st") => `(tactic| with_reducible refine i_noN ?_)
local macro_rules | `(tactic| walk_at "st") => `(tactic| with_reducible refine i_isN ?_)
local macro_rules | `(tactic| walk_at "st") => `(tactic| with_reducible refine i_neS ?_)
local macro_rules | `(tactic| walk_at "st") => `(tactic| with_reducible refine i_neI ?_)
local macro_rules | `(tactic| walk_at "st") => `(tactic| with_reducible refine i_eqB ?_)
local macro_rules | `(tactic| walk_at "st") => `(tactic| with_reducible refine i_eqS ?_)
local macro_rules | `(tactic| walk_at "st") => `(tactic| with_reducible refine i_eqI ?_)
local macro_rules | `(tactic| walk_at "st") => `(tactic| with_reducible refine i_yes ?_)
local macro_rules | `(tactic| walk_at "st") => `(tactic| with_reducible refine i_gNi ?_)
local macro_rules | `(tactic| walk_at "st") => `(tactic| with_reducible refine i_gCo ?_)
local macro_rules | `(tactic| walk_at "st") => `(tactic| with_reducible refine i_gTu ?_)
local macro_rules | `(tactic| walk_at "st") => `(tactic| with_reducible refine i_gN ?_)
local macro_rules | `(tactic| walk_at "st") => `(tactic| with_reducible refine i_iR1 ?_)
local macro_rules | `(tactic| walk_at "st") => `(tactic| with_reducible refine i_iD ?_)
local macro_rules | `(tactic| walk_at "st") => `(tactic| with_reducible refine i_cdG ?_)
local macro_rules | `(tactic| walk_at "st") => `(tactic| with_reducible refine i_reverse ?_)
local macro_rules | `(tactic| walk_at "st") => `(tactic| with_reducible refine i_pop ?_)
local macro_rules | `(tactic| walk_at "st") => `(tactic| with_reducible refine i_extend ?_)
local macro_rules | `(tactic| walk_at "st") => `(tactic| with_reducible refine i_append ?_)
local macro_rules | `(tactic| walk_at "st") => `(tactic| with_reducible refine i_someP ?_)
local macro_rules | `(tactic| walk_at "st") => `(tactic| with_reducible refine i_noP ?_)
local macro_rules | `(tactic| walk_at "st") => `(tactic| with_reducible refine i_sl ?_)
local macro_rules | `(tactic| walk_at "st") => `(tactic| with_reducible refine i_call ?_)
local macro_rules | `(tactic| walk_at "st") => `(tactic| with_reducible refine i_cb ?_)
local macro_rules | `(tactic| walk_at "st") => `(tactic| with_reducible refine i_neg1 ?_)
local macro_rules | `(tactic| walk_at "st") => `(tactic| with_reducible refine i_neg ?_)
local macro_rules | `(tactic| walk_at "st") => `(tactic| with_reducible refine i_ifE ?_)
local macro_rules | `(tactic| walk_at "st") => `(tactic| with_reducible refine i_notV ?_)
local macro_rules | `(tactic| walk_at "st") => `(tactic| with_reducible refine i_orV ?_)
local macro_rules | `(tactic| walk_at "st") => `(tactic| with_reducible refine i_andV ?_)
local macro_rules | `(tactic| walk_at "st") => `(tactic| with_reducible refine i_not ?_)
local macro_rules | `(tactic| walk_at "st") => `(tactic| with_reducible refine i_or ?_)
local macro_rules | `(tactic| walk_at "st") => `(tactic| with_reducible refine i_and ?_)
local macro_rules | `(tactic| walk_at "st") => `(tactic| with_reducible refine i_tru ?_)
local macro_rules | `(tactic| walk_at "st") => `(tactic| with_reducible refine i_bl ?_)
local macro_rules | `(tactic| walk_at "st") => `(tactic| with_reducible refine i_tb ?_)
local macro_rules | `(tactic| walk_at "st") => `(tactic| with_reducible refine i_cons ?_)
local macro_rules | `(tactic| walk_at "st") => `(tactic| with_reducible refine i_nil ?_)
local macro_rules | `(tactic| walk_at "st") => `(tactic| with_reducible refine i_lst ?_)
local macro_rules | `(tactic| walk_at "st") => `(tactic| with_reducible refine i_tup ?_)
local macro_rules | `(tactic| walk_at "st") => `(tactic| with_reducible refine i_op ?_)
local macro_rules | `(tactic| walk_at "st") => `(tactic| with_reducible refine i_c ?_)
local macro_rules | `(tactic| walk_at "st") => `(tactic| with_reducible refine i_par2 ?_)
local macro_rules | `(tactic| walk_at "st") => `(tactic| with_reducible refine i_par ?_)
local macro_rules | `(tactic| walk_at "st") => `(tactic| with_reducible refine i_setL ?_)
local macro_rules | `(tactic| walk_at "st") => `(tactic| with_reducible refine i_cnt ?_)
local macro_rules | `(tactic| walk_at "st") => `(tactic| with_reducible refine i_brk ?_)
local macro_rules | `(tactic| walk_at "st") => `(tactic| with_reducible refine i_skip ?_)
local macro_rules | `(tactic| walk_at "st") => `(tactic| with_reducible refine i_if ?_)
local macro_rules | `(tactic| walk_at "st") => `(tactic| with_reducible refine i_retN ?_)
local macro_rules | `(tactic| walk_at "st") => `(tactic| with_reducible refine i_ret ?_)
local macro_rules | `(tactic| walk_at "st") => `(tactic| with_reducible refine i_drop ?_)
local macro_rules | `(tactic| walk_at "st") => `(tactic| with_reducible refine i_asg ?_)
local macro_rules | `(tactic| walk_at "st") => `(tactic| with_reducible refine i_set2 ?_)
local macro_rules | `(tactic| walk_at "st") => `(tactic| with_reducible refine i_set ?_)
local macro_rules | `(tactic| walk_at "st") => `(tactic| with_reducible refine i_seq ?_)
local macro_rules | `(tactic| walk_at "sts") => `(tactic| repeat walk_at "st")
theorem atI_of {α : Type} {xs : List α} {i : Nat} {x : α} (h : xs[i]? = some x) : L2.atI xs (i : Int) = some x := by
  have hl : i < xs.length := (List.getElem?_eq_some_iff.mp h).1
  have e : ixN xs.length (i : Int) = some i := by
    unfold ixN
    rw [if_pos (by omega), if_pos (by omega)]
    rfl
  unfold L2.atI
  rw [e]
  exact h
def prd (d : D) : D := .tup [d, d]
def wtd (n : Nat) : D → Nat
  | .tup _ => n + 1
  | _ => 1
structure KsW (xs : List Str) (S : Sto) (m : Nat) (ε : DL.Env) (S1 : Sto) (p : Addr) (ds : List D) (e3 e4 : Option D) : Prop where
  e : ε = [some (.tup (xs.map .str)), some (.tup (xs.map .str)), some (.ref p), e3, e4, none]
  s : S1 p = some (.lst (ds.map prd))
  l : Le S S1
  o : ∀ d ∈ ds, d = .tup (xs.map .str) ∨ ∃ s : Str, d = .str s
  em : m = (ds.map (wtd xs.length)).sum
  bd : m ≤ 100001
  f : S p = none
theorem Le.none {S S1 : Sto} {p : Addr} (h : Le S S1) (e : S1 p = none) : S p = none := by
  cases q : S p with
  | none => rfl
  | some c => rw [h p c q] at e; cases e
theorem ds_len {n : Nat} : ∀ {ds : List D}, ds.length ≤ (ds.map (wtd n)).sum
  | [] => Nat.le_refl 0
  | d :: ds => by
    have := ds_len (n := n) (ds := ds)
    have h : 1 ≤ wtd n d := by
      unfold wtd
      split <;> omega
    rw [List.length_cons, List.map_cons, List.sum_cons]
    omega
theorem strs_sum {n : Nat} : ∀ {xs : List Str}, (((xs.map D.str).map (wtd n))).sum = xs.length
  | [] => rfl
  | x :: xs => by
    have := strs_sum (n := n) (xs := xs)
    rw [List.map_cons, List.map_cons, List.sum_cons, this, List.length_cons]
    show 1 + xs.length = _
    omega
theorem rd_law_kind_same (ds : List D) (S : Sto) (Q : DK) (E : DX) (h : sp_law_kind_same ds S Q E) : t_law_kind_same { nx := fun _ S' => Dn Q .non S', rt := Dn Q } (startD 6 ds) S := by
  obtain ⟨xs, rfl, hx, q⟩ := h
  unfold t_law_kind_same
  walk_at "sts"
  intro p hp
  walk_at "sts"
  refine ⟨fun m ε S1 => ∃ p ds e3 e4, KsW xs S m ε S1 p ds e3 e4, ⟨_, p, [.tup (xs.map .str)], none, none, rfl, put_same, lePut (Le.refl S) hp, fun d hd => .inl (List.mem_singleton.mp hd), rfl, by show xs.length + 1 + 0 ≤ _; omega, hp⟩, fun m ε S1 w => ?_⟩
  obtain ⟨p, ds, e3, e4, rfl, h1, h2, h3, rfl, h5, h6⟩ := w
  walk_at "sts"
  refine i_truR h1 ?_
  rcases nilOrApp ds with rfl | ⟨r, d, rfl⟩
  · walk_at "sts"
    exact i_dnL h2 q
  · refine ifT (by simp) ?_
    walk_at "sts"
    have hd : ((r ++ [d]).map prd).dropLast = r.map prd := by rw [List.map_append, List.map_singleton, List.dropLast_concat]
    have hm : ((r ++ [d]).map (wtd xs.length)).sum = (r.map (wtd xs.length)).sum + wtd xs.length d := by rw [List.map_append, List.sum_append, List.map_singleton, List.sum_singleton]
    refine ⟨p, _, prd d, rfl, h1, by simp, ?_⟩
    rw [hd]
    rw [hm] at h5 ⊢
    have ho : ∀ d ∈ r, d = .tup (xs.map .str) ∨ ∃ s : Str, d = .str s := fun d hd => h3 d (by simp [hd])
    have hl : r.length ≤ (r.map (wtd xs.length)).sum := ds_len
    show gTu _ (.tup [d, d]) _ _ _
    have hpS : Le S (put S1 p (.lst (r.map prd))) := lePut h2 h6
    rcases h3 d (by simp) with rfl | ⟨s, rfl⟩
    · walk_at "sts"
      refine i_ne (v := .bl false) (w := .bl false) rfl rfl rfl ?_
      walk_at "sts"
      refine ifF (by simp) ?_
      walk_at "sts"
      unfold dLc
      walk_at "sts"
      rw [List.length_map]
      refine ⟨Int.le_trans (by decide) (Int.natCast_nonneg _), by omega, fun v hv => ?_⟩
      have hpv : p ≠ v := fun e => by subst e; rw [put_same] at hv; cases hv
      have hv0 : S v = none := Le.none hpS hv
      refine ⟨fun i acc S2 => acc = (xs.take i).map (fun s => prd (.str s)) ∧ S2 v = some (.lst acc) ∧ S2 p = some (.lst (r.map prd)) ∧ Le S S2, ⟨by simp, put_same, (put_ne hpv).trans put_same, lePut hpS hv0⟩, fun _ _ _ _ _ => trivial, fun i x acc S2 hx' w => ?_, fun acc S2 w => ?_⟩
      · obtain ⟨rfl, g1, g2, g3⟩ := w
        rw [List.getElem?_map] at hx'
        obtain ⟨j, hj, rfl⟩ := Option.map_eq_some_iff.mp hx'
        rw [Int.toNat_natCast] at hj
        have hij : i < xs.length ∧ j = i := by
          have e1 := (List.getElem?_eq_some_iff.mp hj).1
          rw [List.length_range] at e1
          rw [List.getElem?_range e1] at hj
          exact ⟨e1, (Option.some.inj hj).symm⟩
        obtain ⟨hi, rfl⟩ := hij
        have hs : xs[j]? = some xs[j] := List.getElem?_eq_getElem hi
        have ha : L2.atI (xs.map D.str) (j : Int) = some (.str xs[j]) := atI_of (by rw [List.getElem?_map, hs]; rfl)
        walk_at "sts"
        refine i_ixT ha ?_
        walk_at "sts"
        refine i_ixT ha ?_
        walk_at "sts"
        refine ⟨g1, ?_, ?_, put_same, (put_ne hpv).trans g2, lePut g3 hv0⟩
        · rw [List.length_map, List.length_take]; exact Nat.lt_of_lt_of_le (by omega : _ < 100001) (by decide)
        · rw [List.take_add_one, hs, List.map_append]; rfl
      · obtain ⟨rfl, g1, g2, g3⟩ := w
        have hlr : ((List.range (xs.length : Int).toNat).map fun (i : Nat) => D.int (i : Int)).length = xs.length := by rw [List.length_map, List.length_range, Int.toNat_natCast]
        rw [hlr, List.take_length] at g1
        have hw : wtd xs.length (.tup (xs.map .str)) = xs.length + 1 := rfl
        refine ⟨_, _, g2, g1, ?_, fun z hz => ?_⟩
        · rw [List.length_map, List.length_map]; exact Nat.le_trans (by omega : _ ≤ 200002) (by decide)
        · have e : r.map prd ++ xs.map (fun s => prd (D.str s)) = (r ++ xs.map D.str).map prd := by rw [List.map_append, List.map_map]; rfl
          have es : ((r ++ xs.map D.str).map (wtd xs.length)).sum = (r.map (wtd xs.length)).sum + xs.length := by rw [List.map_append, List.sum_append, strs_sum]
          have hz0 : S z = none := Le.none g3 hz
          walk_at "sts"
          rw [e]
          refine ⟨_, ?_, z, r ++ xs.map .str, _, _, rfl, put_same, lePut g3 hz0, fun d hd => ?_, rfl, ?_, hz0⟩
          · rw [es]; omega
          · rcases List.mem_append.mp hd with h | h
            · exact ho d h
            · obtain ⟨s, _, rfl⟩ := List.mem_map.mp h
              exact .inr ⟨s, rfl⟩
          · rw [es]; omega
    · walk_at "sts"
      refine ifF (by simp) ?_
      walk_at "sts"
      exact ⟨_, Nat.lt_succ_self _, p, r, _, _, rfl, put_same, hpS, ho, rfl, by omega, h6⟩
end K08
end
section
namespace K08
open PySem L2 DL DLZ TR PyProof.Rows
local macro_rules | `(tactic| walk_at "st") => `(tactic| ((with_reducible refine ifT ?he ?_); (case he => rfl)))
local macro_rules | `(tactic| walk_at "st") => `(tactic| ((with_reducible refine ifF ?he ?_); (case he => rfl)))
local macro_rules | `(tactic| walk_at "st") => `(tactic| ((with_reducible refine ifT ?he ?_); (case he => decide +kernel)))
local macro_rules | `(tactic| walk_at "st") => `(tactic| ((with_reducible refine ifF ?he ?_); (case he => decide +kernel)))
local macro_rules | `(tactic| walk_at "st") => `(tactic| ((with_reducible refine i_isiT (T := ?tt) (b := false) ?he ?hf ?_); (case he => rfl); (case hf => decide +kernel)))
local macro_rules | `(tactic| walk_at "st") => `(tactic| ((with_reducible refine i_isi (T := ?tt) (b := false) ?he ?hf ?_); (case he => rfl); (case hf => decide +kernel)))
local macro_rules | `(tactic| walk_at "st") => `(tactic| ((with_reducible refine i_isiT (T := ?tt) (b := true) ?he ?hf ?_); (case he => rfl); (case hf => decide +kernel)))
local macro_rules | `(tactic| walk_at "st") => `(tactic| ((with_reducible refine i_isi (T := ?tt) (b := true) ?he ?hf ?_); (case he => rfl); (case hf => decide +kernel)))
local macro_rules | `(tactic| walk_at "st") => `(tactic| ((with_reducible refine i_len ?he ?_); (case he => rfl)))
local macro_rules | `(tactic| walk_at "st") => `(tactic| ((with_reducible refine i_niT (v := ?vv) (us := ?uu) ?he ?hf ?_); (case he => rfl); (case hf => rfl)))
local macro_rules | `(tactic| walk_at "st") => `(tactic| ((with_reducible refine i_inT (v := ?vv) (us := ?uu) ?he ?hf ?_); (case he => rfl); (case hf => rfl)))
local macro_rules | `(tactic| walk_at "st") => `(tactic| ((with_reducible refine i_ixC (d := ?dd) ?he ?_); (case he => rfl)))
local macro_rules | `(tactic| walk_at "st") => `(tactic| ((with_reducible refine i_ixT (d := ?dd) ?he ?_); (case he => rfl)))
local macro_rules | `(tactic| walk_at "st") => `(tactic| ((with_reducible refine i_aug (x := ?dd) ?he ?_); (case he => rfl)))
local macro_rules | `(tactic| walk_at "st") => `(tactic| ((with_reducible refine i_var (d := ?dd) ?he ?_); (case he => rfl)))
local macro_rules | `(tactic| walk_at "st") => `(tactic| with_reducible refine i_truN ?_)
local macro_rules | `(tactic| walk_at "st") => `(tactic| with_reducible refine i_truT ?_)
local macro_rules | `(tactic| walk_at "st") => `(tactic| with_reducible refine i_truI ?_)
local macro_rules | `(tactic| walk_at "st") => `(tactic| with_reducible refine i_truB ?_)
local macro_rules | `(tactic| walk_at "st") => `(tactic| with_reducible refine i_tupT ?_)
local macro_rules | `(tactic| walk_at "st") => `(tactic| with_reducible refine i_slT ?_)
local macro_rules | `(tactic| walk_at "st") => `(tactic| with_reducible refine i_lenC ?_)
local macro_rules | `(tactic| walk_at "st") => `(tactic| with_reducible refine i_lenT ?_)
local macro_rules | `(tactic| walk_at "st") => `(tactic| with_reducible refine i_int1 ?_)
local macro_rules | `(tactic| walk_at "st") => `(tactic| with_reducible refine i_int ?_)
local macro_rules | `(tactic| walk_at "st") => `(tactic| with_reducible refine i_addII ?_)
local macro_rules | `(tactic| walk_at "st") => `(tactic| with_reducible refine i_addI ?_)
local macro_rules | `(tactic| walk_at "st") => `(tactic| with_reducible refine i_noN ?_)
local macro_rules | `(tactic| walk_at "st") => `(tactic| with_reducible refine i_isN ?_)
local macro_rules | `(tactic| walk_at "st") => `(tactic| with_reducible refine i_neS ?_)
local macro_rules | `(tactic| walk_at "st") => `(tactic| with_reducible refine i_neI ?_)
local macro_rules | `(tactic| walk_at "st") => `(tactic| with_reducible refine i_eqB ?_)
local macro_rules | `(tactic| walk_at "st") => `(tactic| with_reducible refine i_eqS ?_)
local macro_rules | `(tactic| walk_at "st") => `(tactic| with_reducible refine i_eqI ?_)
local macro_rules | `(tactic| walk_at "st") => `(tactic| with_reducible refine i_yes ?_)
local macro_rules | `(tactic| walk_at "st") => `(tactic| with_reducible refine i_gNi ?_)
local macro_rules | `(tactic| walk_at "st") => `(tactic| with_reducible refine i_gCo ?_)
local macro_rules | `(tactic| walk_at "st") => `(tactic| with_reducible refine i_gTu ?_)
local macro_rules | `(tactic| walk_at "st") => `(tactic| with_reducible refine i_gN ?_)
local macro_rules | `(tactic| walk_at "st") => `(tactic| with_reducible refine i_iR1 ?_)
local macro_rules | `(tactic| walk_at "st") => `(tactic| with_reducible refine i_iD ?_)
local macro_rules | `(tactic| walk_at "st") => `(tactic| with_reducible refine i_cdG ?_)
local macro_rules | `(tactic| walk_at "st") => `(tactic| with_reducible refine i_reverse ?_)
local macro_rules | `(tactic| walk_at "st") => `(tactic| with_reducible refine i_pop ?_)
local macro_rules | `(tactic| walk_at "st") => `(tactic| with_reducible refine i_extend ?_)
local macro_rules | `(tactic| walk_at "st") => `(tactic| with_reducible refine i_append ?_)
local macro_rules | `(tactic| walk_at "st") => `(tactic| with_reducible refine i_someP ?_)
local macro_rules | `(tactic| walk_at "st") => `(tactic| with_reducible refine i_noP ?_)
local macro_rules | `(tactic| walk_at "st") => `(tactic| with_reducible refine i_sl ?_)
local macro_rules | `(tactic| walk_at "st") => `(tactic| with_reducible refine i_call ?_)
local macro_rules | `(tactic| walk_at "st") => `(tactic| with_reducible refine i_cb ?_)
local macro_rules | `(tactic| walk_at "st") => `(tactic| with_reducible refine i_neg1 ?_)
local macro_rules | `(tactic| walk_at "st") => `(tactic| with_reducible refine i_neg ?_)
local macro_rules | `(tactic| walk_at "st") => `(tactic| with_reducible refine i_ifE ?_)
local macro_rules | `(tactic| walk_at "st") => `(tactic| with_reducible refine i_notV ?_)
local macro_rules | `(tactic| walk_at "st") => `(tactic| with_reducible refine i_orV ?_)
local macro_rules | `(tactic| walk_at "st") => `(tactic| with_reducible refine i_andV ?_)
local macro_rules | `(tactic| walk_at "st") => `(tactic| with_reducible refine i_not ?_)
local macro_rules | `(tactic| walk_at "st") => `(tactic| with_reducible refine i_or ?_)
local macro_rules | `(tactic| walk_at "st") => `(tactic| with_reducible refine i_and ?_)
local macro_rules | `(tactic| walk_at "st") => `(tactic| with_reducible refine i_tru ?_)
local macro_rules | `(tactic| walk_at "st") => `(tactic| with_reducible refine i_bl ?_)
local macro_rules | `(tactic| walk_at "st") => `(tactic| with_reducible refine i_tb ?_)
local macro_rules | `(tactic| walk_at "st") => `(tactic| with_reducible refine i_cons ?_)
local macro_rules | `(tactic| walk_at "st") => `(tactic| with_reducible refine i_nil ?_)
local macro_rules | `(tactic| walk_at "st") => `(tactic| with_reducible refine i_lst ?_)
local macro_rules | `(tactic| walk_at "st") => `(tactic| with_reducible refine i_tup ?_)
local macro_rules | `(tactic| walk_at "st") => `(tactic| with_reducible refine i_op ?_)
local macro_rules | `(tactic| walk_at "st") => `(tactic| with_reducible refine i_c ?_)
local macro_rules | `(tactic| walk_at "st") => `(tactic| with_reducible refine i_par2 ?_)
local macro_rules | `(tactic| walk_at "st") => `(tactic| with_reducible refine i_par ?_)
local macro_rules | `(tactic| walk_at "st") => `(tactic| with_reducible refine i_setL ?_)
local macro_rules | `(tactic| walk_at "st") => `(tactic| with_reducible refine i_cnt ?_)
local macro_rules | `(tactic| walk_at "st") => `(tactic| with_reducible refine i_brk ?_)
local macro_rules | `(tactic| walk_at "st") => `(tactic| with_reducible refine i_skip ?_)
local macro_rules | `(tactic| walk_at "st") => `(tactic| with_reducible refine i_if ?_)
local macro_rules | `(tactic| walk_at "st") => `(tactic| with_reducible refine i_retN ?_)
local macro_rules | `(tactic| walk_at "st") => `(tactic| with_reducible refine i_ret ?_)
local macro_rules | `(tactic| walk_at "st") => `(tactic| with_reducible refine i_drop ?_)
local macro_rules | `(tactic| walk_at "st") => `(tactic| with_reducible refine i_asg ?_)
local macro_rules | `(tactic| walk_at "st") => `(tactic| with_reducible refine i_set2 ?_)
local macro_rules | `(tactic| walk_at "st") => `(tactic| with_reducible refine i_set ?_)
local macro_rules | `(tactic| walk_at "st") => `(tactic| with_reducible refine i_seq ?_)
local macro_rules | `(tactic| walk_at "sts") => `(tactic| repeat walk_at "st")
def nms0 : List Str := ["x", "x1", "X", "x'0", "'1", "a b", "b"]
theorem cut_len {xs : List D} {lo hi : Int} (l0 : 0 ≤ lo) (l1 : lo < hi) (l2 : lo < xs.length) : 0 < (DL.cutD xs (some lo) (some hi)).length := by
  unfold DL.cutD
  rw [show lo = ((lo.toNat : Nat) : Int) by omega, show hi = ((hi.toNat : Nat) : Int) by omega, HT.sIx_nat, HT.sIx_nat, List.length_take, List.length_drop]
  omega
theorem cut_strs (xs : List Str) (lo hi : Option Int) : ∃ ys : List Str, DL.cutD (xs.map .str) lo hi = ys.map .str ∧ (∀ y ∈ ys, y ∈ xs) ∧ ys.length ≤ xs.length := by
  unfold DL.cutD
  rw [List.length_map, ← List.map_drop, ← List.map_take]
  refine ⟨_, rfl, fun y hy => List.mem_of_mem_drop (List.mem_of_mem_take hy), ?_⟩
  rw [List.length_take, List.length_drop]
  omega
theorem rd_law (ds : List D) (S : Sto) (Q : DK) (E : DX) (h : sp_law ds S Q E) : t_law { nx := fun _ S' => Dn Q .non S', rt := Dn Q } (startD 7 ds) S := by
  obtain ⟨ns, rfl, q⟩ := h
  unfold t_law
  walk_at "sts"
  refine ⟨ns, rfl, fun b g S1 hb hSb hSg k1 => ?_⟩
  have L1 : Le S S1 := fun a c h => k1 a c (fun e => by subst e; rw [hSb] at h; cases h) (fun e => by subst e; rw [hSg] at h; cases h) h
  walk_at "sts"
  intro u hu
  have hun := hb.fresh hu
  have hu0 : S u = none := by
    cases e : S u with
    | none => rfl
    | some c => rw [L1 u c e] at hu; cases hu
  walk_at "sts"
  unfold dFor
  walk_at "sts"
  refine ⟨by decide, by decide, fun i ε S2 => ∃ (xs : List Str) (e3 e4 e5 e6 : Option D), ε = [some (.cl (ns.map .int)), some (.ref b), some (.ref u), e3, e4, e5, e6] ∧ Bag S2 b g (20000 * i) ∧ Nms S2 u xs ∧ 7 ≤ xs.length ∧ xs.length ≤ 7 + i ∧ Le S S2,
    ⟨nms0, none, none, none, none, rfl, hb.put' hu, ⟨put_same, by decide +kernel⟩, by decide, by decide, lePut L1 hu0⟩, fun _ _ _ _ _ => trivial, fun i x ε S2 hx w => ?_, fun ε S2 w => ?_⟩
  · obtain ⟨xs, e3, e4, e5, e6, rfl, b2, n2, x0, x1, L2⟩ := w
    rw [List.getElem?_map] at hx
    obtain ⟨j, hj, rfl⟩ := Option.map_eq_some_iff.mp hx
    have hi : i < 4 := by
      have := (List.getElem?_eq_some_iff.mp hj).1
      simpa using this
    have keep : ∀ {S3 S4 : Sto}, Le S S3 → (∀ a cl, a ≠ b → a ≠ g → a ≠ u → S3 a = some cl → S4 a = some cl) → Le S S4 := fun h1 h2 a c h => h2 a c (fun e => by subst e; rw [hSb] at h; cases h) (fun e => by subst e; rw [hSg] at h; cases h) (fun e => by subst e; rw [hu0] at h; cases h) (h1 a c h)
    walk_at "sts"
    refine ⟨b, g, u, 20000 * i, xs, rfl, by omega, b2, hun.1, hun.2, n2, by omega, fun d S3 ys b3 n3 y0 y1 k3 => ?_⟩
    have L3 := keep L2 k3
    walk_at "sts"
    refine ⟨b, g, 20000 * i + 4, 4, rfl, by decide, by decide, by omega, b3, fun lo S4 lo0 lo1 b4 k4 => ?_⟩
    walk_at "sts"
    refine ⟨b, g, 20000 * i + 5, 7, rfl, by decide, by decide, by omega, b4, fun hi' S5 hi0 hi1 b5 k5 => ?_⟩
    have k45 := k4.trans k5
    have L5 := keep L3 fun a cl h1 h2 _ h => k45 a cl h1 h2 h
    have n5 : S5 u = some (.lst (ys.map .str)) := k45 _ _ hun.1 hun.2 n3.1
    walk_at "sts"
    refine ⟨_, n5, fun v hv => ?_⟩
    obtain ⟨zs, hz, zm, zl⟩ := cut_strs ys (some lo) (some (4 + hi'))
    have z0 : 0 < zs.length := by
      have := cut_len (xs := ys.map D.str) lo0 (by omega : lo < 4 + hi') (by rw [List.length_map]; omega)
      rw [hz, List.length_map] at this
      exact this
    have hvn := b5.fresh hv
    have hvu : v ≠ u := fun e => by subst e; rw [n5] at hv; cases hv
    have hv0 : S v = none := by
      cases e : S v with
      | none => rfl
      | some c => rw [L5 v c e] at hv; cases hv
    rw [hz]
    walk_at "sts"
    refine ⟨5, b, g, v, 20000 * i + 6, zs, by decide, rfl, by omega, b5.put' hv, hvn.1, hvn.2, ⟨put_same, fun x hx => n3.2 x (zm x hx)⟩, by omega, by rintro rfl; exact absurd z0 (by decide), fun t S6 ht b6 k6 => ?_⟩
    have hk6 := ht.ht
    have hz6 := ht.sz
    have gd : Good t := ⟨ht.wf, ht.kind, by omega⟩
    have n6 : S6 u = some (.lst (ys.map .str)) := k6 _ _ hun.1 hun.2 (lePut (fun _ _ h => h) hv _ _ n5)
    have L6 : Le S S6 := keep (lePut L5 hv0) fun a cl h1 h2 _ h => k6 a cl h1 h2 h
    walk_at "sts"
    intro w hw
    have hwn := b6.fresh hw
    have hwu : w ≠ u := fun e => by subst e; rw [n6] at hw; cases hw
    walk_at "sts"
    refine ⟨t, w, [], hk6, ht.wf, ht.kind, by simp only [List.length_nil]; omega, rfl, put_same, fun p ls hl hll hp => ?_⟩
    have g1 : ∀ {Sx : Sto} {q : Addr} {cl : Cell}, Le S6 Sx → Sx q = none → Le S6 (put Sx q cl) := fun h n => Le.put h n
    have l7 : Le S6 (put S6 w (.lst [])) := g1 (Le.refl S6) hw
    have l8 := g1 (cl := .lst (ls.map .str)) l7 hp
    have hwp : w ≠ p := fun e => by subst e; rw [put_same] at hp; cases hp
    walk_at "sts"
    refine ⟨_, ls.map .str, rfl, fun ⟨_, e⟩ => (by cases e), ?_, ?_, ?_, fun s hs => ?_⟩
    · show (match put _ p _ p with | some (.lst xs) => some xs | _ => none) = _
      rw [put_same]
    · rw [List.all_eq_true]
      intro d hd
      obtain ⟨x, _, rfl⟩ := List.mem_map.mp hd
      rfl
    · rw [List.length_map]; exact Nat.lt_of_le_of_lt (by omega : _ ≤ 400) (by decide)
    have l9 := g1 (cl := .set ((ls.map D.str).foldl putD [])) l8 hs
    have ef : (ls.map D.str).foldl putD [] = (ls.foldl putS []).map D.str := foldl_putS ls []
    walk_at "sts"
    refine ⟨s, ls.foldl putS [], rfl, .inl (by rw [put_same, ef]), fun ys' r hpm hso hr => ?_⟩
    have l10 := g1 (cl := .lst (ys'.map .str)) l9 hr
    have fn : FN t ys' := ⟨hso, hpm.nodup_iff.mpr (foldl_nodup ls .nil), fun x => by rw [hpm.mem_iff, foldl_mem, ← hl x]; simp⟩
    have ylen : ys'.length ≤ 400 := by
      rw [hpm.length_eq]
      have := foldl_len ls (ns := [])
      simp only [List.length_nil] at this
      omega
    walk_at "sts"
    refine i_tupR put_same ?_
    walk_at "sts"
    refine ⟨t, gd, rfl, fun y1 h1 hl1 => ?_⟩
    rw [FN.uniq h1 fn]
    walk_at "sts"
    refine ⟨ys', rfl, by omega, ?_⟩
    walk_at "sts"
    refine ⟨t, gd, rfl, fun y2 h2 hl2 => ?_⟩
    rw [FN.uniq h2 fn]
    walk_at "sts"
    refine ⟨ys', rfl, by omega, ?_⟩
    walk_at "sts"
    refine ⟨ys, _, _, _, _, rfl, ?_, ⟨l10 _ _ n6, n3.2⟩, by omega, by omega, L6.trans l10⟩
    obtain ⟨⟨gs, sd, n, a1, a2, a3, a4, a5, a6⟩, z⟩ := b6
    exact ⟨⟨gs, sd, n, l10 _ _ a1, l10 _ _ a2, a3, a4, a5, by omega⟩, z⟩
  · obtain ⟨xs, e3, e4, e5, e6, rfl, b2, n2, x0, x1, L2⟩ := w
    walk_at "sts"
    exact i_dnL L2 q
end K08
end
section
namespace K08
open PySem PySem.Spec PyProof.Rows L2 DL DLZ TR
def topS (i : Nat) : Stmt := PySem.Challenge.pw_sumwarden_k08_free_names.main.body.getD i (.Pass ⟨0, 0, 0, 0⟩)
abbrev s_is_number : Stmt := topS 17
abbrev N_is_number : List Str := ["value", "least", "most"]
theorem sc_is_number : FnScope N_is_number ["value", "least", "most"] (defScope s_is_number) := ⟨rfl, rfl, rfl, by decide +kernel, rfl, by decide +kernel, by decide +kernel⟩
abbrev s_is_leaf : Stmt := topS 18
abbrev N_is_leaf : List Str := ["value", "kind", "of_text"]
theorem sc_is_leaf : FnScope N_is_leaf ["value", "kind", "of_text"] (defScope s_is_leaf) := ⟨rfl, rfl, rfl, by decide +kernel, rfl, by decide +kernel, by decide +kernel⟩
abbrev s_fields_of : Stmt := topS 19
abbrev N_fields_of : List Str := ["value", "kind", "fields"]
theorem sc_fields_of : FnScope N_fields_of ["value", "kind"] (defScope s_fields_of) := ⟨rfl, rfl, rfl, by decide +kernel, rfl, by decide +kernel, by decide +kernel⟩
abbrev s_is_shaped : Stmt := topS 20
abbrev N_is_shaped : List Str := ["value", "kind", "of_text", "trees", "statements", "met_trees", "met_statements", "left", "part", "told", "member_kind", "member", "fields"]
theorem sc_is_shaped : FnScope N_is_shaped ["value", "kind", "of_text", "trees", "statements"] (defScope s_is_shaped) := ⟨rfl, rfl, rfl, by decide +kernel, rfl, by decide +kernel, by decide +kernel⟩
abbrev s_is_formula : Stmt := topS 21
abbrev N_is_formula : List Str := ["value"]
theorem sc_is_formula : FnScope N_is_formula ["value"] (defScope s_is_formula) := ⟨rfl, rfl, rfl, by decide +kernel, rfl, by decide +kernel, by decide +kernel⟩
abbrev s_parts_of : Stmt := topS 27
abbrev N_parts_of : List Str := ["tree", "word"]
theorem sc_parts_of : FnScope N_parts_of ["tree"] (defScope s_parts_of) := ⟨rfl, rfl, rfl, by decide +kernel, rfl, by decide +kernel, by decide +kernel⟩
abbrev s_scoped : Stmt := topS 28
abbrev N_scoped : List Str := ["tree", "found", "left", "part", "told", "inner", "below"]
theorem sc_scoped : FnScope N_scoped ["tree"] (defScope s_scoped) := ⟨rfl, rfl, rfl, by decide +kernel, rfl, by decide +kernel, by decide +kernel⟩
abbrev s_free_names : Stmt := topS 29
abbrev N_free_names : List Str := ["tree", "part", "told"]
theorem sc_free_names : FnScope N_free_names ["tree"] (defScope s_free_names) := ⟨rfl, rfl, rfl, by decide +kernel, rfl, by decide +kernel, by decide +kernel⟩
abbrev s_check_formula : Stmt := topS 31
abbrev N_check_formula : List Str := ["formula"]
theorem sc_check_formula : FnScope N_check_formula ["formula"] (defScope s_check_formula) := ⟨rfl, rfl, rfl, by decide +kernel, rfl, by decide +kernel, by decide +kernel⟩
abbrev s_names_of : Stmt := topS 32
abbrev N_names_of : List Str := ["formula"]
theorem sc_names_of : FnScope N_names_of ["formula"] (defScope s_names_of) := ⟨rfl, rfl, rfl, by decide +kernel, rfl, by decide +kernel, by decide +kernel⟩
abbrev s_law_bag : Stmt := topS 34
abbrev N_law_bag : List Str := ["script", "great", "seed", "cell"]
theorem sc_law_bag : FnScope N_law_bag ["script"] (defScope s_law_bag) := ⟨rfl, rfl, rfl, by decide +kernel, rfl, by decide +kernel, by decide +kernel⟩
abbrev s_law_take : Stmt := topS 35
abbrev N_law_take : List Str := ["bag", "many", "great", "got", "mixed"]
theorem sc_law_take : FnScope N_law_take ["bag", "many"] (defScope s_law_take) := ⟨rfl, rfl, rfl, by decide +kernel, rfl, by decide +kernel, by decide +kernel⟩
abbrev s_law_kind_same : Stmt := topS 36
abbrev N_law_kind_same : List Str := ["told", "due", "pairs", "one", "two", "k"]
theorem sc_law_kind_same : FnScope N_law_kind_same ["told", "due"] (defScope s_law_kind_same) := ⟨rfl, rfl, rfl, by decide +kernel, rfl, by decide +kernel, by decide +kernel⟩
abbrev s_law_number : Stmt := topS 37
abbrev N_law_number : List Str := ["bag", "kind"]
theorem sc_law_number : FnScope N_law_number ["bag"] (defScope s_law_number) := ⟨rfl, rfl, rfl, by decide +kernel, rfl, by decide +kernel, by decide +kernel⟩
abbrev s_law_name : Stmt := topS 38
abbrev N_law_name : List Str := ["bag", "used", "words", "stems", "stem", "signs", "k", "name"]
theorem sc_law_name : FnScope N_law_name ["bag", "used"] (defScope s_law_name) := ⟨rfl, rfl, rfl, by decide +kernel, rfl, by decide +kernel, by decide +kernel⟩
abbrev s_law_sum : Stmt := topS 39
abbrev N_law_sum : List Str := ["bag", "names", "deep", "kind", "inner"]
theorem sc_law_sum : FnScope N_law_sum ["bag", "names", "deep"] (defScope s_law_sum) := ⟨rfl, rfl, rfl, by decide +kernel, rfl, by decide +kernel, by decide +kernel⟩
abbrev s_law_sum_names : Stmt := topS 40
abbrev N_law_sum_names : List Str := ["amount"]
theorem sc_law_sum_names : FnScope N_law_sum_names ["amount"] (defScope s_law_sum_names) := ⟨rfl, rfl, rfl, by decide +kernel, rfl, by decide +kernel, by decide +kernel⟩
abbrev s_law_quantified : Stmt := topS 41
abbrev N_law_quantified : List Str := ["bag", "names", "deep", "kind", "sign", "inner"]
theorem sc_law_quantified : FnScope N_law_quantified ["bag", "names", "deep"] (defScope s_law_quantified) := ⟨rfl, rfl, rfl, by decide +kernel, rfl, by decide +kernel, by decide +kernel⟩
abbrev s_law_due_names : Stmt := topS 42
abbrev N_law_due_names : List Str := ["formula", "told", "kind", "name"]
theorem sc_law_due_names : FnScope N_law_due_names ["formula", "told"] (defScope s_law_due_names) := ⟨rfl, rfl, rfl, by decide +kernel, rfl, by decide +kernel, by decide +kernel⟩
abbrev s_law : Stmt := topS 43
abbrev N_law : List Str := ["script", "bag", "names", "turn", "mine", "formula", "due"]
theorem sc_law : FnScope N_law ["script"] (defScope s_law) := ⟨rfl, rfl, rfl, by decide +kernel, rfl, by decide +kernel, by decide +kernel⟩
theorem drv_is_number {C : Wd}  {fa : Addr} (z_isinstance : C.mg "isinstance" = none) (z_bool : C.mg "bool" = none) (z_int : C.mg "int" = none) (cdv : Value) (A : Around) (outer : List PySem.Env) (s : Shared) (H : Hp) (E : XK) (hr : Room 0 (A.deeper (envOfC "is_number" (defScope s_is_number) s.heap.objs.size fa cdv))) :
    DSs (XC C N_is_number "is_number" s_is_number fa cdv A outer s H E) (defBody s_is_number) (t_is_number ) := by
  have hu := hu_of hr
  exact dss_cons (ds_if (DW.dt (dw_or (dt_not (dt_tru (de_callB dcl_isi (by rfl) z_isinstance (by decide +kernel) (da_cons (dv 0) (da_cons (de_bltn (by rfl) z_int (by decide +kernel)) (da_nil)))))) (dw_or1 (dt_tru (de_callB dcl_isi (by rfl) z_isinstance (by decide +kernel) (da_cons (dv 0) (da_cons (de_bltn (by rfl) z_bool (by decide +kernel)) (da_nil)))))))) (dss_one (ds_ret (de_bl))) (dss_nil))
      (dss_one (ds_ret (de_and (de_cmp (dop_le) (dv 1) (dv 0) (nomark _)) (de_one (de_or (de_cmp (dop_isN) (dv 2) (de_non) (nomark _)) (de_one (de_cmp (dop_le) (dv 0) (dv 2) (nomark _))))))))
theorem drv_is_leaf {C : Wd}  {fa : Addr} (h_is_number : Okf C "is_number" ["value", "least", "most"] 1 (sp_is_number)) (c_MOST_NUMBER : GD ⟨C.P, C.w, C.K⟩ C.mg "MOST_NUMBER" D_MOST_NUMBER) (z_isinstance : C.mg "isinstance" = none) (z_str : C.mg "str" = none) (cdv : Value) (A : Around) (outer : List PySem.Env) (s : Shared) (H : Hp) (E : XK) (hr : Room 1 (A.deeper (envOfC "is_leaf" (defScope s_is_leaf) s.heap.objs.size fa cdv))) :
    DSs (XC C N_is_leaf "is_leaf" s_is_leaf fa cdv A outer s H E) (defBody s_is_leaf) (t_is_leaf ) := by
  have hu := hu_of hr
  exact dss_cons (ds_if (dt_cmp (dop_eq) (dv 1) (de_str) (nomark _)) (dss_one (ds_ret (de_callO h_is_number (hr.mono (by omega)) (by rfl) (da_cons (dv 0) (da_cons (de_int) (da_cons (de_glob c_MOST_NUMBER (by rfl)) (da_nil))))))) (dss_nil))
      (dss_cons (ds_if (dt_cmp (dop_eq) (dv 1) (de_str) (nomark _)) (dss_one (ds_ret (de_callO h_is_number (hr.mono (by omega)) (by rfl) (da_cons (dv 0) (da_cons (de_ifE (dt_tru (dv 2)) (de_int) (de_int)) (da_cons (de_glob c_MOST_NUMBER (by rfl)) (da_nil))))))) (dss_nil))
      (dss_cons (ds_if (dt_tru (dv 2)) (dss_nev) (dss_nil))
      (dss_one (ds_ret (de_and (de_callB dcl_isi (by rfl) z_isinstance (by decide +kernel) (da_cons (dv 0) (da_cons (de_bltn (by rfl) z_str (by decide +kernel)) (da_nil)))) (de_one (de_cmp (dop_ne) (dv 0) (de_str) (nomark _))))))))
theorem drv_fields_of {C : Wd}  {fa : Addr} (c_FIELDS : GD ⟨C.P, C.w, C.K⟩ C.mg "FIELDS" D_FIELDS) (z_isinstance : C.mg "isinstance" = none) (z_str : C.mg "str" = none) (z_len : C.mg "len" = none) (z_tuple : C.mg "tuple" = none) (cdv : Value) (A : Around) (outer : List PySem.Env) (s : Shared) (H : Hp) (E : XK) (hr : Room 0 (A.deeper (envOfC "fields_of" (defScope s_fields_of) s.heap.objs.size fa cdv))) :
    DSs (XC C N_fields_of "fields_of" s_fields_of fa cdv A outer s H E) (defBody s_fields_of) (t_fields_of ) := by
  have hu := hu_of hr
  exact dss_cons (ds_if (DW.dt (dw_or (dt_not (dt_tru (de_callB dcl_isi (by rfl) z_isinstance (by decide +kernel) (da_cons (dv 0) (da_cons (de_bltn (by rfl) z_tuple (by decide +kernel)) (da_nil)))))) (dw_or (dt_cmp (dop_lt) (de_callB dcl_len (by rfl) z_len PySem.boot_len (da_cons (dv 0) (da_nil))) (de_int) (nomark _)) (dw_or1 (dt_not (dt_tru (de_callB dcl_isi (by rfl) z_isinstance (by decide +kernel) (da_cons (de_ixA hu (dv 0) (de_int) (fun _ _ => rfl)) (da_cons (de_bltn (by rfl) z_str (by decide +kernel)) (da_nil)))))))))) (dss_one (ds_ret (de_non))) (dss_nil))
      (dss_cons (ds_set (i := 2) sc_fields_of.nd rfl (by first | exact Or.inl rfl | exact Or.inr rfl) (de_cdget hu (de_glob c_FIELDS (by rfl)) (de_tup (da_cons (dv 1) (da_cons (de_ixA hu (dv 0) (de_int) (fun _ _ => rfl)) (da_nil))))))
      (dss_cons (ds_if (DW.dt (dw_or (dt_cmp (dop_isN) (dv 2) (de_non) (nomark _)) (dw_or1 (dt_cmp (dop_ne) (de_op dop_add (de_callB dcl_len (by rfl) z_len PySem.boot_len (da_cons (dv 2) (da_nil))) (de_int)) (de_callB dcl_len (by rfl) z_len PySem.boot_len (da_cons (dv 0) (da_nil))) (nomark _))))) (dss_one (ds_ret (de_non))) (dss_nil))
      (dss_one (ds_ret (dv 2)))))
theorem drv_is_shaped {C : Wd}  {fa : Addr} (h_is_leaf : Okf C "is_leaf" ["value", "kind", "of_text"] 2 (sp_is_leaf)) (h_fields_of : Okf C "fields_of" ["value", "kind"] 1 (sp_fields_of)) (c_LEAF_KINDS : GD ⟨C.P, C.w, C.K⟩ C.mg "LEAF_KINDS" D_LEAF_KINDS) (c_ROWS : GD ⟨C.P, C.w, C.K⟩ C.mg "ROWS" D_ROWS) (c_MAYBES : GD ⟨C.P, C.w, C.K⟩ C.mg "MAYBES" D_MAYBES) (z_isinstance : C.mg "isinstance" = none) (z_tuple : C.mg "tuple" = none) (z_list : C.mg "list" = none) (z_zip : C.mg "zip" = none) (cdv : Value) (A : Around) (outer : List PySem.Env) (s : Shared) (H : Hp) (E : XK) (hr : Room 2 (A.deeper (envOfC "is_shaped" (defScope s_is_shaped) s.heap.objs.size fa cdv))) :
    DSs (XC C N_is_shaped "is_shaped" s_is_shaped fa cdv A outer s H E) (defBody s_is_shaped) (t_is_shaped ) := by
  have hu := hu_of hr
  exact dss_cons (ds_set2 (i := 5) (j := 6) sc_is_shaped.nd rfl rfl (by first | exact Or.inl rfl | exact Or.inr rfl) (by first | exact Or.inl rfl | exact Or.inr rfl) (de_int))
      (dss_cons (ds_set (i := 7) sc_is_shaped.nd rfl (by first | exact Or.inl rfl | exact Or.inr rfl) (de_lst (da_cons (de_tup (da_cons (dv 0) (da_cons (dv 1) (da_nil)))) (da_nil))))
      (dss_cons (ds_while PassesOwn.never (dt_tru (dv 7)) (dss_cons (ds_asg (vs := [8, 9]) (de_pop (dv 7)) (dg_tup rfl (dgs_cons (dg_name (i := 8) sc_is_shaped.nd rfl (by first | exact Or.inl rfl | exact Or.inr rfl) (by decide)) (dgs_cons (dg_name (i := 9) sc_is_shaped.nd rfl (by first | exact Or.inl rfl | exact Or.inr rfl) (by decide)) (dgs_nil))) (gLen_cons (gLen_cons gLen_nil))))
      (dss_one (ds_if (dt_cmp (dop_in hu) (dv 9) (de_glob c_LEAF_KINDS (by rfl)) rfl) (dss_one (ds_if (dt_not (dt_tru (de_callO h_is_leaf (hr.mono (by omega)) (by rfl) (da_cons (dv 8) (da_cons (dv 9) (da_cons (dv 2) (da_nil))))))) (dss_one (ds_ret (de_bl))) (dss_nil))) (dss_one (ds_if (dt_cmp (dop_in hu) (dv 9) (de_glob c_ROWS (by rfl)) rfl) (dss_cons (ds_if (dt_not (dt_tru (de_callB dcl_isi (by rfl) z_isinstance (by decide +kernel) (da_cons (dv 8) (da_cons (de_bltn (by rfl) z_tuple (by decide +kernel)) (da_nil)))))) (dss_one (ds_ret (de_bl))) (dss_nil))
      (dss_cons (ds_set (i := 10) sc_is_shaped.nd rfl (by first | exact Or.inl rfl | exact Or.inr rfl) (de_ixA hu (de_glob c_ROWS (by rfl)) (dv 9) (fun _ _ => rfl)))
      (dss_one (ds_expr (de_extend (dv 7) (de_lc rfl (own := [("member", 11)]) sc_is_shaped.nd (di_d (dv 8)) (blkOk_by (show blkC N_is_shaped (defScope s_is_shaped) _ _ = true from by decide +kernel)) (fun _ _ _ _ _ => dg_name (i := 11) sc_is_shaped.nd rfl (by first | exact Or.inl rfl | exact Or.inr rfl) (by decide)) (fun _ _ _ _ _ => dts_nil) (fun _ _ _ _ _ => de_tup (da_cons (dv 11) (da_cons (dv 10) (da_nil)))))))))) (dss_one (ds_if (dt_cmp (dop_in hu) (dv 9) (de_glob c_MAYBES (by rfl)) rfl) (dss_one (ds_if (dt_cmp (dop_notN) (dv 8) (de_non) (nomark _)) (dss_one (ds_expr (de_append (dv 7) (de_tup (da_cons (dv 8) (da_cons (de_ixA hu (de_glob c_MAYBES (by rfl)) (dv 9) (fun _ _ => rfl)) (da_nil))))))) (dss_nil))) (dss_cons (ds_set (i := 12) sc_is_shaped.nd rfl (by first | exact Or.inl rfl | exact Or.inr rfl) (de_callO h_fields_of (hr.mono (by omega)) (by rfl) (da_cons (dv 8) (da_cons (dv 9) (da_nil)))))
      (dss_cons (ds_if (dt_cmp (dop_isN) (dv 12) (de_non) (nomark _)) (dss_one (ds_ret (de_bl))) (dss_nil))
      (dss_cons (ds_aug (i := 6) sc_is_shaped.nd rfl (by first | exact Or.inl rfl | exact Or.inr rfl) (de_ifE (dt_cmp (dop_eq) (dv 9) (de_str) (nomark _)) (de_int) (de_int)) dop_iadd)
      (dss_cons (ds_aug (i := 5) sc_is_shaped.nd rfl (by first | exact Or.inl rfl | exact Or.inr rfl) (de_ifE (dt_cmp (dop_in hu) (dv 9) (de_tup (da_cons (de_str) (da_cons (de_str) (da_nil)))) rfl) (de_int) (de_int)) dop_iadd)
      (dss_cons (ds_if (DW.dt (dw_or (DW.dt (dw_and (dt_cmp (dop_notN) (dv 3) (de_non) (nomark _)) (dw_and1 (dt_cmp (dop_gt) (dv 5) (dv 3) (nomark _))))) (dw_or1 (DW.dt (dw_and (dt_cmp (dop_notN) (dv 4) (de_non) (nomark _)) (dw_and1 (dt_cmp (dop_gt) (dv 6) (dv 4) (nomark _)))))))) (dss_one (ds_ret (de_bl))) (dss_nil))
      (dss_one (ds_expr (de_extend (dv 7) (de_listzip rfl (by rfl) z_list (by rfl) z_zip (da_cons (de_sl (dv 8) (do_some (de_int)) do_none) (da_cons (dv 12) (da_nil))))))))))))))))))))
      (dss_one (ds_ret (de_bl)))))
theorem drv_is_formula {C : Wd}  {fa : Addr} (h_is_shaped : Okf C "is_shaped" ["value", "kind", "of_text", "trees", "statements"] 3 (sp_is_shaped)) (c_MOST_TREES : GD ⟨C.P, C.w, C.K⟩ C.mg "MOST_TREES" D_MOST_TREES) (cdv : Value) (A : Around) (outer : List PySem.Env) (s : Shared) (H : Hp) (E : XK) (hr : Room 3 (A.deeper (envOfC "is_formula" (defScope s_is_formula) s.heap.objs.size fa cdv))) :
    DSs (XC C N_is_formula "is_formula" s_is_formula fa cdv A outer s H E) (defBody s_is_formula) (t_is_formula ) := by
  have hu := hu_of hr
  exact dss_one (ds_ret (de_callO h_is_shaped (hr.mono (by omega)) (by rfl) (da_cons (dv 0) (da_cons (de_str) (da_cons (de_bl) (da_cons (de_glob c_MOST_TREES (by rfl)) (da_cons (de_non) (da_nil))))))))
theorem drv_parts_of {C : Wd}  {fa : Addr} (c_LEAVES : GD ⟨C.P, C.w, C.K⟩ C.mg "LEAVES" D_LEAVES) (c_SECOND : GD ⟨C.P, C.w, C.K⟩ C.mg "SECOND" D_SECOND) (c_FIRST : GD ⟨C.P, C.w, C.K⟩ C.mg "FIRST" D_FIRST) (cdv : Value) (A : Around) (outer : List PySem.Env) (s : Shared) (H : Hp) (E : XK) (hr : Room 0 (A.deeper (envOfC "parts_of" (defScope s_parts_of) s.heap.objs.size fa cdv))) :
    DSs (XC C N_parts_of "parts_of" s_parts_of fa cdv A outer s H E) (defBody s_parts_of) (t_parts_of ) := by
  have hu := hu_of hr
  exact dss_cons (ds_set (i := 1) sc_parts_of.nd rfl (by first | exact Or.inl rfl | exact Or.inr rfl) (de_ixA hu (dv 0) (de_int) (fun _ _ => rfl)))
      (dss_cons (ds_if (dt_cmp (dop_in hu) (dv 1) (de_glob c_LEAVES (by rfl)) rfl) (dss_one (ds_ret (de_tup (da_nil)))) (dss_nil))
      (dss_cons (ds_if (dt_cmp (dop_in hu) (dv 1) (de_glob c_SECOND (by rfl)) rfl) (dss_one (ds_ret (de_tup (da_cons (de_ixA hu (dv 0) (de_int) (fun _ _ => rfl)) (da_nil))))) (dss_nil))
      (dss_cons (ds_if (dt_cmp (dop_in hu) (dv 1) (de_glob c_FIRST (by rfl)) rfl) (dss_one (ds_ret (de_tup (da_cons (de_ixA hu (dv 0) (de_int) (fun _ _ => rfl)) (da_nil))))) (dss_nil))
      (dss_one (ds_ret (de_tup (da_cons (de_ixA hu (dv 0) (de_int) (fun _ _ => rfl)) (da_cons (de_ixA hu (dv 0) (de_int) (fun _ _ => rfl)) (da_nil)))))))))
theorem drv_scoped {C : Wd}  {fa : Addr} (h_parts_of : Okf C "parts_of" ["tree"] 1 (sp_parts_of)) (c_QUANTIFIERS : GD ⟨C.P, C.w, C.K⟩ C.mg "QUANTIFIERS" D_QUANTIFIERS) (cdv : Value) (A : Around) (outer : List PySem.Env) (s : Shared) (H : Hp) (E : XK) (hr : Room 1 (A.deeper (envOfC "scoped" (defScope s_scoped) s.heap.objs.size fa cdv))) :
    DSs (XC C N_scoped "scoped" s_scoped fa cdv A outer s H E) (defBody s_scoped) (t_scoped ) := by
  have hu := hu_of hr
  exact dss_cons (ds_set (i := 1) sc_scoped.nd rfl (by first | exact Or.inl rfl | exact Or.inr rfl) (de_lst (da_nil)))
      (dss_cons (ds_set (i := 2) sc_scoped.nd rfl (by first | exact Or.inl rfl | exact Or.inr rfl) (de_lst (da_cons (de_tup (da_cons (dv 0) (da_cons (de_tup (da_nil)) (da_nil)))) (da_nil))))
      (dss_cons (ds_while PassesOwn.never (dt_tru (dv 2)) (dss_cons (ds_asg (vs := [3, 4]) (de_pop (dv 2)) (dg_tup rfl (dgs_cons (dg_name (i := 3) sc_scoped.nd rfl (by first | exact Or.inl rfl | exact Or.inr rfl) (by decide)) (dgs_cons (dg_name (i := 4) sc_scoped.nd rfl (by first | exact Or.inl rfl | exact Or.inr rfl) (by decide)) (dgs_nil))) (gLen_cons (gLen_cons gLen_nil))))
      (dss_cons (ds_expr (de_append (dv 1) (de_tup (da_cons (dv 3) (da_cons (dv 4) (da_nil))))))
      (dss_cons (ds_set (i := 5) sc_scoped.nd rfl (by first | exact Or.inl rfl | exact Or.inr rfl) (dv 4))
      (dss_cons (ds_if (DW.dt (dw_and (dt_cmp (dop_in hu) (de_ixA hu (dv 3) (de_int) (fun _ _ => rfl)) (de_glob c_QUANTIFIERS (by rfl)) rfl) (dw_and1 (dt_cmp (dop_notin hu) (de_ixA hu (dv 3) (de_int) (fun _ _ => rfl)) (dv 4) rfl)))) (dss_one (ds_set (i := 5) sc_scoped.nd rfl (by first | exact Or.inl rfl | exact Or.inr rfl) (de_op dop_add (dv 4) (de_tup (da_cons (de_ixA hu (dv 3) (de_int) (fun _ _ => rfl)) (da_nil)))))) (dss_nil))
      (dss_one (ds_expr (de_extend (dv 2) (de_lc rfl (own := [("below", 6)]) sc_scoped.nd (di_d (de_callO h_parts_of (hr.mono (by omega)) (by rfl) (da_cons (dv 3) (da_nil)))) (blkOk_by (show blkC N_scoped (defScope s_scoped) _ _ = true from by decide +kernel)) (fun _ _ _ _ _ => dg_name (i := 6) sc_scoped.nd rfl (by first | exact Or.inl rfl | exact Or.inr rfl) (by decide)) (fun _ _ _ _ _ => dts_nil) (fun _ _ _ _ _ => de_tup (da_cons (dv 6) (da_cons (dv 5) (da_nil)))))))))))))
      (dss_cons (ds_expr (de_reverse (dv 1)))
      (dss_one (ds_ret (dv 1))))))
theorem drv_free_names {C : Wd}  {fa : Addr} (h_scoped : Okf C "scoped" ["tree"] 2 (sp_scoped)) (z_tuple : C.mg "tuple" = none) (z_sorted : C.mg "sorted" = none) (cdv : Value) (A : Around) (outer : List PySem.Env) (s : Shared) (H : Hp) (E : XK) (hr : Room 2 (A.deeper (envOfC "free_names" (defScope s_free_names) s.heap.objs.size fa cdv))) :
    DSs (XC C N_free_names "free_names" s_free_names fa cdv A outer s H E) (defBody s_free_names) (t_free_names ) := by
  have hu := hu_of hr
  exact dss_one (ds_ret (de_callTy dcl_tuple (by rfl) z_tuple (by decide +kernel) (da_cons (de_callB (dcl_sorted rfl) (by rfl) z_sorted (by decide +kernel) (da_cons (de_sc rfl (own := [("part", 1), ("told", 2)]) sc_free_names.nd (di_d (de_callO h_scoped (hr.mono (by omega)) (by rfl) (da_cons (dv 0) (da_nil)))) (blkOk_by (show blkC N_free_names (defScope s_free_names) _ _ = true from by decide +kernel)) (fun _ _ _ _ _ => dg_tup rfl (dgs_cons (dg_name (i := 1) sc_free_names.nd rfl (by first | exact Or.inl rfl | exact Or.inr rfl) (by decide)) (dgs_cons (dg_name (i := 2) sc_free_names.nd rfl (by first | exact Or.inl rfl | exact Or.inr rfl) (by decide)) (dgs_nil))) (gLen_cons (gLen_cons gLen_nil))) (fun _ _ _ _ _ => dts_one (DW.dt (dw_and (dt_cmp (dop_eq) (de_ixA hu (dv 1) (de_int) (fun _ _ => rfl)) (de_str) (nomark _)) (dw_and1 (dt_cmp (dop_notin hu) (de_ixA hu (dv 1) (de_int) (fun _ _ => rfl)) (dv 2) rfl))))) (fun _ _ _ _ _ => de_ixA hu (dv 1) (de_int) (fun _ _ => rfl))) (da_nil))) (da_nil))))
theorem drv_check_formula {C : Wd}  {fa : Addr} (h_is_formula : Okf C "is_formula" ["value"] 4 (sp_is_formula)) (cdv : Value) (A : Around) (outer : List PySem.Env) (s : Shared) (H : Hp) (E : XK) (hr : Room 4 (A.deeper (envOfC "check_formula" (defScope s_check_formula) s.heap.objs.size fa cdv))) :
    DSs (XC C N_check_formula "check_formula" s_check_formula fa cdv A outer s H E) (defBody s_check_formula) (t_check_formula ) := by
  have hu := hu_of hr
  exact dss_one (ds_if (dt_not (dt_tru (de_callO h_is_formula (hr.mono (by omega)) (by rfl) (da_cons (dv 0) (da_nil))))) (dss_one (ds_nev)) (dss_nil))
theorem drv_names_of {C : Wd}  {fa : Addr} (h_check_formula : Okf C "check_formula" ["formula"] 5 (sp_check_formula)) (h_free_names : Okf C "free_names" ["tree"] 3 (sp_free_names)) (cdv : Value) (A : Around) (outer : List PySem.Env) (s : Shared) (H : Hp) (E : XK) (hr : Room 5 (A.deeper (envOfC "names_of" (defScope s_names_of) s.heap.objs.size fa cdv))) :
    DSs (XC C N_names_of "names_of" s_names_of fa cdv A outer s H E) (defBody s_names_of) (t_names_of ) := by
  have hu := hu_of hr
  exact dss_cons (ds_expr (de_callO h_check_formula (hr.mono (by omega)) (by rfl) (da_cons (dv 0) (da_nil))))
      (dss_one (ds_ret (de_callO h_free_names (hr.mono (by omega)) (by rfl) (da_cons (dv 0) (da_nil)))))
theorem drv_law_bag {C : Wd}  {fa : Addr} (z_int : C.mg "int" = none) (cdv : Value) (A : Around) (outer : List PySem.Env) (s : Shared) (H : Hp) (E : XK) (hr : Room 0 (A.deeper (envOfC "_law_bag" (defScope s_law_bag) s.heap.objs.size fa cdv))) :
    DSs (XC C N_law_bag "_law_bag" s_law_bag fa cdv A outer s H E) (defBody s_law_bag) (t_law_bag ) := by
  have hu := hu_of hr
  exact dss_cons (ds_set (i := 1) sc_law_bag.nd rfl (by first | exact Or.inl rfl | exact Or.inr rfl) (de_lst (da_nil)))
      (dss_cons (ds_set (i := 2) sc_law_bag.nd rfl (by first | exact Or.inl rfl | exact Or.inr rfl) (de_int))
      (dss_cons (ds_for (vs := [3]) PassesOwn.never rfl (di_d (de_sl (dv 0) do_none (do_some (de_int)))) (dg_name (i := 3) sc_law_bag.nd rfl (by first | exact Or.inl rfl | exact Or.inr rfl) (by decide)) (dss_cons (ds_if (dt_cmp (dop_ge) (dv 3) (de_op dop_pow (de_int) (de_int)) (nomark _)) (dss_one (ds_expr (de_append (dv 1) (de_op dop_mod (de_callTy dcl_int1 (by rfl) z_int (by decide +kernel) (da_cons (dv 3) (da_nil))) (de_op dop_pow (de_op dop_pow (de_int) (de_int)) (de_int)))))) (dss_nil))
      (dss_one (ds_set (i := 2) sc_law_bag.nd rfl (by first | exact Or.inl rfl | exact Or.inr rfl) (de_op dop_mod (de_callTy dcl_int1 (by rfl) z_int (by decide +kernel) (da_cons (de_op dop_add (de_op dop_add (de_op dop_mul (dv 2) (de_int)) (de_op dop_mod (de_callTy dcl_int1 (by rfl) z_int (by decide +kernel) (da_cons (dv 3) (da_nil))) (de_int))) (de_int)) (da_nil))) (de_int))))))
      (dss_one (ds_ret (de_lst (da_cons (dv 1) (da_cons (dv 2) (da_cons (de_int) (da_nil)))))))))
theorem drv_law_take {C : Wd}  {fa : Addr} (z_int : C.mg "int" = none) (cdv : Value) (A : Around) (outer : List PySem.Env) (s : Shared) (H : Hp) (E : XK) (hr : Room 0 (A.deeper (envOfC "_law_take" (defScope s_law_take) s.heap.objs.size fa cdv))) :
    DSs (XC C N_law_take "_law_take" s_law_take fa cdv A outer s H E) (defBody s_law_take) (t_law_take ) := by
  have hu := hu_of hr
  exact dss_cons (ds_setL (de_op dop_add (de_ixA hu (dv 0) (de_int) (fun _ _ => rfl)) (de_int)) (dv 0) (de_int))
      (dss_cons (ds_set (i := 2) sc_law_take.nd rfl (by first | exact Or.inl rfl | exact Or.inr rfl) (de_ixA hu (dv 0) (de_int) (fun _ _ => rfl)))
      (dss_cons (ds_if (dt_tru (dv 2)) (dss_cons (ds_set (i := 3) sc_law_take.nd rfl (by first | exact Or.inl rfl | exact Or.inr rfl) (de_op dop_mod (de_callTy dcl_int1 (by rfl) z_int (by decide +kernel) (da_cons (de_ixA hu (dv 2) (de_int) (fun _ _ => rfl)) (da_nil))) (dv 1)))
      (dss_cons (ds_setL (de_op dop_div (de_callTy dcl_int1 (by rfl) z_int (by decide +kernel) (da_cons (de_ixA hu (dv 2) (de_int) (fun _ _ => rfl)) (da_nil))) (dv 1)) (dv 2) (de_int))
      (dss_cons (ds_if (dt_cmp (dop_eq) (de_ixA hu (dv 2) (de_int) (fun _ _ => rfl)) (de_int) (nomark _)) (dss_one (ds_expr (de_popAt (dv 2) (de_int)))) (dss_nil))
      (dss_one (ds_ret (dv 3)))))) (dss_nil))
      (dss_cons (ds_set (i := 4) sc_law_take.nd rfl (by first | exact Or.inl rfl | exact Or.inr rfl) (de_op dop_mod (de_callTy dcl_int1 (by rfl) z_int (by decide +kernel) (da_cons (de_op dop_add (de_ixA hu (dv 0) (de_int) (fun _ _ => rfl)) (de_op dop_mul (de_ixA hu (dv 0) (de_int) (fun _ _ => rfl)) (de_int))) (da_nil))) (de_int)))
      (dss_cons (ds_set (i := 4) sc_law_take.nd rfl (by first | exact Or.inl rfl | exact Or.inr rfl) (de_op dop_mod (de_callTy dcl_int1 (by rfl) z_int (by decide +kernel) (da_cons (de_op dop_add (de_op dop_mul (dv 4) (de_int)) (de_ixA hu (dv 0) (de_int) (fun _ _ => rfl))) (da_nil))) (de_int)))
      (dss_cons (ds_set (i := 4) sc_law_take.nd rfl (by first | exact Or.inl rfl | exact Or.inr rfl) (de_op dop_mod (de_callTy dcl_int1 (by rfl) z_int (by decide +kernel) (da_cons (de_op dop_add (de_op dop_add (de_op dop_mul (dv 4) (dv 4)) (de_op dop_mul (dv 4) (de_int))) (de_int)) (da_nil))) (de_int)))
      (dss_cons (ds_set (i := 4) sc_law_take.nd rfl (by first | exact Or.inl rfl | exact Or.inr rfl) (de_op dop_mod (de_callTy dcl_int1 (by rfl) z_int (by decide +kernel) (da_cons (de_op dop_add (de_op dop_mul (dv 4) (dv 4)) (de_ixA hu (dv 0) (de_int) (fun _ _ => rfl))) (da_nil))) (de_int)))
      (dss_one (ds_ret (de_op dop_mod (de_callTy dcl_int1 (by rfl) z_int (by decide +kernel) (da_cons (de_op dop_div (dv 4) (de_int)) (da_nil))) (dv 1))))))))))
theorem drv_law_kind_same {C : Wd}  {fa : Addr} (z_isinstance : C.mg "isinstance" = none) (z_list : C.mg "list" = none) (z_tuple : C.mg "tuple" = none) (z_len : C.mg "len" = none) (z_range : C.mg "range" = none) (z_bool : C.mg "bool" = none) (z_int : C.mg "int" = none) (z_str : C.mg "str" = none) (cdv : Value) (A : Around) (outer : List PySem.Env) (s : Shared) (H : Hp) (E : XK) (hr : Room 0 (A.deeper (envOfC "_law_kind_same" (defScope s_law_kind_same) s.heap.objs.size fa cdv))) :
    DSs (XC C N_law_kind_same "_law_kind_same" s_law_kind_same fa cdv A outer s H E) (defBody s_law_kind_same) (t_law_kind_same ) := by
  have hu := hu_of hr
  exact dss_cons (ds_set (i := 2) sc_law_kind_same.nd rfl (by first | exact Or.inl rfl | exact Or.inr rfl) (de_lst (da_cons (de_tup (da_cons (dv 0) (da_cons (dv 1) (da_nil)))) (da_nil))))
      (dss_cons (ds_while PassesOwn.never (dt_tru (dv 2)) (dss_cons (ds_asg (vs := [3, 4]) (de_pop (dv 2)) (dg_tup rfl (dgs_cons (dg_name (i := 3) sc_law_kind_same.nd rfl (by first | exact Or.inl rfl | exact Or.inr rfl) (by decide)) (dgs_cons (dg_name (i := 4) sc_law_kind_same.nd rfl (by first | exact Or.inl rfl | exact Or.inr rfl) (by decide)) (dgs_nil))) (gLen_cons (gLen_cons gLen_nil))))
      (dss_one (ds_if (dt_tru (de_callB dcl_isi (by rfl) z_isinstance (by decide +kernel) (da_cons (dv 4) (da_cons (de_tup (da_cons (de_bltn (by rfl) z_tuple (by decide +kernel)) (da_cons (de_bltn (by rfl) z_list (by decide +kernel)) (da_nil)))) (da_nil))))) (dss_cons (ds_if (DW.dt (dw_or (dt_not (dt_tru (de_callB dcl_isi (by rfl) z_isinstance (by decide +kernel) (da_cons (dv 3) (da_cons (de_tup (da_cons (de_bltn (by rfl) z_tuple (by decide +kernel)) (da_cons (de_bltn (by rfl) z_list (by decide +kernel)) (da_nil)))) (da_nil)))))) (dw_or (dt_cmp (dop_ne) (de_callB dcl_isi (by rfl) z_isinstance (by decide +kernel) (da_cons (dv 3) (da_cons (de_bltn (by rfl) z_list (by decide +kernel)) (da_nil)))) (de_callB dcl_isi (by rfl) z_isinstance (by decide +kernel) (da_cons (dv 4) (da_cons (de_bltn (by rfl) z_list (by decide +kernel)) (da_nil)))) (nomark _)) (dw_or1 (dt_cmp (dop_ne) (de_callB dcl_len (by rfl) z_len PySem.boot_len (da_cons (dv 3) (da_nil))) (de_callB dcl_len (by rfl) z_len PySem.boot_len (da_cons (dv 4) (da_nil))) (nomark _)))))) (dss_one (ds_ret (de_bl))) (dss_nil))
      (dss_one (ds_set (i := 2) sc_law_kind_same.nd rfl (by first | exact Or.inl rfl | exact Or.inr rfl) (de_op dop_add (dv 2) (de_lc rfl (own := [("k", 5)]) sc_law_kind_same.nd (di_r1 (by rfl) z_range (de_callB dcl_len (by rfl) z_len PySem.boot_len (da_cons (dv 4) (da_nil)))) (blkOk_by (show blkC N_law_kind_same (defScope s_law_kind_same) _ _ = true from by decide +kernel)) (fun _ _ _ _ _ => dg_name (i := 5) sc_law_kind_same.nd rfl (by first | exact Or.inl rfl | exact Or.inr rfl) (by decide)) (fun _ _ _ _ _ => dts_nil) (fun _ _ _ _ _ => de_tup (da_cons (de_ixA hu (dv 3) (dv 5) (fun _ _ => rfl)) (da_cons (de_ixA hu (dv 4) (dv 5) (fun _ _ => rfl)) (da_nil))))))))) (dss_one (ds_if (DW.dt (dw_or (dt_cmp (dop_isN) (dv 4) (de_non) (nomark _)) (dw_or1 (dt_tru (de_callB dcl_isi (by rfl) z_isinstance (by decide +kernel) (da_cons (dv 4) (da_cons (de_bltn (by rfl) z_bool (by decide +kernel)) (da_nil)))))))) (dss_one (ds_if (DW.dt (dw_and (dt_not (DW.dt (dw_and (dt_cmp (dop_isN) (dv 3) (de_non) (nomark _)) (dw_and1 (dt_cmp (dop_isN) (dv 4) (de_non) (nomark _)))))) (dw_and1 (dt_not (DW.dt (dw_and (dt_tru (de_callB dcl_isi (by rfl) z_isinstance (by decide +kernel) (da_cons (dv 3) (da_cons (de_bltn (by rfl) z_bool (by decide +kernel)) (da_nil))))) (dw_and1 (dt_cmp (dop_eq) (dv 3) (dv 4) (nomark _))))))))) (dss_one (ds_ret (de_bl))) (dss_nil))) (dss_one (ds_if (dt_tru (de_callB dcl_isi (by rfl) z_isinstance (by decide +kernel) (da_cons (dv 4) (da_cons (de_bltn (by rfl) z_int (by decide +kernel)) (da_nil))))) (dss_one (ds_if (DW.dt (dw_or (dt_tru (de_callB dcl_isi (by rfl) z_isinstance (by decide +kernel) (da_cons (dv 3) (da_cons (de_bltn (by rfl) z_bool (by decide +kernel)) (da_nil))))) (dw_or (dt_not (dt_tru (de_callB dcl_isi (by rfl) z_isinstance (by decide +kernel) (da_cons (dv 3) (da_cons (de_bltn (by rfl) z_int (by decide +kernel)) (da_nil)))))) (dw_or1 (dt_cmp (dop_ne) (dv 3) (dv 4) (nomark _)))))) (dss_one (ds_ret (de_bl))) (dss_nil))) (dss_one (ds_if (DW.dt (dw_or (dt_not (dt_tru (de_callB dcl_isi (by rfl) z_isinstance (by decide +kernel) (da_cons (dv 3) (da_cons (de_bltn (by rfl) z_str (by decide +kernel)) (da_nil)))))) (dw_or1 (dt_cmp (dop_ne) (dv 3) (dv 4) (nomark _))))) (dss_one (ds_ret (de_bl))) (dss_nil)))))))))))
      (dss_one (ds_ret (de_bl))))
theorem drv_law_number {C : Wd}  {fa : Addr} (h_law_take : Okf C "_law_take" ["bag", "many"] 1 (sp_law_take)) (cdv : Value) (A : Around) (outer : List PySem.Env) (s : Shared) (H : Hp) (E : XK) (hr : Room 1 (A.deeper (envOfC "_law_number" (defScope s_law_number) s.heap.objs.size fa cdv))) :
    DSs (XC C N_law_number "_law_number" s_law_number fa cdv A outer s H E) (defBody s_law_number) (t_law_number ) := by
  have hu := hu_of hr
  exact dss_cons (ds_set (i := 1) sc_law_number.nd rfl (by first | exact Or.inl rfl | exact Or.inr rfl) (de_callO h_law_take (hr.mono (by omega)) (by rfl) (da_cons (dv 0) (da_cons (de_int) (da_nil)))))
      (dss_cons (ds_if (dt_cmp (dop_eq) (dv 1) (de_int) (nomark _)) (dss_one (ds_ret (de_int))) (dss_nil))
      (dss_cons (ds_if (dt_cmp (dop_eq) (dv 1) (de_int) (nomark _)) (dss_one (ds_ret (de_op dop_sub (de_int) (de_callO h_law_take (hr.mono (by omega)) (by rfl) (da_cons (dv 0) (da_cons (de_int) (da_nil))))))) (dss_nil))
      (dss_cons (ds_if (dt_cmp (dop_eq) (dv 1) (de_int) (nomark _)) (dss_one (ds_ret (de_callO h_law_take (hr.mono (by omega)) (by rfl) (da_cons (dv 0) (da_cons (de_int) (da_nil)))))) (dss_nil))
      (dss_one (ds_ret (de_callO h_law_take (hr.mono (by omega)) (by rfl) (da_cons (dv 0) (da_cons (de_int) (da_nil)))))))))
theorem drv_law_name {C : Wd}  {fa : Addr} (h_law_take : Okf C "_law_take" ["bag", "many"] 1 (sp_law_take)) (z_len : C.mg "len" = none) (z_range : C.mg "range" = none) (z_str : C.mg "str" = none) (cdv : Value) (A : Around) (outer : List PySem.Env) (s : Shared) (H : Hp) (E : XK) (hr : Room 1 (A.deeper (envOfC "_law_name" (defScope s_law_name) s.heap.objs.size fa cdv))) :
    DSs (XC C N_law_name "_law_name" s_law_name fa cdv A outer s H E) (defBody s_law_name) (t_law_name ) := by
  have hu := hu_of hr
  exact dss_cons (ds_set (i := 2) sc_law_name.nd rfl (by first | exact Or.inl rfl | exact Or.inr rfl) (de_lst (da_cons (de_str) (da_cons (de_str) (da_cons (de_str) (da_cons (de_str) (da_cons (de_str) (da_cons (de_str) (da_cons (de_str) (da_cons (de_str) (da_cons (de_str) (da_cons (de_str) (da_cons (de_str) (da_cons (de_str) (da_cons (de_str) (da_cons (de_str) (da_cons (de_str) (da_cons (de_str) (da_cons (de_str) (da_nil))))))))))))))))))))
      (dss_cons (ds_set (i := 3) sc_law_name.nd rfl (by first | exact Or.inl rfl | exact Or.inr rfl) (de_lst (da_cons (de_str) (da_cons (de_str) (da_cons (de_str) (da_cons (de_str) (da_cons (de_str) (da_cons (de_str) (da_cons (de_str) (da_cons (de_str) (da_cons (de_str) (da_cons (de_str) (da_cons (de_str) (da_cons (de_str) (da_cons (de_str) (da_cons (de_str) (da_cons (de_str) (da_cons (de_str) (da_cons (de_str) (da_cons (de_str) (da_cons (de_str) (da_cons (de_str) (da_cons (de_str) (da_cons (de_str) (da_cons (de_str) (da_cons (de_str) (da_nil)))))))))))))))))))))))))))
      (dss_cons (ds_set (i := 4) sc_law_name.nd rfl (by first | exact Or.inl rfl | exact Or.inr rfl) (de_ixA hu (dv 3) (de_callO h_law_take (hr.mono (by omega)) (by rfl) (da_cons (dv 0) (da_cons (de_callB dcl_len (by rfl) z_len PySem.boot_len (da_cons (dv 3) (da_nil))) (da_nil)))) (fun _ _ => rfl)))
      (dss_cons (ds_if (dt_cmp (dop_eq) (de_callO h_law_take (hr.mono (by omega)) (by rfl) (da_cons (dv 0) (da_cons (de_int) (da_nil)))) (de_int) (nomark _)) (dss_cons (ds_set (i := 5) sc_law_name.nd rfl (by first | exact Or.inl rfl | exact Or.inr rfl) (de_str))
      (dss_one (ds_set (i := 4) sc_law_name.nd rfl (by first | exact Or.inl rfl | exact Or.inr rfl) (de_op dop_add (de_op dop_add (dv 4) (de_ixA hu (dv 5) (de_callO h_law_take (hr.mono (by omega)) (by rfl) (da_cons (dv 0) (da_cons (de_int) (da_nil)))) (fun _ _ => rfl))) (de_ixA hu (dv 5) (de_callO h_law_take (hr.mono (by omega)) (by rfl) (da_cons (dv 0) (da_cons (de_int) (da_nil)))) (fun _ _ => rfl)))))) (dss_nil))
      (dss_cons (ds_for (vs := [6]) PassesOwn.never rfl (di_r1 (by rfl) z_range (de_int)) (dg_name (i := 6) sc_law_name.nd rfl (by first | exact Or.inl rfl | exact Or.inr rfl) (by decide)) (dss_cons (ds_set (i := 7) sc_law_name.nd rfl (by first | exact Or.inl rfl | exact Or.inr rfl) (dv 4))
      (dss_cons (ds_if (dt_cmp (dop_gt) (dv 6) (de_int) (nomark _)) (dss_one (ds_set (i := 7) sc_law_name.nd rfl (by first | exact Or.inl rfl | exact Or.inr rfl) (de_op dop_add (de_op dop_add (dv 4) (de_str)) (de_callTy dcl_strI (by rfl) z_str (by decide +kernel) (da_cons (dv 6) (da_nil)))))) (dss_nil))
      (dss_one (ds_if (DW.dt (dw_and (dt_cmp (dop_notin hu) (dv 7) (dv 1) rfl) (dw_and1 (dt_cmp (dop_notin hu) (dv 7) (dv 2) rfl)))) (dss_cons (ds_expr (de_append (dv 1) (dv 7)))
      (dss_one (ds_ret (dv 7)))) (dss_nil))))))
      (dss_one (ds_ret (de_str)))))))
theorem drv_law_sum {C : Wd} (sp_law_sum : DSp) (k : Nat) {fa : Addr} (h_law_take : Okf C "_law_take" ["bag", "many"] 1 (sp_law_take)) (h_law_number : Okf C "_law_number" ["bag"] 2 (sp_law_number)) (h_law_sum : Okf C "_law_sum" ["bag", "names", "deep"] ((k + 2)) (sp_law_sum)) (z_len : C.mg "len" = none) (cdv : Value) (A : Around) (outer : List PySem.Env) (s : Shared) (H : Hp) (E : XK) (hr : Room ((k + 3) - 1) (A.deeper (envOfC "_law_sum" (defScope s_law_sum) s.heap.objs.size fa cdv))) :
    DSs (XC C N_law_sum "_law_sum" s_law_sum fa cdv A outer s H E) (defBody s_law_sum) (t_law_sum sp_law_sum k) := by
  have hu := hu_of hr
  exact dss_cons (ds_set (i := 3) sc_law_sum.nd rfl (by first | exact Or.inl rfl | exact Or.inr rfl) (de_callO h_law_take (hr.mono (by omega)) (by rfl) (da_cons (dv 0) (da_cons (de_int) (da_nil)))))
      (dss_cons (ds_if (DW.dt (dw_or (dt_cmp (dop_eq) (dv 2) (de_int) (nomark _)) (dw_or1 (dt_cmp (dop_lt) (dv 3) (de_int) (nomark _))))) (dss_cons (ds_if (DW.dt (dw_and (dt_tru (dv 1)) (dw_and1 (dt_cmp (dop_gt) (de_callO h_law_take (hr.mono (by omega)) (by rfl) (da_cons (dv 0) (da_cons (de_int) (da_nil)))) (de_int) (nomark _))))) (dss_one (ds_ret (de_tup (da_cons (de_str) (da_cons (de_ixA hu (dv 1) (de_callO h_law_take (hr.mono (by omega)) (by rfl) (da_cons (dv 0) (da_cons (de_callB dcl_len (by rfl) z_len PySem.boot_len (da_cons (dv 1) (da_nil))) (da_nil)))) (fun _ _ => rfl)) (da_nil)))))) (dss_nil))
      (dss_one (ds_ret (de_tup (da_cons (de_str) (da_cons (de_callO h_law_number (hr.mono (by omega)) (by rfl) (da_cons (dv 0) (da_nil))) (da_nil))))))) (dss_nil))
      (dss_cons (ds_set (i := 4) sc_law_sum.nd rfl (by first | exact Or.inl rfl | exact Or.inr rfl) (de_callO h_law_sum (hr.mono (by omega)) (by rfl) (da_cons (dv 0) (da_cons (dv 1) (da_cons (de_op dop_sub (dv 2) (de_int)) (da_nil))))))
      (dss_cons (ds_if (dt_cmp (dop_lt) (dv 3) (de_int) (nomark _)) (dss_one (ds_ret (de_tup (da_cons (de_str) (da_cons (dv 4) (da_cons (de_callO h_law_sum (hr.mono (by omega)) (by rfl) (da_cons (dv 0) (da_cons (dv 1) (da_cons (de_op dop_sub (dv 2) (de_int)) (da_nil))))) (da_nil))))))) (dss_nil))
      (dss_cons (ds_if (dt_cmp (dop_eq) (dv 3) (de_int) (nomark _)) (dss_one (ds_ret (de_tup (da_cons (de_str) (da_cons (dv 4) (da_cons (de_callO h_law_sum (hr.mono (by omega)) (by rfl) (da_cons (dv 0) (da_cons (dv 1) (da_cons (de_op dop_sub (dv 2) (de_int)) (da_nil))))) (da_nil))))))) (dss_nil))
      (dss_cons (ds_if (dt_cmp (dop_lt) (dv 3) (de_int) (nomark _)) (dss_one (ds_ret (de_tup (da_cons (de_str) (da_cons (de_callO h_law_number (hr.mono (by omega)) (by rfl) (da_cons (dv 0) (da_nil))) (da_cons (dv 4) (da_nil))))))) (dss_nil))
      (dss_cons (ds_if (dt_cmp (dop_lt) (dv 3) (de_int) (nomark _)) (dss_one (ds_ret (de_tup (da_cons (de_str) (da_cons (dv 4) (da_cons (de_op dop_add (de_int) (de_op dop_div (de_callO h_law_number (hr.mono (by omega)) (by rfl) (da_cons (dv 0) (da_nil))) (de_int))) (da_nil))))))) (dss_nil))
      (dss_one (ds_ret (de_tup (da_cons (de_str) (da_cons (dv 4) (da_cons (de_op dop_add (de_int) (de_op dop_div (de_callO h_law_number (hr.mono (by omega)) (by rfl) (da_cons (dv 0) (da_nil))) (de_int))) (da_nil)))))))))))))
theorem drv_law_sum_names {C : Wd} (sp_law_sum_names : DSp) (k : Nat) {fa : Addr} (h_law_sum_names : Okf C "_law_sum_names" ["amount"] (k) (sp_law_sum_names)) (cdv : Value) (A : Around) (outer : List PySem.Env) (s : Shared) (H : Hp) (E : XK) (hr : Room ((k + 1) - 1) (A.deeper (envOfC "_law_sum_names" (defScope s_law_sum_names) s.heap.objs.size fa cdv))) :
    DSs (XC C N_law_sum_names "_law_sum_names" s_law_sum_names fa cdv A outer s H E) (defBody s_law_sum_names) (t_law_sum_names sp_law_sum_names k) := by
  have hu := hu_of hr
  exact dss_cons (ds_if (dt_cmp (dop_eq) (de_ixA hu (dv 0) (de_int) (fun _ _ => rfl)) (de_str) (nomark _)) (dss_one (ds_ret (de_lst (da_nil)))) (dss_nil))
      (dss_cons (ds_if (dt_cmp (dop_eq) (de_ixA hu (dv 0) (de_int) (fun _ _ => rfl)) (de_str) (nomark _)) (dss_one (ds_ret (de_lst (da_cons (de_ixA hu (dv 0) (de_int) (fun _ _ => rfl)) (da_nil))))) (dss_nil))
      (dss_cons (ds_if (dt_cmp (dop_eq) (de_ixA hu (dv 0) (de_int) (fun _ _ => rfl)) (de_str) (nomark _)) (dss_one (ds_ret (de_callO h_law_sum_names (hr.mono (by omega)) (by rfl) (da_cons (de_ixA hu (dv 0) (de_int) (fun _ _ => rfl)) (da_nil))))) (dss_nil))
      (dss_cons (ds_if (DW.dt (dw_or (dt_cmp (dop_eq) (de_ixA hu (dv 0) (de_int) (fun _ _ => rfl)) (de_str) (nomark _)) (dw_or1 (dt_cmp (dop_eq) (de_ixA hu (dv 0) (de_int) (fun _ _ => rfl)) (de_str) (nomark _))))) (dss_one (ds_ret (de_callO h_law_sum_names (hr.mono (by omega)) (by rfl) (da_cons (de_ixA hu (dv 0) (de_int) (fun _ _ => rfl)) (da_nil))))) (dss_nil))
      (dss_one (ds_ret (de_op dop_add (de_callO h_law_sum_names (hr.mono (by omega)) (by rfl) (da_cons (de_ixA hu (dv 0) (de_int) (fun _ _ => rfl)) (da_nil))) (de_callO h_law_sum_names (hr.mono (by omega)) (by rfl) (da_cons (de_ixA hu (dv 0) (de_int) (fun _ _ => rfl)) (da_nil)))))))))
theorem drv_law_quantified {C : Wd} (sp_law_quantified : DSp) (k : Nat) {fa : Addr} (h_law_take : Okf C "_law_take" ["bag", "many"] 1 (sp_law_take)) (h_law_sum : Okf C "_law_sum" ["bag", "names", "deep"] ((k + 5)) ((sp_law_sum 2))) (h_law_quantified : Okf C "_law_quantified" ["bag", "names", "deep"] ((k + 5)) (sp_law_quantified)) (z_len : C.mg "len" = none) (cdv : Value) (A : Around) (outer : List PySem.Env) (s : Shared) (H : Hp) (E : XK) (hr : Room ((k + 6) - 1) (A.deeper (envOfC "_law_quantified" (defScope s_law_quantified) s.heap.objs.size fa cdv))) :
    DSs (XC C N_law_quantified "_law_quantified" s_law_quantified fa cdv A outer s H E) (defBody s_law_quantified) (t_law_quantified sp_law_quantified k) := by
  have hu := hu_of hr
  exact dss_cons (ds_set (i := 3) sc_law_quantified.nd rfl (by first | exact Or.inl rfl | exact Or.inr rfl) (de_callO h_law_take (hr.mono (by omega)) (by rfl) (da_cons (dv 0) (da_cons (de_int) (da_nil)))))
      (dss_cons (ds_if (DW.dt (dw_or (dt_cmp (dop_eq) (dv 2) (de_int) (nomark _)) (dw_or1 (dt_cmp (dop_eq) (dv 3) (de_int) (nomark _))))) (dss_cons (ds_set (i := 4) sc_law_quantified.nd rfl (by first | exact Or.inl rfl | exact Or.inr rfl) (de_ixA hu (de_lst (da_cons (de_str) (da_cons (de_str) (da_cons (de_str) (da_cons (de_str) (da_cons (de_str) (da_cons (de_str) (da_nil)))))))) (de_callO h_law_take (hr.mono (by omega)) (by rfl) (da_cons (dv 0) (da_cons (de_int) (da_nil)))) (fun _ _ => rfl)))
      (dss_one (ds_ret (de_tup (da_cons (dv 4) (da_cons (de_callO h_law_sum (hr.mono (by omega)) (by rfl) (da_cons (dv 0) (da_cons (dv 1) (da_cons (de_int) (da_nil))))) (da_cons (de_callO h_law_sum (hr.mono (by omega)) (by rfl) (da_cons (dv 0) (da_cons (dv 1) (da_cons (de_int) (da_nil))))) (da_nil)))))))) (dss_nil))
      (dss_cons (ds_set (i := 5) sc_law_quantified.nd rfl (by first | exact Or.inl rfl | exact Or.inr rfl) (de_callO h_law_quantified (hr.mono (by omega)) (by rfl) (da_cons (dv 0) (da_cons (dv 1) (da_cons (de_op dop_sub (dv 2) (de_int)) (da_nil))))))
      (dss_cons (ds_if (dt_cmp (dop_eq) (dv 3) (de_int) (nomark _)) (dss_one (ds_ret (de_tup (da_cons (de_str) (da_cons (dv 5) (da_nil)))))) (dss_nil))
      (dss_cons (ds_if (dt_cmp (dop_lt) (dv 3) (de_int) (nomark _)) (dss_one (ds_ret (de_tup (da_cons (de_ixA hu (de_lst (da_cons (de_str) (da_cons (de_str) (da_nil)))) (de_op dop_div (dv 3) (de_int)) (fun _ _ => rfl)) (da_cons (dv 5) (da_cons (de_callO h_law_quantified (hr.mono (by omega)) (by rfl) (da_cons (dv 0) (da_cons (dv 1) (da_cons (de_op dop_sub (dv 2) (de_int)) (da_nil))))) (da_nil))))))) (dss_nil))
      (dss_one (ds_ret (de_tup (da_cons (de_ixA hu (de_lst (da_cons (de_str) (da_cons (de_str) (da_nil)))) (de_op dop_div (dv 3) (de_int)) (fun _ _ => rfl)) (da_cons (de_ixA hu (dv 1) (de_callO h_law_take (hr.mono (by omega)) (by rfl) (da_cons (dv 0) (da_cons (de_callB dcl_len (by rfl) z_len PySem.boot_len (da_cons (dv 1) (da_nil))) (da_nil)))) (fun _ _ => rfl)) (da_cons (dv 5) (da_nil)))))))))))
theorem drv_law_due_names {C : Wd} (sp_law_due_names : DSp) (k : Nat) {fa : Addr} (h_law_due_names : Okf C "_law_due_names" ["formula", "told"] ((k + 4)) (sp_law_due_names)) (h_law_sum_names : Okf C "_law_sum_names" ["amount"] ((k + 4)) ((sp_law_sum_names k))) (cdv : Value) (A : Around) (outer : List PySem.Env) (s : Shared) (H : Hp) (E : XK) (hr : Room ((k + 5) - 1) (A.deeper (envOfC "_law_due_names" (defScope s_law_due_names) s.heap.objs.size fa cdv))) :
    DSs (XC C N_law_due_names "_law_due_names" s_law_due_names fa cdv A outer s H E) (defBody s_law_due_names) (t_law_due_names sp_law_due_names k) := by
  have hu := hu_of hr
  exact dss_cons (ds_set (i := 2) sc_law_due_names.nd rfl (by first | exact Or.inl rfl | exact Or.inr rfl) (de_ixA hu (dv 0) (de_int) (fun _ _ => rfl)))
      (dss_cons (ds_if (dt_cmp (dop_eq) (dv 2) (de_str) (nomark _)) (dss_one (ds_ret (de_callO h_law_due_names (hr.mono (by omega)) (by rfl) (da_cons (de_ixA hu (dv 0) (de_int) (fun _ _ => rfl)) (da_cons (dv 1) (da_nil)))))) (dss_nil))
      (dss_cons (ds_if (DW.dt (dw_or (dt_cmp (dop_eq) (dv 2) (de_str) (nomark _)) (dw_or1 (dt_cmp (dop_eq) (dv 2) (de_str) (nomark _))))) (dss_one (ds_ret (de_op dop_add (de_callO h_law_due_names (hr.mono (by omega)) (by rfl) (da_cons (de_ixA hu (dv 0) (de_int) (fun _ _ => rfl)) (da_cons (dv 1) (da_nil)))) (de_callO h_law_due_names (hr.mono (by omega)) (by rfl) (da_cons (de_ixA hu (dv 0) (de_int) (fun _ _ => rfl)) (da_cons (dv 1) (da_nil))))))) (dss_nil))
      (dss_cons (ds_if (DW.dt (dw_or (dt_cmp (dop_eq) (dv 2) (de_str) (nomark _)) (dw_or1 (dt_cmp (dop_eq) (dv 2) (de_str) (nomark _))))) (dss_one (ds_ret (de_callO h_law_due_names (hr.mono (by omega)) (by rfl) (da_cons (de_ixA hu (dv 0) (de_int) (fun _ _ => rfl)) (da_cons (de_op dop_add (dv 1) (de_lst (da_cons (de_ixA hu (dv 0) (de_int) (fun _ _ => rfl)) (da_nil)))) (da_nil)))))) (dss_nil))
      (dss_one (ds_ret (de_lc rfl (own := [("name", 3)]) sc_law_due_names.nd (di_d (de_op dop_add (de_callO h_law_sum_names (hr.mono (by omega)) (by rfl) (da_cons (de_ixA hu (dv 0) (de_int) (fun _ _ => rfl)) (da_nil))) (de_callO h_law_sum_names (hr.mono (by omega)) (by rfl) (da_cons (de_ixA hu (dv 0) (de_int) (fun _ _ => rfl)) (da_nil))))) (blkOk_by (show blkC N_law_due_names (defScope s_law_due_names) _ _ = true from by decide +kernel)) (fun _ _ _ _ _ => dg_name (i := 3) sc_law_due_names.nd rfl (by first | exact Or.inl rfl | exact Or.inr rfl) (by decide)) (fun _ _ _ _ _ => dts_one (dt_cmp (dop_notin hu) (dv 3) (dv 1) rfl)) (fun _ _ _ _ _ => dv 3)))))))
theorem drv_law {C : Wd}  {fa : Addr} (h_law_bag : Okf C "_law_bag" ["script"] 1 (sp_law_bag)) (h_law_name : Okf C "_law_name" ["bag", "used"] 2 (sp_law_name)) (h_law_take : Okf C "_law_take" ["bag", "many"] 1 (sp_law_take)) (h_law_quantified : Okf C "_law_quantified" ["bag", "names", "deep"] (19) ((sp_law_quantified 5))) (h_law_due_names : Okf C "_law_due_names" ["formula", "told"] (19) ((sp_law_due_names 9))) (h_law_kind_same : Okf C "_law_kind_same" ["told", "due"] 1 (sp_law_kind_same)) (h_names_of : Okf C "names_of" ["formula"] 6 (sp_names_of)) (hk_names_of : OkfK C "names_of" ["formula"] 6 (sp_names_of)) (z_range : C.mg "range" = none) (z_tuple : C.mg "tuple" = none) (z_sorted : C.mg "sorted" = none) (z_set : C.mg "set" = none) (cdv : Value) (A : Around) (outer : List PySem.Env) (s : Shared) (H : Hp) (E : XK) (hr : Room 19 (A.deeper (envOfC "law" (defScope s_law) s.heap.objs.size fa cdv))) :
    DSs (XC C N_law "law" s_law fa cdv A outer s H E) (defBody s_law) (t_law ) := by
  have hu := hu_of hr
  exact dss_cons (ds_set (i := 1) sc_law.nd rfl (by first | exact Or.inl rfl | exact Or.inr rfl) (de_callO h_law_bag (hr.mono (by omega)) (by rfl) (da_cons (dv 0) (da_nil))))
      (dss_cons (ds_set (i := 2) sc_law.nd rfl (by first | exact Or.inl rfl | exact Or.inr rfl) (de_lst (da_cons (de_str) (da_cons (de_str) (da_cons (de_str) (da_cons (de_str) (da_cons (de_str) (da_cons (de_str) (da_cons (de_str) (da_nil))))))))))
      (dss_cons (ds_for (vs := [3]) PassesOwn.never rfl (di_r1 (by rfl) z_range (de_int)) (dg_name (i := 3) sc_law.nd rfl (by first | exact Or.inl rfl | exact Or.inr rfl) (by decide)) (dss_cons (ds_expr (de_callO h_law_name (hr.mono (by omega)) (by rfl) (da_cons (dv 1) (da_cons (dv 2) (da_nil)))))
      (dss_cons (ds_set (i := 4) sc_law.nd rfl (by first | exact Or.inl rfl | exact Or.inr rfl) (de_sl (dv 2) (do_some (de_callO h_law_take (hr.mono (by omega)) (by rfl) (da_cons (dv 1) (da_cons (de_int) (da_nil))))) (do_some (de_op dop_add (de_int) (de_callO h_law_take (hr.mono (by omega)) (by rfl) (da_cons (dv 1) (da_cons (de_int) (da_nil))))))))
      (dss_cons (ds_set (i := 5) sc_law.nd rfl (by first | exact Or.inl rfl | exact Or.inr rfl) (de_callO h_law_quantified (hr.mono (by omega)) (by rfl) (da_cons (dv 1) (da_cons (dv 4) (da_cons (de_int) (da_nil))))))
      (dss_cons (ds_set (i := 6) sc_law.nd rfl (by first | exact Or.inl rfl | exact Or.inr rfl) (de_callTy dcl_tuple (by rfl) z_tuple (by decide +kernel) (da_cons (de_callB (dcl_sorted rfl) (by rfl) z_sorted (by decide +kernel) (da_cons (de_callTy (dcl_setOf rfl) (by rfl) z_set (by decide +kernel) (da_cons (de_callO h_law_due_names (hr.mono (by omega)) (by rfl) (da_cons (dv 5) (da_cons (de_lst (da_nil)) (da_nil)))) (da_nil))) (da_nil))) (da_nil))))
      (dss_one (ds_if (DW.dt (dw_or (dt_not (dt_tru (de_callO h_law_kind_same (hr.mono (by omega)) (by rfl) (da_cons (de_callO h_names_of (hr.mono (by omega)) (by rfl) (da_cons (dv 5) (da_nil))) (da_cons (dv 6) (da_nil)))))) (dw_or1 (dt_not (dt_tru (de_callO h_law_kind_same (hr.mono (by omega)) (by rfl) (da_cons (de_callKw hk_names_of (hr.mono (by omega)) (by rfl) (dk_cons (dv 5) (dk_nil))) (da_cons (dv 6) (da_nil))))))))) (dss_one (ds_ret (de_bl))) (dss_nil))))))))
      (dss_one (ds_ret (de_bl)))))
end K08
end
section
namespace K08
open PySem PySem.Spec PyProof.Rows L2 DL DLZ TR
structure Facts (C : Wd) : Prop where
  d_is_number : Def C "is_number" s_is_number
  d_is_leaf : Def C "is_leaf" s_is_leaf
  d_fields_of : Def C "fields_of" s_fields_of
  d_is_shaped : Def C "is_shaped" s_is_shaped
  d_is_formula : Def C "is_formula" s_is_formula
  d_parts_of : Def C "parts_of" s_parts_of
  d_scoped : Def C "scoped" s_scoped
  d_free_names : Def C "free_names" s_free_names
  d_check_formula : Def C "check_formula" s_check_formula
  d_names_of : Def C "names_of" s_names_of
  d_law_bag : Def C "_law_bag" s_law_bag
  d_law_take : Def C "_law_take" s_law_take
  d_law_kind_same : Def C "_law_kind_same" s_law_kind_same
  d_law_number : Def C "_law_number" s_law_number
  d_law_name : Def C "_law_name" s_law_name
  d_law_sum : Def C "_law_sum" s_law_sum
  d_law_sum_names : Def C "_law_sum_names" s_law_sum_names
  d_law_quantified : Def C "_law_quantified" s_law_quantified
  d_law_due_names : Def C "_law_due_names" s_law_due_names
  d_law : Def C "law" s_law
  z_isinstance : C.mg "isinstance" = none
  z_bool : C.mg "bool" = none
  z_int : C.mg "int" = none
  c_MOST_NUMBER : GD ⟨C.P, C.w, C.K⟩ C.mg "MOST_NUMBER" D_MOST_NUMBER
  z_str : C.mg "str" = none
  c_FIELDS : GD ⟨C.P, C.w, C.K⟩ C.mg "FIELDS" D_FIELDS
  z_len : C.mg "len" = none
  z_tuple : C.mg "tuple" = none
  c_LEAF_KINDS : GD ⟨C.P, C.w, C.K⟩ C.mg "LEAF_KINDS" D_LEAF_KINDS
  c_ROWS : GD ⟨C.P, C.w, C.K⟩ C.mg "ROWS" D_ROWS
  c_MAYBES : GD ⟨C.P, C.w, C.K⟩ C.mg "MAYBES" D_MAYBES
  z_list : C.mg "list" = none
  z_zip : C.mg "zip" = none
  c_MOST_TREES : GD ⟨C.P, C.w, C.K⟩ C.mg "MOST_TREES" D_MOST_TREES
  c_LEAVES : GD ⟨C.P, C.w, C.K⟩ C.mg "LEAVES" D_LEAVES
  c_SECOND : GD ⟨C.P, C.w, C.K⟩ C.mg "SECOND" D_SECOND
  c_FIRST : GD ⟨C.P, C.w, C.K⟩ C.mg "FIRST" D_FIRST
  c_QUANTIFIERS : GD ⟨C.P, C.w, C.K⟩ C.mg "QUANTIFIERS" D_QUANTIFIERS
  z_sorted : C.mg "sorted" = none
  z_range : C.mg "range" = none
  z_set : C.mg "set" = none
theorem ln0 {us : List Value} (h : us.length = 0) : us = [] := List.length_eq_zero_iff.mp h
theorem ln1 {us : List Value} (h : us.length = 1) : ∃ a, us = [a] := by
  match us, h with
  | [a], _ => exact ⟨a, rfl⟩
theorem ln2 {us : List Value} (h : us.length = 2) : ∃ a b, us = [a, b] := by
  match us, h with
  | [a, b], _ => exact ⟨a, b, rfl⟩
theorem ln3 {us : List Value} (h : us.length = 3) : ∃ a b c, us = [a, b, c] := by
  match us, h with
  | [a, b, c], _ => exact ⟨a, b, c, rfl⟩
theorem ln4 {us : List Value} (h : us.length = 4) : ∃ a b c d, us = [a, b, c, d] := by
  match us, h with
  | [a, b, c, d], _ => exact ⟨a, b, c, d, rfl⟩
theorem ln5 {us : List Value} (h : us.length = 5) : ∃ a b c d e, us = [a, b, c, d, e] := by
  match us, h with
  | [a, b, c, d, e], _ => exact ⟨a, b, c, d, e, rfl⟩
theorem Okf.none {C : Wd} {x : Str} {st : Stmt} {ps : List Str} {k : Nat} (T : Def C x st)
    (bnd : ∀ (kV doc pm : Value) (an : Option Addr) (cdv ct : Value) (us : List Value), us.length = ps.length → bindArgs (PySem.W.fnOf x x (defArgs st) (defBody st) (defScope st) .none kV doc pm an cdv ct) ⟨us, []⟩ = pure (ps.zip us)) : Okf C x ps k (fun _ _ _ _ => False) := by
  obtain ⟨fa, fd, F, hm⟩ := T.ex
  exact ⟨fa, fd, hm, F.kp, F.bindsN bnd, F.bindsA bnd, ⟨fun vs H Q E h => (by obtain ⟨_, _, _, _, _, _, z, _⟩ := h; exact z.elim), fun A outer s H args us vs Q E hr he hb hv h => (by obtain ⟨_, _, _, _, _, _, z, _⟩ := h; exact z.elim)⟩⟩
theorem bnd_is_number (kV doc pm : Value) (an : Option Addr) (cdv ct : Value) (us : List Value) (h : us.length = 3) : bindArgs (PySem.W.fnOf "is_number" "is_number" (defArgs s_is_number) (defBody s_is_number) (defScope s_is_number) .none kV doc pm an cdv ct) ⟨us, []⟩ = pure (List.zip (["value", "least", "most"] : List Str) us) := by obtain ⟨a, b, c, rfl⟩ := ln3 h; kernel_rfl
theorem bnd_is_leaf (kV doc pm : Value) (an : Option Addr) (cdv ct : Value) (us : List Value) (h : us.length = 3) : bindArgs (PySem.W.fnOf "is_leaf" "is_leaf" (defArgs s_is_leaf) (defBody s_is_leaf) (defScope s_is_leaf) .none kV doc pm an cdv ct) ⟨us, []⟩ = pure (List.zip (["value", "kind", "of_text"] : List Str) us) := by obtain ⟨a, b, c, rfl⟩ := ln3 h; kernel_rfl
theorem bnd_fields_of (kV doc pm : Value) (an : Option Addr) (cdv ct : Value) (us : List Value) (h : us.length = 2) : bindArgs (PySem.W.fnOf "fields_of" "fields_of" (defArgs s_fields_of) (defBody s_fields_of) (defScope s_fields_of) .none kV doc pm an cdv ct) ⟨us, []⟩ = pure (List.zip (["value", "kind"] : List Str) us) := by obtain ⟨a, b, rfl⟩ := ln2 h; kernel_rfl
theorem bnd_is_shaped (kV doc pm : Value) (an : Option Addr) (cdv ct : Value) (us : List Value) (h : us.length = 5) : bindArgs (PySem.W.fnOf "is_shaped" "is_shaped" (defArgs s_is_shaped) (defBody s_is_shaped) (defScope s_is_shaped) .none kV doc pm an cdv ct) ⟨us, []⟩ = pure (List.zip (["value", "kind", "of_text", "trees", "statements"] : List Str) us) := by obtain ⟨a, b, c, d, e, rfl⟩ := ln5 h; kernel_rfl
theorem bnd_is_formula (kV doc pm : Value) (an : Option Addr) (cdv ct : Value) (us : List Value) (h : us.length = 1) : bindArgs (PySem.W.fnOf "is_formula" "is_formula" (defArgs s_is_formula) (defBody s_is_formula) (defScope s_is_formula) .none kV doc pm an cdv ct) ⟨us, []⟩ = pure (List.zip (["value"] : List Str) us) := by obtain ⟨a, rfl⟩ := ln1 h; kernel_rfl
theorem bnd_parts_of (kV doc pm : Value) (an : Option Addr) (cdv ct : Value) (us : List Value) (h : us.length = 1) : bindArgs (PySem.W.fnOf "parts_of" "parts_of" (defArgs s_parts_of) (defBody s_parts_of) (defScope s_parts_of) .none kV doc pm an cdv ct) ⟨us, []⟩ = pure (List.zip (["tree"] : List Str) us) := by obtain ⟨a, rfl⟩ := ln1 h; kernel_rfl
theorem bnd_scoped (kV doc pm : Value) (an : Option Addr) (cdv ct : Value) (us : List Value) (h : us.length = 1) : bindArgs (PySem.W.fnOf "scoped" "scoped" (defArgs s_scoped) (defBody s_scoped) (defScope s_scoped) .none kV doc pm an cdv ct) ⟨us, []⟩ = pure (List.zip (["tree"] : List Str) us) := by obtain ⟨a, rfl⟩ := ln1 h; kernel_rfl
theorem bnd_free_names (kV doc pm : Value) (an : Option Addr) (cdv ct : Value) (us : List Value) (h : us.length = 1) : bindArgs (PySem.W.fnOf "free_names" "free_names" (defArgs s_free_names) (defBody s_free_names) (defScope s_free_names) .none kV doc pm an cdv ct) ⟨us, []⟩ = pure (List.zip (["tree"] : List Str) us) := by obtain ⟨a, rfl⟩ := ln1 h; kernel_rfl
theorem bnd_check_formula (kV doc pm : Value) (an : Option Addr) (cdv ct : Value) (us : List Value) (h : us.length = 1) : bindArgs (PySem.W.fnOf "check_formula" "check_formula" (defArgs s_check_formula) (defBody s_check_formula) (defScope s_check_formula) .none kV doc pm an cdv ct) ⟨us, []⟩ = pure (List.zip (["formula"] : List Str) us) := by obtain ⟨a, rfl⟩ := ln1 h; kernel_rfl
theorem bnd_names_of (kV doc pm : Value) (an : Option Addr) (cdv ct : Value) (us : List Value) (h : us.length = 1) : bindArgs (PySem.W.fnOf "names_of" "names_of" (defArgs s_names_of) (defBody s_names_of) (defScope s_names_of) .none kV doc pm an cdv ct) ⟨us, []⟩ = pure (List.zip (["formula"] : List Str) us) := by obtain ⟨a, rfl⟩ := ln1 h; kernel_rfl
theorem bnd_law_bag (kV doc pm : Value) (an : Option Addr) (cdv ct : Value) (us : List Value) (h : us.length = 1) : bindArgs (PySem.W.fnOf "_law_bag" "_law_bag" (defArgs s_law_bag) (defBody s_law_bag) (defScope s_law_bag) .none kV doc pm an cdv ct) ⟨us, []⟩ = pure (List.zip (["script"] : List Str) us) := by obtain ⟨a, rfl⟩ := ln1 h; kernel_rfl
theorem bnd_law_take (kV doc pm : Value) (an : Option Addr) (cdv ct : Value) (us : List Value) (h : us.length = 2) : bindArgs (PySem.W.fnOf "_law_take" "_law_take" (defArgs s_law_take) (defBody s_law_take) (defScope s_law_take) .none kV doc pm an cdv ct) ⟨us, []⟩ = pure (List.zip (["bag", "many"] : List Str) us) := by obtain ⟨a, b, rfl⟩ := ln2 h; kernel_rfl
theorem bnd_law_kind_same (kV doc pm : Value) (an : Option Addr) (cdv ct : Value) (us : List Value) (h : us.length = 2) : bindArgs (PySem.W.fnOf "_law_kind_same" "_law_kind_same" (defArgs s_law_kind_same) (defBody s_law_kind_same) (defScope s_law_kind_same) .none kV doc pm an cdv ct) ⟨us, []⟩ = pure (List.zip (["told", "due"] : List Str) us) := by obtain ⟨a, b, rfl⟩ := ln2 h; kernel_rfl
theorem bnd_law_number (kV doc pm : Value) (an : Option Addr) (cdv ct : Value) (us : List Value) (h : us.length = 1) : bindArgs (PySem.W.fnOf "_law_number" "_law_number" (defArgs s_law_number) (defBody s_law_number) (defScope s_law_number) .none kV doc pm an cdv ct) ⟨us, []⟩ = pure (List.zip (["bag"] : List Str) us) := by obtain ⟨a, rfl⟩ := ln1 h; kernel_rfl
theorem bnd_law_name (kV doc pm : Value) (an : Option Addr) (cdv ct : Value) (us : List Value) (h : us.length = 2) : bindArgs (PySem.W.fnOf "_law_name" "_law_name" (defArgs s_law_name) (defBody s_law_name) (defScope s_law_name) .none kV doc pm an cdv ct) ⟨us, []⟩ = pure (List.zip (["bag", "used"] : List Str) us) := by obtain ⟨a, b, rfl⟩ := ln2 h; kernel_rfl
theorem bnd_law_sum (kV doc pm : Value) (an : Option Addr) (cdv ct : Value) (us : List Value) (h : us.length = 3) : bindArgs (PySem.W.fnOf "_law_sum" "_law_sum" (defArgs s_law_sum) (defBody s_law_sum) (defScope s_law_sum) .none kV doc pm an cdv ct) ⟨us, []⟩ = pure (List.zip (["bag", "names", "deep"] : List Str) us) := by obtain ⟨a, b, c, rfl⟩ := ln3 h; kernel_rfl
theorem bnd_law_sum_names (kV doc pm : Value) (an : Option Addr) (cdv ct : Value) (us : List Value) (h : us.length = 1) : bindArgs (PySem.W.fnOf "_law_sum_names" "_law_sum_names" (defArgs s_law_sum_names) (defBody s_law_sum_names) (defScope s_law_sum_names) .none kV doc pm an cdv ct) ⟨us, []⟩ = pure (List.zip (["amount"] : List Str) us) := by obtain ⟨a, rfl⟩ := ln1 h; kernel_rfl
theorem bnd_law_quantified (kV doc pm : Value) (an : Option Addr) (cdv ct : Value) (us : List Value) (h : us.length = 3) : bindArgs (PySem.W.fnOf "_law_quantified" "_law_quantified" (defArgs s_law_quantified) (defBody s_law_quantified) (defScope s_law_quantified) .none kV doc pm an cdv ct) ⟨us, []⟩ = pure (List.zip (["bag", "names", "deep"] : List Str) us) := by obtain ⟨a, b, c, rfl⟩ := ln3 h; kernel_rfl
theorem bnd_law_due_names (kV doc pm : Value) (an : Option Addr) (cdv ct : Value) (us : List Value) (h : us.length = 2) : bindArgs (PySem.W.fnOf "_law_due_names" "_law_due_names" (defArgs s_law_due_names) (defBody s_law_due_names) (defScope s_law_due_names) .none kV doc pm an cdv ct) ⟨us, []⟩ = pure (List.zip (["formula", "told"] : List Str) us) := by obtain ⟨a, b, rfl⟩ := ln2 h; kernel_rfl
theorem bnd_law (kV doc pm : Value) (an : Option Addr) (cdv ct : Value) (us : List Value) (h : us.length = 1) : bindArgs (PySem.W.fnOf "law" "law" (defArgs s_law) (defBody s_law) (defScope s_law) .none kV doc pm an cdv ct) ⟨us, []⟩ = pure (List.zip (["script"] : List Str) us) := by obtain ⟨a, rfl⟩ := ln1 h; kernel_rfl
theorem ok_is_number {C : Wd} (F : Facts C) : Okf C "is_number" ["value", "least", "most"] 1 sp_is_number := okF (k := 0) F.d_is_number sc_is_number bnd_is_number (fun ds S Q E h => by (unfold sp_is_number at h; (repeat (obtain ⟨_, h⟩ := h)); subst_vars; rfl)) (fun fa cdv A outer s H E hr => drv_is_number F.z_isinstance F.z_bool F.z_int cdv A outer s H E hr) rd_is_number
theorem ok_is_leaf {C : Wd} (F : Facts C) : Okf C "is_leaf" ["value", "kind", "of_text"] 2 sp_is_leaf := okF (k := 1) F.d_is_leaf sc_is_leaf bnd_is_leaf (fun ds S Q E h => by (unfold sp_is_leaf at h; (repeat (obtain ⟨_, h⟩ := h)); subst_vars; rfl)) (fun fa cdv A outer s H E hr => drv_is_leaf (ok_is_number F) F.c_MOST_NUMBER F.z_isinstance F.z_str cdv A outer s H E hr) rd_is_leaf
theorem ok_fields_of {C : Wd} (F : Facts C) : Okf C "fields_of" ["value", "kind"] 1 sp_fields_of := okF (k := 0) F.d_fields_of sc_fields_of bnd_fields_of (fun ds S Q E h => by (unfold sp_fields_of at h; (repeat (obtain ⟨_, h⟩ := h)); subst_vars; rfl)) (fun fa cdv A outer s H E hr => drv_fields_of F.c_FIELDS F.z_isinstance F.z_str F.z_len F.z_tuple cdv A outer s H E hr) rd_fields_of
theorem ok_is_shaped {C : Wd} (F : Facts C) : Okf C "is_shaped" ["value", "kind", "of_text", "trees", "statements"] 3 sp_is_shaped := okF (k := 2) F.d_is_shaped sc_is_shaped bnd_is_shaped (fun ds S Q E h => by (unfold sp_is_shaped at h; (repeat (obtain ⟨_, h⟩ := h)); subst_vars; rfl)) (fun fa cdv A outer s H E hr => drv_is_shaped (ok_is_leaf F) (ok_fields_of F) F.c_LEAF_KINDS F.c_ROWS F.c_MAYBES F.z_isinstance F.z_tuple F.z_list F.z_zip cdv A outer s H E hr) rd_is_shaped
theorem ok_is_formula {C : Wd} (F : Facts C) : Okf C "is_formula" ["value"] 4 sp_is_formula := okF (k := 3) F.d_is_formula sc_is_formula bnd_is_formula (fun ds S Q E h => by (unfold sp_is_formula at h; (repeat (obtain ⟨_, h⟩ := h)); subst_vars; rfl)) (fun fa cdv A outer s H E hr => drv_is_formula (ok_is_shaped F) F.c_MOST_TREES cdv A outer s H E hr) rd_is_formula
theorem ok_parts_of {C : Wd} (F : Facts C) : Okf C "parts_of" ["tree"] 1 sp_parts_of := okF (k := 0) F.d_parts_of sc_parts_of bnd_parts_of (fun ds S Q E h => by (unfold sp_parts_of at h; (repeat (obtain ⟨_, h⟩ := h)); subst_vars; rfl)) (fun fa cdv A outer s H E hr => drv_parts_of F.c_LEAVES F.c_SECOND F.c_FIRST cdv A outer s H E hr) rd_parts_of
theorem ok_scoped {C : Wd} (F : Facts C) : Okf C "scoped" ["tree"] 2 sp_scoped := okF (k := 1) F.d_scoped sc_scoped bnd_scoped (fun ds S Q E h => by (unfold sp_scoped at h; (repeat (obtain ⟨_, h⟩ := h)); subst_vars; rfl)) (fun fa cdv A outer s H E hr => drv_scoped (ok_parts_of F) F.c_QUANTIFIERS cdv A outer s H E hr) rd_scoped
theorem ok_free_names {C : Wd} (F : Facts C) : Okf C "free_names" ["tree"] 3 sp_free_names := okF (k := 2) F.d_free_names sc_free_names bnd_free_names (fun ds S Q E h => by (unfold sp_free_names at h; (repeat (obtain ⟨_, h⟩ := h)); subst_vars; rfl)) (fun fa cdv A outer s H E hr => drv_free_names (ok_scoped F) F.z_tuple F.z_sorted cdv A outer s H E hr) rd_free_names
theorem ok_check_formula {C : Wd} (F : Facts C) : Okf C "check_formula" ["formula"] 5 sp_check_formula := okF (k := 4) F.d_check_formula sc_check_formula bnd_check_formula (fun ds S Q E h => by (unfold sp_check_formula at h; (repeat (obtain ⟨_, h⟩ := h)); subst_vars; rfl)) (fun fa cdv A outer s H E hr => drv_check_formula (ok_is_formula F) cdv A outer s H E hr) rd_check_formula
theorem ok_names_of {C : Wd} (F : Facts C) : Okf C "names_of" ["formula"] 6 sp_names_of := okF (k := 5) F.d_names_of sc_names_of bnd_names_of (fun ds S Q E h => by (unfold sp_names_of at h; (repeat (obtain ⟨_, h⟩ := h)); subst_vars; rfl)) (fun fa cdv A outer s H E hr => drv_names_of (ok_check_formula F) (ok_free_names F) cdv A outer s H E hr) rd_names_of
theorem bndk_names_of (kV doc pm : Value) (an : Option Addr) (cdv ct : Value) (us : List Value) (h : us.length = 1) : bindArgs (PySem.W.fnOf "names_of" "names_of" (defArgs s_names_of) (defBody s_names_of) (defScope s_names_of) .none kV doc pm an cdv ct) ⟨[], List.zip (["formula"] : List Str) us⟩ = pure (List.zip (["formula"] : List Str) us) := by obtain ⟨a, rfl⟩ := ln1 h; kernel_rfl
theorem okk_names_of {C : Wd} (F : Facts C) : OkfK C "names_of" ["formula"] 6 sp_names_of := okFK (k := 5) F.d_names_of sc_names_of bndk_names_of (fun ds S Q E h => by (unfold sp_names_of at h; (repeat (obtain ⟨_, h⟩ := h)); subst_vars; rfl)) (fun fa cdv A outer s H E hr => drv_names_of (ok_check_formula F) (ok_free_names F) cdv A outer s H E hr) rd_names_of
theorem ok_law_bag {C : Wd} (F : Facts C) : Okf C "_law_bag" ["script"] 1 sp_law_bag := okF (k := 0) F.d_law_bag sc_law_bag bnd_law_bag (fun ds S Q E h => by (unfold sp_law_bag at h; (repeat (obtain ⟨_, h⟩ := h)); subst_vars; rfl)) (fun fa cdv A outer s H E hr => drv_law_bag F.z_int cdv A outer s H E hr) rd_law_bag
theorem ok_law_take {C : Wd} (F : Facts C) : Okf C "_law_take" ["bag", "many"] 1 sp_law_take := okF (k := 0) F.d_law_take sc_law_take bnd_law_take (fun ds S Q E h => by (unfold sp_law_take at h; (repeat (obtain ⟨_, h⟩ := h)); subst_vars; rfl)) (fun fa cdv A outer s H E hr => drv_law_take F.z_int cdv A outer s H E hr) rd_law_take
theorem ok_law_kind_same {C : Wd} (F : Facts C) : Okf C "_law_kind_same" ["told", "due"] 1 sp_law_kind_same := okF (k := 0) F.d_law_kind_same sc_law_kind_same bnd_law_kind_same (fun ds S Q E h => by (unfold sp_law_kind_same at h; (repeat (obtain ⟨_, h⟩ := h)); subst_vars; rfl)) (fun fa cdv A outer s H E hr => drv_law_kind_same F.z_isinstance F.z_list F.z_tuple F.z_len F.z_range F.z_bool F.z_int F.z_str cdv A outer s H E hr) rd_law_kind_same
theorem ok_law_number {C : Wd} (F : Facts C) : Okf C "_law_number" ["bag"] 2 sp_law_number := okF (k := 1) F.d_law_number sc_law_number bnd_law_number (fun ds S Q E h => by (unfold sp_law_number at h; (repeat (obtain ⟨_, h⟩ := h)); subst_vars; rfl)) (fun fa cdv A outer s H E hr => drv_law_number (ok_law_take F) cdv A outer s H E hr) rd_law_number
theorem ok_law_name {C : Wd} (F : Facts C) : Okf C "_law_name" ["bag", "used"] 2 sp_law_name := okF (k := 1) F.d_law_name sc_law_name bnd_law_name (fun ds S Q E h => by (unfold sp_law_name at h; (repeat (obtain ⟨_, h⟩ := h)); subst_vars; rfl)) (fun fa cdv A outer s H E hr => drv_law_name (ok_law_take F) F.z_len F.z_range F.z_str cdv A outer s H E hr) rd_law_name
theorem ok_law_sum {C : Wd} (F : Facts C) : ∀ N : Nat, Okf C "_law_sum" ["bag", "names", "deep"] (N + 3) (sp_law_sum N)
  | 0 => okF (k := 2) F.d_law_sum sc_law_sum bnd_law_sum (fun ds S Q E h => by (unfold sp_law_sum at h; (repeat (obtain ⟨_, h⟩ := h)); subst_vars; rfl)) (fun fa cdv A outer s H E hr => drv_law_sum (sumPrev 0) 0 (ok_law_take F) (ok_law_number F) (Okf.none F.d_law_sum bnd_law_sum) F.z_len cdv A outer s H E hr) (rd_law_sum 0 0)
  | N + 1 => okF (k := N + 3) F.d_law_sum sc_law_sum bnd_law_sum (fun ds S Q E h => by (unfold sp_law_sum at h; (repeat (obtain ⟨_, h⟩ := h)); subst_vars; rfl)) (fun fa cdv A outer s H E hr => drv_law_sum (sumPrev (N + 1)) (N + 1) (ok_law_take F) (ok_law_number F) (ok_law_sum F N) F.z_len cdv A outer s H E hr) (rd_law_sum (N + 1) (N + 1))
theorem ok_law_sum_names {C : Wd} (F : Facts C) : ∀ N : Nat, Okf C "_law_sum_names" ["amount"] (N + 1) (sp_law_sum_names N)
  | 0 => okF (k := 0) F.d_law_sum_names sc_law_sum_names bnd_law_sum_names (fun ds S Q E h => by (unfold sp_law_sum_names at h; (repeat (obtain ⟨_, h⟩ := h)); subst_vars; rfl)) (fun fa cdv A outer s H E hr => drv_law_sum_names (namPrev 0) 0 (Okf.none F.d_law_sum_names bnd_law_sum_names) cdv A outer s H E hr) (rd_law_sum_names 0 0)
  | N + 1 => okF (k := N + 1) F.d_law_sum_names sc_law_sum_names bnd_law_sum_names (fun ds S Q E h => by (unfold sp_law_sum_names at h; (repeat (obtain ⟨_, h⟩ := h)); subst_vars; rfl)) (fun fa cdv A outer s H E hr => drv_law_sum_names (namPrev (N + 1)) (N + 1) (ok_law_sum_names F N) cdv A outer s H E hr) (rd_law_sum_names (N + 1) (N + 1))
theorem ok_law_quantified {C : Wd} (F : Facts C) : ∀ N : Nat, Okf C "_law_quantified" ["bag", "names", "deep"] (N + 6) (sp_law_quantified N)
  | 0 => okF (k := 5) F.d_law_quantified sc_law_quantified bnd_law_quantified (fun ds S Q E h => by (unfold sp_law_quantified at h; (repeat (obtain ⟨_, h⟩ := h)); subst_vars; rfl)) (fun fa cdv A outer s H E hr => drv_law_quantified (quaPrev 0) 0 (ok_law_take F) (ok_law_sum F 2) (Okf.none F.d_law_quantified bnd_law_quantified) F.z_len cdv A outer s H E hr) (rd_law_quantified 0 0)
  | N + 1 => okF (k := N + 6) F.d_law_quantified sc_law_quantified bnd_law_quantified (fun ds S Q E h => by (unfold sp_law_quantified at h; (repeat (obtain ⟨_, h⟩ := h)); subst_vars; rfl)) (fun fa cdv A outer s H E hr => drv_law_quantified (quaPrev (N + 1)) (N + 1) (ok_law_take F) ((ok_law_sum F 2).mono (by omega)) (ok_law_quantified F N) F.z_len cdv A outer s H E hr) (rd_law_quantified (N + 1) (N + 1))
theorem due0 (ds : List D) (S : Sto) (Q : DK) (E : DX) (h : sp_law_due_names 0 ds S Q E) : False := by
  obtain ⟨t, u, l, ht, _⟩ := h
  have : 1 ≤ t.ht := by cases t <;> simp [Tr.ht] <;> omega
  omega
theorem ok_law_due_names {C : Wd} (F : Facts C) : ∀ N : Nat, Okf C "_law_due_names" ["formula", "told"] (N + 4) (sp_law_due_names N)
  | 0 => (Okf.none (ps := ["formula", "told"]) F.d_law_due_names bnd_law_due_names).imp due0
  | N + 1 => okF (k := N + 4) F.d_law_due_names sc_law_due_names bnd_law_due_names (fun ds S Q E h => by (unfold sp_law_due_names at h; (repeat (obtain ⟨_, h⟩ := h)); subst_vars; rfl)) (fun fa cdv A outer s H E hr => drv_law_due_names (sp_law_due_names N) N (ok_law_due_names F N) ((ok_law_sum_names F N).mono (by omega)) cdv A outer s H E hr) (rd_law_due_names N)
theorem ok_law {C : Wd} (F : Facts C) : Okf C "law" ["script"] 20 sp_law := okF (k := 19) F.d_law sc_law bnd_law (fun ds S Q E h => by (unfold sp_law at h; (repeat (obtain ⟨_, h⟩ := h)); subst_vars; rfl)) (fun fa cdv A outer s H E hr => drv_law (ok_law_bag F) (ok_law_name F) (ok_law_take F) ((ok_law_quantified F 5).mono (by decide)) ((ok_law_due_names F 9).mono (by decide)) (ok_law_kind_same F) (ok_names_of F) (okk_names_of F) F.z_range F.z_tuple F.z_sorted F.z_set cdv A outer s H E hr) rd_law
end K08
end
section
namespace LW
open PySem PySem.W PySem.Calls PyProof.Rows HandSHeadRun HR L2 DL
theorem facts {w : World} {K : PySem.W.Frag} {h : Heap} {mg : PySem.Str → Option Value} {base : Heap} (X : K.In h) (G : h.Ns mainGlobals mg) (c : SaysC P0 fa fn cn w K) : K08.Facts ⟨P0, w, K, mg, base⟩ where
  d_is_number := by
    obtain ⟨fd, F⟩ := c.d.def_ 2 (d := f_is_number) rfl
    exact ⟨_, fd, F, He.glo_ok X G (c.d.fact 2 (f := .glo "is_number") rfl)⟩
  d_is_leaf := by
    obtain ⟨fd, F⟩ := c.d.def_ 3 (d := f_is_leaf) rfl
    exact ⟨_, fd, F, He.glo_ok X G (c.d.fact 3 (f := .glo "is_leaf") rfl)⟩
  d_fields_of := by
    obtain ⟨fd, F⟩ := c.d.def_ 4 (d := f_fields_of) rfl
    exact ⟨_, fd, F, He.glo_ok X G (c.d.fact 4 (f := .glo "fields_of") rfl)⟩
  d_is_shaped := by
    obtain ⟨fd, F⟩ := c.d.def_ 5 (d := f_is_shaped) rfl
    exact ⟨_, fd, F, He.glo_ok X G (c.d.fact 5 (f := .glo "is_shaped") rfl)⟩
  d_is_formula := by
    obtain ⟨fd, F⟩ := c.d.def_ 6 (d := f_is_formula) rfl
    exact ⟨_, fd, F, He.glo_ok X G (c.d.fact 6 (f := .glo "is_formula") rfl)⟩
  d_parts_of := by
    obtain ⟨fd, F⟩ := c.d.def_ 7 (d := f_parts_of) rfl
    exact ⟨_, fd, F, He.glo_ok X G (c.d.fact 7 (f := .glo "parts_of") rfl)⟩
  d_scoped := by
    obtain ⟨fd, F⟩ := c.d.def_ 8 (d := f_scoped) rfl
    exact ⟨_, fd, F, He.glo_ok X G (c.d.fact 8 (f := .glo "scoped") rfl)⟩
  d_free_names := by
    obtain ⟨fd, F⟩ := c.d.def_ 9 (d := f_free_names) rfl
    exact ⟨_, fd, F, He.glo_ok X G (c.d.fact 9 (f := .glo "free_names") rfl)⟩
  d_check_formula := by
    obtain ⟨fd, F⟩ := c.d.def_ 10 (d := f_check_formula) rfl
    exact ⟨_, fd, F, He.glo_ok X G (c.d.fact 10 (f := .glo "check_formula") rfl)⟩
  d_names_of := by
    obtain ⟨fd, F⟩ := c.d.def_ 11 (d := f_names_of) rfl
    exact ⟨_, fd, F, He.glo_ok X G (c.d.fact 11 (f := .glo "names_of") rfl)⟩
  d_law_bag := by
    obtain ⟨fd, F⟩ := c.d.def_ 12 (d := f_law_bag) rfl
    exact ⟨_, fd, F, He.glo_ok X G (c.d.fact 12 (f := .glo "_law_bag") rfl)⟩
  d_law_take := by
    obtain ⟨fd, F⟩ := c.d.def_ 13 (d := f_law_take) rfl
    exact ⟨_, fd, F, He.glo_ok X G (c.d.fact 13 (f := .glo "_law_take") rfl)⟩
  d_law_kind_same := by
    obtain ⟨fd, F⟩ := c.d.def_ 14 (d := f_law_kind_same) rfl
    exact ⟨_, fd, F, He.glo_ok X G (c.d.fact 14 (f := .glo "_law_kind_same") rfl)⟩
  d_law_number := by
    obtain ⟨fd, F⟩ := c.d.def_ 15 (d := f_law_number) rfl
    exact ⟨_, fd, F, He.glo_ok X G (c.d.fact 15 (f := .glo "_law_number") rfl)⟩
  d_law_name := by
    obtain ⟨fd, F⟩ := c.d.def_ 16 (d := f_law_name) rfl
    exact ⟨_, fd, F, He.glo_ok X G (c.d.fact 16 (f := .glo "_law_name") rfl)⟩
  d_law_sum := by
    obtain ⟨fd, F⟩ := c.d.def_ 17 (d := f_law_sum) rfl
    exact ⟨_, fd, F, He.glo_ok X G (c.d.fact 17 (f := .glo "_law_sum") rfl)⟩
  d_law_sum_names := by
    obtain ⟨fd, F⟩ := c.d.def_ 18 (d := f_law_sum_names) rfl
    exact ⟨_, fd, F, He.glo_ok X G (c.d.fact 18 (f := .glo "_law_sum_names") rfl)⟩
  d_law_quantified := by
    obtain ⟨fd, F⟩ := c.d.def_ 19 (d := f_law_quantified) rfl
    exact ⟨_, fd, F, He.glo_ok X G (c.d.fact 19 (f := .glo "_law_quantified") rfl)⟩
  d_law_due_names := by
    obtain ⟨fd, F⟩ := c.d.def_ 20 (d := f_law_due_names) rfl
    exact ⟨_, fd, F, He.glo_ok X G (c.d.fact 20 (f := .glo "_law_due_names") rfl)⟩
  d_law := by
    obtain ⟨fd, F⟩ := c.d.def_ 21 (d := f_law) rfl
    exact ⟨_, fd, F, He.glo_ok X G (c.d.fact 21 (f := .glo "law") rfl)⟩
  z_isinstance := He.free_ok X G (c.d.fact 26 (f := .free "isinstance") rfl)
  z_bool := He.free_ok X G (c.d.fact 24 (f := .free "bool") rfl)
  z_int := He.free_ok X G (c.d.fact 25 (f := .free "int") rfl)
  c_MOST_NUMBER := Cn.gd (M := ⟨P0, w, K⟩) X G (c := cn_MOST_NUMBER) (c.ok _ (by unfold cn; simp)) (c.hs _ (by unfold cn; simp))
  z_str := He.free_ok X G (c.d.fact 32 (f := .free "str") rfl)
  c_FIELDS := Cn.gd (M := ⟨P0, w, K⟩) X G (c := cn_FIELDS) (c.ok _ (by unfold cn; simp)) (c.hs _ (by unfold cn; simp))
  z_len := He.free_ok X G (c.d.fact 27 (f := .free "len") rfl)
  z_tuple := He.free_ok X G (c.d.fact 33 (f := .free "tuple") rfl)
  c_LEAF_KINDS := Cn.gd (M := ⟨P0, w, K⟩) X G (c := cn_LEAF_KINDS) (c.ok _ (by unfold cn; simp)) (c.hs _ (by unfold cn; simp))
  c_ROWS := Cn.gd (M := ⟨P0, w, K⟩) X G (c := cn_ROWS) (c.ok _ (by unfold cn; simp)) (c.hs _ (by unfold cn; simp))
  c_MAYBES := Cn.gd (M := ⟨P0, w, K⟩) X G (c := cn_MAYBES) (c.ok _ (by unfold cn; simp)) (c.hs _ (by unfold cn; simp))
  z_list := He.free_ok X G (c.d.fact 28 (f := .free "list") rfl)
  z_zip := He.free_ok X G (c.d.fact 34 (f := .free "zip") rfl)
  c_MOST_TREES := Cn.gd (M := ⟨P0, w, K⟩) X G (c := cn_MOST_TREES) (c.ok _ (by unfold cn; simp)) (c.hs _ (by unfold cn; simp))
  c_LEAVES := Cn.gd (M := ⟨P0, w, K⟩) X G (c := cn_LEAVES) (c.ok _ (by unfold cn; simp)) (c.hs _ (by unfold cn; simp))
  c_SECOND := Cn.gd (M := ⟨P0, w, K⟩) X G (c := cn_SECOND) (c.ok _ (by unfold cn; simp)) (c.hs _ (by unfold cn; simp))
  c_FIRST := Cn.gd (M := ⟨P0, w, K⟩) X G (c := cn_FIRST) (c.ok _ (by unfold cn; simp)) (c.hs _ (by unfold cn; simp))
  c_QUANTIFIERS := Cn.gd (M := ⟨P0, w, K⟩) X G (c := cn_QUANTIFIERS) (c.ok _ (by unfold cn; simp)) (c.hs _ (by unfold cn; simp))
  z_sorted := He.free_ok X G (c.d.fact 31 (f := .free "sorted") rfl)
  z_range := He.free_ok X G (c.d.fact 29 (f := .free "range") rfl)
  z_set := He.free_ok X G (c.d.fact 30 (f := .free "set") rfl)
end LW
end
noncomputable section
namespace LW
open PySem PySem.W PySem.Calls PyProof.Rows HandSHeadRun HR L2 DL
theorem okLaw {w : World} {K : PySem.W.Frag} {h : Heap} {mg : PySem.Str → Option Value} {fa' : Addr} {fd : FuncData} (X : K.In h) (G : h.Ns mainGlobals mg) (c : SaysC P0 fa fn cn w K)
    (F : FunD K "law" "law" (defArgs (topS 43)) (defBody (topS 43)) (defScope (topS 43)) [] [] fa' fd) (base : Heap) : FnOk P0 w K mg base (L2.CX P0 w) 20 fa' fd ["script"] (lift ⟨P0, w, K⟩ K08.sp_law) :=
  have Fc : K08.Facts ⟨P0, w, K, mg, base⟩ := facts X G c
  okD (k := 19) F K08.sc_law (fun ds S Q E h => by (unfold K08.sp_law at h; (repeat (obtain ⟨_, h⟩ := h)); subst_vars; rfl))
    (fun cdv A outer s H E hr => K08.drv_law (C := ⟨P0, w, K, mg, base⟩) (K08.ok_law_bag Fc) (K08.ok_law_name Fc) (K08.ok_law_take Fc) ((K08.ok_law_quantified Fc 5).mono (by decide)) ((K08.ok_law_due_names Fc 9).mono (by decide)) (K08.ok_law_kind_same Fc) (K08.ok_names_of Fc) (K08.okk_names_of Fc) Fc.z_range Fc.z_tuple Fc.z_sorted Fc.z_set cdv A outer s H E hr) K08.rd_law
abbrev dL : DefRec := topDef P0 43
theorem x_e : opening LR.prog = plainProg LR.prog.main.scope.names := by kernel_rfl
theorem x_f (s : Shared) : fenceModules? LR.prog s = some s := by kernel_rfl
theorem x_def : defOf qv LR.name = some (dL, []) := by kernel_rfl
theorem x_the : LR.prog.theDef LR.name = some (dL.params, dL.body, dL.scope) := by kernel_rfl
theorem x_k : kwWritten? dL.params.kwonlyargs dL.params.kw_defaults = some [] := by rfl
theorem x_w : (!LR.writes || LR.records.isEmpty) = true := by decide +kernel
theorem x_s : LR.wellSaid = true := by decide +kernel
theorem x_o : (chainsOk qv && (opensWell LR.prog && (frees LR.toRowW && LR.within.isEmpty))) = true := by decide +kernel
theorem x_b : LR.prog.bare := ⟨rfl, rfl, rfl, rfl, rfl, by decide +kernel⟩
theorem x_nm : dL.name = ("law" : PySem.Str) := by kernel_rfl
theorem x_p1 : PySem.Challenge.rw_sumwarden_k08_free_names.most = some 63 := by rfl
theorem x_p2 : dL.params.defaults = [] := by kernel_rfl
theorem x_call : WalkO qv loose (XL qv []) hk.says LR.toRowW dL [] fun f vs => PySem.call f vs := by
  refine HR.walk_x (l := PySem.Challenge.rw_sumwarden_k08_free_names) (n := 63) (k := 20) (x := "script") (sp := K08.sp_law) x_p1 (by decide) x_p2 ⟨rfl, by decide, by decide⟩ (fun ns S Q _ z => ⟨ns, rfl, z⟩) ?F
  intro w mg fa h Y G hmg0
  obtain ⟨K, KX, c⟩ := Y
  have hmg : mg ("law" : PySem.Str) = some (.ref fa) := by
    rw [← x_nm]
    exact hmg0
  obtain ⟨fd, F⟩ := c.d.def_ 21 (d := LW.f_law) rfl
  have e := hmg.symm.trans (He.glo_ok KX G (c.d.fact 21 (f := .glo "law") rfl))
  cases e
  exact ⟨K, fd, KX, fun s u => L2.FunD.bindsA (ps := ["script"]) F K08.bnd_law s [u] rfl, fun base _ _ => LW.okLaw KX G c F base⟩
end LW
open PySem PySem.W PySem.Calls PyProof.Rows
theorem PySem.Challenge.cw_sumwarden_k08_free_names_holds : PySem.Challenge.rw_sumwarden_k08_free_names.Holds := by
  w_on; o_law
  refine HR.head_x (r := OpenLaw.row PySem.Challenge.rw_sumwarden_k08_free_names) (q := LW.qv) (H := LW.hk) (M := 12 + (100000000 + 20000)) (loose := LW.loose) (d := LW.dL) (kwd := [])
    LW.x_e LW.x_f LW.top LW.x_def LW.x_the LW.x_k LW.x_w LW.x_s LW.x_o LW.x_b ?hw LW.x_call
  case hw => w_witness2
end
