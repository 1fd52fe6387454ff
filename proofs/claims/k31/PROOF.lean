import PyProof.Rows.All
import Wide.All
import OpenK.AllK
import Wide.FinOn
import HandS.ForMost
import HandS.Exc
import HandS.Style
import HandS.Flow
import HandS.Deep
import HandS.TupMul
import HandS.DictTup
import HandS.DictEq
import HandS.Small
import HandS.IsInst
import KE.KDictDisplayH
import HandS.Dict
import HandS.Iter
import HandS.List
import HandS.SortRule
import KE.KDictWalk
import KE.KDictKeyed
import HandS.Zip
import HandS.Rev
import HandS.RevTup
import HandS.WideBits
import HandS.Conv
import KE.GoesEnum
import KE.GoesMore
import HandS.DictComp
import KE.KDictCopyH
import HandS.TryMany
import HandS.Comp
import HandS.ReplaceLit
import HandS.TupAny
import HandS.Codes
import HandS.CallSlots
import HandS.ExcOwn
import HandS.ExcIs
import HandS.More
import HandS.FStr
import HandS.Text
import HandS.CallRecv
import HandS.Flt
import HandS.TryOnly
import HandS.Words
import HandS.WordsExc
import HandS.Ends
import PySem.Challenge.RW_ramet_k31_tapes_as_lines
set_option Elab.async false
set_option linter.all false
set_option maxRecDepth 100000
set_option maxHeartbeats 2000000
/-! Dicts whose keys are tuples of ints, tracked or constant: a thing of our own in the abstract heap. -/
namespace Ng
open PySem PySem.Spec PyProof.Rows PySem.W
section
variable {prog : Program} {w : World} {K : Type} [DecidableEq K] {knd : HeapKind prog w K} {A : Around} {E : Value → Shared → Prop} {s : Shared}
inductive HitsH {K : Type} [DecidableEq K] (prog : Program) (w : World) (A : Around) (s : Shared) (xb : List (K × Addr × Value)) : List (K × Addr × Value) → Bool → Prop
  | nil : HitsH prog w A s xb [] true
  | miss {k : K} {p : Addr × Value} {r : List (K × Addr × Value)} : atKey xb k = none → HitsH prog w A s xb ((k, p) :: r) false
  | hit {k : K} {p q : Addr × Value} {r : List (K × Addr × Value)} {e b : Bool} : atKey xb k = some q → SeqAt.EqP prog w A s p.2 q.2 e → HitsH prog w A s xb r b → HitsH prog w A s xb ((k, p) :: r) (e && b)
theorem HitsH.inv {xb : List (K × Addr × Value)} {k : K} {p : Addr × Value} {r : List (K × Addr × Value)} {b : Bool} (h : HitsH prog w A s xb ((k, p) :: r) b) :
    (atKey xb k = none ∧ b = false) ∨ ∃ q e b', atKey xb k = some q ∧ SeqAt.EqP prog w A s p.2 q.2 e ∧ HitsH prog w A s xb r b' ∧ b = (e && b') := by
  cases h with
  | miss hn => exact .inl ⟨hn, rfl⟩
  | hit hy he hr => exact .inr ⟨_, _, _, hy, he, hr, rfl⟩
theorem samePairsH {nm : String} {a b : Addr} {xa xb : List (K × Addr × Value)} {r : Bool} {Q : Bool → Shared → Prop} (ha : (a == sysModules) = false) (hb : (b == sysModules) = false) (hu : knd.room A)
    (da : s.heap.DictOfH knd a xa) (db : s.heap.DictOfH knd b xb) (hits : xa.length = xb.length → HitsH prog w A s xb xa r) (h : Q (xa.length == xb.length && r) s) :
    wpAny (model prog w) A (Builtin.Dict.samePairs nm a b) Q E s := by
  obtain ⟨oa, es, ep, hoa, _, hda, hea, hia, hna⟩ := da
  obtain ⟨ob, es', ep', hob, _, hdb, heb, hib, hnb⟩ := db
  have hla : xa.length = es.size := (size_of_entries hea).symm
  have hlb : xb.length = es'.size := (size_of_entries heb).symm
  rw [hla, hlb] at h
  unfold Builtin.Dict.samePairs Builtin.Dict.showsAll
  rw [if_neg (show ¬ (a == sysModules) = true by rw [ha]; exact Bool.false_ne_true), if_neg (show ¬ (b == sysModules) = true by rw [hb]; exact Bool.false_ne_true)]
  refine wpAny_bind (wpAny_pure (wpAny_bind (wpAny_pure ?_)))
  refine wpAny_bind (wpAny_dictEntries hoa hda ?_)
  dsimp only
  refine wpAny_bind (wpAny_dictEntries hob hdb ?_)
  by_cases hsz : es.size = es'.size
  case neg =>
    rw [if_pos (by simpa using hsz)]
    have hbf : (es.size == es'.size) = false := by simpa using hsz
    rw [hbf, Bool.false_and] at h
    exact wpAny_bind (wpAny_rule (wpAny_pure h))
  case pos =>
    have h' : Q r s := by simpa [hsz] using h
    have hits' := hits (by rw [hla, hlb]; exact hsz)
    rw [if_neg (by rw [hsz]; simp)]
    refine wpAny_bind (wpAny_dictEpoch hoa hda ?_)
    refine wpAny_bind ?_
    rw [Std.Legacy.Range.forIn_eq_forIn_range']
    simp only [Std.Legacy.Range.size, Nat.sub_zero, Nat.add_sub_cancel, Nat.div_one]
    refine wpAny_forIn_list _
      (fun rest q s' => s' = s ∧ q = (none, ()) ∧ ∃ i, rest = List.range' i (es.size - i) ∧ i ≤ es.size ∧ HitsH prog w A s xb (xa.drop i) r)
      _ ?_ ?_ _ _ ⟨rfl, rfl, 0, by simp, Nat.zero_le _, hits'⟩
    · rintro x rest q s' ⟨rfl, rfl, i, hr, hi, hpre⟩
      have hlt : i < es.size := by
        rcases Nat.lt_or_ge i es.size with h | h
        · exact h
        · rw [Nat.sub_eq_zero_of_le h] at hr; simp at hr
      obtain ⟨rfl, hrest⟩ : x = i ∧ rest = List.range' (i + 1) (es.size - (i + 1)) := by
        have e : es.size - i = (es.size - (i + 1)) + 1 := by omega
        rw [e, List.range'_succ] at hr
        injection hr with h1 h2
        exact ⟨h1, h2⟩
      refine wpAny_bind (wpAny_dictEntries hoa hda ?_)
      have hlt' : x < xa.length := by rw [hla]; exact hlt
      obtain ⟨k, p, hkv⟩ : ∃ k p, xa[x] = (k, p) := ⟨_, _, rfl⟩
      have hdrop : xa.drop x = (k, p) :: xa.drop (x + 1) := by rw [← hkv]; exact List.drop_eq_getElem_cons hlt'
      have hx? : xa[x]? = some (k, p) := by rw [List.getElem?_eq_getElem hlt', hkv]
      have hex : es[x]? = some (entryOfKey knd (k, p)) := by rw [entry_at hea x, hx?]; rfl
      have hkey : knd.is s'.heap k p.1 := hia (k, p) (List.mem_of_getElem? hx?)
      rw [hex]
      rw [hdrop] at hpre
      refine wpAny_bind (wpAny_holding (wpAny_bind (wpAny_dictFind_heap hu hkey hob hdb heb hib hnb ?_ ?_)))
      · intro hno
        have hn : atKey xb k = none := atKey_none_of_get hno
        rcases hpre.inv with ⟨_, er⟩ | ⟨y, _, _, hy, _⟩
        · rw [er] at h'
          refine wpAny_pure ?_
          show wpAny _ _ (if (!false) = true then _ else _) _ _ _
          rw [if_pos (by decide)]
          exact wpAny_pure (wpAny_pure h')
        · rw [hn] at hy; exact nomatch hy
      · intro j q hj
        have hv' : atKey xb k = some q := atKey_of_get hnb hj
        refine wpAny_bind (wpAny_dictEntries hob hdb ?_)
        rw [entry_at heb j, hj]
        rcases hpre.inv with ⟨hn, _⟩ | ⟨y, e, b', hy, he, hrr, er⟩
        · rw [hv'] at hn; exact nomatch hn
        · have ey : q = y := Option.some.inj (hv'.symm.trans hy)
          rw [← ey] at he
          refine wpAny_holding (he _ _ ?_)
          cases e with
          | false =>
            rw [er, Bool.false_and] at h'
            show wpAny _ _ (if (!false) = true then _ else _) _ _ _
            rw [if_pos (by decide)]
            exact wpAny_pure (wpAny_pure h')
          | true =>
            rw [Bool.true_and] at er
            rw [← er] at hrr
            show wpAny _ _ (if (!true) = true then _ else _) _ _ _
            rw [if_neg (by decide)]
            refine wpAny_bind (wpAny_dictEpoch hoa hda ?_)
            rw [if_neg (by simp)]
            exact wpAny_pure ⟨rfl, rfl, x + 1, hrest, hlt, hrr⟩
    · rintro q s' ⟨rfl, rfl, i, hr, hi, hpre⟩
      have hin : i = es.size := by
        rcases Nat.lt_or_ge i es.size with h | h
        · have e : es.size - i = (es.size - (i + 1)) + 1 := by omega
          rw [e, List.range'_succ] at hr; exact nomatch hr
        · exact Nat.le_antisymm hi h
      refine wpAny_pure ?_
      rw [hin, ← hla, List.drop_length] at hpre
      cases hpre
      exact h'
theorem eqH {a b : Addr} {xa xb : List (K × Addr × Value)} {r : Bool} {Q : Value → Shared → Prop} (ha : (a == sysModules) = false) (hb : (b == sysModules) = false) (hr : knd.room A.in1)
    (da : s.heap.DictOfH knd a xa) (db : s.heap.DictOfH knd b xb) (hu : A.units < cLine) (hits : xa.length = xb.length → HitsH prog w A.in1 s xb xa r) (h : Q (.bool (xa.length == xb.length && r)) s) :
    wpAny (model prog w) A (compareOp .Eq (.ref a) (.ref b)) Q E s := by
  refine wpAny_richCompare_same_room (op := .Eq) da.typeIs db.typeIs PySem.F.slot_dict_eq (wpAny_call_entry PySem.F.slot_dict_eq da.typeIs PySem.F.entry_dict_eq ?_ (PySem.F.args_dict_eq_2 _ _)) hu
  show wpAny _ _ (Builtin.Dict.dictSlotArgs "__eq__" ⟨[.ref a, .ref b], []⟩ >>= _) _ _ s
  refine wpAny_bind ?_
  unfold Builtin.Dict.dictSlotArgs
  refine wpAny_bind (wpAny_notOrdered_dict da.typeIs ?_)
  show wpAny _ _ (pure (Value.ref a, Value.ref b)) _ _ s
  refine wpAny_pure ?_
  refine wpAny_bind (wpAny_isInstance (T := "dict") db.typeIs PySem.F.sub_dict_dict ?_)
  simp only [Bool.not_true, Bool.false_eq_true, if_false]
  refine wpAny_bind (wpAny_pure (wpAny_bind (wpAny_pure ?_)))
  refine wpAny_bind (samePairsH ha hb hr da db hits ?_)
  refine wpAny_pure ⟨_, rfl, ?_, ?_⟩
  · exact fun x => nomatch x
  · simpa using h
theorem neH {a b : Addr} {xa xb : List (K × Addr × Value)} {r : Bool} {Q : Value → Shared → Prop} (ha : (a == sysModules) = false) (hb : (b == sysModules) = false) (hr : knd.room A.in1)
    (da : s.heap.DictOfH knd a xa) (db : s.heap.DictOfH knd b xb) (hu : A.units < cLine) (hits : xa.length = xb.length → HitsH prog w A.in1 s xb xa r) (h : Q (.bool (!(xa.length == xb.length && r))) s) :
    wpAny (model prog w) A (compareOp .NotEq (.ref a) (.ref b)) Q E s := by
  refine wpAny_richCompare_same_room (op := .NotEq) da.typeIs db.typeIs PySem.F.slot_dict_ne (wpAny_call_entry PySem.F.slot_dict_ne da.typeIs PySem.F.entry_dict_ne ?_ (PySem.F.args_dict_ne_2 _ _)) hu
  show wpAny _ _ (Builtin.Dict.dictSlotArgs "__ne__" ⟨[.ref a, .ref b], []⟩ >>= _) _ _ s
  refine wpAny_bind ?_
  unfold Builtin.Dict.dictSlotArgs
  refine wpAny_bind (wpAny_notOrdered_dict da.typeIs ?_)
  show wpAny _ _ (pure (Value.ref a, Value.ref b)) _ _ s
  refine wpAny_pure ?_
  refine wpAny_bind (wpAny_isInstance (T := "dict") db.typeIs PySem.F.sub_dict_dict ?_)
  simp only [Bool.not_true, Bool.false_eq_true, if_false]
  refine wpAny_bind (wpAny_pure (wpAny_bind (wpAny_pure ?_)))
  refine wpAny_bind (samePairsH ha hb hr da db hits ?_)
  refine wpAny_pure ⟨_, rfl, ?_, ?_⟩
  · exact fun x => nomatch x
  · simpa using h
end

end Ng
namespace Ng
open PySem L2
/-! ### the thing in the abstract heap -/
def hashI (k : List Int) : Int := reduceHash (Builtin.Tuple.tupleHashOf (k.map hashInt))
def entI (x : List Int × Addr × Value) : DictEntry := ⟨hashI x.1, .ref x.2.1, x.2.2⟩
abbrev tk (P : Program) (w : World) : HeapKind P w (List Int) := tupleKind (intKind P w)
theorem ent_eq (P : Program) (w : World) : entryOfKey (tk P w) = entI := rfl
def DX (a : Addr) (xs : List (List Int × Addr × Value)) : HO := .ext fun h => xs.length ≤ sizeLine ∧ (a == sysModules) = false ∧ (xs.map (·.1)).Nodup ∧ ∃ o es ep, h.get? a = some o ∧ o.ExactDict ∧ o.data = .dict es ep ∧ es.toList = xs.map entI
/-- its keys stand where the entries say -/
def KX (K : PySem.W.Frag) (H : Hp) (xs : List (List Int × Addr × Value)) : Prop := ∀ x ∈ xs, SqT K H x.2.1 (x.1.map V.int)
section
variable {P : Program} {w : World} {H : Hp} {h : Heap} {a b : Addr} {xs : List (List Int × Addr × Value)}
theorem dx_new (h1 : xs.length ≤ sizeLine) (h2 : (a == sysModules) = false) (dd : h.DictOfH (tk P w) a xs) : ObjOk P w H h a (DX a xs) := by
  obtain ⟨o, es, ep, e1, e2, e3, e4, e5, e6⟩ := dd
  refine ⟨⟨h1, h2, e6, o, es, ep, e1, e2, e3, e4⟩, ⟨o, e1⟩, ?_⟩
  rintro g1 g2 ⟨z1, z2, z3, o, es, ep, q1, q2⟩ k
  exact ⟨z1, z2, z3, o, es, ep, k o q1, q2⟩
theorem ints_are {P : Program} {w : World} : ∀ {ks : List Int} {us : List Value}, Vals (ks.map V.int) us → ItemsAre (intKind P w) ks us
  | [], _, r => by rw [List.map_nil] at r; cases r; exact .nil
  | k :: ks, _, r => by
    rw [List.map_cons] at r
    cases r with
    | cons h t =>
      obtain ⟨t', e⟩ := (show ∃ t, _ = Value.int k t from h)
      subst e
      exact .cons (by simp [intKind, Value.isInt]) (ints_are t)
end
section
variable {X : Cx} {pins : List (Addr × Obj)} {σ : St} {H : Hp} {s : Shared} {a b : Addr} {xs : List (List Int × Addr × Value)} {k : List Int} {A : Around} {E : Value → Shared → Prop}
theorem key_is (I : Inv X pins σ H s) (h : SqT X.K H b (k.map V.int)) : (tk X.prog X.w).is s.heap k b := by
  obtain ⟨its, r, ⟨o, h1, h2, n, h3⟩, _⟩ := I.tuple h
  exact ⟨o, its.toArray, n, h1, h2, h3, by simpa using ints_are r⟩
theorem dx_ok (I : Inv X pins σ H s) (e : Rd H a (DX a xs)) : ObjOk X.prog X.w H s.heap a (DX a xs) := by
  rcases e with e | ⟨o, e⟩
  · exact I.hok a _ e
  · exact (show ObjOk X.prog X.w H s.heap a (.frz o (DX a xs)) from I.hok a _ e).2
theorem dx_rd (I : Inv X pins σ H s) (e : Rd H a (DX a xs)) (kx : KX X.K H xs) : xs.length ≤ sizeLine ∧ (a == sysModules) = false ∧ s.heap.DictOfH (tk X.prog X.w) a xs := by
  obtain ⟨⟨z1, z2, z3, o, es, ep, q1, q2, q3, q4⟩, _⟩ := dx_ok I e
  exact ⟨z1, z2, o, es, ep, q1, q2, q3, q4, fun x hx => key_is I (kx x hx), z3⟩
/-- d[k] -/
def rIxX (K : PySem.W.Frag) : R2 := fun x y H Q => ∃ a b xs k p v, x = .ref a ∧ y = .ref b ∧ Rd H a (DX a xs) ∧ KX K H xs ∧ SqT K H b (k.map V.int) ∧ atKey xs k = some p ∧ RelV v p.2 ∧ Q v H
theorem ix_dx (hu : X.A.units + 1 < cLine) : IxR X (rIxX X.K) := by
  intro value slice pins s σ H x y v u Q I rx ry h hs
  obtain ⟨a, b, xs, k, p, r, rfl, rfl, e, kx, hk, hp, rv, q⟩ := h
  obtain rfl : v = Value.ref a := rx
  obtain rfl : u = Value.ref b := ry
  obtain ⟨z, hd, dd⟩ := dx_rd I e kx
  exact PyProof.Rows.tail_any dd.typeIs PySem.F.slot_dict_getitem.lookup (wpAny_getItem_heap (tupleKind_room_in1 hu) (key_is I hk) dd hp ⟨r, H, I.tok _, rv, q⟩) hs
/-- k in d, k not in d -/
def rInX (K : PySem.W.Frag) (neg : Bool) : R2 := fun x y H Q => ∃ a b xs k, y = .ref a ∧ x = .ref b ∧ Rd H a (DX a xs) ∧ KX K H xs ∧ SqT K H b (k.map V.int) ∧ Q (.bl ((atKey xs k).isSome ^^ neg)) H
theorem in_dx (hu : X.A.units + 1 < cLine) : OpR X (compareOp .In) (rInX X.K false) := by
  intro pins s σ H x y v u Q I rx ry h
  obtain ⟨a, b, xs, k, rfl, rfl, e, kx, hk, q⟩ := h
  obtain rfl : v = Value.ref b := rx
  obtain rfl : u = Value.ref a := ry
  obtain ⟨z, hd, dd⟩ := dx_rd I e kx
  refine wpAny_in_heap (tupleKind_room_in1 hu) (key_is I hk) hd dd ?_
  exact ⟨.bl _, H, I.tok _, by simp [RelV], q⟩
theorem notIn_dx (hu : X.A.units + 1 < cLine) : OpR X (compareOp .NotIn) (rInX X.K true) := by
  intro pins s σ H x y v u Q I rx ry h
  obtain ⟨a, b, xs, k, rfl, rfl, e, kx, hk, q⟩ := h
  obtain rfl : v = Value.ref b := rx
  obtain rfl : u = Value.ref a := ry
  obtain ⟨z, hd, dd⟩ := dx_rd I e kx
  refine PyProof.Rows.wpAny_notIn_heap (tupleKind_room_in1 hu) (key_is I hk) hd dd ?_
  exact ⟨.bl _, H, I.tok _, by simp [RelV], q⟩
/-- d[k] = v -/
def rSetX (K : PySem.W.Frag) : TSet := fun o i v H Q => ∃ a b xs k, o = .ref a ∧ i = .ref b ∧ H a = some (DX a xs) ∧ KX K H xs ∧ SqT K H b (k.map V.int) ∧ xs.length < sizeLine ∧ ∀ u, RelV v u → Q (upd H a (DX a (storedH xs k b u)))
theorem set_dx (hu : X.A.units + 1 < cLine) : PSet X (rSetX X.K) := by
  intro pins s σ H o i v ov iv u Q I ro ri rv h
  obtain ⟨a, b, xs, k, rfl, rfl, e, kx, hk, hl, q⟩ := h
  obtain rfl : ov = Value.ref a := ro
  obtain rfl : iv = Value.ref b := ri
  obtain ⟨z, hd, dd⟩ := dx_rd I (.inl e) kx
  refine wpAny_setItem_heap (hsz := z) (tupleKind_room_in1 hu) (key_is I hk) dd fun h' dd' hs => ?_
  have hl' : (storedH xs k b u).length ≤ sizeLine := by have := storedH_length xs k b u; omega
  have he : ∃ q, h'.get? a = some q := let ⟨q, _, _, hq, _⟩ := dd'; ⟨q, hq⟩
  exact ⟨_, d_write I (by rw [e]; exact True.intro) hs he (dx_new hl' hd dd'), q u rv⟩
/-- d == e, d != e -/
def rEqX (K : PySem.W.Frag) (neg : Bool) : R2 := fun x y H Q => ∃ (a b : Addr) (xs ys : List (List Int × Addr × Value)) (r : Bool), x = .ref a ∧ y = .ref b ∧ Rd H a (DX a xs) ∧ Rd H b (DX b ys) ∧ KX K H xs ∧ KX K H ys ∧
  (∀ (X : Cx) (pins : List (Addr × Obj)) (σ : St) (s : Shared), X.K = K → Inv X pins σ H s → X.A.units + 66 < cLine → xs.length = ys.length → HitsH X.prog X.w X.A.in1 s ys xs r) ∧ Q (.bl ((xs.length == ys.length && r) ^^ neg)) H
theorem eq_dx (hu : X.A.units + 66 < cLine) : OpR X (compareOp .Eq) (rEqX X.K false) := by
  intro pins s σ H x y v u Q I rx ry h
  obtain ⟨a, b, xs, ys, r, rfl, rfl, ea, eb, ka, kb, hh, q⟩ := h
  obtain rfl : v = Value.ref a := rx
  obtain rfl : u = Value.ref b := ry
  obtain ⟨_, hda, da⟩ := dx_rd I ea ka
  obtain ⟨_, hdb, db⟩ := dx_rd I eb kb
  exact eqH hda hdb (tupleKind_room_in1 (by omega)) da db (by omega) (hh X pins σ s rfl I hu) ⟨.bl _, H, I, by simp [RelV], q⟩
theorem ne_dx (hu : X.A.units + 66 < cLine) : OpR X (compareOp .NotEq) (rEqX X.K true) := by
  intro pins s σ H x y v u Q I rx ry h
  obtain ⟨a, b, xs, ys, r, rfl, rfl, ea, eb, ka, kb, hh, q⟩ := h
  obtain rfl : v = Value.ref a := rx
  obtain rfl : u = Value.ref b := ry
  obtain ⟨_, hda, da⟩ := dx_rd I ea ka
  obtain ⟨_, hdb, db⟩ := dx_rd I eb kb
  exact neH hda hdb (tupleKind_room_in1 (by omega)) da db (by omega) (hh X pins σ s rfl I hu) ⟨.bl _, H, I, by simp [RelV], q⟩
/-! ### isinstance -/
inductive TyY (K : PySem.W.Frag) (H : Hp) : V → Value → Prop where
  | x {v : V} {t : Value} (h : TyX K H v t) : TyY K H v t
  | dx {a : Addr} {xs : List (List Int × Addr × Value)} (e : Rd H a (DX a xs)) : TyY K H (.ref a) (.type "dict")
theorem kit_ofY {x : V} {u t : Value} (I : Inv X pins σ H s) (rx : RelV x u) (ty : TyY X.K H x t) : ∃ P : Heap → Prop, PySem.W.KitX X.K u t P ∧ P s.heap ∧ u ≠ .builtin "__main__.__loader__#opaque" := by
  cases ty with
  | x h => exact kit_of I rx h
  | @dx a xs ea =>
    cases (show u = Value.ref a from rx)
    obtain ⟨⟨_, _, _, o, es, ep, h1, h2, _⟩, _⟩ := dx_ok I ea
    exact ⟨_, PySem.W.kitx_dict, ⟨o, h1, h2.1⟩, fun z => nomatch z⟩
def rIsiY (K : PySem.W.Frag) : List V → Hp → VK → Prop := fun xs H Q => ∃ (x c : V) (t u : Value) (b : Bool), xs = [x, c] ∧ ClsV c u ∧ TyY K H x t ∧ PySem.W.kitOne K t u = some b ∧ Q (.bl b) H
def rIsiTY (K : PySem.W.Frag) : List V → Hp → VK → Prop := fun xs H Q => ∃ (x : V) (tp : Addr) (cs : List V) (t : Value) (us : List Value) (b : Bool), xs = [x, .ref tp] ∧ H tp = some (.tup cs) ∧ Paired ClsV cs us ∧ TyY K H x t ∧ PySem.W.kitAny K t us = some b ∧ Q (.bl b) H
theorem call_isiY : CallR X (.builtin "isinstance") (rIsiY X.K) := by
  intro pins s σ H xs us Q I r h
  obtain ⟨x, c, t, u, b, rfl, k, ty, e, q⟩ := h
  obtain ⟨u1, u2, rfl, r1, r2⟩ := vals2 r
  have e2 := k.eq r2
  subst e2
  obtain ⟨P, Z, p, hx⟩ := kit_ofY I r1 ty
  exact PySem.W.kia_one Z I.kIn p e hx fun tk => ⟨.bl b, H, I.tok tk, rfl, q⟩
theorem call_isiTY : CallR X (.builtin "isinstance") (rIsiTY X.K) := by
  intro pins s σ H xs us Q I r h
  obtain ⟨x, tp, cs, t, ws, b, rfl, hT, k, ty, e, q⟩ := h
  obtain ⟨u1, u2, rfl, r1, r2⟩ := vals2 r
  cases (show u2 = Value.ref tp from r2)
  obtain ⟨P, Z, p, hx⟩ := kit_ofY I r1 ty
  obtain ⟨_, its, rv, o, h1, h2, n, h3⟩ := (show ObjOk X.prog X.w H s.heap tp (.tup cs) from I.hok tp _ hT)
  have e3 := ClsV.all k rv
  subst e3
  obtain ⟨oc, od, dt, sl⟩ := o
  simp only at h2 h3
  subst h2 h3
  exact PySem.W.kia_tup Z I.kIn p h1 e hx fun tk => ⟨.bl b, H, I.tok tk, rfl, q⟩
/-! ### displays -/
/-- {} -/
def tDNewX : TE := fun _ H Q => ∀ p, H p = none → Q (.ref p) (upd H p (DX p []))
theorem dx_empty {P : Program} {w : World} {H : Hp} (h : Heap) (hb : sysModules < h.objs.size) : ObjOk P w H (h.push { cls := .type "dict", data := .dict #[] }) h.objs.size (DX h.objs.size []) :=
  dx_new (Nat.zero_le _) (beq_eq_false_iff_ne.mpr (Ne.symm (Nat.ne_of_lt hb))) (Heap.DictOfH.new h)
theorem pe_dnewX {pos : Pos} : PE X (.Dict [] [] pos) tDNewX := ⟨fun pins s σ H Q I h =>
  wpAny_Dict_empty ⟨.ref s.heap.objs.size, _, I.laid (a := s.heap.objs.size) (o := DX s.heap.objs.size []) (t' := s.toks) (fun _ _ q => Heap.get?_push_of_some _ q) (Nat.le_refl _) (dx_empty s.heap I.big), rfl, h _ (I.hok.fresh (Nat.le_refl _))⟩⟩
/-- the pairs that are stored -/
abbrev KVs (kvs : List (List Int × Addr × V)) (rs : List (List Int × Addr × Value)) : Prop := Paired (fun (q : List Int × Addr × V) (r : List Int × Addr × Value) => q.1 = r.1 ∧ q.2.1 = r.2.1 ∧ RelV q.2.2 r.2.2) kvs rs
theorem carries_X (I : Inv X pins σ H s) : ∀ {kvs : List (List Int × Addr × V)} {ws : List (Value × Value)}, (∀ q ∈ kvs, SqT X.K H q.2.1 (q.1.map V.int)) → VV (kvs.map fun q => (V.ref q.2.1, q.2.2)) ws →
    ∃ rs, PySem.CarriesH (tk X.prog X.w) s.heap ws rs ∧ KVs kvs rs
  | [], _, _, r => by rw [List.map_nil] at r; cases r; exact ⟨[], True.intro, .nil⟩
  | p :: kvs, _, hk, r => by
    rw [List.map_cons] at r
    cases r with
    | @cons a b as bs h t =>
      obtain ⟨rs, c, q⟩ := carries_X I (fun q hq => hk q (List.mem_cons_of_mem _ hq)) t
      obtain ⟨b1, b2⟩ := b
      obtain ⟨h1, h2⟩ := h
      obtain rfl : b1 = Value.ref p.2.1 := h1
      exact ⟨(p.1, p.2.1, b2) :: rs, ⟨rfl, rfl, key_is I (hk p List.mem_cons_self), c⟩, .cons ⟨rfl, rfl, h2⟩ q⟩
def tDispX (K : PySem.W.Frag) (trs : List (TE × TE)) : TE := fun σ H Q => ∀ p, H p = none → tPairs trs σ (upd H p (DX p [])) fun ps H2 => ∃ kvs : List (List Int × Addr × V), ps = kvs.map (fun q => (V.ref q.2.1, q.2.2)) ∧ H2 p = some (DX p []) ∧
  (∀ q ∈ kvs, SqT K H2 q.2.1 (q.1.map V.int)) ∧ kvs.length ≤ 15 ∧ ∀ rs, KVs kvs rs → Q (.ref p) (upd H2 p (DX p (storedAllH [] rs)))
theorem pe_dispX {pos : Pos} {keys : List (Option Expr)} {values : List Expr} {trs : List (TE × TE)} (hu : X.A.units < cLine) (h : PPs X pos keys values trs) (hall : keys.all (·.isSome) = true) (hl : keys.length = values.length) (h0 : keys ≠ [])
    (h15 : keys.length ≤ 15) : PE X (.Dict keys values pos) (tDispX X.K trs) := by
  refine ⟨fun pins s σ H Q I q => ?_⟩
  have hn := I.hok.fresh (Nat.le_refl s.heap.objs.size)
  have I1 := I.laid (a := s.heap.objs.size) (o := DX s.heap.objs.size []) (h' := s.heap.push { cls := .type "dict", data := .dict #[] }) (t' := s.toks) (fun _ _ q => Heap.get?_push_of_some _ q) (Nat.le_refl _) (dx_empty s.heap I.big)
  have hpn := pairTrees_length keys values X.env pos hall hl
  have hp0 : pairTrees keys values X.env pos ≠ [] := fun e => h0 (List.length_eq_zero_iff.mp (by rw [← hpn, e]; rfl))
  rw [arm_eval_Dict, zip_pairTrees keys values X.env pos hall hl, dictDisplay_pairs _ hp0 (by omega)]
  refine wpAny_bind (wpAny_standAt (wpAny_bind (PySem.wpAny_subDictH (knd := tk X.prog X.w) (Q := fun d s' => wpAny (model X.prog X.w) X.A (pure (Value.ref d)) (EP X pins σ Q) X.xe s') hu (by omega)
    (thn (h.run pins _ σ _ _ I1 (q _ hn)) fun ws s2 ⟨ps, H2, I2, rel, kvs, ep, e, hk, lk, q2⟩ => ?_))))
  subst ep
  obtain ⟨rs, c, rk⟩ := carries_X I2 hk rel
  obtain ⟨z, hd, dd⟩ := dx_rd I2 (.inl e) (fun x hx => by cases hx)
  refine ⟨rs, c, dd, fun h' tk' dd' hs => wpAny_pure ⟨.ref s.heap.objs.size, _, ?_, rfl, q2 rs rk⟩⟩
  have hz : (storedAllH [] rs).length ≤ sizeLine := by
    have h1 := storedAllH_length rs []
    have h2 := Paired.length rk
    rw [List.length_nil] at h1
    rw [sizeLine_eq]; omega
  have he : ∃ q, h'.get? s.heap.objs.size = some q := let ⟨q, _, _, hq, _⟩ := dd'; ⟨q, hq⟩
  exact d_write I2 (by rw [e]; exact True.intro) hs he (dx_new hz hd dd')
/-! ### methods of such a dict -/
def tBMX (r : V → List V → Hp → VK → Prop) (to : TE) (t : TA) : TE := fun σ H Q => to σ H fun x H1 => ((∃ (a : Addr) (xs : List (List Int × Addr × Value)), x = .ref a ∧ Rd H1 a (DX a xs)) ∨ ∃ (a : Addr) (gs : List (L2.Key × V)), x = .ref a ∧ Rd H1 a (.dK gs)) ∧ t σ H1 fun vs H2 => r x vs H2 Q
theorem dx_is {x : V} {v : Value} (I : Inv X pins σ H s) (r : RelV x v) (ty : (∃ (a : Addr) (xs : List (List Int × Addr × Value)), x = .ref a ∧ Rd H a (DX a xs)) ∨ ∃ (a : Addr) (gs : List (L2.Key × V)), x = .ref a ∧ Rd H a (.dK gs)) :
    s.TypeIs v "dict" ∧ ∀ a, v = .ref a → ∃ ob, s.heap.get? a = some ob ∧ ob.dict = none := by
  rcases ty with ⟨a, xs, rfl, e⟩ | ⟨a, gs, rfl, e⟩
  · cases (show v = Value.ref a from r)
    obtain ⟨⟨_, _, _, o, es, ep, h1, h2, _⟩, _⟩ := dx_ok I e
    exact ⟨⟨o, h1, h2.1⟩, fun b q => by cases q; exact ⟨o, h1, h2.2.1⟩⟩
  · cases (show v = Value.ref a from r)
    obtain ⟨h1, h2, _⟩ := isD_at I (.inl ⟨gs, e⟩)
    exact ⟨h1, h2⟩
theorem pe_bmX {o e : Expr} {es : List Expr} {to : TE} {t : TA} {name : Str} {apos cpos : Pos} {id : String} {r : V → List V → Hp → VK → Prop} (slot : Slot "dict" name id) (hty : typeOf (.builtin id) = pure (.type "method_descriptor")) (hm : MtR X id r) (ho : PE X o to) (ha : PA X (e :: es) t)
    (hbase : attributeBase o name X.env (eval o X.env) = eval o X.env)
    (hfew : ((backTo cpos (starEach (e :: es) X.env)).all (fun x => !x.1) && (backToKw cpos (keywordEach [] X.env)).all (fun x => x.1.isSome)
      && decide ((e :: es).length + ([] : List Keyword).length + (if ([] : List Keyword).isEmpty then 0 else 1) < 30)) = true)
    (hline : (apos.endLine == cpos.line) = true) (hs : starEach (e :: es) X.env = (false, eval e X.env) :: starEach es X.env) (hplain : (backTo cpos (starEach es X.env)).any (·.1) = false) :
    PE X (.Call (.Attribute o name apos) (e :: es) [] cpos) (tBMX r to t) := by
  refine ⟨fun pins s σ H Q I h => ?_⟩
  refine wpAny_Call_method_late hbase hfew hline rfl (thn (ho.run pins s σ H _ I h) fun v s1 ⟨x, H1, I1, r1, ty, q1⟩ => ?_)
  obtain ⟨h1, h2⟩ := dx_is I1 r1 ty
  refine ⟨"dict", id, PySem.F.plainAttrs_dict, slot, hty, h1, h2, ?_⟩
  have hA := ha.run cpos pins s1 σ H1 _ I1 q1
  rw [hs] at hA ⊢
  refine Calls.callWith_builtin (by show (false || (backTo cpos (starEach es X.env)).any (·.1)) = false; rw [hplain] <;> rfl) (Calls.evalArgs_plain ?_)
  exact thn hA fun us s2 ⟨vs, H2, I2, r2, q2⟩ => hm pins s2 σ H2 x vs v us Q I2 r1 r2 q2
def gotX (xs : List (List Int × Addr × Value)) (k : List Int) (d : V) (q : V → Prop) : Prop := (atKey xs k = none ∧ q d) ∨ ∃ p v, atKey xs k = some p ∧ RelV v p.2 ∧ q v
def rGetX (K : PySem.W.Frag) : V → List V → Hp → VK → Prop := fun x vs H Q => ∃ (a b : Addr) (xs : List (List Int × Addr × Value)) (k : List Int), x = .ref a ∧ Rd H a (DX a xs) ∧ KX K H xs ∧ SqT K H b (k.map V.int) ∧
  ((vs = [.ref b] ∧ gotX xs k .non fun v => Q v H) ∨ ∃ d, vs = [.ref b, d] ∧ gotX xs k d fun v => Q v H)
theorem mt_getX (hu : X.A.units + 1 < cLine) : MtR X "dict.get" (rGetX X.K) := by
  intro pins s σ H x vs v us Q I rx rs h
  obtain ⟨a, b, xs, k, rfl, e, kx, hk, h⟩ := h
  obtain rfl : v = Value.ref a := rx
  obtain ⟨z, hd, dd⟩ := dx_rd I e kx
  have fin : ∀ {d : V} {u : Value} {tk' : Nat}, RelV d u → gotX xs k d (fun v => Q v H) → EP X pins σ Q (((atKey xs k).map (·.2)).getD u) { s with toks := tk' } := fun {d u tk'} rd g => by
    rcases g with ⟨g1, g2⟩ | ⟨p, w', g1, g2, g3⟩
    · rw [g1]; exact ⟨d, H, I.tok _, rd, g2⟩
    · rw [g1]; exact ⟨w', H, I.tok _, g2, g3⟩
  rcases h with ⟨rfl, g⟩ | ⟨d, rfl, g⟩
  · obtain rfl := Vals.ref1 rs
    exact call_meetsIn PySem.F.slot_dict_get dd.typeIs PySem.F.entry_dict_get (PySem.F.args_dict_get_2 _ _) (meetsH_dict_get (tk X.prog X.w) a b hd) ⟨tupleKind_room_in1 hu, k, xs, key_is I hk, dd, fin (d := .non) (u := .none) rfl g⟩
  · obtain ⟨u1, u2, rfl, r1, r2⟩ := vals2 rs
    obtain rfl : u1 = Value.ref b := r1
    exact call_meetsIn PySem.F.slot_dict_get dd.typeIs PySem.F.entry_dict_get (PySem.F.args_dict_get_3 _ _ _) (meetsH_dict_get_default (tk X.prog X.w) a b hd u2) ⟨tupleKind_room_in1 hu, k, xs, key_is I hk, dd, fin r2 g⟩
end
end Ng

set_option Elab.async false
set_option linter.all false
set_option maxRecDepth 100000
set_option maxHeartbeats 2000000
/-! Dicts with text keys; dicts with tuple keys: walked, cut, counted. -/
namespace Ng
open PySem PySem.Spec PyProof.Rows PySem.W L2
variable {X : Cx} {pins : List (Addr × Obj)} {σ : L2.St} {H : Hp} {s : Shared} {a b : Addr}
/-! ### d[k] of a dict with text keys -/
theorem dk_ty {kvs : List (Key × V)} (I : Inv X pins σ H s) (e : H a = some (.dK kvs)) : s.TypeIs (.ref a) "dict" := by
  have h : ObjOk X.prog X.w H s.heap a (.dK kvs) := I.hok a _ e
  simp only [ObjOk] at h
  obtain ⟨_, _, vs, _, d⟩ := h
  exact d.typeIs
def rIxK : R2 := fun x y H Q => ∃ a kvs k v, x = .ref a ∧ y = kV k ∧ H a = some (.dK kvs) ∧ valV kvs k = some v ∧ Q v H
theorem ix_dk (hu : X.A.units + 1 < cLine) : IxR X rIxK := by
  intro value slice pins s σ H x y v u Q I rx ry h hs
  obtain ⟨a, kvs, k, r, rfl, rfl, e, hv, q⟩ := h
  obtain rfl : v = Value.ref a := rx
  exact PyProof.Rows.tail_any (dk_ty I e) PySem.F.slot_dict_getitem.lookup (d_getItem hu I (.inl ⟨kvs, k, .inl e, rfl, hv.symm⟩) ry fun w' s' I' r' => ⟨r, H, I', r', q⟩) hs
/-! ### cuts -/
/-- del d[k] -/
def sDelX (K : PySem.W.Frag) (td ty : TE) : TS := fun D σ H => td σ H fun x H1 => ty σ H1 fun y H2 => ∃ (a b : Addr) (xs : List (List Int × Addr × Value)) (k : List Int), x = .ref a ∧ y = .ref b ∧ H2 a = some (DX a xs) ∧ KX K H2 xs ∧ SqT K H2 b (k.map V.int) ∧ (atKey xs k).isSome = true ∧ D.nx σ (upd H2 a (DX a (withoutH xs k)))
theorem without_len (xs : List (List Int × Addr × Value)) (k : List Int) : (withoutH xs k).length ≤ xs.length := List.length_filter_le _ _
theorem ps_delX {o i : Expr} {pos tpos : Pos} {td ty : TE} (hu : X.A.units + 1 < cLine) (ho : PE X o td) (hi : PE X i ty) : PS X (.Delete [.Subscript o i tpos] pos) (sDelX X.K td ty) := by
  refine ⟨fun pins s σ H D I h => ?_⟩
  refine wpAny_Delete (wpAny_deleteEach_cons (wpAny_delete_Subscript ?_))
  refine thn (ho.run pins s σ H _ I h) fun v s1 ⟨x, H1, I1, r1, q1⟩ => ?_
  refine thn (hi.run pins s1 σ H1 _ I1 q1) fun u s2 ⟨y, H2, I2, r2, a, b, xs, k, ex, ey, e, kx, hk, hs, q⟩ => ?_
  subst ex ey
  obtain rfl : v = Value.ref a := r1
  obtain rfl : u = Value.ref b := r2
  obtain ⟨z, hd, dd⟩ := dx_rd I2 (.inl e) kx
  obtain ⟨p, hp⟩ := Option.isSome_iff_exists.mp hs
  refine wpAny_delItem_heap (tupleKind_room_in1 hu) (key_is I2 hk) hd dd hp (fun h' dd' hs => ?_) z
  have he : ∃ q, h'.get? a = some q := let ⟨q, _, _, hq, _⟩ := dd'; ⟨q, hq⟩
  refine wpAny_deleteEach_nil ⟨σ, _, d_write I2 (by rw [e]; exact True.intro) hs he (dx_new (Nat.le_trans (without_len xs k) z) hd dd'), q⟩
/-- d.pop(k), it is there -/
def rPopX (K : PySem.W.Frag) : V → List V → Hp → VK → Prop := fun x vs H Q => ∃ (a b : Addr) (xs : List (List Int × Addr × Value)) (k : List Int) (p : Addr × Value) (v : V), x = .ref a ∧ vs = [.ref b] ∧ H a = some (DX a xs) ∧ KX K H xs ∧ SqT K H b (k.map V.int) ∧ atKey xs k = some p ∧ RelV v p.2 ∧ Q v (upd H a (DX a (withoutH xs k)))
theorem mt_popX (hu : X.A.units + 1 < cLine) : MtR X "dict.pop" (rPopX X.K) := by
  intro pins s σ H x vs v us Q I rx rs h
  obtain ⟨a, b, xs, k, p, r, rfl, rfl, e, kx, hk, hp, rv, q⟩ := h
  obtain rfl : v = Value.ref a := rx
  obtain rfl := Vals.ref1 rs
  obtain ⟨z, hd, dd⟩ := dx_rd I (.inl e) kx
  refine call_meetsIn PySem.F.slot_dict_pop dd.typeIs PySem.F.entry_dict_pop (PySem.F.args_dict_pop_2 _ _) (meetsH_dict_pop (tk X.prog X.w) a b hd [] (.inl rfl)) ⟨tupleKind_room_in1 hu, k, xs, key_is I hk, dd, z, fun p' hp' h' dd' hs => ?_, fun hn => by rw [hp] at hn; cases hn⟩
  rw [hp] at hp'
  cases hp'
  have he : ∃ q, h'.get? a = some q := let ⟨q, _, _, hq, _⟩ := dd'; ⟨q, hq⟩
  exact ⟨r, _, d_write I (by rw [e]; exact True.intro) hs he (dx_new (Nat.le_trans (without_len xs k) z) hd dd'), rv, q⟩
/-! ### len(d) -/
def rLenX (K : PySem.W.Frag) : List V → Hp → VK → Prop := fun vs H Q => ∃ (a : Addr) (xs : List (List Int × Addr × Value)), vs = [.ref a] ∧ Rd H a (DX a xs) ∧ KX K H xs ∧ Q (.int xs.length) H
theorem dx_raw (I : Inv X pins σ H s) {xs : List (List Int × Addr × Value)} (e : H a = some (DX a xs)) : xs.length ≤ sizeLine ∧ (a == sysModules) = false ∧ ∃ o es ep, s.heap.get? a = some o ∧ o.ExactDict ∧ o.data = .dict es ep ∧ es.toList = xs.map entI := by
  obtain ⟨⟨z1, z2, z3, o, es, ep, q1, q2, q3, q4⟩, _⟩ := (show ObjOk X.prog X.w H s.heap a (DX a xs) from I.hok a _ e)
  exact ⟨z1, z2, o, es, ep, q1, q2, q3, q4⟩
theorem call_lenX : CallR X (.builtin "len") (rLenX X.K) := by
  intro pins s σ H vs us Q I rs h
  obtain ⟨a, xs, rfl, e, kx, q⟩ := h
  obtain rfl := Vals.ref1 rs
  obtain ⟨z, hd, dd⟩ := dx_rd I e kx
  have hz : xs.length ≤ 16777216 := by rw [sizeLine_eq] at z; exact z
  have hl : (pairsH xs).length = xs.length := by simp [pairsH]
  refine PyProof.Rows.call_len_slot (n := xs.length) dd.typeIs PySem.F.slot_dict_len (fun Q' hq => len_keyed (kvs := pairsH xs) hd ⟨xs, dd, rfl⟩ (by rw [hl]; exact hq)) (by omega) (by omega) ⟨.int xs.length, H, I.tok _, ⟨_, rfl⟩, q⟩
/-! ### for k in d, under a lock -/
def ItX (d : Addr) (o : Obj) (xs : List (List Int × Addr × Value)) : It where
  go := fun i H => H d = some (.frz o (DX d xs)) ∧ i < xs.length
  yld := fun i H x H' => H' = H ∧ ∃ k q v, xs[i]? = some (k, q, v) ∧ x = .ref q
  stop := fun i H => H d = some (.frz o (DX d xs)) ∧ xs.length ≤ i
theorem let_keys {A : Around} {E : Value → Shared → Prop} {it : Addr} {o : Obj} {tg : Expr} {u : Value} {Q : Unit → Shared → Prop} (h1 : s.heap.get? it = some o) (h2 : o.cls = .type "dict_keyiterator") (h : Q () s) : wpAny (model X.prog X.w) A (letOwnedTupleGo tg (.ref it) u) Q E s := by
  obtain ⟨oc, od, dt, sl⟩ := o
  simp only at h2
  subst h2
  cases tg <;> first | exact wpAny_pure h | skip
  all_goals
    cases u <;> first | exact wpAny_pure h | skip
    refine wpAny_bind (wpAny_load h1 ?_)
    cases dt <;> first | exact wpAny_pure h | skip
theorem turn_keysX {P : Program} {w : World} {K : PySem.W.Frag} {tg : Expr} {d : Addr} {o : Obj} {es : Array DictEntry} {ep : Nat} {xs : List (List Int × Addr × Value)} (it : Addr) (hd : o.data = .dict es ep) (he : es.toList = xs.map entI) :
    Turn P w K tg (ItX d o xs) [it] it fun i h => h.IsKeyIter it d i xs.length ep where
  mem := by simp
  obj := fun i h st c hc => by
    obtain rfl : c = it := by simpa using hc
    obtain ⟨o1, e1, _, d1⟩ := st
    exact ⟨o1, e1, fun v q => by rw [d1] at q; cases q⟩
  keep := fun i h h' st k => by
    obtain ⟨o1, e1, r⟩ := st
    exact ⟨o1, k it (by simp) _ e1, r⟩
  item := by
    intro X hP hw hK hc i pins s σ H E I hf st hg
    subst hP hw hK
    obtain ⟨hH, hi⟩ := hg
    have ho : ObjOk X.prog X.w H s.heap d (.frz o (DX d xs)) := I.hok d _ hH
    simp only [ObjOk] at ho
    have hget : s.heap.get? d = some o := ho.1
    have hsz : es.size = xs.length := by rw [← Array.length_toList, he, List.length_map]
    obtain ⟨k, q, v, hx⟩ : ∃ k q v, xs[i]? = some (k, q, v) := ⟨_, _, _, List.getElem?_eq_getElem hi⟩
    have hen : es[i]? = some (entI (k, q, v)) := by rw [← Array.getElem?_toList, he, List.getElem?_map, hx]; rfl
    refine next_key_item st hget hd hsz hen fun h' st' sb => ⟨_, rfl, ?_⟩
    obtain ⟨o2, e2, c2, d2⟩ := id st'
    refine let_keys (X := X) (s := { s with heap := h' }) e2 c2 ?_
    refine ⟨.ref q, H, I.turnedL (t' := s.toks) (ch := [it]) (fun c o hb z => (sb.2 c (fun y => hb (by simp [y]))).trans z) hf, rfl, ⟨rfl, k, q, v, hx, rfl⟩, st', fun c hcm => (hf c hcm).1⟩
  done := by
    intro X hP hw hK hc i pins s σ H E I hf st hg
    subst hP hw hK
    obtain ⟨hH, hi⟩ := hg
    have ho : ObjOk X.prog X.w H s.heap d (.frz o (DX d xs)) := I.hok d _ hH
    simp only [ObjOk] at ho
    have hget : s.heap.get? d = some o := ho.1
    have hsz : es.size = xs.length := by rw [← Array.length_toList, he, List.length_map]
    refine next_key_end (I.ok.hd hc) st hget hd hsz hi fun h' sb => ⟨rfl, ?_⟩
    refine I.turnedL (t' := s.toks) (ch := [it]) (fun c o hb z => sb c o (fun y => hb (by simp [y])) z) hf
  self := fun A i s Q E st h => wpAny_pyIter_keyiter st h
def iKeysX (td : TE) : TI := fun σ H R => td σ H fun x H1 => ∃ d o xs, x = .ref d ∧ H1 d = some (.frz o (DX d xs)) ∧ R (ItX d o xs) H1
theorem pi_keysX {tg e : Expr} {td : TE} (h : PE X e td) : PI X tg e (iKeysX td) := by
  refine ⟨fun pins s σ H R I q => ?_⟩
  refine thn (h.run pins s σ H _ I q) fun v s1 ⟨x, H1, I1, r1, d, o, xs, ex, hH, q1⟩ => ?_
  subst ex
  obtain rfl : v = Value.ref d := r1
  have ho : ObjOk X.prog X.w H1 s1.heap d (.frz o (DX d xs)) := I1.hok d _ hH
  simp only [ObjOk] at ho
  obtain ⟨hget, hx⟩ := ho
  obtain ⟨⟨z1, z2, z3, o', es, ep, g1, g2, g3, g4⟩, _⟩ := hx
  rw [hget] at g1
  cases g1
  refine iter_keys z2 hget g2 g3 ?_
  have I2 : Inv X pins σ H1 { s1 with heap := s1.heap.push { cls := .type "dict_keyiterator", data := .fields #[.ref d, .int 0 0, .int (es.size : Nat) 0, .int (ep : Nat) 0] } } := I1.kept (t' := s1.toks) fun _ _ q => Heap.get?_push_of_some _ q
  have hsz : es.size = xs.length := by rw [← Array.length_toList, g4, List.length_map]
  refine ⟨s1.heap.objs.size, [s1.heap.objs.size], _, _, H1, rfl, I2, turn_keysX s1.heap.objs.size g3 g4, ?_, fun c hcm => ?_, q1⟩
  · rw [← hsz]
    refine ⟨{ cls := .type "dict_keyiterator", data := .fields #[.ref d, .int 0 0, .int (es.size : Nat) 0, .int (ep : Nat) 0] }, ?_, rfl, rfl⟩
    simp [Heap.get?, Heap.push]
  · obtain rfl : c = s1.heap.objs.size := by simpa using hcm
    exact I1.fpOk (Nat.le_refl _) (I1.hok.fresh (Nat.le_refl _))
/-! ### sorted(xs), pairs of whole numbers -/
def leP (p q : Int × Int) : Bool := !SrtO.lexB q p
def srtP (ps : List (Int × Int)) : List (Int × Int) := ps.mergeSort leP
theorem leP_iff {p q : Int × Int} : leP p q = true ↔ p.1 < q.1 ∨ (p.1 = q.1 ∧ p.2 ≤ q.2) := by
  unfold leP SrtO.lexB
  by_cases h : q.1 = p.1
  · rw [if_pos h]; simp; omega
  · rw [if_neg h]; simp; omega
theorem leP_trans (a b c : Int × Int) (h1 : leP a b = true) (h2 : leP b c = true) : leP a c = true := by
  rw [leP_iff] at *; omega
theorem leP_total (a b : Int × Int) : (leP a b || leP b a) = true := by
  rw [Bool.or_eq_true, leP_iff, leP_iff]; omega
theorem leP_anti {a b : Int × Int} (h1 : leP a b = true) (h2 : leP b a = true) : a = b := by
  rw [leP_iff] at h1 h2
  obtain ⟨x, y⟩ := a; obtain ⟨z, w⟩ := b
  simp only at h1 h2
  simp only [Prod.mk.injEq]; omega
theorem sorted_unique : ∀ (l m : List (Int × Int)), l.Perm m → l.Pairwise (fun a b => leP a b = true) → m.Pairwise (fun a b => leP a b = true) → l = m
  | [], m, p, _, _ => by rw [List.nil_perm] at p; exact p.symm
  | a :: l, [], p, _, _ => by rw [List.perm_nil] at p; cases p
  | a :: l, b :: m, p, h1, h2 => by
    rw [List.pairwise_cons] at h1 h2
    have e : a = b := by
      rcases List.mem_cons.mp (p.mem_iff.mp List.mem_cons_self) with e | ha
      · exact e
      · rcases List.mem_cons.mp (p.mem_iff.mpr List.mem_cons_self) with e | hb
        · exact e.symm
        · exact leP_anti (h1.1 b hb) (h2.1 a ha)
    subst e
    rw [sorted_unique l m p.cons_inv h1.2 h2.2]
theorem srtP_of {ps qs : List (Int × Int)} (hp : qs.Perm ps) (hs : qs.Pairwise (fun a b => leP a b = true)) : qs = srtP ps :=
  sorted_unique _ _ (hp.trans (List.mergeSort_perm ps leP).symm) hs (List.pairwise_mergeSort leP_trans leP_total ps)
/-- the pair that a value is -/
def kH (h : Heap) : Value → Int × Int
  | .ref t => match h.get? t with
    | some o => match o.data with
      | .seq its _ => match its.toList with
        | [.int i _, .int j _] => (i, j)
        | _ => (0, 0)
      | _ => (0, 0)
    | none => (0, 0)
  | _ => (0, 0)
def PrV (K : PySem.W.Frag) (H : Hp) (x : V) (p : Int × Int) : Prop := ∃ t, x = .ref t ∧ SqT K H t [.int p.1, .int p.2]
def rSortX (K : PySem.W.Frag) : List V → Hp → VK → Prop := fun vs H Q => ∃ (a : Addr) (xs : List V) (ps : List (Int × Int)), vs = [V.ref a] ∧ SqL K H a xs ∧ Paired (PrV K H) xs ps ∧
  ∀ ys p, Paired (PrV K H) ys (srtP ps) → H p = none → Q (.ref p) (upd H p (.lst ys))
theorem prv_heap (I : Inv X pins σ H s) {x : V} {p : Int × Int} {v : Value} (h : PrV X.K H x p) (r : RelV x v) : Srt.IsPair s.heap v (kH s.heap v).1 (kH s.heap v).2 ∧ kH s.heap v = p := by
  obtain ⟨t, rfl, hq⟩ := h
  obtain rfl : v = Value.ref t := r
  obtain ⟨its, rv, ⟨o, h1, h2, n, h3⟩, _⟩ := I.tuple hq
  cases rv with
  | cons r1 rv =>
    cases rv with
    | cons r2 rv =>
      cases rv
      obtain ⟨t1, rfl⟩ := r1
      obtain ⟨t2, rfl⟩ := r2
      have e : kH s.heap (.ref t) = p := by simp only [kH, h1, h3]
      rw [e]
      exact ⟨⟨t, o, t1, t2, n, rfl, h1, h2, h3⟩, rfl⟩
theorem prv_all (I : Inv X pins σ H s) : ∀ {xs : List V} {ps : List (Int × Int)} {vs : List Value}, Paired (PrV X.K H) xs ps → Vals xs vs → (∀ v ∈ vs, Srt.IsPair s.heap v (kH s.heap v).1 (kH s.heap v).2) ∧ vs.map (kH s.heap) = ps ∧ ∀ v ∈ vs, ∃ x, RelV x v ∧ PrV X.K H x (kH s.heap v)
  | [], _, _, .nil, .nil => ⟨fun _ h => by (cases h), rfl, fun _ h => by (cases h)⟩
  | x :: xs, p :: ps, v :: vs, .cons h t, .cons r rs => by
    obtain ⟨i1, i2, i3⟩ := prv_all I t rs
    obtain ⟨a, b⟩ := prv_heap I h r
    refine ⟨fun w hw => ?_, by rw [List.map_cons, b, i2], fun w hw => ?_⟩
    · rcases List.mem_cons.mp hw with rfl | hw
      · exact a
      · exact i1 w hw
    · rcases List.mem_cons.mp hw with rfl | hw
      · exact ⟨x, r, by rw [b]; exact h⟩
      · exact i3 w hw
theorem prv_back {h : Heap} : ∀ {vs : List Value}, (∀ v ∈ vs, ∃ x, RelV x v ∧ PrV X.K H x (kH h v)) → ∃ ys, Vals ys vs ∧ Paired (PrV X.K H) ys (vs.map (kH h))
  | [], _ => ⟨[], .nil, .nil⟩
  | v :: vs, q => by
    obtain ⟨x, h1, h2⟩ := q v List.mem_cons_self
    obtain ⟨ys, h3, h4⟩ := prv_back fun w hw => q w (List.mem_cons_of_mem _ hw)
    exact ⟨x :: ys, .cons h1 h3, .cons h2 h4⟩
theorem cr_sortedX : CallR X (.builtin "sorted") (rSortX X.K) := by
  intro pins s σ H vs us Q I rs h
  obtain ⟨a, xs, ps, rfl, hq, hp, q⟩ := h
  obtain rfl := Vals.ref1 rs
  obtain ⟨its, rv, pl, hl⟩ := I.list hq
  obtain ⟨k1, k2, k3⟩ := prv_all I hp rv
  refine SrtO.sorted_pairsO (k := kH s.heap) pl.isList (by rw [← Paired.length rv]; exact hl) k1 fun h' d out hs hst hk hd ho => ?_
  obtain ⟨ys, r1, r2⟩ := prv_back (X := X) (H := H) (h := s.heap) (vs := out) fun v hv => k3 v (hst.perm.mem_iff.mp hv)
  have e : out.map (kH s.heap) = srtP ps := by
    refine srtP_of (by rw [← k2]; exact hst.perm.map _) ?_
    rw [List.pairwise_map]
    exact hs.imp fun {v u} z => by
      have z : SrtO.lexB (kH s.heap u) (kH s.heap v) = false := z
      unfold leP; rw [z]; rfl
  rw [e] at r2
  obtain ⟨n, ho⟩ := ho
  have hlen : ys.length ≤ sizeLine := by
    rw [Paired.length r1, hst.perm.length_eq, ← Paired.length rv]; exact hl
  have new : ObjOk X.prog X.w (upd H d (.lst ys)) h' d (.lst ys) := ⟨hlen, out, n, r1, ho⟩
  exact ⟨.ref d, _, I.turnedNew (t' := s.toks) (ch := []) (fun b o _ z => hk b o z) (fun b hb => by cases hb) hd new, rfl, q ys d r2 (I.hok.fresh hd)⟩
end Ng

set_option Elab.async false
set_option linter.all false
set_option maxRecDepth 100000
set_option maxHeartbeats 4000000
/-! zip of a list and a tuple; list(reversed(a list)). -/
namespace Ng
open PySem PySem.Spec PyProof.Rows L2
/-- the list at a, the tuple at b as they stand at each turn, the items in new pairs -/
def ItzM (K : PySem.W.Frag) (a b : Addr) : L2.It :=
  ⟨fun i H => ∃ (xs ys : List V) (x y : V), SqL K H a xs ∧ SqT K H b ys ∧ xs[i]? = some x ∧ ys[i]? = some y,
    fun i H v H' => ∃ T x y, v = .ref T ∧ H T = none ∧ H' = upd H T (.tup [x, y]) ∧ (∀ xs, SqL K H a xs → xs[i]? = some x) ∧ ∀ ys, SqT K H b ys → ys[i]? = some y,
    fun i H => ∃ xs ys : List V, SqL K H a xs ∧ SqT K H b ys ∧ (xs.length ≤ i ∨ ys.length ≤ i)⟩
theorem drawsL {prog : Program} {w : World} {A : Around} (hh : A.handled = none) (it l : Addr) (hne : l ≠ it) (items : Array Value) (n : Nat) :
    Draws prog w A it [it, l] (max n items.size) (fun i v => items[i]? = some v) (fun i h => n ≤ i ∧ h.IsListIter it l i ∧ h.IsList l items) where
  live := fun _ _ st => let ⟨o, ho, _⟩ := st.2.1; ⟨o, ho⟩
  frame := fun _ _ _ st hk => ⟨st.1, st.2.1.at fun o e => hk it (by simp) o e, st.2.2.at fun o e => hk l (by simp) o e⟩
  item := fun i s Q E hi st hQ => by
    have hl : i < items.size := by have := st.1; omega
    refine wpAny_nextOf_list_item st.2.1 st.2.2 (x := items[i]) (by simp [hl]) fun h' hit' hs' => ?_
    exact hQ _ h' s.toks (by simp [hl]) ⟨by have := st.1; omega, hit', st.2.2.extBut hs'.extBut hne⟩ hs'
  done := fun s Q E st hE => wpAny_nextOf_list_end hh st.2.1 st.2.2 (by simp; omega) hE
theorem drawsT {prog : Program} {w : World} {A : Around} (hh : A.handled = none) (it t : Addr) (hne : t ≠ it) (items : Array Value) (n : Nat) :
    Draws prog w A it [it, t] (max n items.size) (fun i v => items[i]? = some v) (fun i h => n ≤ i ∧ h.IsTupleIter it t i ∧ h.IsTuple t items) where
  live := fun _ _ st => let ⟨o, ho, _⟩ := st.2.1; ⟨o, ho⟩
  frame := fun _ _ _ st hk => ⟨st.1, st.2.1.at fun o e => hk it (by simp) o e, st.2.2.at fun o e => hk t (by simp) o e⟩
  item := fun i s Q E hi st hQ => by
    have hl : i < items.size := by have := st.1; omega
    refine wpAny_nextOf_tuple_item st.2.1 st.2.2 (x := items[i]) (by simp [hl]) fun h' hit' hs' => ?_
    exact hQ _ h' s.toks (by simp [hl]) ⟨by have := st.1; omega, hit', st.2.2.extBut hs'.extBut hne⟩ hs'
  done := fun s Q E st hE => wpAny_nextOf_tuple_end hh st.2.1 st.2.2 (by simp; omega) hE
theorem turn_zipM {P : Program} {w : World} {K : PySem.W.Frag} {elts : List Expr} {kk : Nat} {tpos : Pos} {a b z TI TO i1 i2 : Addr} (S : ZipSep2 z TI TO i1 i2 [i1, a] [i2, b]) (hai : a ≠ i1) (hbi : b ≠ i2) :
    Turn P w K (.Tuple elts kk tpos) (ItzM K a b) [z, TI, TO, i1, i2] z (fun i h => IsZip h z TI TO .none ∧ IsTupOf2 h TI (.ref i1) (.ref i2) ∧ (∃ x y, IsTupOf2 h TO x y) ∧ h.IsListIter i1 a i ∧ h.IsTupleIter i2 b i) where
  mem := by simp
  obj := fun i h st c hc => by
    obtain ⟨hz, hTI, ⟨x, y, hTO⟩, ⟨o1, e1, _, d1⟩, ⟨o2, e2, _, d2⟩⟩ := st
    have e' : c = z ∨ c = TI ∨ c = TO ∨ c = i1 ∨ c = i2 := by simpa using hc
    rcases e' with q | q | q | q | q
    · rw [q]; exact ⟨_, hz, fun v q => nomatch q⟩
    · rw [q]; exact ⟨_, hTI, fun v q => nomatch q⟩
    · rw [q]; exact ⟨_, hTO, fun v q => nomatch q⟩
    · rw [q]; exact ⟨o1, e1, fun v q => by rw [d1] at q; cases q⟩
    · rw [q]; exact ⟨o2, e2, fun v q => by rw [d2] at q; cases q⟩
  keep := fun i h h' st k => by
    obtain ⟨hz, hTI, ⟨x, y, hTO⟩, h1, h2⟩ := st
    exact ⟨k z (by simp) _ hz, k TI (by simp) _ hTI, ⟨x, y, k TO (by simp) _ hTO⟩, h1.at fun o q => k i1 (by simp) o q, h2.at fun o q => k i2 (by simp) o q⟩
  item := by
    intro X hP hw hK hc i pins s σ H E I hf st hg
    subst hP hw hK
    obtain ⟨hz, hTI, ⟨x0, y0, hTO⟩, h1, h2⟩ := st
    obtain ⟨xs, ys, x, y, hqx, hqy, hx, hy⟩ := hg
    obtain ⟨its, rv, p, _⟩ := I.list hqx
    obtain ⟨its2, rv2, p2, _⟩ := I.tuple hqy
    obtain ⟨u, hu, ru⟩ := rv.get hx
    obtain ⟨u2, hu2, ru2⟩ := rv2.get hy
    have hzl : z < s.heap.objs.size := Heap.lt_size hz
    have hh : X.A.in1.handled = none := I.ok.hd hc
    have hl1 : i < its.toArray.size := by simpa using (List.getElem?_eq_some_iff.mp hu).1
    have hl2 : i < its2.toArray.size := by simpa using (List.getElem?_eq_some_iff.mp hu2).1
    refine wpAny_pyNext_zipD2_item S (Draws.list hh i1 a hai its.toArray) (Draws.tuple hh i2 b hbi its2.toArray) hz hTI hTO ⟨h1, p.isList⟩ ⟨h2, p2⟩ hl1 hl2 fun v1 v2 h' tk hv1 hv2 z' TO' h1' h2' hT hsz hk => ?_
    obtain rfl : v1 = u := by
      have : its.toArray[i]? = some u := by simpa using hu
      rw [this] at hv1; exact (Option.some.inj hv1).symm
    obtain rfl : v2 = u2 := by
      have : its2.toArray[i]? = some u2 := by simpa using hu2
      rw [this] at hv2; exact (Option.some.inj hv2).symm
    refine ⟨_, rfl, wpAny_letOwnedTupleGo_zip (s := { s with heap := h', toks := tk }) z' fun h'' z'' sb => ?_⟩
    have hT2 : h''.get? s.heap.objs.size = some { cls := .type "tuple", data := .seq #[v1, v2] } := (sb.2 _ (Nat.ne_of_gt hzl)).trans hT
    have new : ObjOk X.prog X.w (upd H s.heap.objs.size (.tup [x, y])) h'' s.heap.objs.size (.tup [x, y]) :=
      ⟨by show 2 ≤ sizeLine; decide, [v1, v2], .cons ru (.cons ru2 .nil), ⟨_, hT2, rfl, _, rfl⟩⟩
    have I1 : Inv X pins σ (upd H s.heap.objs.size (.tup [x, y])) { s with heap := h'', toks := tk } :=
      I.turnedNew (t' := tk) (ch := [z, TI, TO, i1, i2]) (fun c o hb q => (sb.2 c (fun q' => hb (by simp [q']))).trans (hk c o (fun q' => hb (by simp [q'])) (fun q' => hb (by simp [q'])) (fun q' => hb (by simp [q'])) (fun q' => hb (by simp [q'])) q)) hf (Nat.le_refl _) new
    refine ⟨.ref s.heap.objs.size, _, I1, rfl, ⟨_, x, y, rfl, I.hok.fresh (Nat.le_refl _), rfl, fun l hl => by rw [I.list_inj hl hqx]; exact hx, fun l hl => by rw [I.tuple_inj hl hqy]; exact hy⟩, ⟨z'', ?_, ⟨v1, v2, ?_⟩, ?_, ?_⟩, fun c hcm => ?_⟩
    · exact (sb.2 _ S.TIz).trans (hk _ _ S.TIz S.TITO S.TIi1 S.TIi2 hTI)
    · exact (sb.2 _ S.TOz).trans TO'
    · exact h1'.1.at fun o q => (sb.2 _ (Ne.symm S.zi1)).trans q
    · exact h2'.1.at fun o q => (sb.2 _ (Ne.symm S.zi2)).trans q
    · have hlt : c < s.heap.objs.size := by
        have e' : c = z ∨ c = TI ∨ c = TO ∨ c = i1 ∨ c = i2 := by simpa using hcm
        rcases e' with q | q | q | q | q
        · rw [q]; exact hzl
        · rw [q]; exact Heap.lt_size hTI
        · rw [q]; exact Heap.lt_size hTO
        · rw [q]; obtain ⟨_, e1, _⟩ := h1; exact Heap.lt_size e1
        · rw [q]; obtain ⟨_, e2, _⟩ := h2; exact Heap.lt_size e2
      rw [upd_ne (Nat.ne_of_lt hlt)]
      exact (hf c hcm).1
  done := by
    intro X hP hw hK hc i pins s σ H E I hf st hg
    subst hP hw hK
    obtain ⟨hz, hTI, ⟨x0, y0, hTO⟩, h1, h2⟩ := st
    obtain ⟨xs, ys, hqx, hqy, hend⟩ := hg
    obtain ⟨its, rv, p, _⟩ := I.list hqx
    obtain ⟨its2, rv2, p2, _⟩ := I.tuple hqy
    have l1 := rv.length
    have l2 := rv2.length
    have hh : X.A.in1.handled = none := I.ok.hd hc
    refine wpAny_pyNext_zipD2_end S (drawsL hh i1 a hai its.toArray i) (drawsT hh i2 b hbi its2.toArray i) hz hTI hTO ⟨Nat.le_refl _, h1, p.isList⟩ ⟨Nat.le_refl _, h2, p2⟩ (by omega) (by omega) (by simp; omega) fun h' tk hk => ⟨rfl, I.turnedL (t' := tk) (ch := [z, TI, TO, i1, i2]) (fun c o hb q =>
      hk c o (fun q' => hb (by simp [q'])) (fun q' => hb (by simp [q'])) (fun q' => hb (by simp [q'])) (fun q' => hb (by simp [q'])) q) hf⟩
  self := fun A i s Q E st h => wpAny_pyIter_zip st.1 h
def iZipM (K : PySem.W.Frag) (ta : TA) : TI := fun σ H R => ta σ H fun vs H1 => ∃ a b xs ys, vs = [.ref a, .ref b] ∧ ((SqL K H1 a xs ∧ SqT K H1 b ys ∧ R (ItzM K a b) H1) ∨ (SqT K H1 a xs ∧ SqT K H1 b ys ∧ R (RZ.ItzT K a b) H1))
theorem pi_zipM {X : Cx} {e e2 : Expr} {ta : TA} {p pos tpos : Pos} {elts : List Expr} {kk : Nat} (hg : Gl X "zip") (hm : X.mg "zip" = none) (ha : PA X [e, e2] ta)
    (hs : starEach [e, e2] X.env = (false, eval e X.env) :: starEach [e2] X.env := by rfl) (hpl : (backTo pos (starEach [e2] X.env)).any (·.1) = false := by rfl) :
    PI X (.Tuple elts kk tpos) (.Call (.Name "zip" p) [e, e2] [] pos) (iZipM X.K ta) := by
  refine ⟨fun pins s σ H R I h => ?_⟩
  refine Call_ (ld_blt I hg hm PyProof.Rows.boot_zip (PyProof.Rows.callWith_type1 (thn (ha.run pos pins s σ H _ I h) fun us s1 ⟨vs, H1, I1, r1, q1⟩ => ?_) hs hpl))
  obtain ⟨a, b, xs, ys, ex, q1⟩ := q1
  subst ex
  cases r1 with
  | cons r rr =>
    cases rr with
    | cons r' rr =>
      cases rr
      cases r
      cases r'
      have fresh5 : ∀ c, c ∈ [s1.heap.objs.size + 4, s1.heap.objs.size + 2, s1.heap.objs.size + 3, s1.heap.objs.size, s1.heap.objs.size + 1] → FpOk X pins H1 c := fun c hcm => by
        have e' : c = s1.heap.objs.size + 4 ∨ c = s1.heap.objs.size + 2 ∨ c = s1.heap.objs.size + 3 ∨ c = s1.heap.objs.size ∨ c = s1.heap.objs.size + 1 := by simpa using hcm
        have hle : s1.heap.objs.size ≤ c := by
          rcases e' with z | z | z | z | z
          · rw [z]; exact Nat.le_add_right _ _
          · rw [z]; exact Nat.le_add_right _ _
          · rw [z]; exact Nat.le_add_right _ _
          · rw [z]; exact Nat.le_refl _
          · rw [z]; exact Nat.le_add_right _ _
        exact I1.fpOk hle (I1.hok.fresh hle)
      rcases q1 with ⟨hqx, hqy, q⟩ | ⟨hqx, hqy, q⟩
      · obtain ⟨its, rv, p1, _⟩ := I1.list hqx
        obtain ⟨its2, rv2, p2, _⟩ := I1.tuple hqy
        obtain ⟨o2, ho2, _⟩ := id p2
        have ha1 : a < s1.heap.objs.size := p1.lt
        have hb1 : b < s1.heap.objs.size := Heap.lt_size ho2
        refine zip_begins2 (begins_list a its.toArray) (begins_tuple b its2.toArray) p1.isList (show s1.heap.IsTuple b its2.toArray from p2) fun h' hz hTI hTO h1 h2 hsz hk => wpAny_pyIter_zip hz ?_
        have I2 : Inv X pins σ H1 { s1 with heap := h' } := I1.kept (t' := s1.toks) hk
        have hne1 : a ≠ s1.heap.objs.size := Nat.ne_of_lt ha1
        have hne2 : b ≠ s1.heap.objs.size + 1 := Nat.ne_of_lt (Nat.lt_succ_of_lt hb1)
        exact ⟨s1.heap.objs.size + 4, [s1.heap.objs.size + 4, s1.heap.objs.size + 2, s1.heap.objs.size + 3, s1.heap.objs.size, s1.heap.objs.size + 1], _, _, H1, rfl, I2, turn_zipM (zip_sep2 (fp1 := [a]) (fp2 := [b]) (by simpa using ha1) (by simpa using hb1)) hne1 hne2, ⟨hz, hTI, ⟨_, _, hTO⟩, ⟨_, h1, rfl, rfl⟩, ⟨_, h2, rfl, rfl⟩⟩, fresh5, q⟩
      · obtain ⟨its, rv, p1, _⟩ := I1.tuple hqx
        obtain ⟨its2, rv2, p2, _⟩ := I1.tuple hqy
        obtain ⟨o1, ho1, _⟩ := id p1
        obtain ⟨o2, ho2, _⟩ := id p2
        refine RZ.call_zipT (show s1.heap.IsTuple a its.toArray from p1) (show s1.heap.IsTuple b its2.toArray from p2) fun h' hz hTI hTO h1 h2 hsz hk => wpAny_pyIter_zip hz ?_
        have I2 : Inv X pins σ H1 { s1 with heap := h' } := I1.kept (t' := s1.toks) hk
        exact ⟨s1.heap.objs.size + 4, [s1.heap.objs.size + 4, s1.heap.objs.size + 2, s1.heap.objs.size + 3, s1.heap.objs.size, s1.heap.objs.size + 1], _, _, H1, rfl, I2, RZ.turn_zipT (PySem.W.ktu_apart s1.heap.objs.size a b (Heap.lt_size ho1) (Heap.lt_size ho2)), ⟨hz, hTI, ⟨_, _, hTO⟩, h1, h2⟩, fresh5, q⟩

section
variable {prog : Program} {w : World} {A : Around} {E : Value → Shared → Prop} {s : Shared}
theorem list_init_rev {R : Result → Shared → Prop} {it l : Addr} {items : Array Value} (hh : A.handled = none) (hit : s.heap.IsRevIter it l ((items.size : Int) - 1)) (hl : s.heap.IsList l items) (hne : l ≠ it) (hn : items.size ≤ sizeLine)
    (S : Addr) (hS : s.heap.get? S = some { cls := .type "list", data := .seq #[] }) (hSi : S ≠ it) (hSl : S ≠ l)
    (hR : ∀ h' tk acc' c', (∀ b o, b ≠ S → b ≠ it → s.heap.get? b = some o → h'.get? b = some o) → h'.get? S = some { cls := .type "list", dict := none, data := .seq acc' c', slots := #[] } →
      ItemsOf (fun i v => items[items.size - 1 - i]? = some v) acc' items.size → R (.ok (.ret .none)) { s with heap := h', toks := tk }) :
    wpAny (model prog w) A.in1 (Builtin.«list.__init__» ⟨[.ref S, .ref it], []⟩)
      (fun fin s' => match fin with | .done f => R (.ok f) s' | .again c' => c'.quiet = true ∧ codeAny (model prog w) A c' R s') (fun e s' => R (.error e) s') s := by
  have W := (Walks.listRev (prog := prog) (w := w) (A := A.in1) hh it l hne items).toS
  have hSf : S ∉ [it, l] := by simp only [List.mem_cons, List.not_mem_nil, or_false, not_or]; exact ⟨hSi, hSl⟩
  show wpAny _ _ (do let old ← Builtin.List.listItems (.ref S); Builtin.List.listUpdate (.ref S) (fun _ => #[]); letGo old.toList.reverse; Builtin.List.listExtendWith (.ref S) (.ref it) .none) _ _ s
  refine wpAny_bind ?_
  unfold Builtin.List.listItems
  refine wpAny_bind (wpAny_seqItems hS rfl (wpAny_pure ?_))
  show wpAny _ _ (updateSeq S (fun _ => #[]) >>= fun _ => letGo (#[] : Array Value).toList.reverse >>= fun _ => Builtin.List.listExtendWith (.ref S) (.ref it) .none) _ _ s
  refine wpAny_bind (wpAny_updateSeq hS rfl ?_)
  have hS₂ := Heap.get?_update_self (Obj.mapSeq (fun _ => (#[] : Array Value))) hS rfl
  have oth : ∀ b o, b ≠ S → s.heap.get? b = some o → (s.heap.update S (Obj.mapSeq (fun _ => (#[] : Array Value)))).get? b = some o :=
    fun b o hb e => (Heap.get?_update_other _ _ (Ne.symm hb)).trans e
  refine wpAny_bind (wpAny_letGo ?_)
  generalize hH : s.heap.update S (Obj.mapSeq (fun _ => (#[] : Array Value))) = h₁ at *
  have hit1 : h₁.IsRevIter it l ((items.size : Int) - 1) := hit.at fun o e => oth it o (Ne.symm hSi) e
  have hl1 : h₁.IsList l items := let ⟨o, ho, r⟩ := hl; ⟨o, oth l o (Ne.symm hSl) ho, r⟩
  have hT : ({ s with heap := h₁ } : Shared).TypeIs (.ref it) "list_reverseiterator" := Heap.IsRevIter.typeIs (s := { s with heap := h₁ }) hit1
  have h1 : Builtin.List.listSameRef (.ref S) (.ref it) = false := by simp [Builtin.List.listSameRef, hSi]
  unfold Builtin.List.listExtendWith
  refine wpAny_bind (wpAny_typeOf hT ?_)
  rw [if_neg (by rw [h1]; decide)]
  refine wpAny_bind (wpAny_pyIter_revIter (s := { s with heap := h₁ }) hit1 ?_)
  refine wpAny_bind (wpAny_holding ?_)
  unfold Builtin.List.listLengthHint
  refine wpAny_bind (wpAny_specialOf hT RT.nolen_lri ?_)
  show wpAny _ A.in1 (specialOf (Value.ref it) (Str.ofString "__length_hint__") >>= _) _ _ _
  refine wpAny_bind (wpAny_specialOf hT RT.hint_lri ?_)
  generalize hid : ("list_reverseiterator.__length_hint__" : String) = id0
  wp_delta
  rw [show splitId id0 = some ("list_reverseiterator", "__length_hint__") from by subst hid; decide +kernel]
  subst hid
  refine wpAny_bind (wpAny_isInstance (b := true) hT (by rw [isSubtype_type]; kernel_rfl) ?_)
  refine wpAny_pure ?_
  rw [if_neg (by decide)]
  have e0 : ((items.size : Nat) : Int) - 1 - ((0 : Nat) : Int) = (items.size : Int) - 1 := by omega
  refine wpAny_pure ⟨plainId_quiet F.plain_extend_loop _, codeAny_extend_loopS W hn _ hSf _ items.size 0 _ _ _ rfl (Nat.zero_le _) ⟨Nat.zero_le _, by rw [e0]; exact hit1, hl1⟩ hS₂ (ItemsOf.nil _) fun s' acc' c' hm hS' hacc => ?_⟩
  rw [Moved.eq_with hm]
  refine hR s'.heap s'.toks acc' c' (fun b o hb hb2 e => hm.heap b o (fun hmem => ?_) (oth b o hb e)) hS' hacc
  rcases List.mem_cons.mp hmem with e' | hmem
  · exact hb e'
  · exact hb2 (List.mem_singleton.mp hmem)
theorem call_list_rev {it l : Addr} {items : Array Value} {Q : Value → Shared → Prop} (hh : A.handled = none) (hit : s.heap.IsRevIter it l ((items.size : Int) - 1)) (hl : s.heap.IsList l items) (hne : l ≠ it) (hn : items.size ≤ sizeLine)
    (hQ : ∀ h' tk acc' c', (∀ b o, b ≠ it → s.heap.get? b = some o → h'.get? b = some o) →
      h'.get? s.heap.objs.size = some { cls := .type "list", dict := none, data := .seq acc' c', slots := #[] } → ItemsOf (fun i v => items[items.size - 1 - i]? = some v) acc' items.size → Q (.ref s.heap.objs.size) { s with heap := h', toks := tk }) :
    wpAny (model prog w) A (call (.type "list") [.ref it]) Q E s := by
  refine callType_codes (Q₁ := fun obj s₁ => obj = .ref s.heap.objs.size ∧ s₁ = { s with heap := s.heap.push { cls := .type "list", data := .seq #[] } }) F.called_list (F.typeCall_list_1 _) F.entry_list_init
    (code_list_new _ ⟨rfl, rfl⟩) fun obj s₁ h₁ => ?_
  obtain ⟨rfl, rfl⟩ := h₁
  have hS : (s.heap.push { cls := .type "list", data := .seq #[] }).get? s.heap.objs.size = some { cls := .type "list", data := .seq #[] } := Heap.get?_push_size _ rfl
  obtain ⟨oi, hoi, _⟩ := id hit
  obtain ⟨ol, hol, _⟩ := id hl
  have hSi : s.heap.objs.size ≠ it := Nat.ne_of_gt (Heap.lt_size hoi)
  have hSl : s.heap.objs.size ≠ l := Nat.ne_of_gt (Heap.lt_size hol)
  refine ⟨⟨_, hS, rfl⟩, F.args_list_init_2 _ _, list_init_rev (A := A.in1) (s := { s with heap := s.heap.push { cls := .type "list", data := .seq #[] } }) hh (hit.at fun o e => Heap.get?_push_of_some _ e) (hl.push _) hne hn _ hS hSi hSl fun h' tk acc' c' hk hS' hacc => ?_⟩
  exact ⟨rfl, hQ h' tk acc' c' (fun b o hb e => hk b o (Nat.ne_of_lt (Heap.lt_size e)) hb (Heap.get?_push_of_some _ e)) hS' hacc⟩
end
/-- list(reversed(x)), x a list: a new list -/
def tLstRev (K : PySem.W.Frag) (te : TE) : TE := fun σ H Q => te σ H fun v H1 => ∃ (a : Addr) (xs : List V), v = .ref a ∧ SqL K H1 a xs ∧ ∀ q, H1 q = none → Q (.ref q) (upd H1 q (.lst xs.reverse))
theorem pe_lstRev {X : Cx} {e : Expr} {te : TE} {p p2 pos pos2 : Pos} (hc : X.calm = true) (hg : Gl X "list") (hm : X.mg "list" = none) (hg2 : Gl X "reversed") (hm2 : X.mg "reversed" = none) (he : PE X e te)
    (hs : starEach [e] X.env = (false, eval e X.env) :: starEach [] X.env := by rfl)
    (hs2 : starEach [.Call (.Name "reversed" p2) [e] [] pos2] X.env = (false, eval (.Call (.Name "reversed" p2) [e] [] pos2) X.env) :: starEach [] X.env := by rfl) :
    PE X (.Call (.Name "list" p) [.Call (.Name "reversed" p2) [e] [] pos2] [] pos) (tLstRev X.K te) := by
  refine ⟨fun pins s σ H Q I h => ?_⟩
  refine Call_ (ld_blt I hg hm boot_list (PyProof.Rows.callWith_type1 (args_cons (Call_ (ld_blt I hg2 hm2 PyProof.Rows.boot_reversed (PyProof.Rows.callWith_type1 (args_cons (thn (he.run pins s σ H _ I h) fun u s1 ⟨v, H1, I1, r1, q1⟩ => args_nil ?_) hs) hs rfl))) hs2) hs2 rfl))
  obtain ⟨a, xs, ev, hq, q⟩ := q1
  subst ev
  obtain rfl : u = Value.ref a := r1
  obtain ⟨its, rv, p', hz⟩ := I1.list hq
  refine call_reversed_list p'.isList (args_nil ?_)
  have k0 : ∀ b o, s1.heap.get? b = some o → (s1.heap.push (revObj a ((its.toArray.size : Int) - 1))).get? b = some o := fun b o e => Heap.get?_push_of_some _ e
  have I2 : Inv X pins σ H1 { s1 with heap := s1.heap.push (revObj a ((its.toArray.size : Int) - 1)) } := I1.kept (t' := s1.toks) k0
  obtain ⟨f0, f1, f2, f3, f4, f5⟩ := I1.fpOk (H' := H1) (b := s1.heap.objs.size) (Nat.le_refl _) (I1.hok.fresh (Nat.le_refl _))
  have hl := p'.isList
  obtain ⟨ol, hol, _⟩ := id hl
  have hne : a ≠ s1.heap.objs.size := Nat.ne_of_lt (Heap.lt_size hol)
  have hn : its.toArray.size ≤ sizeLine := by rw [List.size_toArray, ← rv.length]; exact hz
  refine call_list_rev (s := { s1 with heap := s1.heap.push (revObj a ((its.toArray.size : Int) - 1)) }) (I1.ok.hd hc) ⟨_, Heap.get?_push_size _ rfl, rfl, rfl⟩ (hl.push _) hne hn fun h' tk acc c' hk hS hi => ?_
  have hN : (s1.heap.push (revObj a ((its.toArray.size : Int) - 1))).objs.size = s1.heap.objs.size + 1 := by rw [Heap.size_push]
  have new : ObjOk X.prog X.w (upd H1 (s1.heap.push (revObj a ((its.toArray.size : Int) - 1))).objs.size (.lst xs.reverse)) h' (s1.heap.push (revObj a ((its.toArray.size : Int) - 1))).objs.size (.lst xs.reverse) :=
    ⟨by rw [List.length_reverse]; exact hz, acc.toList, c', RT.vals_rev rv hi, by rw [Array.toArray_toList]; exact hS⟩
  have I3 := I2.turnedNew (t' := tk) (ch := [s1.heap.objs.size]) (fun b o hb e => hk b o (fun z => hb (by simp [z])) e) (fun b hb => by
    rw [List.mem_singleton.mp hb]
    exact I1.fpOk (Nat.le_refl _) (I1.hok.fresh (Nat.le_refl _))) (Nat.le_refl _) new
  exact ⟨.ref _, _, I3, rfl, q _ (I2.hok.fresh (Nat.le_refl _))⟩
end Ng

set_option Elab.async false
set_option linter.all false
set_option maxRecDepth 100000
set_option maxHeartbeats 4000000
/-! enumerate of a tuple; sorted of a dict whose keys are pairs of whole numbers. -/
namespace Ng
open PySem PySem.Spec PyProof.Rows PySem.W L2
theorem meets_enumerate_new1 {v : Value} {o : Obj} {H : Heap → Prop} (B : Begins v o H) :
    Meets (Builtin.«enumerate.__new__» ⟨[.type "enumerate", v], []⟩) (fun _ R s => H s.heap ∧
      R (.ok (.ret (.ref (s.heap.push o).objs.size))) { s with heap := (s.heap.push o).push { cls := .type "enumerate", data := .fields #[.none, .bool false, .ref s.heap.objs.size, rawInt 0, .none, .none] } }) :=
  .of_wp fun prog w A R s h => by
    obtain ⟨hp, g, d, tk, os⟩ := s; obtain ⟨h1, h⟩ := h
    have hsub := sub_enumerate
    have q1 : ∀ {A' : Around} {E : Value → Shared → Prop} {Q : Value → Shared → Prop}, Q (.ref hp.objs.size) ⟨hp.push o, g, d, tk, os⟩ → wpAny (model prog w) A' (pyIter v) Q E ⟨hp, g, d, tk, os⟩ :=
      fun q => B.iter prog w _ _ ⟨hp, g, d, tk, os⟩ _ h1 q
    wp_walk using q1
    refine wpAny_stack_any fun st => wpAny_pure ?_
    split
    · rename_i c _ _ _ _ _
      cases (c == Value.type "enumerate")
      · wp_walk using q1
        exact ⟨_, rfl, h⟩
      · wp_walk using q1
        exact ⟨_, rfl, h⟩
    · wp_walk using q1
      exact ⟨_, rfl, h⟩
section
variable {prog : Program} {w : World} {A : Around} {E : Value → Shared → Prop} {s : Shared}
theorem enum_begins1 {v : Value} {o : Obj} {H : Heap → Prop} {Q : Value → Shared → Prop} (B : Begins v o H) (h1 : H s.heap)
    (h : ∀ h', IsEnum h' (s.heap.objs.size + 1) s.heap.objs.size 0 .none → h'.get? s.heap.objs.size = some o → h'.objs.size = s.heap.objs.size + 2 →
      (∀ b o, s.heap.get? b = some o → h'.get? b = some o) → Q (.ref (s.heap.objs.size + 1)) { s with heap := h' }) :
    wpAny (model prog w) A (call (.type "enumerate") [v]) Q E s := by
  refine callType_new F.called_enumerate (by decide) (F.typeCall_enumerate_1 _) (F.newCall_enumerate_1 _) (fun obj => F.args_object_init_2 obj _) F.entry_enumerate_new
    (meets_enumerate_new1 B) ⟨h1, ?_⟩
  have hz : (s.heap.push o).objs.size = s.heap.objs.size + 1 := Heap.size_push ..
  show _ ∧ _
  rw [hz]
  have he : IsEnum ((s.heap.push o).push { cls := .type "enumerate", data := .fields #[.none, .bool false, .ref s.heap.objs.size, rawInt 0, .none, .none] }) (s.heap.objs.size + 1) s.heap.objs.size 0 .none := by
    have := Heap.get?_push_size (s.heap.push o) (o := { cls := .type "enumerate", data := .fields #[.none, .bool false, .ref s.heap.objs.size, rawInt 0, .none, .none] }) rfl
    rw [hz] at this; exact this
  refine ⟨⟨_, he, rfl⟩, h _ he (Heap.get?_push_of_some _ (Heap.get?_push_size _ B.free)) (by rw [Heap.size_push, hz]) fun b o x => Heap.get?_push_of_some _ (Heap.get?_push_of_some _ x)⟩
end
/-- the tuple at a as it stands at each turn, each item in a new pair -/
def IteT (K : PySem.W.Frag) (a : Addr) : L2.It :=
  ⟨fun i H => ∃ (xs : List V) (x : V), SqT K H a xs ∧ xs[i]? = some x, fun i H v H' => ∃ T x, v = .ref T ∧ H T = none ∧ H' = upd H T (.tup [.int (i : Nat), x]) ∧ ∀ xs, SqT K H a xs → xs[i]? = some x, fun i H => ∃ xs : List V, SqT K H a xs ∧ xs.length ≤ i⟩
theorem turn_enumT {P : Program} {w : World} {K : PySem.W.Frag} {elts : List Expr} {kk : Nat} {tpos : Pos} (a e it : Addr) :
    Turn P w K (.Tuple elts kk tpos) (IteT K a) [e, it] e (fun i h => (∃ old, IsEnum h e it ((i : Nat) : Int) old) ∧ h.IsTupleIter it a i ∧ e ≠ it ∧ a ≠ it ∧ a ≠ e) where
  mem := by simp
  obj := fun i h st b hb => by
    obtain ⟨⟨old, he⟩, ⟨o, ho, hc, hd⟩, _⟩ := st
    have e' : b = e ∨ b = it := by simpa using hb
    rcases e' with z | z
    · rw [z]; exact ⟨_, he, fun v q => nomatch q⟩
    · rw [z]; exact ⟨o, ho, fun v q => by rw [hd] at q; cases q⟩
  keep := fun i h h' st k => let ⟨⟨old, he⟩, hi, hne⟩ := st; ⟨⟨old, k e (by simp) _ he⟩, hi.at fun o q => k it (by simp) o q, hne⟩
  item := by
    intro X hP hw hK hc i pins s σ H E I hf st hg
    subst hP hw hK
    obtain ⟨⟨old, he⟩, hit, hne, hai, hae⟩ := st
    obtain ⟨xs, x, hq, hx⟩ := hg
    obtain ⟨its, rv, p, hz⟩ := I.tuple hq
    obtain ⟨u, hu, ru⟩ := rv.get hx
    have hel : e < s.heap.objs.size := Heap.lt_size he
    have hil : it < s.heap.objs.size := by obtain ⟨_, q, _⟩ := hit; exact Heap.lt_size q
    have hh : X.A.in1.handled = none := I.ok.hd hc
    have hlt : i < its.toArray.size := by simpa using (List.getElem?_eq_some_iff.mp hu).1
    refine wpAny_pyNext_enum_itemD (Draws.tuple hh it a hai its.toArray) he ⟨hit, p⟩ hlt hne (by simp only [List.mem_cons, List.not_mem_nil, or_false, not_or]; exact ⟨hne, Ne.symm hae⟩) fun v h' tk hv ho st' hT hsz hk => ?_
    obtain rfl : v = u := by
      have : its.toArray[i]? = some u := by simpa using hu
      rw [this] at hv; exact (Option.some.inj hv).symm
    refine ⟨_, rfl, wpAny_letOwnedTupleGo_enum (s := { s with heap := h', toks := tk + 1 }) ho fun h'' he' sb => ?_⟩
    have hT2 : h''.get? s.heap.objs.size = some { cls := .type "tuple", data := .seq #[.int i tk, v] } := (sb.2 _ (Nat.ne_of_gt hel)).trans hT
    have new : ObjOk X.prog X.w (upd H s.heap.objs.size (.tup [.int (i : Nat), x])) h'' s.heap.objs.size (.tup [.int (i : Nat), x]) :=
      ⟨by show 2 ≤ sizeLine; decide, [.int i tk, v], .cons ⟨_, rfl⟩ (.cons ru .nil), ⟨_, hT2, rfl, _, rfl⟩⟩
    have I1 : Inv X pins σ (upd H s.heap.objs.size (.tup [.int (i : Nat), x])) { s with heap := h'', toks := tk + 1 } :=
      I.turnedNew (t' := tk + 1) (ch := [e, it]) (fun b ob hb q => (sb.2 b (fun z => hb (by simp [z]))).trans (hk b ob (fun z => hb (by simp [z])) (fun z => hb (by simp [z])) q)) hf (Nat.le_refl _) new
    refine ⟨.ref s.heap.objs.size, _, I1, rfl, ⟨_, x, rfl, I.hok.fresh (Nat.le_refl _), rfl, fun ys hy => by rw [I.tuple_inj hy hq]; exact hx⟩, ⟨⟨v, ?_⟩, st'.1.at fun o q => (sb.2 it (Ne.symm hne)).trans q, hne, hai, hae⟩, fun b hb => ?_⟩
    · have e1 : ((i + 1 : Nat) : Int) = (i : Int) + 1 := by omega
      rw [e1]; exact he'
    · have hb' : b < s.heap.objs.size := by
        have e' : b = e ∨ b = it := by simpa using hb
        rcases e' with z | z
        · rw [z]; exact hel
        · rw [z]; exact hil
      rw [upd_ne (Nat.ne_of_lt hb')]
      exact (hf b hb).1
  done := by
    intro X hP hw hK hc i pins s σ H E I hf st hg
    subst hP hw hK
    obtain ⟨⟨old, he⟩, hit, hne, hai, hae⟩ := st
    obtain ⟨xs, hq, hx⟩ := hg
    obtain ⟨its, rv, p, hz⟩ := I.tuple hq
    have hl := rv.length
    have hh : X.A.in1.handled = none := I.ok.hd hc
    have hm : max i its.toArray.size = i := by simp; omega
    refine wpAny_pyNext_enum_endD (drawsT hh it a hai its.toArray i) he (by rw [hm]; exact ⟨Nat.le_refl _, hit, p⟩) fun h' eb => ⟨rfl, I.turnedL (t' := s.toks) (ch := [e, it]) (fun b o hb q => eb b o (fun z => hb (by simp [z])) q) hf⟩
  self := fun A i s Q E st h => let ⟨⟨_, he⟩, _⟩ := st; wpAny_pyIter_enum he h
def iEnumM (K : PySem.W.Frag) (ta : TA) : TI := fun σ H R => ta σ H fun vs H1 => ∃ a xs, vs = [.ref a] ∧ ((SqL K H1 a xs ∧ R (Ite K a) H1) ∨ (SqT K H1 a xs ∧ R (IteT K a) H1))
theorem pi_enumM {X : Cx} {e : Expr} {ta : TA} {p pos tpos : Pos} {elts : List Expr} {kk : Nat} (hg : Gl X "enumerate") (hm : X.mg "enumerate" = none) (ha : PA X [e] ta) (hs : starEach [e] X.env = [(false, eval e X.env)] := by rfl) :
    PI X (.Tuple elts kk tpos) (.Call (.Name "enumerate" p) [e] [] pos) (iEnumM X.K ta) := by
  refine ⟨fun pins s σ H R I h => ?_⟩
  refine Call_ (ld_blt I hg hm boot_enumerate (PyProof.Rows.callWith_type1 (thn (ha.run pos pins s σ H _ I h) fun us s1 ⟨vs, H1, I1, r1, q1⟩ => ?_) hs rfl))
  obtain ⟨a, xs, ex, q1⟩ := q1
  subst ex
  have fresh2 : ∀ b, b ∈ [s1.heap.objs.size + 1, s1.heap.objs.size] → FpOk X pins H1 b := fun b hb => by
    have e' : b = s1.heap.objs.size + 1 ∨ b = s1.heap.objs.size := by simpa using hb
    have hle : s1.heap.objs.size ≤ b := by
      rcases e' with z | z
      · rw [z]; exact Nat.le_add_right _ _
      · rw [z]; exact Nat.le_refl _
    exact I1.fpOk hle (I1.hok.fresh hle)
  cases r1 with
  | cons r rr =>
    cases rr
    cases r
    rcases q1 with ⟨hq, q⟩ | ⟨hq, q⟩
    · obtain ⟨its, rv, p', hz⟩ := I1.list hq
      refine call_enumerate_list p'.isList fun h' he hit hsz hk => wpAny_pyIter_enum he ?_
      have I2 : Inv X pins σ H1 { s1 with heap := h' } := I1.kept (t' := s1.toks) hk
      exact ⟨s1.heap.objs.size + 1, [s1.heap.objs.size + 1, s1.heap.objs.size], _, _, H1, rfl, I2, turn_enum a (s1.heap.objs.size + 1) s1.heap.objs.size, ⟨⟨.none, he⟩, hit, Nat.succ_ne_self _⟩, fresh2, q⟩
    · obtain ⟨its, rv, p', hz⟩ := I1.tuple hq
      obtain ⟨o1, ho1, _⟩ := id p'
      have hlt : a < s1.heap.objs.size := Heap.lt_size ho1
      refine enum_begins1 (begins_tuple a its.toArray) (show s1.heap.IsTuple a its.toArray from p') fun h' he hit hsz hk => wpAny_pyIter_enum he ?_
      have I2 : Inv X pins σ H1 { s1 with heap := h' } := I1.kept (t' := s1.toks) hk
      exact ⟨s1.heap.objs.size + 1, [s1.heap.objs.size + 1, s1.heap.objs.size], _, _, H1, rfl, I2, turn_enumT a (s1.heap.objs.size + 1) s1.heap.objs.size, ⟨⟨.none, he⟩, ⟨_, hit, rfl, rfl⟩, Nat.succ_ne_self _, Nat.ne_of_lt hlt, Nat.ne_of_lt (Nat.lt_succ_of_lt hlt)⟩, fresh2, q⟩
/-! ### sorted(d), keys pairs of whole numbers -/
section
variable {X : Cx}
/-- sorted(d) of a raw dict: the collected list stands somewhere, the new one at p -/
theorem sorted_rawO {prog : Program} {w : World} {A : Around} {E : Value → Shared → Prop} {s : Shared} {d : Addr} {o : Obj} {es : Array DictEntry} {ep : Nat} {k : Value → Int × Int} {Q : Value → Shared → Prop} (lo : (d == sysModules) = false) (hx : o.ExactDict) (hd : o.data = .dict es ep)
    (ho : s.heap.get? d = some o) (hh : A.handled = none) (hz : es.size ≤ sizeLine) (hp : ∀ v ∈ es.toList.map (·.key), Srt.IsPair s.heap v (k v).1 (k v).2)
    (h : ∀ (h1 h2 : Heap) (tk : Nat) (out : List Value), SrtO.Srtd (fun v u => SrtO.lexB (k v) (k u)) out → SrtO.Stb (fun v u => SrtO.lexB (k v) (k u)) out (es.toList.map (·.key)) → (∀ b o, s.heap.get? b = some o → h1.get? b = some o) → (∀ b o, h1.get? b = some o → h2.get? b = some o) → (∃ n, h2.get? h1.objs.size = some (seqObj "list" out.toArray n)) → Q (.ref h1.objs.size) { s with heap := h2, toks := tk }) :
    wpAny (model prog w) A (call (.builtin "sorted") [.ref d]) Q E s := by
  refine Calls.call_function_entry PyProof.Rows.kind_sorted PyProof.Rows.plain_sorted PyProof.Rows.entry_sorted (PyProof.Rows.args_sorted1 _) ?_
  unfold Builtin.«sorted»
  refine wpAny_bind (m := checkCount "sorted" 1 1 _) (wpAny_pure ?_)
  refine wpAny_bind (PySem.W.kdu_collect (A := A.in1) (kdl_raw lo hx hd) hh ho hz fun h' tk acc hk hacc => ?_)
  have hv : acc.toList = es.toList.map (·.key) := by
    apply List.ext_getElem?
    intro j
    by_cases hj : j < acc.size
    · obtain ⟨en, e1, e2⟩ := hacc.2 j acc[j] (by rw [Array.getElem?_eq_getElem hj])
      rw [List.getElem?_map, Array.getElem?_toList, Array.getElem?_toList, e1, Array.getElem?_eq_getElem hj, e2]
      rfl
    · have h1 := hacc.1
      rw [List.getElem?_eq_none (by simp; omega), List.getElem?_eq_none (by simp; omega)]
  have hzl : acc.toList.length ≤ sizeLine := by rw [Array.length_toList, hacc.1]; exact hz
  refine wpAny_bind (wpAny_newList ?_ hzl)
  have hoL : (h'.push (seqObj "list" acc.toList.toArray 0)).get? h'.objs.size = some (seqObj "list" acc.toList.toArray 0) := Heap.get?_push_size _ rfl
  have keep : ∀ b o, s.heap.get? b = some o → b ≠ h'.objs.size ∧ (h'.push (seqObj "list" acc.toList.toArray 0)).get? b = some o := fun b o q =>
    ⟨Nat.ne_of_lt (Heap.lt_size (hk b o q)), Heap.get?_push_of_some _ (hk b o q)⟩
  show wpAny _ _ _ _ _ { s with heap := h'.push (seqObj "list" acc.toList.toArray 0), toks := tk }
  refine wpAny_bind (wpAny_holding (wpAny_call_entry PyProof.Rows.slot_list_sort ⟨_, hoL, rfl⟩ PyProof.Rows.entry_list_sort
    (SrtO.list_sort_ord (s := { s with heap := h'.push (seqObj "list" acc.toList.toArray 0), toks := tk }) (SrtO.swo_lex k) hoL hzl (fun h2 => ?_) fun out hs hb => ⟨_, rfl, ?_⟩) (PyProof.Rows.args_list_sort _)))
  · refine SrtO.pairs_sortableO (s := { s with heap := h'.push (seqObj "list" acc.toList.toArray 0), toks := tk }) (by omega) (fun v hm => ?_) fun o e => ?_
    · rw [hv] at hm
      exact (hp v hm).keeps fun b o e _ => (keep b o e).2
    · have e' : some o = some (seqObj "list" acc.toList.toArray 0) := e.symm.trans hoL
      cases e'
      intro c
      exact absurd (Value.type.inj c) (by decide)
  · obtain ⟨e', he'⟩ := PyProof.Rows.sortedHeap_at (vs := acc.toList) (out := out.toArray) hoL
    refine wpAny_pure ⟨_, rfl, h h' _ tk out hs (by rw [← hv]; exact hb) hk (fun b o q => ?_) ⟨e', he'⟩⟩
    have hb := Heap.lt_size q
    rw [PyProof.Rows.sortedHeap_old (Nat.ne_of_lt hb) (by rw [Heap.size_push]; exact Nat.lt_succ_of_lt hb)]
    exact Heap.get?_push_of_some _ q
/-- the keys as pairs -/
def KPr (xs : List (List Int × Addr × Value)) (ps : List (Int × Int)) : Prop := xs.map (·.1) = ps.map fun p => [p.1, p.2]
def rSortDX (K : PySem.W.Frag) : List V → Hp → VK → Prop := fun vs H Q => ∃ (a : Addr) (xs : List (List Int × Addr × Value)) (ps : List (Int × Int)), vs = [V.ref a] ∧ H a = some (DX a xs) ∧ KX K H xs ∧ KPr xs ps ∧
  ∀ ys p, Paired (PrV K H) ys (srtP ps) → H p = none → Q (.ref p) (upd H p (.lst ys))
theorem kpr_paired {K : PySem.W.Frag} {H : Hp} : ∀ {xs : List (List Int × Addr × Value)} {ps : List (Int × Int)}, KX K H xs → KPr xs ps → Paired (PrV K H) (xs.map fun x => V.ref x.2.1) ps ∧ Vals (xs.map fun x => V.ref x.2.1) (xs.map fun x => Value.ref x.2.1)
  | [], [], _, _ => ⟨.nil, .nil⟩
  | [], _ :: _, _, h => by simp [KPr] at h
  | _ :: _, [], _, h => by simp [KPr] at h
  | x :: xs, p :: ps, kx, h => by
    simp only [KPr, List.map_cons, List.cons.injEq] at h
    obtain ⟨h1, h2⟩ := kpr_paired (xs := xs) (ps := ps) (fun y hy => kx y (List.mem_cons_of_mem _ hy)) h.2
    have hx := kx x List.mem_cons_self
    rw [h.1] at hx
    exact ⟨.cons ⟨_, rfl, hx⟩ h1, .cons rfl h2⟩
theorem cr_sortedDX (hc : X.calm = true) : CallR X (.builtin "sorted") (rSortDX X.K) := by
  intro pins s σ H vs us Q I rs h
  obtain ⟨a, xs, ps, rfl, e, kx, hk, q⟩ := h
  obtain rfl := Vals.ref1 rs
  obtain ⟨z1, z2, o, es, ep, q1, q2, q3, q4⟩ := dx_raw I e
  obtain ⟨pp, vv⟩ := kpr_paired kx hk
  have hkeys : es.toList.map (·.key) = xs.map fun x => Value.ref x.2.1 := by
    rw [q4, List.map_map]; rfl
  obtain ⟨k1, k2, k3⟩ := prv_all I pp vv
  have hsz : es.size ≤ sizeLine := by rw [← Array.length_toList, q4, List.length_map]; exact z1
  refine sorted_rawO (k := kH s.heap) z2 q2 q3 q1 (I.ok.hd hc) hsz (by rw [hkeys]; exact k1) fun h1 h2 tk out hs hst hk1 hk2 ho => ?_
  rw [hkeys] at hst
  obtain ⟨ys, r1, r2⟩ := prv_back (X := X) (H := H) (h := s.heap) (vs := out) fun v hv => k3 v (hst.perm.mem_iff.mp hv)
  have e : out.map (kH s.heap) = srtP ps := by
    refine srtP_of (by rw [← k2]; exact hst.perm.map _) ?_
    rw [List.pairwise_map]
    exact hs.imp fun {v u} z => by
      have z : SrtO.lexB (kH s.heap u) (kH s.heap v) = false := z
      unfold leP; rw [z]; rfl
  rw [e] at r2
  obtain ⟨n, ho⟩ := ho
  have hlen : ys.length ≤ sizeLine := by
    rw [Paired.length r1, hst.perm.length_eq, List.length_map]; exact z1
  have I1 : Inv X pins σ H { s with heap := h1, toks := tk } := I.kept hk1
  exact ⟨.ref h1.objs.size, upd H h1.objs.size (.lst ys), I1.laid (t' := tk) hk2 (Nat.le_refl _) (show ObjOk X.prog X.w _ _ _ (.lst ys) from ⟨hlen, out, n, r1, ho⟩), rfl, q ys _ r2 (I1.hok.fresh (Nat.le_refl _))⟩
end
end Ng

set_option Elab.async false
set_option linter.all false
set_option maxRecDepth 100000
set_option maxHeartbeats 4000000
/-! Comprehensions that make a dict whose keys are tuples of ints. -/
namespace Ng
open PySem PySem.Spec PyProof.Rows PySem.W L2
section
variable {X : Cx}
/-- the store of a turn -/
theorem dcx_set {pins : List (Addr × Obj)} {σ : L2.St} {H : Hp} {s : Shared} {E : Value → Shared → Prop} {d b : Addr} {xs : List (List Int × Addr × Value)} {k : List Int} {u : Value} {Q : Unit → Shared → Prop} (hu : X.A.units < cLine) (I : Inv X pins σ H s) (e : H d = some (DX d xs)) (kx : KX X.K H xs) (hk : SqT X.K H b (k.map V.int)) (hl : xs.length < sizeLine)
    (q : ∀ s', Inv X pins σ (upd H d (DX d (storedH xs k b u))) s' → Q () s') : wpAny (model X.prog X.w) X.A (dictSet d (.ref b) u) Q E s := by
  obtain ⟨z, hd, dd⟩ := dx_rd I (.inl e) kx
  refine wpAny_dictSet_heap (hsz := z) hu (key_is I hk) dd fun h' dd' hs => q _ ?_
  have hl' : (storedH xs k b u).length ≤ sizeLine := by have := storedH_length xs k b u; omega
  have he : ∃ q, h'.get? d = some q := let ⟨q, _, _, hq, _⟩ := dd'; ⟨q, hq⟩
  exact d_write I (by rw [e]; exact True.intro) hs he (dx_new hl' hd dd')
/-- {k: v for target in iter if ..}: d the new dict -/
def tDcX (K : PySem.W.Frag) (wi : TI) (g : TG) (tt : TT) (tk tv : TE) (vs : List Nat) : TE := fun σ H Q => wi σ H fun J H1 => ∀ d, H1 d = none → ∃ W : Nat → Nat → Hp → Prop, (∃ m, W 0 m (upd H1 d (DX d []))) ∧ ∀ i m Hm, W i m Hm →
  (J.stop i Hm ∧ Q (.ref d) Hm) ∨ (J.go i Hm ∧ ∃ Nx : Hp → Prop, (∀ H', Nx H' → ∃ m', m' < m ∧ W (i + 1) m' H') ∧ ∀ x H', J.yld i Hm x H' → g x (wipe σ vs) H' fun σ2 H2 => wipe σ2 vs = wipe σ vs ∧ tt σ2 H2 fun b H3 =>
    if b = true then tk σ2 H3 fun y H4 => tv σ2 H4 fun z H5 => ∃ (b : Addr) (xs : List (List Int × Addr × Value)) (k : List Int), y = .ref b ∧ H5 d = some (DX d xs) ∧ KX K H5 xs ∧ SqT K H5 b (k.map V.int) ∧ xs.length < sizeLine ∧ ∀ u, RelV z u → Nx (upd H5 d (DX d (storedH xs k b u))) else Nx H3)
theorem dcx_core {pins : List (Addr × Obj)} {s : Shared} {σ : L2.St} {H : Hp} {Q : VK} {ke ve tge ite : Expr} {ifs : List Expr} {sc : Scope} {own : List (Str × Nat)} {pos pos' : Pos} {wi : TI} {g : TG} {tt : TT} {tk tv : TE} {use : Option (Value → Sem Unit)} {Qf : Value → Shared → Prop} (hu : X.A.units < cLine)
    (hcalm : X.calm = true) (hnd : X.N.Nodup) (I : Inv X pins σ H s) (hit : PI X tge ite wi) (bok : BlkOk X.N X.env.scope sc own) (hset : ∀ x, foldedSetIterable ite X.env x = pure x)
    (parts : ∀ (s' : Shared) (H' : Hp) (C : Addr) (cl : List (Str × Addr)) (fps : List Addr), PG (X.blk s' H' sc (compEnvC sc cl C X.env) fps) tge g ∧ PTs (X.blk s' H' sc (compEnvC sc cl C X.env) fps) ifs tt ∧ PE (X.blk s' H' sc (compEnvC sc cl C X.env) fps) ke tk ∧ PE (X.blk s' H' sc (compEnvC sc cl C X.env) fps) ve tv)
    (h : tDcX X.K wi g tt tk tv (own.map (·.2)) σ H Q)
    (done : ∀ d C s' m H', Inv X pins σ H' s' → Q (.ref d) H' → s'.heap.Ns C m → FpOk X pins H' C → compPost (model X.prog X.w) X.A X.xe use Qf (.ref d) C (.ok .next) s') :
    wpAny (model X.prog X.w) X.A (comprehension (.DictComp ke ve [⟨tge, ite, ifs, 0⟩] sc pos) sc X.env pos' newDict false (eval ite X.env) use) Qf X.xe s := by
  have caps : ∀ y ∈ sc.names, y.2 = .free → ∃ c, X.env.cells.lookup y.1 = some c := fun y hy e => (bok.free y hy e).elim (fun z => I.ok.has _ (.inl z)) fun z => I.ok.has _ (.inr z)
  refine wpAny_comprehension_free (use := use) rfl hset (closure_ok caps) bok.kind (fun y hy e => by rw [bok.uniq y hy, e]) (thn (hit.run pins s σ H _ I h) fun _ sa ha => thn ha fun _ sb hb => ?_)
  obtain ⟨itr, fps, tn, J, Hb, er, Ib, T, stb, fb, q⟩ := hb
  subst er
  refine wpAny_newObj_type (newEnv_comp ?_)
  generalize hd : sb.heap.objs.size = d
  obtain ⟨W, ⟨m0, w0⟩, turn⟩ := q d (Ib.hok.fresh (Nat.le_of_eq hd))
  generalize hsc : ({ sb with heap := sb.heap.push { cls := .type "dict", data := .dict #[] } } : Shared) = s3
  have I3 : Inv X pins σ (upd Hb d (DX d [])) s3 := by
    subst hsc hd
    exact Ib.laid (t' := sb.toks) (fun _ _ e => Heap.get?_push_of_some _ e) (Nat.le_refl _) (dx_empty sb.heap Ib.big)
  have h3 : s3.heap = sb.heap.push { cls := .type "dict", data := .dict #[] } := by rw [← hsc]
  have f3 : ∀ b ∈ fps, FpOk X pins (upd Hb d (DX d [])) b ∧ b < s3.heap.objs.size := fun b hb => by
    obtain ⟨o, e, _⟩ := T.obj _ _ stb b hb
    have hlt := Heap.lt_size e
    refine ⟨⟨by rw [upd_ne (by rw [← hd]; exact Nat.ne_of_lt hlt)]; exact (fb b hb).1, (fb b hb).2⟩, by rw [h3, Heap.size_push]; exact Nat.lt_succ_of_lt hlt⟩
  have I4 := block_start I3 bok hnd f3
  obtain ⟨pg, pt, pk, pv⟩ := parts s3 (upd Hb d (DX d [])) s3.heap.objs.size (cellsFrom (s3.heap.objs.size + 1) sc.names (cloFrom X.env.cells sc.names [])) fps
  show codeAny _ _ (.compStart (.DictComp ke ve [⟨tge, ite, ifs, 0⟩] sc pos) 0 (.ref itr) (.ref d) (compEnvC sc (cellsFrom (s3.heap.objs.size + 1) sc.names (cloFrom X.env.cells sc.names [])) s3.heap.objs.size X.env)) (compPost (model X.prog X.w) X.A X.xe use Qf (.ref d) s3.heap.objs.size) { s3 with heap := pushCells (s3.heap.push { cls := .type "dict", data := .dict #[] }) sc.names }
  have nofp : ∀ b ∈ fps, (upd Hb d (DX d [])) b = none := fun b hb => (f3 b hb).1.1
  generalize hce : compEnvC sc (cellsFrom (s3.heap.objs.size + 1) sc.names (cloFrom X.env.cells sc.names [])) s3.heap.objs.size X.env = ce at I4 pg pt pk pv ⊢
  have hloc : ce.locals = s3.heap.objs.size := by subst hce; rfl
  generalize hH3 : upd Hb d (DX d []) = Hc at I3 I4 pg pt pk pv w0 nofp f3
  generalize hs4 : ({ s3 with heap := pushCells (s3.heap.push { cls := .type "dict", data := .dict #[] }) sc.names } : Shared) = s4 at I4 ⊢
  have st4 : tn 0 s4.heap := T.keep _ _ _ (T.keep _ _ s3.heap stb fun b _ o e => by rw [h3]; exact Heap.get?_push_of_some _ e) fun b _ o e => by subst hs4; exact pushCells_keeps _ _ _ _ (Heap.get?_push_of_some _ e)
  have still : ∀ {σ' : L2.St} {H' : Hp} {s' : Shared}, Inv (X.blk s3 Hc sc ce fps) [] σ' H' s' → (∀ b ∈ fps, H' b = none) → ∀ b ∈ fps, FpOk (X.blk s3 Hc sc ce fps) [] H' b := fun I' no b hb =>
    ⟨no b hb, (I'.ok.exf b hb).1, I'.ok.exfs b hb, .inl hb, fun x c z => (I'.ok.exf b hb).2 x c z, fun p hp => by simp at hp⟩
  have loop : codeAny (model X.prog X.w) X.A (.compLoop (.DictComp ke ve [⟨tge, ite, ifs, 0⟩] sc pos) 0 (.ref itr) (.ref d) ce) (compPost (model X.prog X.w) X.A X.xe use Qf (.ref d) s3.heap.objs.size) s4 := by
    refine compLoop_anyD (fun n s' => ∃ i H', Inv (X.blk s3 Hc sc ce fps) [] (wipe σ (own.map (·.2))) H' s' ∧ tn i s'.heap ∧ (∀ b ∈ fps, H' b = none) ∧ W i n H') ?_ m0 ⟨0, Hc, I4, st4, nofp, w0⟩
    rintro n s5 ⟨i, H5, I5, st5, no5, w5⟩
    rcases turn i n H5 w5 with ⟨stop, qq⟩ | ⟨go, Nx, hNx, step⟩
    · refine thnF (T.done (X.blk s3 Hc sc ce fps) rfl rfl rfl hcalm i [] s5 _ H5 (fun _ _ => False) I5 (still I5 no5) st5 stop) fun r s6 ⟨hr, I6⟩ => ?_
      subst hr
      have I7 : Inv X pins σ H5 s6 := I3.call' (ch := fps) I6.os I6.base I6.hok I6.bare fun b hb => let f := (f3 b hb).1; ⟨f.2.2.2.1, f.2.1, f.2.2.2.2.1, f.2.2.2.2.2⟩
      have freeC : H5 s3.heap.objs.size = none := hloc ▸ (show H5 ce.locals = none from I6.free)
      obtain ⟨m, hn, _⟩ := I6.loc
      have hn' : s6.heap.Ns s3.heap.objs.size m := hloc ▸ (show s6.heap.Ns ce.locals m from hn)
      exact done d s3.heap.objs.size s6 m H5 I7 qq hn' (I3.fpOk (Nat.le_refl _) freeC)
    · refine thnF (T.item (X.blk s3 Hc sc ce fps) rfl rfl rfl hcalm i [] s5 _ H5 (fun _ _ => False) I5 (still I5 no5) st5 go) fun r s6 ⟨u, hr, h6⟩ => ?_
      subst hr
      refine thnF h6 fun _ s7 ⟨x, H7, I7, r7, y7, st7, no7⟩ => ?_
      refine thnF (pg.run _ s7 _ H7 x u _ (I7.pinned (still I7 no7) (T.obj _ _ st7)) r7 (step x H7 y7)) fun _ s8 ⟨σ8, H8, I8, same8, q8⟩ => ?_
      refine thnF (pt.run _ s8 σ8 H8 _ I8 q8) fun b s9 ⟨H9, I9, q9⟩ => ?_
      have ends : ∀ {s' : Shared} {H' : Hp}, Inv (X.blk s3 Hc sc ce fps) ([] ++ pinsAt fps s7.heap) σ8 H' s' → Nx H' → ∃ m, m < n ∧ ∃ i H', Inv (X.blk s3 Hc sc ce fps) [] (wipe σ (own.map (·.2))) H' s' ∧ tn i s'.heap ∧ (∀ b ∈ fps, H' b = none) ∧ W i m H' := fun {s' H'} I' nx => by
        obtain ⟨m', hm, w'⟩ := hNx H' nx
        have kept : ∀ b ∈ fps, ∀ o, s7.heap.get? b = some o → s'.heap.get? b = some o ∧ H' b = none := fun b hb o e => by
          have z := I'.pin (b, o) (List.mem_append_right _ (List.mem_append_right _ (mem_pinsAt hb e)))
          exact ⟨z.1, z.2.1⟩
        refine ⟨m', hm, i + 1, H', (I'.unpinned (pins := [])).weak (by rw [← same8, wipe_length]) (fun j v e => (wipe_some (same8 ▸ e)).1), T.keep _ _ _ st7 fun b hb o e => (kept b hb o e).1, fun b hb => ?_, w'⟩
        obtain ⟨o, e, _⟩ := T.obj _ _ st7 b hb
        exact (kept b hb o e).2
      cases b with
      | false =>
        rw [if_neg Bool.false_ne_true] at q9 ⊢
        exact ends I9 q9
      | true =>
        rw [if_pos rfl] at q9 ⊢
        refine thnF (pk.run _ s9 σ8 H9 _ I9 q9) fun zk s10 ⟨yk, H10, I10, r10, q10⟩ => ?_
        refine thnF (pv.run _ s10 σ8 H10 _ I10 q10) fun zv s11 ⟨yv, H11, I11, r11, b, xs, k, ek, hD, kx, hk, hz, nx⟩ => ?_
        subst ek
        obtain rfl : zk = Value.ref b := r10
        exact dcx_set (X := X.blk s3 Hc sc ce fps) hu I11 hD kx hk hz fun s12 I12 => ends I12 (nx zv r11)
  exact codeAny_compStart_dict loop (T.self X.A 0 _ _ _ st4 loop)
/-- as a value -/
theorem pe_dcX {ke ve tge ite : Expr} {ifs : List Expr} {sc : Scope} {own : List (Str × Nat)} {pos : Pos} {wi : TI} {g : TG} {tt : TT} {tk tv : TE} (hu : X.A.units < cLine) (hcalm : X.calm = true) (hnd : X.N.Nodup) (hit : PI X tge ite wi) (bok : BlkOk X.N X.env.scope sc own) (hset : ∀ x, foldedSetIterable ite X.env x = pure x)
    (parts : ∀ (s' : Shared) (H' : Hp) (C : Addr) (cl : List (Str × Addr)) (fps : List Addr), PG (X.blk s' H' sc (compEnvC sc cl C X.env) fps) tge g ∧ PTs (X.blk s' H' sc (compEnvC sc cl C X.env) fps) ifs tt ∧ PE (X.blk s' H' sc (compEnvC sc cl C X.env) fps) ke tk ∧ PE (X.blk s' H' sc (compEnvC sc cl C X.env) fps) ve tv) :
    PE X (.DictComp ke ve [⟨tge, ite, ifs, 0⟩] sc pos) (tDcX X.K wi g tt tk tv (own.map (·.2))) := by
  refine ⟨fun pins s σ H Q I h => ?_⟩
  rw [arm_eval_DictComp]
  refine dcx_core hu hcalm hnd I hit bok hset parts h fun d C s' m H' I' q hn f => ⟨m, hn, fun h'' sb => ?_⟩
  obtain ⟨f0, f1, f2, f3, f4, f5⟩ := f
  exact ⟨.ref d, H', I'.turned (t' := s'.toks) (fun b o hb z => (sb.2 b hb).trans z) f0 f1 f3 f4 f5, rfl, q⟩
/-- name = {..} on one line, the name a local -/
theorem ps_setDcX {i : Nat} {y : Str} {py : Pos} {ke ve tge ite : Expr} {ifs : List Expr} {sc : Scope} {own : List (Str × Nat)} {pos sp : Pos} {wi : TI} {g : TG} {tt : TT} {tk tv : TE} (hu : X.A.units < cLine) (hcalm : X.calm = true) (hnd : X.N.Nodup) (hy : X.N[i]? = some y) (hyl : X.env.scope.names.lookup y = some .local)
    (hsw : swapsWith (.DictComp ke ve [⟨tge, ite, ifs, 0⟩] sc pos) (some (.Name y py)) sp.line X.env = pure true) (hit : PI X tge ite wi) (bok : BlkOk X.N X.env.scope sc own) (hset : ∀ x, foldedSetIterable ite X.env x = pure x)
    (parts : ∀ (s' : Shared) (H' : Hp) (C : Addr) (cl : List (Str × Addr)) (fps : List Addr), PG (X.blk s' H' sc (compEnvC sc cl C X.env) fps) tge g ∧ PTs (X.blk s' H' sc (compEnvC sc cl C X.env) fps) ifs tt ∧ PE (X.blk s' H' sc (compEnvC sc cl C X.env) fps) ke tk ∧ PE (X.blk s' H' sc (compEnvC sc cl C X.env) fps) ve tv) :
    PS X (.Assign [.Name y py] (.DictComp ke ve [⟨tge, ite, ifs, 0⟩] sc pos) sp) (tAsg (tDcX X.K wi g tt tk tv (own.map (·.2))) (gName i)) := by
  refine ⟨fun pins s σ H D I q => ?_⟩
  have q' : tDcX X.K wi g tt tk tv (own.map (·.2)) σ H (fun x H1 => gName i x σ H1 D.nx) := q
  rw [exec_Assign_Name_used _ _ _ _ hsw]
  refine wpAny_bind (wpAny_standAt (wpAny_bind ?_))
  show wpAny _ X.A (do let _ ← comprehension (.DictComp ke ve [⟨tge, ite, ifs, 0⟩] sc pos) sc X.env (firstIterPos [⟨tge, ite, ifs, 0⟩] pos) newDict false (eval ite X.env) (some (assign (.Name y py) X.env))) _ _ s
  refine wpAny_bind (thn (dcx_core (Qf := fun _ sz => SP X pins D .next sz) hu hcalm hnd I hit bok hset parts q' fun d C s' m H' I' qd hn ⟨f0, f1, f2, f3, f4, f5⟩ => ?_) fun _ sz hq => wpAny_pure (wpAny_pure hq))
  refine wpAny_assign_Name (store_ok2 (v := V.ref d) I' hnd hy (.inl hyl) rfl (fun s2 I2 ⟨a, sb, ha⟩ => ?_) (.inr hyl))
  have hne : C ≠ a := fun e => ha.elim (fun z => f1 (e.trans z)) fun z => f4 y a z e.symm
  exact ⟨m, hn.sameBut sb hne, fun h3 sb3 => ⟨_, H', I2.turned (t' := s2.toks) (fun b o hb z => (sb3.2 b hb).trans z) f0 f1 f3 f4 f5, qd⟩⟩
theorem sw_trueD {ke ve : Expr} {gs : List Comprehension} {sc : Scope} {pos py : Pos} {y : Str} {l : Nat} {env : Env} (k1 : env.scope.kind = .function) (k2 : env.scope.names.lookup y = some .local) (k3 : (py.line == pos.line) = true)
    (k4 : (sc.names.any fun (n, k) => n == y && (k == .local || k == .cell)) = false) : swapsWith (.DictComp ke ve gs sc pos) (some (.Name y py)) l env = pure true := by
  have e1 : env.kindOf y = some .local := k2
  have e2 : env.blockKind = .function := by unfold Env.blockKind; rw [k1]; rfl
  simp only [swapsWith, e1, e2, k4, Expr.pos, k3]
  rfl
/-! ### truth of a dict -/
section
variable {pins : List (Addr × Obj)} {σ : L2.St} {H : Hp} {s : Shared} {a : Addr} {xs : List (List Int × Addr × Value)}
theorem tru_dx (I : Inv X pins σ H s) (e : Rd H a (DX a xs)) {Q : Bool → Hp → Prop} (q : Q (!xs.isEmpty) H) : wpAny (model X.prog X.w) X.A (truthy (.ref a)) (TP X pins σ Q) X.xe s := by
  obtain ⟨⟨z1, z2, z3, o, es, ep, q1, q2, q3, q4⟩, _⟩ := dx_ok I e
  have raw : s.heap.DictRaw a es ep := ⟨o, q1, q2, q3⟩
  have hsz : es.size = xs.length := by rw [← Array.length_toList, q4, List.length_map]
  have hne : ((es.size : Int) != 0) = !xs.isEmpty := by rw [hsz]; cases xs <;> simp; omega
  have hlt : ((es.size : Nat) : Int) < 2 ^ 63 := by rw [sizeLine_eq] at z1; omega
  have key : wpAny (model X.prog X.w) X.A (runValue (.builtin "len" ⟨[.ref a], []⟩)) (fun r s' => r = .int es.size (s.toks + 1) ∧ s' = { s with toks := s.toks + 1 + 1 }) X.xe s := by
    refine wpAny_runValue (codeAny_builtin PySem.entry_len ?_)
    rw [Around.under_plainId PySem.plain_len _]
    unfold Builtin.«len»
    refine wpAny_bind (m := oneArg "len" _) (wpAny_pure ?_)
    refine wpAny_bind (m := callSpecial? (.ref a) (Str.ofString "__len__")) (wpAny_callSpecial?_slot (name := Str.ofString "__len__") raw.typeIs F.slot_dict_len (call_len_raw z2 raw ?_))
    refine wpAny_bind (wpAny_holding (wpAny_pure (wpAny_bind (wpAny_letGo ?_))))
    show wpAny _ _ (if ((es.size : Nat) : Int) < 0 then _ else _) _ _ { s with toks := s.toks + 1 }
    rw [if_neg (by omega)]
    show wpAny _ _ (if ((es.size : Nat) : Int) ≥ 2 ^ 63 then _ else _) _ _ { s with toks := s.toks + 1 }
    rw [if_neg (by omega)]
    exact wpAny_bind (wpAny_mkInt (wpAny_pure ⟨rfl, rfl⟩))
  unfold truthy
  refine wpAny_bind (wpAny_callSpecial?_none (name := Str.ofString "__bool__") raw.typeIs noBool_dict ?_)
  refine wpAny_bind (wpAny_specialOf (name := Str.ofString "__len__") raw.typeIs F.slot_dict_len.lookup ?_)
  exact wpAny_bind (thn key fun r s' ⟨h1, h2⟩ => by subst h1 h2; exact wpAny_pure (hne ▸ ⟨H, I.tok _, q⟩))
/-! ### dict(d) -/
/-- dict(d): a copy; no two of its keys hash alike -/
def rDictX (K : PySem.W.Frag) : List V → Hp → VK → Prop := fun vs H Q => ∃ (a : Addr) (xs : List (List Int × Addr × Value)), vs = [V.ref a] ∧ Rd H a (DX a xs) ∧ KX K H xs ∧ (xs.map fun x => hashI x.1).Nodup ∧ ∀ p, H p = none → Q (.ref p) (upd H p (DX p xs))
theorem call_dictX (hu : X.A.units + 2 < cLine) : CallR X (.type "dict") (rDictX X.K) := by
  intro pins s σ H vs us Q I rs h
  obtain ⟨a, xs, rfl, e, kx, hap, q⟩ := h
  obtain rfl := Vals.ref1 rs
  obtain ⟨z, hd, dd⟩ := dx_rd I e kx
  have lt : a < s.heap.objs.size := by obtain ⟨_, _, _, hg, _⟩ := id dd; exact Heap.lt_size hg
  have keys : ∀ x ∈ xs, s.TypeIs (.ref x.2.1) "tuple" := fun x hx => by
    obtain ⟨its, r, ⟨o, h1, h2, n, h3⟩, _⟩ := I.tuple (kx x hx)
    exact ⟨o, h1, h2⟩
  refine callType_codes (Q₁ := fun obj s₁ => obj = .ref s.heap.objs.size ∧ s₁ = { s with heap := s.heap.push { cls := .type "dict", data := .dict #[] } }) F.kt_called_dict (F.kt_typeCall_dict_1 _) F.entry_dict_init (kt_code_dict_new _ ⟨rfl, rfl⟩) ?_
  rintro obj s₁ ⟨rfl, rfl⟩
  have I1 : Inv X pins σ H { s with heap := s.heap.push { cls := .type "dict", data := .dict #[] } } := I.kept (t' := s.toks) fun _ _ z => Heap.get?_push_of_some _ z
  obtain ⟨_, _, dd1⟩ := dx_rd I1 e kx
  have new : (s.heap.push { cls := .type "dict", data := .dict #[] }).DictOfH (tk X.prog X.w) s.heap.objs.size [] := Heap.DictOfH.new s.heap
  have types : ∀ x ∈ xs, ({ s with heap := s.heap.push { cls := .type "dict", data := .dict #[] } } : Shared).TypeIs (.ref x.2.1) "tuple" := fun x hx => by
    obtain ⟨o, h1, h2⟩ := keys x hx
    exact ⟨o, Heap.get?_push_of_some _ h1, h2⟩
  have big : (s.heap.objs.size == sysModules) = false := beq_eq_false_iff_ne.mpr (Nat.ne_of_gt I.big)
  refine ⟨new.typeIs, F.args_dict_init_2 _ _, ?_⟩
  unfold Builtin.«dict.__init__»
  refine wpAny_bind ?_
  unfold Builtin.Dict.selfAndRest
  refine wpAny_bind (wpAny_notOrdered_dict new.typeIs ?_)
  show wpAny _ _ (pure (s.heap.objs.size, [Value.ref a])) _ _ _
  refine wpAny_pure ?_
  show wpAny _ _ (Builtin.Dict.updateFrom "dict.__init__" s.heap.objs.size (.ref a) [] .none) _ _ _
  refine updateFrom_dictH .none (by show _ < _; omega) (Nat.ne_of_gt lt) hd new dd1 (.inr ⟨types, hap⟩) (by simpa using z) fun h' hd' ho' hs' => ?_
  rw [storedAllH_nil_of_nodup xs dd.nodup] at hd'
  have I2 : Inv X pins σ (upd H s.heap.objs.size (DX s.heap.objs.size xs)) { s with heap := h' } := I.laid (t' := s.toks) (fun b o e => (hs'.2 b (Nat.ne_of_lt (Heap.lt_size e))).trans (Heap.get?_push_of_some _ e)) (Nat.le_refl _) (dx_new z big hd')
  exact ⟨rfl, .ref s.heap.objs.size, _, I2, rfl, q _ (I.hok.fresh (Nat.le_refl _))⟩
end
end
end Ng

set_option Elab.async false
set_option linter.all false
set_option maxRecDepth 100000
set_option maxHeartbeats 4000000
/-! try with two clauses that name the exception. -/
namespace Ng
open PySem PySem.Spec PyProof.Rows PySem.W L2
/-- what two clauses 'except x as n' wish of an exception of the body -/
def wAs2 (K : PySem.W.Frag) (c1 c2 : Value) (i : Nat) (t1 t2 : Addr → Value → Option Addr → TS) (Wout : WX) (D : Ends) : WX := wAs K c1 i t1 (wAs K c2 i t2 Wout D) D
section
variable {X : Cx} {x1 x2 n : Str} {c1 c2 : Value} {i : Nat} {body r1 r2 : List Stmt} {s1 s2 : Stmt} {p1 p2 q1 q2 pos : Pos} {tb : WX → TS} {t1 t2 : Addr → Value → Option Addr → TS} {Wout : WX}
theorem ps_try_as2 (hs : X.stack = X.env :: X.outer) (hf : X.env.frame = some X.env.locals) (hN : X.N.Nodup) (hi : X.N[i]? = some n) (hln : X.env.kindOf n = some .local) (hc1 : Names X x1 c1) (hc2 : Names X x2 c2) (tk : Takes X Wout)
    (hb : ∀ (W : WX) (pn : List (Addr × Obj)) (xe : Value → Shared → Prop), Takes (X.tr pn xe) W → PassesOwn (model X.prog X.w) X.A X.env xe → PSs (X.tr pn xe) body (tb W))
    (hu1 : ∀ (a : Addr) (oe : Obj) (cls : Value) (d : Option Addr) (pn : List (Addr × Obj)), Zc cls d oe → (∃ vs, oe.data = .fields vs) → PSs (X.suite a ((a, oe) :: pn)) (s1 :: r1) (t1 a cls d))
    (hu2 : ∀ (a : Addr) (oe : Obj) (cls : Value) (d : Option Addr) (pn : List (Addr × Obj)), Zc cls d oe → (∃ vs, oe.data = .fields vs) → PSs (X.suite a ((a, oe) :: pn)) (s2 :: r2) (t2 a cls d)) :
    PS X (.Try body [.ExceptHandler (some (.Name x1 p1)) (some n) (s1 :: r1) q1, .ExceptHandler (some (.Name x2 p2)) (some n) (s2 :: r2) q2] [] [] pos) (fun D σ H => tb (wAs2 X.K c1 c2 i t1 t2 Wout D) D σ H) := by
  refine ⟨fun pins s σ H D I h => ?_⟩
  have ok := I.ok
  have hfr : X.A.frames = some (X.env :: X.outer) := by rw [ok.frames, hs]
  have hloc : Loc X.env.scope n := .inl hln
  refine wpAny_Try_except ?_
  refine wpAny_mono ((hb (wAs2 X.K c1 c2 i t1 t2 Wout D) (X.pn ++ pins) (fun e z₁ => wpAny (model X.prog X.w) X.A (noteFrame e X.env) (fun _ z₂ => wpAny (model X.prog X.w) X.A (setFlight e none) (fun _ z₃ =>
    wpAny (model X.prog X.w) X.A (handleBy e X.env [.ExceptHandler (some (.Name x1 p1)) (some n) (s1 :: r1) q1, .ExceptHandler (some (.Name x2 p2)) (some n) (s2 :: r2) q2]) (SP X pins D) X.xe z₃) X.xe z₂) X.xe z₁) (fun u s' xx => ?_) PassesOwn.looking).run [] s σ H D (I.toTry _) h) (fun f sx hsp => ?_) (fun e sx he => he)
  · obtain ⟨a, B, sI, pins', σ', H', cls, d, rfl, J', nb, up, sky, na, os, ag, b1, hb1, yes1, no1⟩ := xx
    have J : Inv X pins σ' H' sI := J'.ofTry ok
    have sky' : Sky B (X.env :: X.outer) a (Zc cls d) X.env.locals s'.heap := by rw [← hs]; exact sky
    show wpAny (model X.prog X.w) X.A (noteFrame (.ref a) X.env) _ _ _
    refine Sky.land Zc.steady hfr hf sky' fun h3 fl3 up3 => ?_
    have J3 : Inv X pins σ' H' { s' with heap := h3 } := J.landed nb fl3.1 (up.trans up3) os ag
    obtain ⟨oe3, vs3, he3, hz3, hd3⟩ := fl3.there
    have nfr : a ∉ frs (X.env :: X.outer) := fun hm => by
      obtain ⟨_, o', e', hnf⟩ := fl3.2.2.1.mem hm
      rw [he3] at e'; cases e'
      exact hnf _ hd3
    have nL : a ≠ X.env.locals := fun z => nfr (List.mem_filterMap.mpr ⟨X.env, List.mem_cons_self, by rw [hf, z]⟩)
    have nF : a ∉ X.fs := fun hm => by
      obtain ⟨e, he, q⟩ := List.mem_filterMap.mp hm
      exact nfr (List.mem_filterMap.mpr ⟨e, List.mem_cons_of_mem _ he, q⟩)
    have S3 := J3.suite he3 hd3 na nL nF
    have LT : PySem.W.Looks (model X.prog X.w) h3 (typeOf (.ref a)) cls := fun A Q E s k q => wpAny_typeOf_ref (k _ _ he3) (by rw [hz3.1]; exact q)
    -- one clause
    have clause : ∀ {x : Str} {c : Value} {b : Bool} {ss : List Stmt} {sb : Stmt} {np pos' : Pos} {rest : List ExceptHandler} {ts : Addr → Value → Option Addr → TS}, Names X x c → PySem.W.exmOne X.K cls c = some b →
        (b = true → ∀ a, H' a = none → ts a cls d { nx := fun σ' H' => D.nx (σ'.set i none) H', rt := D.rt, bk := fun σ' H' => D.bk (σ'.set i none) H', ct := fun σ' H' => D.ct (σ'.set i none) H' } (σ'.set i (some (.ref a))) H') →
        (∀ (a : Addr) (oe : Obj) (cls : Value) (d : Option Addr) (pn : List (Addr × Obj)), Zc cls d oe → (∃ vs, oe.data = .fields vs) → PSs (X.suite a ((a, oe) :: pn)) (sb :: ss) (ts a cls d)) →
        (b = false → wpAny (model X.prog X.w) X.A (handleBy (.ref a) X.env rest) (SP X pins D) X.xe { s' with heap := h3 }) →
        wpAny (model X.prog X.w) X.A (handleBy (.ref a) X.env (.ExceptHandler (some (.Name x np)) (some n) (sb :: ss) pos' :: rest)) (SP X pins D) X.xe { s' with heap := h3 } := by
      intro x c b ss sb np pos' rest ts hc hbt hyes hsu hno
      refine wpAny_handleBy_cons (codeAny_handlers_test ?_) (by intro q; cases q)
      have LM := PySem.W.exm_one (M := model X.prog X.w) (J3.kIn) LT hbt
      have test : ∀ {Q : Value → Shared → Prop} {E : Value → Shared → Prop}, Q c { s' with heap := h3 } → wpAny (model X.prog X.w) (X.A.mark (some (.ref a))) (eval (.Name x np) X.env) Q E { s' with heap := h3 } := fun {Q E} q => by
        obtain ⟨hg, hdbg, hm | ⟨hm, hv, hnn⟩⟩ := hc
        · exact ld_glob (X := X.suite a ((a, oe3) :: (X.pn ++ pins))) S3 hg hm q hdbg
        · exact ld_blt (X := X.suite a ((a, oe3) :: (X.pn ++ pins))) S3 hg hm hv q hnn hdbg
      refine test (LM.here ?_)
      cases b with
      | true =>
        refine codeAny_handlers_suite_as ?_
        refine HandSPX.lands_againZ fl3 fun h4 fl4 up4 => ?_
        have J4 : Inv X pins σ' H' { s' with heap := h4 } := J.landed nb fl4.1 ((up.trans up3).trans up4) os ag
        obtain ⟨oe4, vs4, he4, hz4, hd4⟩ := fl4.there
        have S4 := J4.suite he4 hd4 na nL nF
        refine store_ok (X := X.suite a ((a, oe4) :: (X.pn ++ pins))) (v := .ref a) S4 hN hi hloc rfl (fun s5 S5 => ?_) (.inr hln)
        refine wpAny_mono ((hsu a oe4 cls d (X.pn ++ pins) hz4 ⟨_, hd4⟩).run [] s5 _ H' _ S5 (hyes rfl a na)) (fun f s6 hsp => ?_) (fun _ _ z => False.elim z)
        have end_ : ∀ {σ6 : L2.St} {H6 : Hp} {Q : Shared → Prop}, Inv (X.suite a ((a, oe4) :: (X.pn ++ pins))) [] σ6 H6 s6 → (∀ s7, Inv X pins (σ6.set i none) H6 s7 → Q s7) →
            wpAny (model X.prog X.w) X.A (do bindName X.env n .none; unbindBehindTheSuite X.env n pos') (fun _ s7 => Q s7) X.xe s6 := fun {σ6 H6 Q} S6 hq => gone_ok (S6.unsuite ok) hN hi hln hq
        cases f with
        | next => obtain ⟨σ6, H6, S6, q6⟩ := hsp; exact end_ S6 fun s7 J7 => ⟨_, _, J7, q6⟩
        | brk => obtain ⟨σ6, H6, S6, q6⟩ := hsp; exact end_ S6 fun s7 J7 => ⟨_, _, J7, q6⟩
        | cont => obtain ⟨σ6, H6, S6, q6⟩ := hsp; exact end_ S6 fun s7 J7 => ⟨_, _, J7, q6⟩
        | ret u => obtain ⟨v6, σ6, H6, S6, r6, q6⟩ := hsp; exact end_ S6 fun s7 J7 => ⟨_, _, _, J7, r6, q6⟩
      | false => exact hno rfl
    refine clause hc1 hb1 yes1 hu1 fun e1 => ?_
    obtain ⟨b2, hb2, yes2, no2⟩ := no1 e1
    refine clause hc2 hb2 yes2 hu2 fun e2 => ?_
    refine wpAny_handleBy_nil ?_
    obtain ⟨k1, k2, k3, oe, vs, T, oT, ts', he, hz, hd, h1, hr⟩ := id fl3
    unfold PySem.passOn
    refine wpAny_bind (wpAny_field he hd h1 ?_)
    rw [if_neg (show ¬ ((Value.ref T == Value.none) = true) from by simp)]
    have fin : wpAny (model X.prog X.w) X.A (setFlight (.ref a) X.env.frame) (fun _ s4 => wpAny (model X.prog X.w) X.A (throw (.ref a) : Sem Flow) (SP X pins D) X.xe s4) X.xe { s' with heap := h3 } := by
      rw [hf]
      refine HandSPX.setFlight_upZ fl3 fun h4 hh4 up4 => wpAny_throw (tk _ _ ?_)
      exact ⟨a, B, sI, pins, σ', H', cls, d, rfl, J, nb, (up.trans up3).trans up4, .inr (.inr (by rw [hs]; exact hh4)), na, os, ag, no2 e2⟩
    first
      | exact wpAny_bind (wpAny_pure (wpAny_bind fin))
      | exact wpAny_bind fin
  · cases f with
    | next =>
      obtain ⟨σ', H', J', q⟩ := hsp
      exact wpAny_execs_nil ⟨σ', H', J'.ofTry ok, q⟩
    | brk =>
      obtain ⟨σ', H', J', q⟩ := hsp
      exact ⟨σ', H', J'.ofTry ok, q⟩
    | cont =>
      obtain ⟨σ', H', J', q⟩ := hsp
      exact ⟨σ', H', J'.ofTry ok, q⟩
    | ret u =>
      obtain ⟨v, σ', H', J', r, q⟩ := hsp
      exact ⟨v, σ', H', J'.ofTry ok, r, q⟩
end
end Ng

set_option Elab.async false
set_option linter.all false
set_option maxRecDepth 100000
set_option maxHeartbeats 4000000
/-! Comprehensions with two clauses that make a dict whose keys are tuples of ints. -/
namespace Ng
open PySem PySem.Spec PyProof.Rows PySem.W L2
theorem turnD2_out (kx vx t0 i0 t1 i1 : Expr) (ifs0 ifs1 : List Expr) (scope : Scope) (pos : Pos) (it acc : Value) (env : Env) :
    compTurn (.DictComp kx vx [⟨t0, i0, ifs0, 0⟩, ⟨t1, i1, ifs1, 0⟩] scope pos) 0 it acc env = (do
      standAt i0.pos
      match ← pyNext it with
      | none => pure (.done .next)
      | some v =>
        letOwnedTupleGo t0 it v
        assign t0 env v
        let mut ok := true
        for c in ifs0 do
          if ok then ok ← isTrue c env (eval c env)
        if ok then
          let x ← eval i1 env
          standAt i1.pos
          let x ← foldedSetIterable i1 env x
          let _ ← runOwn (.compStart (.DictComp kx vx [⟨t0, i0, ifs0, 0⟩, ⟨t1, i1, ifs1, 0⟩] scope pos) 1 (← holding [x] (pyIter x)) acc env) env
        again (.compLoop (.DictComp kx vx [⟨t0, i0, ifs0, 0⟩, ⟨t1, i1, ifs1, 0⟩] scope pos) 0 it acc env)) := by rfl
theorem turnD2_in (kx vx t0 i0 t1 i1 : Expr) (ifs0 ifs1 : List Expr) (scope : Scope) (pos : Pos) (it : Value) (d : Addr) (env : Env) :
    compTurn (.DictComp kx vx [⟨t0, i0, ifs0, 0⟩, ⟨t1, i1, ifs1, 0⟩] scope pos) 1 it (.ref d) env = (do
      standAt i1.pos
      match ← pyNext it with
      | none => pure (.done .next)
      | some v =>
        letOwnedTupleGo t1 it v
        assign t1 env v
        let mut ok := true
        for c in ifs1 do
          if ok then ok ← isTrue c env (eval c env)
        if ok then
          (do
            let kv ← eval kx env
            let vv ← holding [kv] (eval vx env)
            standAt { kx.pos with endLine := vx.pos.endLine, endCol := vx.pos.endCol }
            holding [kv, vv] (dictSet d kv vv))
        again (.compLoop (.DictComp kx vx [⟨t0, i0, ifs0, 0⟩, ⟨t1, i1, ifs1, 0⟩] scope pos) 1 it (.ref d) env)) := by rfl
section
variable {prog : Program} {w : World} {A : Around} {R : Result → Shared → Prop} {s : Shared} {kx vx t0 i0 t1 i1 : Expr} {ifs0 ifs1 : List Expr} {scope : Scope} {pos : Pos} {it acc : Value} {d : Addr} {env : Env}
theorem loopD2_out (hs : ∀ x, foldedSetIterable i1 env x = pure x) (I : Nat → Shared → Prop)
    (turn : ∀ n s, I n s → wpAny (model prog w) A (pyNext it) (fun r s₁ => match r with
      | none => R (.ok .next) s₁
      | some v => wpAny (model prog w) A (letOwnedTupleGo t0 it v) (fun _ s₁' => wpAny (model prog w) A (assign t0 env v) (fun _ s₂ =>
          wpAny (model prog w) A (forIn ifs0 true fun c r => if r = true then do let ok ← isTrue c env (eval c env); pure (ForInStep.yield ok) else pure (ForInStep.yield r)) (fun ok s₃ =>
            if ok = true then wpAny (model prog w) A (eval i1 env) (fun x s₄ => wpAny (model prog w) A (pyIter x) (fun it1 s₅ =>
              codeAny (model prog w) A (.compStart (.DictComp kx vx [⟨t0, i0, ifs0, 0⟩, ⟨t1, i1, ifs1, 0⟩] scope pos) 1 it1 acc env) (fun r s' => match r with
                | .ok _ => ∃ m, m < n ∧ I m s'
                | .error _ => False) s₅) (notedBy (model prog w) A env fun e s' => R (.error e) s') s₄) (notedBy (model prog w) A env fun e s' => R (.error e) s') s₃
            else ∃ m, m < n ∧ I m s₃) (notedBy (model prog w) A env fun e s' => R (.error e) s') s₂) (notedBy (model prog w) A env fun e s' => R (.error e) s') s₁') (notedBy (model prog w) A env fun e s' => R (.error e) s') s₁) (notedBy (model prog w) A env fun e s' => R (.error e) s') s)
    (n : Nat) (h : I n s) : codeAny (model prog w) A (.compLoop (.DictComp kx vx [⟨t0, i0, ifs0, 0⟩, ⟨t1, i1, ifs1, 0⟩] scope pos) 0 it acc env) R s := by
  refine codeAny_loop rfl I (fun n s hI => ?_) n h
  show wpAny _ A ((compTurn (.DictComp kx vx [⟨t0, i0, ifs0, 0⟩, ⟨t1, i1, ifs1, 0⟩] scope pos) 0 it acc env).onRaise (fun x => do noteFrame x env; theTreesLotGoes x)) _ _ s
  refine wpAny_noted ?_
  rw [turnD2_out]
  refine wpAny_bind (wpAny_standAt (wpAny_bind (wpAny_mono (turn n s hI) (fun r s₁ h₁ => ?_) fun _ _ h' => h')))
  cases r with
  | none => exact wpAny_pure h₁
  | some v =>
    refine wpAny_bind (wpAny_mono h₁ (fun _ s₁' h₁' => ?_) fun _ _ h' => h')
    refine wpAny_bind (wpAny_mono h₁' (fun _ s₂ h₂ => wpAny_bind (wpAny_mono h₂ (fun ok s₃ h₃ => ?_) fun _ _ h' => h')) fun _ _ h' => h')
    cases ok with
    | false => exact wpAny_pure ⟨rfl, h₃⟩
    | true =>
      refine wpAny_bind (wpAny_mono h₃ (fun x s₄ h₄ => ?_) fun _ _ h' => h')
      refine wpAny_bind (wpAny_standAt (wpAny_bind (wpAny_of_eq (hs x) (wpAny_bind (wpAny_holding (wpAny_mono h₄ (fun it1 s₅ h₅ => ?_) fun _ _ h' => h'))))))
      refine wpAny_bind (wpAny_runOwn ?_)
      rw [Around.mark_none]
      refine codeAny_mono h₅ fun r s' hr => ?_
      cases r with
      | ok f =>
        first
          | exact wpAny_pure ⟨rfl, hr⟩
          | exact wpAny_bind (wpAny_pure (wpAny_pure ⟨rfl, hr⟩))
      | error e => exact hr.elim
theorem loopD2_in (I : Nat → Shared → Prop)
    (turn : ∀ n s, I n s → wpAny (model prog w) A (pyNext it) (fun r s₁ => match r with
      | none => R (.ok .next) s₁
      | some v => wpAny (model prog w) A (letOwnedTupleGo t1 it v) (fun _ s₁' => wpAny (model prog w) A (assign t1 env v) (fun _ s₂ =>
          wpAny (model prog w) A (forIn ifs1 true fun c r => if r = true then do let ok ← isTrue c env (eval c env); pure (ForInStep.yield ok) else pure (ForInStep.yield r)) (fun ok s₃ =>
            if ok = true then wpAny (model prog w) A (eval kx env) (fun kv s₄ => wpAny (model prog w) A (eval vx env) (fun vv s₅ =>
              wpAny (model prog w) A (dictSet d kv vv) (fun _ s₆ => ∃ m, m < n ∧ I m s₆) (notedBy (model prog w) A env fun e s' => R (.error e) s') s₅) (notedBy (model prog w) A env fun e s' => R (.error e) s') s₄) (notedBy (model prog w) A env fun e s' => R (.error e) s') s₃
            else ∃ m, m < n ∧ I m s₃) (notedBy (model prog w) A env fun e s' => R (.error e) s') s₂) (notedBy (model prog w) A env fun e s' => R (.error e) s') s₁') (notedBy (model prog w) A env fun e s' => R (.error e) s') s₁) (notedBy (model prog w) A env fun e s' => R (.error e) s') s)
    (n : Nat) (h : I n s) : codeAny (model prog w) A (.compLoop (.DictComp kx vx [⟨t0, i0, ifs0, 0⟩, ⟨t1, i1, ifs1, 0⟩] scope pos) 1 it (.ref d) env) R s := by
  refine codeAny_loop rfl I (fun n s hI => ?_) n h
  show wpAny _ A ((compTurn (.DictComp kx vx [⟨t0, i0, ifs0, 0⟩, ⟨t1, i1, ifs1, 0⟩] scope pos) 1 it (.ref d) env).onRaise (fun x => do noteFrame x env; theTreesLotGoes x)) _ _ s
  refine wpAny_noted ?_
  rw [turnD2_in]
  refine wpAny_bind (wpAny_standAt (wpAny_bind (wpAny_mono (turn n s hI) (fun r s₁ h₁ => ?_) fun _ _ h' => h')))
  cases r with
  | none => exact wpAny_pure h₁
  | some v =>
    refine wpAny_bind (wpAny_mono h₁ (fun _ s₁' h₁' => ?_) fun _ _ h' => h')
    refine wpAny_bind (wpAny_mono h₁' (fun _ s₂ h₂ => wpAny_bind (wpAny_mono h₂ (fun ok s₃ h₃ => ?_) fun _ _ h' => h')) fun _ _ h' => h')
    cases ok with
    | false => exact wpAny_pure ⟨rfl, h₃⟩
    | true =>
      exact wpAny_bind (wpAny_bind (wpAny_mono h₃ (fun kv s₄ h₄ => wpAny_bind (wpAny_holding (wpAny_mono h₄ (fun vv s₅ h₅ => wpAny_bind (wpAny_standAt (wpAny_holding (wpAny_mono h₅ (fun _ s₆ h₆ => wpAny_pure ⟨rfl, h₆⟩) fun _ _ h' => h')))) fun _ _ h' => h'))) fun _ _ h' => h'))
theorem startD1_ok (h0 : codeAny (model prog w) A (.compLoop (.DictComp kx vx [⟨t0, i0, ifs0, 0⟩, ⟨t1, i1, ifs1, 0⟩] scope pos) 1 it acc env) R s)
    (h : wpAny (model prog w) A (pyIter it) (fun it' s' => codeAny (model prog w) A (.compLoop (.DictComp kx vx [⟨t0, i0, ifs0, 0⟩, ⟨t1, i1, ifs1, 0⟩] scope pos) 1 it' acc env) R s')
      (notedBy (model prog w) A env fun x s' => R (.error x) s') s) : codeAny (model prog w) A (.compStart (.DictComp kx vx [⟨t0, i0, ifs0, 0⟩, ⟨t1, i1, ifs1, 0⟩] scope pos) 1 it acc env) R s := by
  refine codeAny_of_tree ?_
  show wpAny _ _ ((compStart (.DictComp kx vx [⟨t0, i0, ifs0, 0⟩, ⟨t1, i1, ifs1, 0⟩] scope pos) 1 it acc env).onRaise (fun x => do noteFrame x env; standAt theWindowsPlace)) _ _ s
  refine wpAny_notedAt ?_
  unfold compStart
  show wpAny _ _ (ask >>= _) _ _ s
  refine wpAny_bind (wpAny_askSetting (wpAny_ite ?_))
  split
  · first
      | exact wpAny_bind (wpAny_pure (wpAny_pure (And.intro rfl h0)))
      | exact wpAny_pure (And.intro rfl h0)
  · first
      | exact wpAny_bind (wpAny_rule (wpAny_bind (wpAny_standAt (wpAny_bind (wpAny_mono h (fun it' s' h' => wpAny_pure (And.intro rfl h')) fun _ _ x => x)))))
      | (refine wpAny_bind (wpAny_rule ?_); show wpAny _ _ (standAt i1.pos >>= _) _ _ s; exact wpAny_bind (wpAny_standAt (wpAny_bind (wpAny_mono h (fun it' s' h' => wpAny_pure (And.intro rfl h')) fun _ _ x => x))))
end
theorem wipe_off {σ : L2.St} {i : Nat} : ∀ {vs : List Nat}, i ∉ vs → (wipe σ vs)[i]? = σ[i]?
  | [], _ => rfl
  | v :: vs, h => by
    have h1 : v ≠ i := fun e => h (by rw [e]; exact List.mem_cons_self)
    have h2 : i ∉ vs := fun m => h (List.mem_cons_of_mem _ m)
    unfold wipe
    rw [List.getElem?_set_ne h1]
    exact wipe_off h2
section
variable {X : Cx}
/-- {k: v for target in iter for target1 in iter1}: d the new dict -/
def tDcX2 (K : PySem.W.Frag) (wi : TI) (g : TG) (wi1 : TI) (g1 : TG) (tk tv : TE) (vs vs1 : List Nat) : TE := fun σ H Q => wi σ H fun J H1 => ∀ d, H1 d = none → ∃ W : Nat → Nat → Hp → Prop, (∃ m, W 0 m (upd H1 d (DX d []))) ∧ ∀ i m Hm, W i m Hm →
  (J.stop i Hm ∧ Q (.ref d) Hm) ∨ (J.go i Hm ∧ ∃ Nx : Hp → Prop, (∀ H', Nx H' → ∃ m', m' < m ∧ W (i + 1) m' H') ∧ ∀ x H', J.yld i Hm x H' → g x (wipe σ vs) H' fun σ2 H2 => wipe σ2 vs = wipe σ vs ∧
    wi1 σ2 H2 fun J1 H4 => ∃ W1 : Nat → Nat → Hp → Prop, (∃ m, W1 0 m H4) ∧ ∀ j k Hk, W1 j k Hk →
      (J1.stop j Hk ∧ Nx Hk) ∨ (J1.go j Hk ∧ ∃ Nx1 : Hp → Prop, (∀ H', Nx1 H' → ∃ k', k' < k ∧ W1 (j + 1) k' H') ∧ ∀ x H', J1.yld j Hk x H' → g1 x (wipe σ2 vs1) H' fun σ3 H5 => wipe σ3 vs1 = wipe σ2 vs1 ∧
        tk σ3 H5 fun y H6 => tv σ3 H6 fun z H7 => ∃ (b : Addr) (xs : List (List Int × Addr × Value)) (k : List Int), y = .ref b ∧ H7 d = some (DX d xs) ∧ KX K H7 xs ∧ SqT K H7 b (k.map V.int) ∧ xs.length < sizeLine ∧ ∀ u, RelV z u → Nx1 (upd H7 d (DX d (storedH xs k b u)))))
theorem dcx2_core {pins : List (Addr × Obj)} {s : Shared} {σ : L2.St} {H : Hp} {Q : VK} {ke ve tge ite tge1 ite1 : Expr} {sc : Scope} {own : List (Str × Nat)} {vs1 : List Nat} {pos pos' : Pos} {wi wi1 : TI} {g g1 : TG} {tk tv : TE} {use : Option (Value → Sem Unit)} {Qf : Value → Shared → Prop} (hu : X.A.units < cLine)
    (hcalm : X.calm = true) (hnd : X.N.Nodup) (I : Inv X pins σ H s) (hit : PI X tge ite wi) (bok : BlkOk X.N X.env.scope sc own) (hv : ∀ i ∈ vs1, i ∈ own.map (·.2)) (hset : ∀ x, foldedSetIterable ite X.env x = pure x) (hset1 : ∀ env x, foldedSetIterable ite1 env x = pure x)
    (parts : ∀ (s' : Shared) (H' : Hp) (C : Addr) (cl : List (Str × Addr)) (fps : List Addr), PG (X.blk s' H' sc (compEnvC sc cl C X.env) fps) tge g ∧ PI (X.blk s' H' sc (compEnvC sc cl C X.env) fps) tge1 ite1 wi1 ∧ PG (X.blk s' H' sc (compEnvC sc cl C X.env) fps) tge1 g1 ∧ PE (X.blk s' H' sc (compEnvC sc cl C X.env) fps) ke tk ∧ PE (X.blk s' H' sc (compEnvC sc cl C X.env) fps) ve tv)
    (h : tDcX2 X.K wi g wi1 g1 tk tv (own.map (·.2)) vs1 σ H Q)
    (done : ∀ d C s' m H', Inv X pins σ H' s' → Q (.ref d) H' → s'.heap.Ns C m → FpOk X pins H' C → compPost (model X.prog X.w) X.A X.xe use Qf (.ref d) C (.ok .next) s') :
    wpAny (model X.prog X.w) X.A (comprehension (.DictComp ke ve [⟨tge, ite, [], 0⟩, ⟨tge1, ite1, [], 0⟩] sc pos) sc X.env pos' newDict false (eval ite X.env) use) Qf X.xe s := by
  have caps : ∀ y ∈ sc.names, y.2 = .free → ∃ c, X.env.cells.lookup y.1 = some c := fun y hy e => (bok.free y hy e).elim (fun z => I.ok.has _ (.inl z)) fun z => I.ok.has _ (.inr z)
  refine wpAny_comprehension_free (use := use) rfl hset (closure_ok caps) bok.kind (fun y hy e => by rw [bok.uniq y hy, e]) (thn (hit.run pins s σ H _ I h) fun _ sa ha => thn ha fun _ sb hb => ?_)
  obtain ⟨itr, fps, tn, J, Hb, er, Ib, T, stb, fb, q⟩ := hb
  subst er
  refine wpAny_newObj_type (newEnv_comp ?_)
  generalize hd : sb.heap.objs.size = d
  obtain ⟨W, ⟨m0, w0⟩, turn⟩ := q d (Ib.hok.fresh (Nat.le_of_eq hd))
  generalize hsc : ({ sb with heap := sb.heap.push { cls := .type "dict", data := .dict #[] } } : Shared) = s3
  have I3 : Inv X pins σ (upd Hb d (DX d [])) s3 := by
    subst hsc hd
    exact Ib.laid (t' := sb.toks) (fun _ _ e => Heap.get?_push_of_some _ e) (Nat.le_refl _) (dx_empty sb.heap Ib.big)
  have h3 : s3.heap = sb.heap.push { cls := .type "dict", data := .dict #[] } := by rw [← hsc]
  have f3 : ∀ b ∈ fps, FpOk X pins (upd Hb d (DX d [])) b ∧ b < s3.heap.objs.size := fun b hb => by
    obtain ⟨o, e, _⟩ := T.obj _ _ stb b hb
    have hlt := Heap.lt_size e
    refine ⟨⟨by rw [upd_ne (by rw [← hd]; exact Nat.ne_of_lt hlt)]; exact (fb b hb).1, (fb b hb).2⟩, by rw [h3, Heap.size_push]; exact Nat.lt_succ_of_lt hlt⟩
  have I4 := block_start I3 bok hnd f3
  obtain ⟨pg, pi1, pg1, pk, pv⟩ := parts s3 (upd Hb d (DX d [])) s3.heap.objs.size (cellsFrom (s3.heap.objs.size + 1) sc.names (cloFrom X.env.cells sc.names [])) fps
  show codeAny _ _ (.compStart (.DictComp ke ve [⟨tge, ite, [], 0⟩, ⟨tge1, ite1, [], 0⟩] sc pos) 0 (.ref itr) (.ref d) (compEnvC sc (cellsFrom (s3.heap.objs.size + 1) sc.names (cloFrom X.env.cells sc.names [])) s3.heap.objs.size X.env)) (compPost (model X.prog X.w) X.A X.xe use Qf (.ref d) s3.heap.objs.size) { s3 with heap := pushCells (s3.heap.push { cls := .type "dict", data := .dict #[] }) sc.names }
  have nofp : ∀ b ∈ fps, (upd Hb d (DX d [])) b = none := fun b hb => (f3 b hb).1.1
  generalize hce : compEnvC sc (cellsFrom (s3.heap.objs.size + 1) sc.names (cloFrom X.env.cells sc.names [])) s3.heap.objs.size X.env = ce at I4 pg pi1 pg1 pk pv ⊢
  have hloc : ce.locals = s3.heap.objs.size := by subst hce; rfl
  generalize hH3 : upd Hb d (DX d []) = Hc at I3 I4 pg pi1 pg1 pk pv w0 nofp f3
  generalize hs4 : ({ s3 with heap := pushCells (s3.heap.push { cls := .type "dict", data := .dict #[] }) sc.names } : Shared) = s4 at I4 ⊢
  have st4 : tn 0 s4.heap := T.keep _ _ _ (T.keep _ _ s3.heap stb fun b _ o e => by rw [h3]; exact Heap.get?_push_of_some _ e) fun b _ o e => by subst hs4; exact pushCells_keeps _ _ _ _ (Heap.get?_push_of_some _ e)
  have still : ∀ {σ' : L2.St} {H' : Hp} {s' : Shared}, Inv (X.blk s3 Hc sc ce fps) [] σ' H' s' → (∀ b ∈ fps, H' b = none) → ∀ b ∈ fps, FpOk (X.blk s3 Hc sc ce fps) [] H' b := fun I' no b hb =>
    ⟨no b hb, (I'.ok.exf b hb).1, I'.ok.exfs b hb, .inl hb, fun x c z => (I'.ok.exf b hb).2 x c z, fun p hp => by simp at hp⟩
  have loop : codeAny (model X.prog X.w) X.A (.compLoop (.DictComp ke ve [⟨tge, ite, [], 0⟩, ⟨tge1, ite1, [], 0⟩] sc pos) 0 (.ref itr) (.ref d) ce) (compPost (model X.prog X.w) X.A X.xe use Qf (.ref d) s3.heap.objs.size) s4 := by
    refine loopD2_out (hset1 ce) (fun n s' => ∃ i H', Inv (X.blk s3 Hc sc ce fps) [] (wipe σ (own.map (·.2))) H' s' ∧ tn i s'.heap ∧ (∀ b ∈ fps, H' b = none) ∧ W i n H') ?_ m0 ⟨0, Hc, I4, st4, nofp, w0⟩
    rintro n s5 ⟨i, H5, I5, st5, no5, w5⟩
    rcases turn i n H5 w5 with ⟨stop, qq⟩ | ⟨go, Nx, hNx, step⟩
    · refine thnF (T.done (X.blk s3 Hc sc ce fps) rfl rfl rfl hcalm i [] s5 _ H5 (fun _ _ => False) I5 (still I5 no5) st5 stop) fun r s6 ⟨hr, I6⟩ => ?_
      subst hr
      have I7 : Inv X pins σ H5 s6 := I3.call' (ch := fps) I6.os I6.base I6.hok I6.bare fun b hb => let f := (f3 b hb).1; ⟨f.2.2.2.1, f.2.1, f.2.2.2.2.1, f.2.2.2.2.2⟩
      have freeC : H5 s3.heap.objs.size = none := hloc ▸ (show H5 ce.locals = none from I6.free)
      obtain ⟨m, hn, _⟩ := I6.loc
      have hn' : s6.heap.Ns s3.heap.objs.size m := hloc ▸ (show s6.heap.Ns ce.locals m from hn)
      exact done d s3.heap.objs.size s6 m H5 I7 qq hn' (I3.fpOk (Nat.le_refl _) freeC)
    · refine thnF (T.item (X.blk s3 Hc sc ce fps) rfl rfl rfl hcalm i [] s5 _ H5 (fun _ _ => False) I5 (still I5 no5) st5 go) fun r s6 ⟨u, hr, h6⟩ => ?_
      subst hr
      refine thnF h6 fun _ s7 ⟨x, H7, I7, r7, y7, st7, no7⟩ => ?_
      refine thnF (pg.run _ s7 _ H7 x u _ (I7.pinned (still I7 no7) (T.obj _ _ st7)) r7 (step x H7 y7)) fun _ s8 ⟨σ8, H8, I8, same8, q8⟩ => ?_
      refine thnF ((pts_nil (X := X.blk s3 Hc sc ce fps)).run _ s8 σ8 H8 (fun b Hz => b = true ∧ Hz = H8) I8 ⟨rfl, rfl⟩) fun b s9 ⟨H9, I9, q9⟩ => ?_
      obtain ⟨rfl, rfl⟩ := q9
      rw [if_pos rfl]
      have fin : ∀ {σ9 : L2.St} {s' : Shared} {H' : Hp}, Inv (X.blk s3 Hc sc ce fps) ([] ++ pinsAt fps s7.heap) σ9 H' s' → (wipe σ (own.map (·.2))).length = σ9.length → (∀ (j : Nat) v, (wipe σ (own.map (·.2)))[j]? = some (some v) → σ9[j]? = some (some v)) → Nx H' →
          ∃ m, m < n ∧ ∃ i H', Inv (X.blk s3 Hc sc ce fps) [] (wipe σ (own.map (·.2))) H' s' ∧ tn i s'.heap ∧ (∀ b ∈ fps, H' b = none) ∧ W i m H' := fun {σ9 s' H'} I' hl hk nx => by
        obtain ⟨m', hm, w'⟩ := hNx H' nx
        have kept : ∀ b ∈ fps, ∀ o, s7.heap.get? b = some o → s'.heap.get? b = some o ∧ H' b = none := fun b hb o e => by
          have z := I'.pin (b, o) (List.mem_append_right _ (List.mem_append_right _ (mem_pinsAt hb e)))
          exact ⟨z.1, z.2.1⟩
        refine ⟨m', hm, i + 1, H', (I'.unpinned (pins := [])).weak hl hk, T.keep _ _ _ st7 fun b hb o e => (kept b hb o e).1, fun b hb => ?_, w'⟩
        obtain ⟨o, e, _⟩ := T.obj _ _ st7 b hb
        exact (kept b hb o e).2
      have hl8 : (wipe σ (own.map (·.2))).length = σ8.length := by rw [← same8, wipe_length]
      have hk9 : ∀ (j : Nat) v, (wipe σ (own.map (·.2)))[j]? = some (some v) → (wipe σ8 vs1)[j]? = some (some v) := fun j v e => by
        rw [← same8] at e
        obtain ⟨e1, e2⟩ := wipe_some e
        rw [wipe_off fun z => e2 (hv j z)]
        exact e1
      refine thnF (pi1.run _ s9 σ8 _ _ I9 q8) fun xv s10 hx => thnF hx fun itv s11 h11 => ?_
      obtain ⟨it1, fp1, tn1, J1, H11, e1, I11, T1, st11, f11, W1, ⟨m1, w1⟩, turn1⟩ := h11
      subst e1
      have still1 : ∀ {H' : Hp}, (∀ b ∈ fp1, H' b = none) → ∀ b ∈ fp1, FpOk (X.blk s3 Hc sc ce fps) ([] ++ pinsAt fps s7.heap) H' b := fun hn b hb => ⟨hn b hb, (f11 b hb).2⟩
      have loop1 : codeAny (model X.prog X.w) X.A (.compLoop (.DictComp ke ve [⟨tge, ite, [], 0⟩, ⟨tge1, ite1, [], 0⟩] sc pos) 1 (.ref it1) (.ref d) ce)
          (fun r s' => match r with
            | .ok _ => ∃ m, m < n ∧ ∃ i H', Inv (X.blk s3 Hc sc ce fps) [] (wipe σ (own.map (·.2))) H' s' ∧ tn i s'.heap ∧ (∀ b ∈ fps, H' b = none) ∧ W i m H'
            | .error _ => False) s11 := by
        refine loopD2_in (fun k s' => ∃ j H', Inv (X.blk s3 Hc sc ce fps) ([] ++ pinsAt fps s7.heap) (wipe σ8 vs1) H' s' ∧ tn1 j s'.heap ∧ (∀ b ∈ fp1, H' b = none) ∧ W1 j k H') ?_ m1 ⟨0, H11, I11.weak (wipe_length _ _) (fun j v e => (wipe_some e).1), st11, fun b hb => (f11 b hb).1, w1⟩
        rintro k s12 ⟨j, H12, I12, st12, n12, w12⟩
        rcases turn1 j k H12 w12 with ⟨stop1, nx1⟩ | ⟨go1, Nx1, hNx1, step1⟩
        · refine thnF (T1.done (X.blk s3 Hc sc ce fps) rfl rfl rfl hcalm j _ s12 (wipe σ8 vs1) H12 (fun _ _ => False) I12 (still1 n12) st12 stop1) fun r s13 ⟨hr, I13⟩ => ?_
          subst hr
          exact fin I13 (hl8.trans (wipe_length σ8 vs1).symm) hk9 nx1
        · refine thnF (T1.item (X.blk s3 Hc sc ce fps) rfl rfl rfl hcalm j _ s12 (wipe σ8 vs1) H12 (fun _ _ => False) I12 (still1 n12) st12 go1) fun r s13 ⟨u1, hr, h13⟩ => ?_
          subst hr
          refine thnF h13 fun _ s14 ⟨x1, H14, I14, r14, y14, st14, n14⟩ => ?_
          have I14' := I14.pinned (still1 n14) (T1.obj _ _ st14)
          refine thnF (pg1.run _ s14 (wipe σ8 vs1) H14 x1 u1 _ I14' r14 (step1 x1 H14 y14)) fun _ s15 ⟨σ15, H15, I15, same15, q15⟩ => ?_
          refine thnF ((pts_nil (X := X.blk s3 Hc sc ce fps)).run _ s15 σ15 H15 (fun b Hz => b = true ∧ Hz = H15) I15 ⟨rfl, rfl⟩) fun b s15' ⟨H15', I15x, q15'⟩ => ?_
          obtain ⟨rfl, rfl⟩ := q15'
          rw [if_pos rfl]
          have fin1 : ∀ {s' : Shared} {H' : Hp}, Inv (X.blk s3 Hc sc ce fps) (([] ++ pinsAt fps s7.heap) ++ pinsAt fp1 s14.heap) σ15 H' s' → Nx1 H' → ∃ m, m < k ∧ ∃ j H', Inv (X.blk s3 Hc sc ce fps) ([] ++ pinsAt fps s7.heap) (wipe σ8 vs1) H' s' ∧ tn1 j s'.heap ∧ (∀ b ∈ fp1, H' b = none) ∧ W1 j m H' := fun {s' H'} I' nx => by
            obtain ⟨m', hm, w'⟩ := hNx1 H' nx
            have kept : ∀ b ∈ fp1, ∀ o, s14.heap.get? b = some o → s'.heap.get? b = some o ∧ H' b = none := fun b hb o e => by
              have z := I'.pin (b, o) (List.mem_append_right _ (List.mem_append_right _ (mem_pinsAt hb e)))
              exact ⟨z.1, z.2.1⟩
            refine ⟨m', hm, j + 1, H', I'.unpinned.weak (by rw [← same15, wipe_length]) (fun j v e => by rw [← same15] at e; exact (wipe_some e).1), T1.keep _ _ _ st14 fun b hb o e => (kept b hb o e).1, fun b hb => ?_, w'⟩
            obtain ⟨o, e, _⟩ := T1.obj _ _ st14 b hb
            exact (kept b hb o e).2
          refine thnF (pk.run _ s15' σ15 _ _ I15x q15) fun zk s16 ⟨yk, H16, I16, r16, q16⟩ => ?_
          refine thnF (pv.run _ s16 σ15 H16 _ I16 q16) fun zv s17 ⟨yv, H17, I17, r17, b, xs, kk, ek, hD, kxx, hk, hz, nx⟩ => ?_
          subst ek
          obtain rfl : zk = Value.ref b := r16
          exact dcx_set (X := X.blk s3 Hc sc ce fps) hu I17 hD kxx hk hz fun s18 I18 => fin1 I18 (nx zv r17)
      exact startD1_ok loop1 (T1.self X.A 0 _ _ _ st11 loop1)
  exact codeAny_compStart_dict loop (T.self X.A 0 _ _ _ st4 loop)
/-- as a value -/
theorem pe_dcX2 {ke ve tge ite tge1 ite1 : Expr} {sc : Scope} {own : List (Str × Nat)} {vs1 : List Nat} {pos : Pos} {wi wi1 : TI} {g g1 : TG} {tk tv : TE} (hu : X.A.units < cLine) (hcalm : X.calm = true) (hnd : X.N.Nodup) (hit : PI X tge ite wi) (bok : BlkOk X.N X.env.scope sc own) (hv : ∀ i ∈ vs1, i ∈ own.map (·.2)) (hset : ∀ x, foldedSetIterable ite X.env x = pure x) (hset1 : ∀ env x, foldedSetIterable ite1 env x = pure x)
    (parts : ∀ (s' : Shared) (H' : Hp) (C : Addr) (cl : List (Str × Addr)) (fps : List Addr), PG (X.blk s' H' sc (compEnvC sc cl C X.env) fps) tge g ∧ PI (X.blk s' H' sc (compEnvC sc cl C X.env) fps) tge1 ite1 wi1 ∧ PG (X.blk s' H' sc (compEnvC sc cl C X.env) fps) tge1 g1 ∧ PE (X.blk s' H' sc (compEnvC sc cl C X.env) fps) ke tk ∧ PE (X.blk s' H' sc (compEnvC sc cl C X.env) fps) ve tv) :
    PE X (.DictComp ke ve [⟨tge, ite, [], 0⟩, ⟨tge1, ite1, [], 0⟩] sc pos) (tDcX2 X.K wi g wi1 g1 tk tv (own.map (·.2)) vs1) := by
  refine ⟨fun pins s σ H Q I h => ?_⟩
  rw [arm_eval_DictComp]
  refine dcx2_core hu hcalm hnd I hit bok hv hset hset1 parts h fun d C s' m H' I' q hn f => ⟨m, hn, fun h'' sb => ?_⟩
  obtain ⟨f0, f1, f2, f3, f4, f5⟩ := f
  exact ⟨.ref d, H', I'.turned (t' := s'.toks) (fun b o hb z => (sb.2 b hb).trans z) f0 f1 f3 f4 f5, rfl, q⟩
/-- name = {..} on one line, the name a local -/
theorem ps_setDcX2 {i : Nat} {y : Str} {py : Pos} {ke ve tge ite tge1 ite1 : Expr} {sc : Scope} {own : List (Str × Nat)} {vs1 : List Nat} {pos sp : Pos} {wi wi1 : TI} {g g1 : TG} {tk tv : TE} (hu : X.A.units < cLine) (hcalm : X.calm = true) (hnd : X.N.Nodup) (hy : X.N[i]? = some y) (hyl : X.env.scope.names.lookup y = some .local)
    (hsw : swapsWith (.DictComp ke ve [⟨tge, ite, [], 0⟩, ⟨tge1, ite1, [], 0⟩] sc pos) (some (.Name y py)) sp.line X.env = pure true) (hit : PI X tge ite wi) (bok : BlkOk X.N X.env.scope sc own) (hv : ∀ i ∈ vs1, i ∈ own.map (·.2)) (hset : ∀ x, foldedSetIterable ite X.env x = pure x) (hset1 : ∀ env x, foldedSetIterable ite1 env x = pure x)
    (parts : ∀ (s' : Shared) (H' : Hp) (C : Addr) (cl : List (Str × Addr)) (fps : List Addr), PG (X.blk s' H' sc (compEnvC sc cl C X.env) fps) tge g ∧ PI (X.blk s' H' sc (compEnvC sc cl C X.env) fps) tge1 ite1 wi1 ∧ PG (X.blk s' H' sc (compEnvC sc cl C X.env) fps) tge1 g1 ∧ PE (X.blk s' H' sc (compEnvC sc cl C X.env) fps) ke tk ∧ PE (X.blk s' H' sc (compEnvC sc cl C X.env) fps) ve tv) :
    PS X (.Assign [.Name y py] (.DictComp ke ve [⟨tge, ite, [], 0⟩, ⟨tge1, ite1, [], 0⟩] sc pos) sp) (tAsg (tDcX2 X.K wi g wi1 g1 tk tv (own.map (·.2)) vs1) (gName i)) := by
  refine ⟨fun pins s σ H D I q => ?_⟩
  have q' : tDcX2 X.K wi g wi1 g1 tk tv (own.map (·.2)) vs1 σ H (fun x H1 => gName i x σ H1 D.nx) := q
  rw [exec_Assign_Name_used _ _ _ _ hsw]
  refine wpAny_bind (wpAny_standAt (wpAny_bind ?_))
  show wpAny _ X.A (do let _ ← comprehension (.DictComp ke ve [⟨tge, ite, [], 0⟩, ⟨tge1, ite1, [], 0⟩] sc pos) sc X.env (firstIterPos [⟨tge, ite, [], 0⟩, ⟨tge1, ite1, [], 0⟩] pos) newDict false (eval ite X.env) (some (assign (.Name y py) X.env))) _ _ s
  refine wpAny_bind (thn (dcx2_core (Qf := fun _ sz => SP X pins D .next sz) hu hcalm hnd I hit bok hv hset hset1 parts q' fun d C s' m H' I' qd hn ⟨f0, f1, f2, f3, f4, f5⟩ => ?_) fun _ sz hq => wpAny_pure (wpAny_pure hq))
  refine wpAny_assign_Name (store_ok2 (v := V.ref d) I' hnd hy (.inl hyl) rfl (fun s2 I2 ⟨a, sb, ha⟩ => ?_) (.inr hyl))
  have hne : C ≠ a := fun e => ha.elim (fun z => f1 (e.trans z)) fun z => f4 y a z e.symm
  exact ⟨m, hn.sameBut sb hne, fun h3 sb3 => ⟨_, H', I2.turned (t' := s2.toks) (fun b o hb z => (sb3.2 b hb).trans z) f0 f1 f3 f4 f5, qd⟩⟩
end
end Ng

set_option Elab.async false
set_option linter.all false
set_option maxRecDepth 100000
set_option maxHeartbeats 4000000
/-! x.replace(y, z, 1) in a written list whose first item is a written text and more. -/
namespace Ng
open PySem PySem.Spec PyProof.Rows PySem.W L2
open Builtin Builtin.Str
/-- the first y in x by z -/
def rep1 (x y z : Str) : Str := if ((occurrences x y 0 x.length 1).isEmpty || (y.length == 0 && z.length == 0)) = true then x else glued z (partsBetween x (occurrences x y 0 x.length 1) y.length)
theorem gives_rep1 (x y z : Str) (t u v w : Tok)
    (hf : ((occurrences x y 0 x.length 1).isEmpty || (y.length == 0 && z.length == 0)) = false →
      (u == 0 || v == 0) = false ∧ (u == v) = false ∧ (y == z) = false ∧ tooLong (x.length + (occurrences x y 0 x.length 1).length * z.length) = false) :
    Gives («str.replace» ⟨[.str x t, .str y u, .str z v, .int 1 w], []⟩) (if ((occurrences x y 0 x.length 1).isEmpty || (y.length == 0 && z.length == 0)) = true then .val (.str x t) else .str (glued z (partsBetween x (occurrences x y 0 x.length 1) y.length))) := by
  show Gives (if ((occurrences x y 0 x.length 1).isEmpty || (y.length == 0 && z.length == 0)) = true then (do rule "str.replace.nothing"; ret (.str x t)) else
          (do let same ← isSame (.str y u) (.str z v)
              if same = true then (do rule "str.replace.old-is-new"; ret (.str x t)) else
              if tooLong (x.length + (occurrences x y 0 x.length 1).length * z.length) = true then unsupported "str.replace:memory" else
              retStr (glued z (partsBetween x (occurrences x y 0 x.length 1) y.length)))) _
  cases hc : ((occurrences x y 0 x.length 1).isEmpty || (y.length == 0 && z.length == 0))
  · obtain ⟨h0, huv, hyz, hl⟩ := hf hc
    rw [isSame_str_other y z u v h0 huv hyz, hl]
    exact .of_eq rfl
  · exact .rule (.of_eq rfl)
theorem fits_rep1 {x z : Str} (y : Str) (hb : x.length + z.length ≤ 16777216) : (glued z (partsBetween x (occurrences x y 0 x.length 1) y.length)).length ≤ sizeLine := by
  have h1 := StrLaws.occ_length_le x y 0 x.length 1
  have hy : (glued y (partsBetween x (occurrences x y 0 x.length 1) y.length)).length = x.length := by rw [StrLaws.glued_between_self]
  rw [size_glued, length_partsBetween, Nat.add_sub_cancel] at hy
  rw [size_glued, length_partsBetween, Nat.add_sub_cancel, sizeLine_eq]
  have h2 : (occurrences x y 0 x.length 1).length * z.length ≤ 1 * z.length := Nat.mul_le_mul_right _ h1
  omega
section
variable {prog : Program} {w0 : World} {A : Around} {E : Value → Shared → Prop} {s : Shared} {x y z : Str} {t u v w : Tok} {Q : Value → Shared → Prop}
theorem call_rep1 (hu : u ≠ 0) (hv : v ≠ 0) (huv : u ≠ v) (hyz : (y == z) = false) (hb : x.length + z.length ≤ 16777216)
    (hq : ∀ t' k, Q (.str (rep1 x y z) t') { s with toks := k }) : wpAny (model prog w0) A (call (.builtin "str.replace") [.str x t, .str y u, .str z v, .int 1 w]) Q E s := by
  have hl : tooLong (x.length + (occurrences x y 0 x.length 1).length * z.length) = false := by
    have h1 := StrLaws.occ_length_le x y 0 x.length 1
    have h2 : (occurrences x y 0 x.length 1).length * z.length ≤ 1 * z.length := Nat.mul_le_mul_right _ h1
    unfold tooLong
    rw [sizeLine_eq]
    exact decide_eq_false (by omega)
  refine call_gives F.slot_str_replace (typeIs_str _ _ _) F.entry_str_replace (F.args_str_replace_4 _ _ _ _)
    (gives_rep1 x y z t u v w fun _ => ⟨by simp [hu, hv], by simp [huv], hyz, hl⟩) ?_
  have hq' := hq
  unfold rep1 at hq'
  cases hc : ((occurrences x y 0 x.length 1).isEmpty || (y.length == 0 && z.length == 0))
  · rw [hc] at hq'
    simp only [Bool.false_eq_true, if_false] at hq' ⊢
    exact ⟨fits_rep1 y hb, hq' _ _⟩
  · rw [hc] at hq'
    simp only [if_true] at hq' ⊢
    exact hq' t s.toks
end
def tRep1 (to : TE) (y z : Str) : TE := fun σ H Q => to σ H fun v H1 => ∃ x, v = .str x ∧ x.length + z.length ≤ 16777216 ∧ Q (.str (rep1 x y z)) H1
section
variable {X : Cx} {o e f : Expr} {te tf : TE} {to : TE} {y z : Str} {j k l : Nat} {c0 c1 c2 apos pos p p' : Pos}
theorem pet_rep1 (ho : PE X o to) (hyz : (y == z) = false)
    (hst : starEach [.Constant (.str y) j c0, .Constant (.str z) k c1, .Constant (.int 1) l c2] X.env = [(false, eval (.Constant (.str y) j c0) X.env), (false, eval (.Constant (.str z) k c1) X.env), (false, eval (.Constant (.int 1) l c2) X.env)])
    (hbase : attributeBase o "replace" X.env (eval o X.env) = eval o X.env) (hline : (apos.endLine == pos.line) = true) :
    PET X (.Call (.Attribute o "replace" apos) [.Constant (.str y) j c0, .Constant (.str z) k c1, .Constant (.int 1) l c2] [] pos) (tRep1 to y z) := by
  intro pins s σ H Q h0 I h
  refine PySem.wpAny_Call_method_lateS hbase (by rw [hst]; rfl) hline ?_
  rw [hst]
  change wpAny (model X.prog X.w) X.A (eval o X.env) (fun ov s₁ => MethodOnS X.prog X.w X.A X.xe "replace" ov pos [(false, eval (.Constant (.str y) j c0) X.env), (false, eval (.Constant (.str z) k c1) X.env), (false, eval (.Constant (.int 1) l c2) X.env)] (EP X pins σ Q) s₁) X.xe s
  refine wpAny_mono (PySem.wpAny_toks (ho.run pins s σ H _ I h)) (fun v s1 q => ?_) fun _ _ z => z.2
  obtain ⟨hk, v', H1, I1, r1, x, e1, hb, q⟩ := q
  subst e1
  obtain ⟨tx, e2⟩ := r1
  subst e2
  refine ⟨"str", _, PySem.F.plainAttrs_str, PySem.F.slot_str_replace, PySem.F.type_str_replace, typeIs_str _ _ _, (fun _ e => nomatch e), Calls.callWith_builtin rfl (Calls.evalArgs_plain (Calls.spliced_cons ?_))⟩
  refine Calls.Constant_str (Calls.spliced_cons (Calls.Constant_str (Calls.spliced_cons ?_)))
  have I2 : Inv X pins σ H1 { s1 with toks := s1.toks + 1 + 1 } := I1.tok _
  refine thn ((pe_int (X := X) (i := 1) (j := l) (pos := c2)).run pins _ σ H1 (fun v H2 => v = .int 1 ∧ H2 = H1) I2 ⟨rfl, rfl⟩) fun v3 s3 ⟨y3, H3, I3, r3, e3, e4⟩ => ?_
  subst e3 e4
  obtain ⟨t3, rfl⟩ := r3
  refine Calls.spliced_nil ?_
  exact call_rep1 (by show s1.toks ≠ 0; omega) (by show s1.toks + 1 ≠ 0; omega) (by show s1.toks ≠ s1.toks + 1; omega) hyz hb fun t' k => ⟨.str (rep1 x y z), _, I3.tok k, ⟨t', rfl⟩, q⟩
/-- a list's first item x + f leaves a token behind -/
theorem pa_first {op : Operator} {r : R2} {x : Str} {es : List Expr} {ta : TA} (ho : OpR X (binaryOp op) r) (hf : PE X f tf) (hr : PAT X es ta)
    (hs : starEach (.BinOp (.Constant (.str x) j c0) op f p :: es) X.env = (false, eval (.BinOp (.Constant (.str x) j c0) op f p) X.env) :: starEach es X.env) :
    PA X (.BinOp (.Constant (.str x) j c0) op f p :: es) (tCons (tOp r (tC (.str x)) tf) ta) := by
  refine ⟨fun pos pins s σ H Q I h => ?_⟩
  rw [hs]
  show wpAny _ _ (spliced ((false, eval (.BinOp (.Constant (.str x) j c0) op f p) X.env) :: backTo pos (starEach es X.env))) _ _ s
  refine Calls.spliced_cons (wpAny_BinOp (Calls.Constant_str ?_))
  have I1 : Inv X pins σ H { s with toks := s.toks + 1 } := I.tok _
  refine wpAny_mono (PySem.wpAny_toks (hf.run pins _ σ H _ I1 h)) (fun u s2 q => ?_) fun _ _ z => z.2
  obtain ⟨hk2, y2, H2, I2, r2, q2⟩ := q
  have hk2 : s.toks + 1 ≤ s2.toks := hk2
  refine wpAny_mono (PySem.wpAny_toks (ho pins s2 σ H2 (.str x) y2 (.str x s.toks) u _ I2 ⟨s.toks, rfl⟩ r2 q2)) (fun v3 s3 q => ?_) fun _ _ z => z.2
  obtain ⟨hk3, y3, H3, I3, r3, q3⟩ := q
  exact thn (hr pos pins s3 σ H3 _ (by omega) I3 q3) fun us s4 ⟨xs, H4, I4, r4, q4⟩ => ⟨y3 :: xs, H4, I4, .cons r3 r4, q4⟩
end
end Ng

set_option Elab.async false
set_option linter.all false
/-! An engine: a small language over plain data, with a total evaluator. -/
namespace Ng
open PySem

/-- plain data; ref: a cell of the store -/
inductive D where
  | non | bl (b : Bool) | int (i : Int) | str (x : Str) | tup (ds : List D) | ref (n : Nat) | exc (c a : Nat)

mutual
def D.beq : D → D → Bool
  | .non, .non => true
  | .bl a, .bl b => a == b
  | .int i, .int j => i == j
  | .str x, .str y => decide (x = y)
  | .tup xs, .tup ys => D.beqs xs ys
  | .ref m, .ref n => m == n
  | .exc m b, .exc n c => m == n && b == c
  | _, _ => false
def D.beqs : List D → List D → Bool
  | [], [] => true
  | x :: xs, y :: ys => D.beq x y && D.beqs xs ys
  | _, _ => false
end
mutual
theorem D.beq_refl : ∀ d : D, D.beq d d = true
  | .non => rfl
  | .bl a => by simp [D.beq]
  | .int i => by simp [D.beq]
  | .str x => by simp [D.beq]
  | .tup xs => by simp only [D.beq]; exact D.beqs_refl xs
  | .ref n => by simp [D.beq]
  | .exc n a => by simp [D.beq]
theorem D.beqs_refl : ∀ ds : List D, D.beqs ds ds = true
  | [] => rfl
  | x :: xs => by simp only [D.beqs, D.beq_refl x, D.beqs_refl xs, Bool.and_self]
end
mutual
theorem D.of_beq : ∀ {a b : D}, D.beq a b = true → a = b
  | .non, b, h => by cases b <;> simp_all [D.beq]
  | .bl x, b, h => by cases b <;> simp_all [D.beq]
  | .int x, b, h => by cases b <;> simp_all [D.beq]
  | .str x, b, h => by cases b <;> simp_all [D.beq]
  | .ref x, b, h => by cases b <;> simp_all [D.beq]
  | .exc x y, b, h => by cases b <;> simp_all [D.beq]
  | .tup xs, b, h => by
    cases b with
    | tup ys => simp only [D.beq] at h; rw [D.of_beqs h]
    | _ => simp [D.beq] at h
theorem D.of_beqs : ∀ {xs ys : List D}, D.beqs xs ys = true → xs = ys
  | [], [], _ => rfl
  | [], _ :: _, h => by simp [D.beqs] at h
  | _ :: _, [], h => by simp [D.beqs] at h
  | x :: xs, y :: ys, h => by
    simp only [D.beqs, Bool.and_eq_true] at h
    rw [D.of_beq h.1, D.of_beqs h.2]
end
instance : DecidableEq D := fun a b => if h : D.beq a b = true then isTrue (D.of_beq h) else isFalse fun e => h (by rw [e]; exact D.beq_refl b)

/-- what stands in a cell: a list; a list that is never written; a dict (keys tuples; keys ints and texts); an instance (its class by name, its attributes) -/
inductive Cell where
  | lst (ds : List D) | ro (ds : List D) | dct (kvs : List (List Int × D)) | dk (kvs : List (L2.Key × D)) | hid (kvs : List (List Int × D)) | ins (x : Str) (fs : List (Str × D))
  deriving DecidableEq
abbrev Store := List Cell
abbrev Env := List (Option D)

/-- an outcome: a value, an exception (its class by number, its attributes), or nothing that the engine knows -/
inductive R (α : Type) where
  | ok (a : α) (S : Store) | exc (c : Nat) (fs : List (Str × D)) (S : Store) | bad
def R.bind {α β : Type} (r : R α) (k : α → Store → R β) : R β :=
  match r with
  | .ok a S => k a S
  | .exc c fs S => .exc c fs S
  | .bad => .bad
inductive O where
  | nx (ρ : Env) (S : Store) | bk (ρ : Env) (S : Store) | ct (ρ : Env) (S : Store) | ret (d : D) (S : Store) | exc (c : Nat) (fs : List (Str × D)) (ρ : Env) (S : Store) | bad
def O.of {α : Type} (ρ : Env) (r : R α) (k : α → Store → O) : O :=
  match r with
  | .ok a S => k a S
  | .exc c fs S => .exc c fs ρ S
  | .bad => .bad

inductive B2 where
  | add | sub | mul | fdiv | mod | pow
  deriving DecidableEq
inductive CO where
  | eq | ne | lt | le | gt | ge | is | isnot | in_ | notin
  deriving DecidableEq
/-- built-ins by name -/
inductive Bi where
  | len | abs | min2 | max2 | min3 | max3 | int | str | tuple | list | any | all | sum | sorted | minL | maxL | dict0 | dict
  deriving DecidableEq
/-- methods of built-in types -/
inductive Me where
  | append | index | pop | popAt | get1 | get2 | extend | clear | reverse | insert
  deriving DecidableEq
/-- types asked by isinstance -/
inductive Ty where
  | int | bool | str | tuple | list | dict
  deriving DecidableEq

/-- methods of texts -/
inductive SM where
  | split | join | startswith | upper
  deriving DecidableEq
/-- expressions, tests, argument lists (nil, cons), iterables -/
inductive E where
  | var (i : Nat) | non | bl (b : Bool) | int (i : Int) | str (x : Str) | glb (x : Str) (d : D)
  | bin (o : B2) (a b : E) | neg (a : E)
  | cmp (o : CO) (a b : E) | chain (o1 o2 : CO) (a b c : E)
  | not (a : E) | and (a b : E) | or (a b : E) | ite (c a b : E)
  | tup (as : E) | lst (as : E)
  | nil | cons (a as : E)
  | ix (a b : E) | slc (a lo hi : E)
  | call (f : Nat) (as : E) | bi (f : Bi) (as : E) | me (m : Me) (o as : E)
  | isi (a : E) (t : List Ty) (multi : Bool)
  | isx (a : E) (y : Str) (tbl : List Bool)
  | rng (as : E) | enm (as : E) | zp (as : E) | itm (a : E)
  | bln (a : E) | lrv (a : E)
  | gix (x : Str) (kvs : List (Int × D)) (a : E)
  | dd0 | kd0 | dd1 (k v : E) | dd2 (k v k2 v2 : E)
  | kdd (ks : List Str) (vs : E) | pop0 (o : E) | lk (o e : E)
  | fjs (as : E) | fmt (a : E) | sm (m : SM) (o a : E) | sm0 (m : SM) (o : E)
  | gdx (x : Str) (kvs : List (Str × D)) (a : E) | gdin (x : Str) (kvs : List (Str × D)) (neg : Bool) (a : E) | giin (x : Str) (kvs : List (Int × D)) (neg : Bool) (a : E)
  | lc (own : List Nat) (tg src cond elt : E)
  | fld (c f : Str) (o : E) | mth (f : Nat) (c m : Str) (o as : E)
  | lc2 (own own2 : List Nat) (tg src tg2 src2 elt : E)
  | dc (own : List Nat) (tg src cond kx vx : E)
  | dc2 (own own2 : List Nat) (tg src tg2 src2 kx vx : E)
  | rpl6 (x : Str) (f b c : E) (y1 z1 y2 z2 : Str) (d : E)

/-! ### operations on data -/
def linesz : Nat := 16777216
def b2i (b : Bool) : Int := if b then 1 else 0
def getC (S : Store) (n : Nat) : Option Cell := S[n]?
/-- a dict that may be read: walked or not -/
def rdC : Option Cell → Option (List (List Int × D))
  | some (.dct kvs) => some kvs
  | some (.hid kvs) => some kvs
  | _ => none
/-- the items of a list or a tuple -/
def seqD (S : Store) : D → Option (List D)
  | .tup ds => some ds
  | .ref n => match S[n]? with
    | some (.lst ds) => some ds
    | some (.ro ds) => some ds
    | _ => none
  | _ => none
def truD0 (S : Store) : D → Option Bool
  | .non => some false
  | .bl b => some b
  | .int i => some (i != 0)
  | .str x => if x.length ≤ linesz then some ((x.length : Int) != 0) else none
  | .tup ds => some !ds.isEmpty
  | .ref n => match S[n]? with
    | some (.lst ds) => some !ds.isEmpty
    | some (.ro ds) => some !ds.isEmpty
    | _ => none
  | .exc .. => none
def truD (S : Store) : D → Option Bool
  | .non => some false
  | .bl b => some b
  | .int i => some (i != 0)
  | .str x => if x.length ≤ linesz then some ((x.length : Int) != 0) else none
  | .tup ds => some !ds.isEmpty
  | .ref n => match S[n]? with
    | some (.lst ds) => some !ds.isEmpty
    | some (.ro ds) => some !ds.isEmpty
    | some (.dct kvs) => some !kvs.isEmpty
    | some (.hid kvs) => some !kvs.isEmpty
    | _ => none
  | .exc .. => none

mutual
/-- data as PyData; rf tells of the cells -/
def toPyW (rf : Nat → Option PyData) : D → Option PyData
  | .non => some .none
  | .bl b => some (.bool b)
  | .int i => some (.int i)
  | .str x => some (.str x)
  | .tup ds => (toPysW rf ds).map .tuple
  | .ref n => rf n
  | .exc .. => none
def toPysW (rf : Nat → Option PyData) : List D → Option (List PyData)
  | [] => some []
  | d :: ds => match toPyW rf d, toPysW rf ds with
    | some x, some xs => some (x :: xs)
    | _, _ => none
end
def toPyN (S : Store) : Nat → Nat → Option PyData
  | 0, _ => none
  | n + 1, m => match S[m]? with
    | some (.lst ds) => (toPysW (toPyN S n) ds).map .list
    | some (.ro ds) => (toPysW (toPyN S n) ds).map .list
    | _ => none
def toPy (S : Store) (d : D) : Option PyData := toPyW (toPyN S 6) d

def intsD : List D → Option (List Int)
  | [] => some []
  | .int b :: r => (intsD r).map fun bs => b :: bs
  | _ :: _ => none
/-- a dict's key; what stands at it; the pairs behind a store -/
def keyI : D → Option (List Int)
  | .tup ds => intsD ds
  | _ => none
def dGet (kvs : List (List Int × D)) (k : List Int) : Option D := (kvs.find? fun p => decide (p.1 = k)).map (·.2)
def dPut (kvs : List (List Int × D)) (k : List Int) (d : D) : List (List Int × D) :=
  if (dGet kvs k).isSome then kvs.map (fun p => if p.1 = k then (p.1, d) else p) else kvs ++ [(k, d)]
/-- without a key -/
def dDel (kvs : List (List Int × D)) (k : List Int) : List (List Int × D) := kvs.filter fun p => decide (p.1 ≠ k)
/-- dicts with text keys -/
def kGet (kvs : List (L2.Key × D)) (k : L2.Key) : Option D := (kvs.find? fun p => decide (p.1 = k)).map (·.2)
def kPut (kvs : List (L2.Key × D)) (k : L2.Key) (d : D) : List (L2.Key × D) :=
  if (kvs.any fun p => decide (p.1 = k)) = true then kvs.map (fun p => if p.1 = k then (p.1, d) else p) else kvs ++ [(k, d)]
def dPuts (kvs ps : List (List Int × D)) : List (List Int × D) := ps.foldl (fun acc p => dPut acc p.1 p.2) kvs
def keysI : List (D × D) → Option (List (List Int × D))
  | [] => some []
  | (x, d) :: r => match keyI x, keysI r with
    | some k, some ps => some ((k, d) :: ps)
    | _, _ => none
/-- a display of pairs: the dict that stands empty in cell n is filled -/
def ddR (n : Nat) (ps : List (D × D)) (S : Store) : R D := match S[n]? with
  | some (.dct []) => match keysI ps with
    | some kvs => .ok (.ref n) (S.set n (.dct (dPuts [] kvs)))
    | none => .bad
  | _ => .bad
/-- == but of dicts -/
def eqD0 (S : Store) (x y : D) : Option Bool :=
  match x, y with
  | .int i, .int j => some (decide (i = j))
  | .str a, .str b => some (decide (a = b))
  | .bl a, .bl b => some (decide (a = b))
  | .non, .non => some true
  | x, y => match toPy S x, toPy S y with
    | some a, some b => if SeqAt.shaped a && SeqAt.shaped b then some (PyData.eqv a b) else none
    | _, _ => none

/-- == of two data, as PyData -/
def eqDp (S : Store) (x y : D) : Option Bool := match toPy S x, toPy S y with
  | some a, some b => if SeqAt.shaped a && SeqAt.shaped b then some (PyData.eqv a b) else none
  | _, _ => none
/-- == of a dict's pairs with another's -/
def eqKvs (S : Store) (b : List (List Int × D)) : List (List Int × D) → Option Bool
  | [] => some true
  | (k, d) :: r => match dGet b k with
    | none => some false
    | some e => match eqDp S d e, eqKvs S b r with
      | some x, some y => some (x && y)
      | _, _ => none
def eqDct (S : Store) (x y : D) : Option Bool := match x, y with
  | .ref m, .ref n => match rdC S[m]?, rdC S[n]? with
    | some a, some b => if a.length = b.length then eqKvs S b a else some false
    | _, _ => none
  | _, _ => none
def eqD (S : Store) (x y : D) : Option Bool := match eqD0 S x y with
  | some b => some b
  | none => eqDct S x y
/-- what may be compared by «in» -/
def flatD : D → Bool
  | .non => true | .bl _ => true | .int _ => true | .str _ => true
  | _ => false
def eqF : D → D → Bool
  | .int i, .int j => i == j
  | .int i, .bl b => i == (if b then 1 else 0)
  | .bl b, .int i => (if b then 1 else 0) == i
  | .bl a, .bl b => a == b
  | .str a, .str b => decide (a = b)
  | .non, .non => true
  | _, _ => false
def inF (x : D) (xs : List D) : Bool := xs.any fun y => eqF y x
/-- «in» a list of data of any depth -/
def inN (S : Store) (x : D) (xs : List D) : Option Bool := match toPy S x, toPysW (toPyN S 6) xs with
  | some p, some ps => if SeqAt.shaped p && SeqAt.shaped (.list ps) then some (ps.any fun z => PyData.eqv z p) else none
  | _, _ => none
/-- the first place of an equal item -/
def indexN (S : Store) (x : D) (xs : List D) : Option Nat := match toPy S x, toPysW (toPyN S 6) xs with
  | some p, some ps => if SeqAt.shaped p && SeqAt.shaped (.list ps) then (ps.findIdx? fun z => PyData.eqv z p) else none
  | _, _ => none

def keyOf : D → Option L2.Key
  | .int i => some (.inl i)
  | .str x => some (.inr x)
  | _ => none
def keysOf : List D → Option (List L2.Key)
  | [] => some []
  | d :: ds => match keyOf d, keysOf ds with
    | some k, some ks => some (k :: ks)
    | _, _ => none

def bin2 (o : B2) (x y : D) (S : Store) : R D :=
  match o, x, y with
  | .add, .int i, .int j => .ok (.int (i + j)) S
  | .add, .str a, .str b => if a.length + b.length ≤ linesz then .ok (.str (a ++ b)) S else .bad
  | .add, .tup a, .tup b => if a.length + b.length ≤ linesz then .ok (.tup (a ++ b)) S else .bad
  | .add, .ref l, .ref m => match S[l]?, S[m]? with
    | some (.lst a), some (.lst b) => if a.length + b.length ≤ linesz then .ok (.ref S.length) (S ++ [.lst (a ++ b)]) else .bad
    | _, _ => .bad
  | .sub, .int i, .int j => .ok (.int (i - j)) S
  | .mul, .int i, .int j => if (-18446744073709551616 < i ∧ i < 18446744073709551616) ∨ (-18446744073709551616 < j ∧ j < 18446744073709551616) then .ok (.int (i * j)) S else .bad
  | .mul, .ref l, .int k => match S[l]? with
    | some (.lst a) => if -9223372036854775808 ≤ k ∧ k < 9223372036854775808 ∧ a.length * k.toNat ≤ linesz then .ok (.ref S.length) (S ++ [.lst (List.replicate k.toNat a).flatten]) else .bad
    | _ => .bad
  | .mul, .tup a, .int k => if 2 ≤ k ∧ k ≤ 1000 ∧ a.length ≤ 1000 ∧ a.isEmpty = false then .ok (.tup (List.replicate k.toNat a).flatten) S else if k = 1 then .ok (.tup a) S else if k = 0 ∧ a.isEmpty = false then .ok (.tup []) S else .bad
  | .fdiv, .int i, .int j => if 0 < j ∧ j < 1073741824 then .ok (.int (i / j)) S else .bad
  | .mod, .int i, .int j => if 0 < j then .ok (.int (i % j)) S else .bad
  | .pow, .int i, .int j => if 0 ≤ j ∧ j ≤ 1000000 ∧ i.natAbs < 18446744073709551616 then .ok (.int (i ^ j.toNat)) S else .bad
  | _, _, _ => .bad

def lexD : List D → List D → Option Bool
  | [], [] => some false
  | [], .int _ :: r => (lexD [] r).map fun _ => true
  | .int _ :: r, [] => (lexD r []).map fun _ => false
  | .int i :: xs, .int j :: ys => (lexD xs ys).map fun b => if i = j then b else decide (i < j)
  | _, _ => none

def cmp2 (o : CO) (x y : D) (S : Store) : Option Bool :=
  match o, x, y with
  | .eq, x, y => eqD S x y
  | .ne, x, y => (eqD S x y).map fun b => !b
  | .lt, .int i, .int j => some (decide (i < j))
  | .le, .int i, .int j => some (decide (i ≤ j))
  | .gt, .int i, .int j => some (decide (j < i))
  | .ge, .int i, .int j => some (decide (j ≤ i))
  | .lt, .tup a, .tup b => lexD a b
  | .is, .bl a, .bl b => some (decide (a = b))
  | .isnot, .bl a, .bl b => some (!decide (a = b))
  | .is, x, .non => match x with | .exc .. => none | .non => some true | _ => some false
  | .isnot, x, .non => match x with | .exc .. => none | .non => some false | _ => some true
  | .in_, x, .tup ds => if flatD x && ds.all flatD then some (inF x ds) else none
  | .notin, x, .tup ds => if flatD x && ds.all flatD then some !(inF x ds) else none
  | .in_, x, .ref n => match S[n]? with
    | some (.lst ds) => if flatD x && ds.all flatD then some (inF x ds) else inN S x ds
    | some (.ro ds) => if flatD x && ds.all flatD then some (inF x ds) else none
    | some (.dct kvs) => (keyI x).map fun k => (dGet kvs k).isSome
    | some (.hid kvs) => (keyI x).map fun k => (dGet kvs k).isSome
    | _ => none
  | .notin, x, .ref n => match S[n]? with
    | some (.lst ds) => if flatD x && ds.all flatD then some !(inF x ds) else (inN S x ds).map fun b => !b
    | some (.ro ds) => if flatD x && ds.all flatD then some !(inF x ds) else none
    | some (.dct kvs) => (keyI x).map fun k => !(dGet kvs k).isSome
    | some (.hid kvs) => (keyI x).map fun k => !(dGet kvs k).isSome
    | _ => none
  | _, _, _ => none
def cmpR (o : CO) (x y : D) (S : Store) : R D := match cmp2 o x y S with
  | some b => .ok (.bl b) S
  | none => .bad

/-- xs[i] -/
def atD (ds : List D) (i : Int) : Option D := L2.atI ds i
def ix2 (x y : D) (S : Store) : R D :=
  match x, y with
  | .tup ds, .int i => match L2.atI ds i with | some d => .ok d S | none => .bad
  | .ref n, .int i => match S[n]? with
    | some (.lst ds) => match L2.atI ds i with | some d => .ok d S | none => .bad
    | some (.ro ds) => match L2.atI ds i with | some d => .ok d S | none => .bad
    | _ => .bad
  | .ref n, .tup ks => match rdC S[n]? with
    | some kvs => match intsD ks with
      | some k => match dGet kvs k with | some d => .ok d S | none => .bad
      | none => .bad
    | none => .bad
  | .ref n, .str z => match S[n]? with
    | some (.dk kvs) => match kGet kvs (.inr z) with | some d => .ok d S | none => .bad
    | _ => .bad
  | .str z, .int i => if z.length ≤ linesz then match L2.atI z.cps.toList i with | some c => .ok (.str ⟨#[c]⟩) S | none => .bad else .bad
  | _, _ => .bad
def cutD (xs : List D) (lo hi : Option Int) : List D := (xs.drop (HT.sIx xs.length 0 lo)).take (HT.sIx xs.length xs.length hi - HT.sIx xs.length 0 lo)
def slc2 (x : D) (lo hi : Option Int) (S : Store) : R D :=
  match x with
  | .str z => if z.length ≤ linesz then .ok (.str (Txt.slice z lo hi)) S else .bad
  | .tup ds => .ok (.tup (cutD ds lo hi)) S
  | .ref n => match S[n]? with
    | some (.lst ds) => .ok (.ref S.length) (S ++ [.lst (cutD ds lo hi)])
    | some (.ro ds) => .ok (.ref S.length) (S ++ [.lst (cutD ds lo hi)])
    | _ => .bad
  | _ => .bad

def blsD : List D → Option (List Bool)
  | [] => some []
  | .bl b :: r => (blsD r).map fun bs => b :: bs
  | _ :: _ => none

/-- how many a dict holds -/
def dctN (S : Store) : D → Option Nat
  | .ref n => (rdC S[n]?).map (·.length)
  | _ => none
/-- pairs of whole numbers -/
abbrev prD (p : Int × Int) : D := .tup [.int p.1, .int p.2]
def prsD : List D → Option (List (Int × Int))
  | [] => some []
  | .tup [.int i, .int j] :: r => (prsD r).map fun ps => (i, j) :: ps
  | _ :: _ => none
def prsK : List (List Int) → Option (List (Int × Int))
  | [] => some []
  | [i, j] :: r => (prsK r).map fun ps => (i, j) :: ps
  | _ :: _ => none
/-- a dict's keys, if all are pairs -/
def dctPs (S : Store) (n : Nat) : Option (List (Int × Int)) := match S[n]? with
  | some (.dct kvs) => prsK (kvs.map (·.1))
  | _ => none
/-- the least, the greatest -/
def minI (a : Int) : List Int → Int
  | [] => a
  | b :: r => minI (if b < a then b else a) r
def maxI (a : Int) : List Int → Int
  | [] => a
  | b :: r => maxI (if a < b then b else a) r
def biD (f : Bi) (ds : List D) (S : Store) : R D :=
  match f, ds with
  | .minL, [.ref n] => match (seqD S (.ref n)).bind intsD with | some (a :: r) => .ok (.int (minI a r)) S | _ => .bad
  | .maxL, [.ref n] => match (seqD S (.ref n)).bind intsD with | some (a :: r) => .ok (.int (maxI a r)) S | _ => .bad
  | .dict, [.ref n] => match rdC S[n]? with | some kvs => if (kvs.map fun p => hashI p.1).Nodup then .ok (.ref S.length) (S ++ [.dct kvs]) else .bad | none => .bad
  | .len, [.str x] => if x.length ≤ linesz then .ok (.int x.length) S else .bad
  | .len, [x] => match seqD S x with | some xs => .ok (.int xs.length) S | none => match dctN S x with | some k => .ok (.int (k : Nat)) S | none => .bad
  | .sorted, [.ref n] => match (seqD S (.ref n)).bind prsD with | some ps => .ok (.ref S.length) (S ++ [.lst ((srtP ps).map prD)]) | none => match dctPs S n with | some ps => .ok (.ref S.length) (S ++ [.lst ((srtP ps).map prD)]) | none => .bad
  | .abs, [.int i] => .ok (.int (if i < 0 then -i else i)) S
  | .min2, [.int i, .int j] => .ok (.int (if j < i then j else i)) S
  | .max2, [.int i, .int j] => .ok (.int (if j > i then j else i)) S
  | .min3, [.int i, .int j, .int k] => .ok (.int (if k < (if j < i then j else i) then k else if j < i then j else i)) S
  | .max3, [.int i, .int j, .int k] => .ok (.int (if (if i < j then j else i) < k then k else if i < j then j else i)) S
  | .int, [.int i] => .ok (.int i) S
  | .int, [.bl b] => .ok (.int (if b then 1 else 0)) S
  | .str, [.int i] => if i.natAbs.log2 < 1920 then .ok (.str (toString i)) S else .bad
  | .tuple, [x] => match seqD S x with | some xs => .ok (.tup xs) S | none => .bad
  | .list, [x] => match seqD S x with | some xs => .ok (.ref S.length) (S ++ [.lst xs]) | none => .bad
  | .any, [.ref n] => match (seqD S (.ref n)).bind blsD with | some bs => .ok (.bl (bs.any id)) S | none => .bad
  | .all, [.ref n] => match (seqD S (.ref n)).bind blsD with | some bs => .ok (.bl (bs.all id)) S | none => .bad
  | .sum, [.ref n] => match (seqD S (.ref n)).bind intsD with | some bs => .ok (.int bs.sum) S | none => .bad
  | _, _ => .bad

def meD (m : Me) (o : D) (ds : List D) (S : Store) : R D :=
  match m, o, ds with
  | .append, .ref n, [d] => match S[n]? with
    | some (.lst xs) => if xs.length < linesz then .ok .non (S.set n (.lst (xs ++ [d]))) else .bad
    | _ => .bad
  | .insert, .ref n, [.int i, d] => match S[n]? with
    | some (.lst xs) => if xs.length < linesz ∧ 0 ≤ i ∧ i < 9223372036854775808 then .ok .non (S.set n (.lst (xs.take i.toNat ++ [d] ++ xs.drop i.toNat))) else .bad
    | _ => .bad
  | .get1, .ref n, [x] => match rdC S[n]? with
    | some kvs => match keyI x with | some k => .ok ((dGet kvs k).getD .non) S | none => .bad
    | none => .bad
  | .get2, .ref n, [x, d] => match rdC S[n]? with
    | some kvs => match keyI x with | some k => .ok ((dGet kvs k).getD d) S | none => .bad
    | none => match S[n]?, x with
      | some (.dk kvs), .str z => .ok ((kGet kvs (.inr z)).getD d) S
      | _, _ => .bad
  | .pop, .ref n, [x] => match S[n]? with
    | some (.dct kvs) => match keyI x with
      | some k => match dGet kvs k with | some d => .ok d (S.set n (.dct (dDel kvs k))) | none => .bad
      | none => .bad
    | _ => .bad
  | .index, .ref n, [d] => match S[n]? with
    | some (.lst xs) => match indexN S d xs with | some j => .ok (.int j) S | none => .bad
    | _ => .bad
  | .extend, .ref n, [.ref m] => match S[n]?, S[m]? with
    | some (.lst xs), some (.lst ys) => if xs.length + ys.length ≤ linesz then .ok .non (S.set n (.lst (xs ++ ys))) else .bad
    | _, _ => .bad
  | _, _, _ => .bad

/-- the receiver is of the method's type -/
def meOk (m : Me) (o : D) (S : Store) : Bool := match m, o with
  | .append, .ref n => match S[n]? with
    | some (.lst _) => true
    | _ => false
  | .index, .ref n => match S[n]? with
    | some (.lst _) => true
    | _ => false
  | .insert, .ref n => match S[n]? with
    | some (.lst _) => true
    | _ => false
  | .extend, .ref n => match S[n]? with
    | some (.lst _) => true
    | _ => false
  | .get1, .ref n => (rdC S[n]?).isSome
  | .get2, .ref n => (rdC S[n]?).isSome || (match S[n]? with
    | some (.dk _) => true
    | _ => false)
  | .pop, .ref n => match S[n]? with
    | some (.dct _) => true
    | _ => false
  | _, _ => false
/-- the attributes of an instance of the class c -/
def insOf (S : Store) (c : Str) : D → Option (List (Str × D))
  | .ref n => match S[n]? with
    | some (.ins x fs) => if x = c then some fs else none
    | _ => none
  | _ => none
def fldR (c f : Str) (x : D) (S : Store) : R D := match insOf S c x with
  | some fs => match fs.lookup f with | some d => .ok d S | none => .bad
  | none => .bad
/-- an instance of c that has not its own m -/
def mthOk (S : Store) (c m : Str) (x : D) : Bool := match insOf S c x with
  | some fs => (fs.lookup m).isNone
  | none => false
def putD (f : Str) (v : D) : List (Str × D) → List (Str × D)
  | [] => [(f, v)]
  | (g, x) :: r => if g = f then (g, v) :: r else (g, x) :: putD f v r
def isTy (S : Store) (t : Ty) : D → Option Bool
  | .non => some false
  | .bl _ => some (t == .bool || t == .int)
  | .int _ => some (t == .int)
  | .str _ => some (t == .str)
  | .tup _ => some (t == .tuple)
  | .ref n => match S[n]? with
    | some (.lst _) => some (t == .list)
    | some (.ro _) => some (t == .list)
    | some (.dct _) => some (t == .dict)
    | some (.dk _) => some (t == .dict)
    | some (.hid _) => some (t == .dict)
    | _ => none
  | .exc .. => none
def isTys (S : Store) (x : D) : List Ty → Option Bool
  | [] => some false
  | t :: ts => match isTy S t x, isTys S x ts with
    | some a, some b => some (a || b)
    | _, _ => none

/-! ### the evaluator -/
/-- what a loop walks: its items, and the cell that must stay as it is -/
structure It where
  ds : List D
  lk : Option (Nat × Cell)
def ckS (lk : Option (Nat × Cell)) (S : Store) : Bool := match lk with
  | none => true
  | some (n, c) => decide (S[n]? = some c)
def wipeE (ρ : Env) : List Nat → Env
  | [] => ρ
  | v :: vs => (wipeE ρ vs).set v none
/-- a target of names -/
def asgT : E → D → Env → Option Env
  | .var i, d, ρ => some (ρ.set i (some d))
  | .tup ts, .tup ds, ρ => asgTs ts ds ρ
  | _, _, _ => none
where asgTs : E → List D → Env → Option Env
  | .nil, [], ρ => some ρ
  | .cons (.var i) ts, d :: ds, ρ => asgTs ts ds (ρ.set i (some d))
  | _, _, _ => none

def lcL (n : Nat) (ck : Store → Bool) (f : D → Store → R (Option D)) : List D → Store → R Unit
  | [], S => bif ck S then .ok () S else .bad
  | x :: xs, S => bif ck S then (match f x S with
    | .ok none S' => lcL n ck f xs S'
    | .ok (some d) S' => match S'[n]? with
      | some (.lst acc) => if acc.length < linesz then lcL n ck f xs (S'.set n (.lst (acc ++ [d]))) else .bad
      | _ => .bad
    | _ => .bad) else .bad
def rngD (lo : Int) (n : Nat) : List D := (List.range n).map fun (i : Nat) => D.int (lo + i)
def kddR (n : Nat) (ks : List Str) (ds : List D) (S : Store) : R D := match S[n]? with
  | some (.dk []) => if ks.length = ds.length ∧ ks.Nodup ∧ ks.length ≤ 15 then .ok (.ref n) (S.set n (.dk ((ks.map Sum.inr).zip ds))) else .bad
  | _ => .bad
/-- xs.pop() -/
def pop0R (x : D) (S : Store) : R D := match x with
  | .ref n => match S[n]? with
    | some (.lst xs) => match xs[xs.length - 1]? with | some d => .ok d (S.set n (.lst xs.dropLast)) | none => .bad
    | _ => .bad
  | _ => .bad
/-- an expression while a dict is walked -/
def lkR (r : R D) (f : Store → R D) (S : Store) : R D := match r with
  | .ok (.ref n) _ => match S[n]? with
    | some (.dct kvs) => match f (S.set n (.hid kvs)) with
      | .ok d S2 => if S2[n]? = some (.hid kvs) then .ok d (S2.set n (.dct kvs)) else .bad
      | _ => .bad
    | some (.hid _) => f S
    | _ => .bad
  | _ => .bad
def itD (x : D) (S : Store) : R It :=
  match x with
  | .tup ds => .ok ⟨ds, none⟩ S
  | .ref n => match S[n]? with
    | some (.lst ds) => .ok ⟨ds, some (n, .lst ds)⟩ S
    | some (.ro ds) => .ok ⟨ds, some (n, .ro ds)⟩ S
    | some (.hid kvs) => .ok ⟨kvs.map fun p => .tup (p.1.map D.int), none⟩ S
    | _ => .bad
  | _ => .bad
/-- lo, lo - 1, .. (n of them) -/
def rngN (lo : Int) (n : Nat) : List D := (List.range n).map fun (i : Nat) => D.int (lo + (i : Nat) * (-1))
def rgD : List D → Option It
  | [.int n] => if -4611686018427387904 ≤ n ∧ n < 4611686018427387904 then some ⟨rngD 0 n.toNat, none⟩ else none
  | [.int a, .int b] => if -4611686018427387904 ≤ a ∧ a < 4611686018427387904 ∧ -4611686018427387904 ≤ b ∧ b < 4611686018427387904 then some ⟨rngD a (b - a).toNat, none⟩ else none
  | [.int a, .int b, .int c] => if c = -1 ∧ -4611686018427387904 ≤ a ∧ a < 4611686018427387904 ∧ -4611686018427387904 ≤ b ∧ b < 4611686018427387904 then some ⟨rngN a (a - b).toNat, none⟩ else none
  | _ => none

/-- what an expression means: as a value, a test, an argument list, a part of a slice, an iterable -/
structure Den where
  v : Env → Store → R D
  t : Env → Store → R Bool
  a : Env → Store → R (List D)
  o : Env → Store → R (Option Int)
  i : Env → Store → R It
  j : Str → Env → Store → R Str
def truR (x : D) (S : Store) : R Bool := match truD S x with | some b => .ok b S | none => .bad
def cmpT (o : CO) (x y : D) (S : Store) : R Bool := match cmp2 o x y S with | some t => .ok t S | none => .bad
def optR (x : D) (S : Store) : R (Option Int) := match x with | .int i => .ok (some i) S | _ => .bad
def ofVT (v : Env → Store → R D) (t : Env → Store → R Bool) : Den where
  v := v
  t := t
  a := fun _ _ => .bad
  o := fun ρ S => (v ρ S).bind optR
  i := fun ρ S => (v ρ S).bind itD
  j := fun _ _ _ => .bad
def ofV (v : Env → Store → R D) : Den := ofVT v fun ρ S => (v ρ S).bind truR
def ofA (a : Env → Store → R (List D)) (o : Env → Store → R (Option Int)) : Den where
  v := fun _ _ => .bad
  t := fun _ _ => .bad
  a := a
  o := o
  i := fun _ _ => .bad
  j := fun _ _ _ => .bad
def varR (i : Nat) (ρ : Env) (S : Store) : R D := match ρ[i]? with | some (some d) => .ok d S | _ => .bad
def negR (x : D) (S : Store) : R D := match x with | .int i => .ok (.int (-i)) S | _ => .bad
def andR (k : Store → R D) (x : D) (S : Store) : R D := match truD0 S x with
  | some true => k S
  | some false => .ok x S
  | none => .bad
def orR (k : Store → R D) (x : D) (S : Store) : R D := match truD0 S x with
  | some true => .ok x S
  | some false => k S
  | none => .bad
def tupR (ds : List D) (S : Store) : R D := if ds.length ≤ linesz then .ok (.tup ds) S else .bad
def lstR (ds : List D) (S : Store) : R D := if ds.length ≤ linesz then .ok (.ref S.length) (S ++ [.lst ds]) else .bad
def isiR (ts : List Ty) (x : D) (S : Store) : R D := match isTys S x ts with | some b => .ok (.bl b) S | none => .bad
def rngR (ds : List D) (S : Store) : R It := match rgD ds with | some it => .ok it S | none => .bad
/-- zip of two tuples, of a list and a tuple -/
def zipD (xs ys : List D) : List D := (xs.zip ys).map fun p => .tup [p.1, p.2]
def zipR (ds : List D) (S : Store) : R It := match ds with
  | [.tup xs, .tup ys] => .ok ⟨zipD xs ys, none⟩ S
  | [.ref n, .tup ys] => match S[n]? with
    | some (.lst xs) => .ok ⟨zipD xs ys, some (n, .lst xs)⟩ S
    | _ => .bad
  | _ => .bad
/-- enumerate of a tuple, of a list -/
def enD : Nat → List D → List D
  | _, [] => []
  | k, d :: ds => .tup [.int k, d] :: enD (k + 1) ds
def enmR (ds : List D) (S : Store) : R It := match ds with
  | [.tup xs] => .ok ⟨enD 0 xs, none⟩ S
  | [.ref n] => match S[n]? with
    | some (.lst xs) => .ok ⟨enD 0 xs, some (n, .lst xs)⟩ S
    | _ => .bad
  | _ => .bad
def isS : D → Bool
  | .str _ => true
  | _ => false
def strsD : List D → Option (List Str)
  | [] => some []
  | .str x :: r => (strsD r).map fun xs => x :: xs
  | _ :: _ => none
/-- a part of an f-string -/
def fmtR (x : D) (S : Store) : R D := match x with
  | .str y => if y.length ≤ linesz then .ok (.str y) S else .bad
  | .int i => if i.natAbs.log2 < 1920 then .ok (.str (toString i)) S else .bad
  | _ => .bad
def catJ (acc : Str) (x : D) (S : Store) (k : Str → Store → R Str) : R Str := match x with
  | .str y => if (acc ++ y).length ≤ linesz then k (acc ++ y) S else .bad
  | _ => .bad
def smR (m : SM) (x y : D) (S : Store) : R D := match m, x, y with
  | .split, .str a, .str b => if (b.length == 0) = false ∧ a.length + 2 ≤ linesz then .ok (.ref S.length) (S ++ [.lst ((Txt.split a b).map D.str)]) else .bad
  | .startswith, .str a, .str b => .ok (.bl (Txt.startswith a b)) S
  | .join, .str a, .ref n => match (seqD S (.ref n)).bind strsD with
    | some ys => if (ys.map (·.length)).sum + ys.length * a.length ≤ 16777216 then .ok (.str (Txt.join a ys)) S else .bad
    | none => .bad
  | _, _, _ => .bad
def sm0R (m : SM) (x : D) (S : Store) : R D := match m, x with
  | .upper, .str a => if a.length ≤ 5592405 then .ok (.str (Txt.upper a)) S else .bad
  | _, _ => .bad
/-- an item of a dict of the top, by a text -/
def gdxR (kvs : List (Str × D)) (x : D) (S : Store) : R D := match x with
  | .str z => match kvs.lookup z with
    | some d => .ok d S
    | none => .bad
  | _ => .bad
/-- an item of a dict of the top, by a number -/
def gixR (kvs : List (Int × D)) (x : D) (S : Store) : R D := match x with
  | .int z => match kvs.lookup z with
    | some d => .ok d S
    | none => .bad
  | _ => .bad
/-- a text in a dict of the top -/
def giinR (kvs : List (Int × D)) (neg : Bool) (x : D) (S : Store) : R D := match x with
  | .int z => .ok (.bl (if neg then !(kvs.lookup z).isSome else (kvs.lookup z).isSome)) S
  | _ => .bad
def giinT (kvs : List (Int × D)) (neg : Bool) (x : D) (S : Store) : R Bool := match x with
  | .int z => .ok (if neg then !(kvs.lookup z).isSome else (kvs.lookup z).isSome) S
  | _ => .bad
def gdinR (kvs : List (Str × D)) (neg : Bool) (x : D) (S : Store) : R D := match x with
  | .str z => .ok (.bl (if neg then !(kvs.lookup z).isSome else (kvs.lookup z).isSome)) S
  | _ => .bad
def gdinT (kvs : List (Str × D)) (neg : Bool) (x : D) (S : Store) : R Bool := match x with
  | .str z => .ok (if neg then !(kvs.lookup z).isSome else (kvs.lookup z).isSome) S
  | _ => .bad
/-- x.bit_length() -/
def blnR (x : D) (S : Store) : R D := match x with | .int i => .ok (.int ((Builtin.Int.intBits i : Nat) : Int)) S | _ => .bad
/-- list(reversed(x)) -/
def lrvR (x : D) (S : Store) : R D := match x with
  | .ref n => match S[n]? with
    | some (.lst ds) => .ok (.ref S.length) (S ++ [.lst ds.reverse])
    | _ => .bad
  | _ => .bad
def chainV (o1 o2 : CO) (c : Store → R D) (x y : D) (S : Store) : R D := match cmp2 o1 x y S with
  | some true => (c S).bind fun z S3 => cmpR o2 y z S3
  | some false => .ok (.bl false) S
  | none => .bad
def chainT (o1 o2 : CO) (c : Store → R D) (x y : D) (S : Store) : R Bool := match cmp2 o1 x y S with
  | some true => (c S).bind fun z S3 => cmpT o2 y z S3
  | some false => .ok false S
  | none => .bad
def lcF (own : List Nat) (tg : E) (cond : Env → Store → R Bool) (elt : Env → Store → R D) (ρ : Env) (x : D) (S : Store) : R (Option D) :=
  match asgT tg x (wipeE ρ own) with
  | none => .bad
  | some ρ2 => (cond ρ2 S).bind fun b S2 => bif b then (elt ρ2 S2).bind fun d S3 => .ok (some d) S3 else .ok none S2
def lcR (own : List Nat) (tg : E) (cond : Env → Store → R Bool) (elt : Env → Store → R D) (ρ : Env) (it : It) (S : Store) : R D :=
  (lcL S.length (ckS it.lk) (lcF own tg cond elt ρ) it.ds (S ++ [.lst []])).bind fun _ S4 => .ok (.ref S.length) S4

/-- {k: v for ..}: a turn's end -/
def dcT (n : Nat) (k : Store → R Unit) : R (Option (D × D)) → R Unit
  | .ok none S' => k S'
  | .ok (some p) S' => match S'[n]?, keyI p.1 with
    | some (.dct kvs), some ks => if kvs.length < linesz then k (S'.set n (.dct (dPut kvs ks p.2))) else .bad
    | _, _ => .bad
  | _ => .bad
def dcL (n : Nat) (ck : Store → Bool) (f : D → Store → R (Option (D × D))) : List D → Store → R Unit
  | [], S => bif ck S then .ok () S else .bad
  | x :: xs, S => bif ck S then dcT n (dcL n ck f xs) (f x S) else .bad
def dcF (own : List Nat) (tg : E) (cond : Env → Store → R Bool) (kx vx : Env → Store → R D) (ρ : Env) (x : D) (S : Store) : R (Option (D × D)) :=
  match asgT tg x (wipeE ρ own) with
  | none => .bad
  | some ρ2 => (cond ρ2 S).bind fun b S2 => bif b then (kx ρ2 S2).bind fun k S3 => (vx ρ2 S3).bind fun d S4 => .ok (some (k, d)) S4 else .ok none S2
def dcR (own : List Nat) (tg : E) (cond : Env → Store → R Bool) (kx vx : Env → Store → R D) (ρ : Env) (it : It) (S : Store) : R D :=
  (dcL S.length (ckS it.lk) (dcF own tg cond kx vx ρ) it.ds (S ++ [.dct []])).bind fun _ S4 => .ok (.ref S.length) S4
/-- the turns of the second clause -/
def lc2F (n : Nat) (own2 : List Nat) (tg2 : E) (src2 : Env → Store → R It) (elt : Env → Store → R D) (ρ2 : Env) (S : Store) : R Unit :=
  (src2 ρ2 S).bind fun it S1 => lcL n (ckS it.lk) (lcF own2 tg2 (fun _ S => .ok true S) elt ρ2) it.ds S1
def thenU (r : R Unit) (k : Store → R Unit) : R Unit := match r with
  | .ok _ S' => k S'
  | _ => .bad
def lc2L (ck : Store → Bool) (f : D → Store → R Unit) : List D → Store → R Unit
  | [], S => bif ck S then .ok () S else .bad
  | x :: xs, S => bif ck S then thenU (f x S) (lc2L ck f xs) else .bad
def lc2G (n : Nat) (own own2 : List Nat) (tg tg2 : E) (src2 : Env → Store → R It) (elt : Env → Store → R D) (ρ : Env) (x : D) (S' : Store) : R Unit :=
  match asgT tg x (wipeE ρ own) with
  | some ρ2 => lc2F n own2 tg2 src2 elt ρ2 S'
  | none => .bad
def lc2R (own own2 : List Nat) (tg tg2 : E) (src2 : Env → Store → R It) (elt : Env → Store → R D) (ρ : Env) (it : It) (S : Store) : R D :=
  (lc2L (ckS it.lk) (lc2G S.length own own2 tg tg2 src2 elt ρ) it.ds (S ++ [.lst []])).bind fun _ S4 => .ok (.ref S.length) S4

/-- x.replace(y, z, 1) -/
def rep1R (y z : Str) (x : D) (S : Store) : R D := match x with
  | .str a => if a.length + z.length ≤ 16777216 then .ok (.str (rep1 a y z)) S else .bad
  | _ => .bad
/-- {k: v for .. for ..} -/
def dc2F (n : Nat) (own2 : List Nat) (tg2 : E) (src2 : Env → Store → R It) (kx vx : Env → Store → R D) (ρ2 : Env) (S : Store) : R Unit :=
  (src2 ρ2 S).bind fun it S1 => dcL n (ckS it.lk) (dcF own2 tg2 (fun _ S => .ok true S) kx vx ρ2) it.ds S1
def dc2G (n : Nat) (own own2 : List Nat) (tg tg2 : E) (src2 : Env → Store → R It) (kx vx : Env → Store → R D) (ρ : Env) (x : D) (S' : Store) : R Unit :=
  match asgT tg x (wipeE ρ own) with
  | some ρ2 => dc2F n own2 tg2 src2 kx vx ρ2 S'
  | none => .bad
def dc2R (own own2 : List Nat) (tg tg2 : E) (src2 : Env → Store → R It) (kx vx : Env → Store → R D) (ρ : Env) (it : It) (S : Store) : R D :=
  (lc2L (ckS it.lk) (dc2G S.length own own2 tg tg2 src2 kx vx ρ) it.ds (S ++ [.dct []])).bind fun _ S4 => .ok (.ref S.length) S4

/-- the number at which a suite's oracle is asked for the exception that is handled -/
def hotq : Nat := 1000000
/-- the oracle of an except suite: which exception is handled -/
def hotP (c a : Nat) : Nat → List D → Store → R D := fun f ds S => if f = hotq then (match ds with
  | [.exc c' a'] => if c' = c ∧ a' = a then .ok .non S else .bad
  | _ => .bad) else .bad
def isxR (P : Nat → List D → Store → R D) (tbl : List Bool) (x : D) (S : Store) : R D := match x with
  | .exc c a => (P hotq [.exc c a] S).bind fun _ S1 => match tbl[c]? with
    | some b => .ok (.bl b) S1
    | none => .bad
  | _ => .bad
section
variable (P : Nat → List D → Store → R D)
def den : E → Den
  | .var i => ofV (varR i)
  | .non => ofV fun _ S => .ok .non S
  | .bl b => ofV fun _ S => .ok (.bl b) S
  | .int i => ofV fun _ S => .ok (.int i) S
  | .str x => ofV fun _ S => .ok (.str x) S
  | .glb _ d => ofV fun _ S => .ok d S
  | .bin o a b => ofV fun ρ S => ((den a).v ρ S).bind fun x S1 => ((den b).v ρ S1).bind fun y S2 => bin2 o x y S2
  | .neg a => ofV fun ρ S => ((den a).v ρ S).bind negR
  | .cmp o a b => ofVT (fun ρ S => ((den a).v ρ S).bind fun x S1 => ((den b).v ρ S1).bind fun y S2 => cmpR o x y S2)
      (fun ρ S => ((den a).v ρ S).bind fun x S1 => ((den b).v ρ S1).bind fun y S2 => cmpT o x y S2)
  | .chain o1 o2 a b c => ofVT (fun ρ S => ((den a).v ρ S).bind fun x S1 => ((den b).v ρ S1).bind fun y S2 => chainV o1 o2 ((den c).v ρ) x y S2)
      (fun ρ S => ((den a).v ρ S).bind fun x S1 => ((den b).v ρ S1).bind fun y S2 => chainT o1 o2 ((den c).v ρ) x y S2)
  | .not a => ofVT (fun ρ S => ((den a).v ρ S).bind fun x S1 => (truR x S1).bind fun b S2 => .ok (.bl (!b)) S2) (fun ρ S => ((den a).t ρ S).bind fun b S1 => .ok (!b) S1)
  | .and a b => ofVT (fun ρ S => ((den a).v ρ S).bind fun x S1 => andR ((den b).v ρ) x S1) (fun ρ S => ((den a).t ρ S).bind fun t S1 => bif t then (den b).t ρ S1 else .ok false S1)
  | .or a b => ofVT (fun ρ S => ((den a).v ρ S).bind fun x S1 => orR ((den b).v ρ) x S1) (fun ρ S => ((den a).t ρ S).bind fun t S1 => bif t then .ok true S1 else (den b).t ρ S1)
  | .ite c a b => ofVT (fun ρ S => ((den c).t ρ S).bind fun t S1 => bif t then (den a).v ρ S1 else (den b).v ρ S1) (fun _ _ => .bad)
  | .tup as => ofV fun ρ S => ((den as).a ρ S).bind tupR
  | .lst as => ofV fun ρ S => ((den as).a ρ S).bind lstR
  | .nil => { ofA (fun _ S => .ok [] S) (fun _ S => .ok none S) with j := fun acc _ S => .ok acc S }
  | .cons a as => { ofA (fun ρ S => ((den a).v ρ S).bind fun x S1 => ((den as).a ρ S1).bind fun xs S2 => .ok (x :: xs) S2) (fun _ _ => .bad) with j := fun acc ρ S => ((den a).v ρ S).bind fun x S1 => catJ acc x S1 fun acc' => (den as).j acc' ρ }
  | .ix a b => ofV fun ρ S => ((den a).v ρ S).bind fun x S1 => ((den b).v ρ S1).bind fun y S2 => ix2 x y S2
  | .slc a lo hi => ofV fun ρ S => ((den a).v ρ S).bind fun x S1 => ((den lo).o ρ S1).bind fun l S2 => ((den hi).o ρ S2).bind fun h S3 => slc2 x l h S3
  | .call f as => ofV fun ρ S => ((den as).a ρ S).bind fun ds S1 => P f ds S1
  | .bi f as => ofV fun ρ S => ((den as).a ρ S).bind fun ds S1 => biD f ds S1
  | .me m o as => ofV fun ρ S => ((den o).v ρ S).bind fun x S1 => bif meOk m x S1 then ((den as).a ρ S1).bind fun ds S2 => meD m x ds S2 else .bad
  | .isi a ts _ => ofV fun ρ S => ((den a).v ρ S).bind fun x S1 => isiR ts x S1
  | .isx a _ tbl => ofV fun ρ S => ((den a).v ρ S).bind fun x S1 => isxR P tbl x S1
  | .rng as => { ofA (fun _ _ => .bad) (fun _ _ => .bad) with i := fun ρ S => ((den as).a ρ S).bind rngR }
  | .enm as => { ofA (fun _ _ => .bad) (fun _ _ => .bad) with i := fun ρ S => ((den as).a ρ S).bind enmR }
  | .zp as => { ofA (fun _ _ => .bad) (fun _ _ => .bad) with i := fun ρ S => ((den as).a ρ S).bind zipR }
  | .fjs as => ofV fun ρ S => ((den as).j Str.empty ρ S).bind fun y S1 => .ok (.str y) S1
  | .fmt a => ofV fun ρ S => ((den a).v ρ S).bind fmtR
  | .sm m o a => ofV fun ρ S => ((den o).v ρ S).bind fun x S1 => bif isS x then ((den a).v ρ S1).bind fun y S2 => smR m x y S2 else .bad
  | .sm0 m o => ofV fun ρ S => ((den o).v ρ S).bind (sm0R m)
  | .dd0 => ofV fun _ S => .ok (.ref S.length) (S ++ [.dct []])
  | .kd0 => ofV fun _ S => .ok (.ref S.length) (S ++ [.dk []])
  | .dd1 k v => ofV fun ρ S => ((den k).v ρ (S ++ [.dct []])).bind fun x S1 => ((den v).v ρ S1).bind fun y S2 => ddR S.length [(x, y)] S2
  | .dd2 k v k2 v2 => ofV fun ρ S => ((den k).v ρ (S ++ [.dct []])).bind fun x S1 => ((den v).v ρ S1).bind fun y S2 => ((den k2).v ρ S2).bind fun x2 S3 => ((den v2).v ρ S3).bind fun y2 S4 => ddR S.length [(x, y), (x2, y2)] S4
  | .kdd ks vs => ofV fun ρ S => ((den vs).a ρ (S ++ [.dk []])).bind fun ds S1 => kddR S.length ks ds S1
  | .pop0 o => ofV fun ρ S => ((den o).v ρ S).bind pop0R
  | .lk o e => ofV fun ρ S => lkR ((den o).v ρ S) ((den e).v ρ) S
  | .gix _ kvs a => ofV fun ρ S => ((den a).v ρ S).bind (gixR kvs)
  | .gdx _ kvs a => ofV fun ρ S => ((den a).v ρ S).bind (gdxR kvs)
  | .gdin _ kvs neg a => ofVT (fun ρ S => ((den a).v ρ S).bind (gdinR kvs neg)) (fun ρ S => ((den a).v ρ S).bind (gdinT kvs neg))
  | .giin _ kvs neg a => ofVT (fun ρ S => ((den a).v ρ S).bind (giinR kvs neg)) (fun ρ S => ((den a).v ρ S).bind (giinT kvs neg))
  | .bln a => ofV fun ρ S => ((den a).v ρ S).bind blnR
  | .lrv a => ofV fun ρ S => ((den a).v ρ S).bind lrvR
  | .itm _ => ofA (fun _ _ => .bad) (fun _ _ => .bad)
  | .fld c f o => ofV fun ρ S => ((den o).v ρ S).bind (fldR c f)
  | .mth f c m o as => ofV fun ρ S => ((den o).v ρ S).bind fun x S1 => bif mthOk S1 c m x then ((den as).a ρ S1).bind fun ds S2 => P f (x :: ds) S2 else .bad
  | .lc2 own own2 tg src tg2 src2 elt => ofV fun ρ S => ((den src).i ρ S).bind fun it S1 => lc2R own own2 tg tg2 (den src2).i (den elt).v ρ it S1
  | .lc own tg src cond elt => ofV fun ρ S => ((den src).i ρ S).bind fun it S1 => lcR own tg (den cond).t (den elt).v ρ it S1
  | .dc own tg src cond kx vx => ofV fun ρ S => ((den src).i ρ S).bind fun it S1 => dcR own tg (den cond).t (den kx).v (den vx).v ρ it S1
  | .dc2 own own2 tg src tg2 src2 kx vx => ofV fun ρ S => ((den src).i ρ S).bind fun it S1 => dc2R own own2 tg tg2 (den src2).i (den kx).v (den vx).v ρ it S1
  | .rpl6 x f b c y1 z1 y2 z2 d => ofV fun ρ S => ((den f).v ρ S).bind fun a S1 => (bin2 .add (.str x) a S1).bind fun e1 S2 => ((den b).v ρ S2).bind fun e2 S3 => ((den c).v ρ S3).bind fun e3 S4 => ((den f).v ρ S4).bind fun a4 S5 => (rep1R y1 z1 a4 S5).bind fun e4 S6 => ((den f).v ρ S6).bind fun a5 S7 => (rep1R y2 z2 a5 S7).bind fun e5 S8 => ((den d).v ρ S8).bind fun e6 S9 => lstR [e1, e2, e3, e4, e5, e6] S9
def ev (e : E) (ρ : Env) (S : Store) : R D := (den P e).v ρ S
def tst (e : E) (ρ : Env) (S : Store) : R Bool := (den P e).t ρ S
def evs (e : E) (ρ : Env) (S : Store) : R (List D) := (den P e).a ρ S
def evo (e : E) (ρ : Env) (S : Store) : R (Option Int) := (den P e).o ρ S
def itr (e : E) (ρ : Env) (S : Store) : R It := (den P e).i ρ S
def evj (e : E) (acc : Str) (ρ : Env) (S : Store) : R Str := (den P e).j acc ρ S
end

/-! ### statements -/
/-- statements -/
inductive C where
  | skip | seq (a b : C) | ex (e : E) | asg (tg e : E) | aug (i : Nat) (o : B2) (e : E) | ret (e : E) | retN
  | ite (c : E) (a b : C) | whl (n : Nat) (c : E) (b : C) | for (tg it : E) (b : C) | brk | cnt | pass
  | raise (c : Nat) | asg2 (i j : Nat) (e : E) | any
  | lk (o : E) (b : C) | fau (c f : Str) (o : E) (p : B2) (e : E)
  | fst (c f : Str) (o e : E) | ist (o i e : E) | del (o i : E) | fst2 (c f g : Str) (o e : E)
  | dsp (i : Nat) (x : Str) (tbl : List (Str × Str × Nat)) (e as : E)
  | tryAs (body : C) (y : Str) (tbl : List Bool) (i : Nat) (suite : C)
  | tryOn (body : C) (y : Str) (tbl : List Bool) (suite : C)
  | tryAs2 (body : C) (y1 : Str) (tbl1 : List Bool) (y2 : Str) (tbl2 : List Bool) (i : Nat) (s1 s2 : C)
def O.seq (o : O) (k : Env → Store → O) : O := match o with
  | .nx ρ S => k ρ S
  | o => o
def forL (ck : Store → Bool) (f : D → Env → Store → O) : List D → Env → Store → O
  | [], ρ, S => bif ck S then .nx ρ S else .bad
  | x :: xs, ρ, S => bif ck S then (match f x ρ S with
    | .nx ρ' S' => forL ck f xs ρ' S'
    | .ct ρ' S' => forL ck f xs ρ' S'
    | .bk ρ' S' => .nx ρ' S'
    | o => o) else .bad
def whlL (t : Env → Store → R Bool) (f : Env → Store → O) : Nat → Env → Store → O
  | 0, _, _ => .bad
  | n + 1, ρ, S => O.of ρ (t ρ S) fun b S1 => bif b then (match f ρ S1 with
    | .nx ρ' S' => whlL t f n ρ' S'
    | .ct ρ' S' => whlL t f n ρ' S'
    | .bk ρ' S' => .nx ρ' S'
    | o => o) else .nx ρ S1
/-- a store through a target -/
def asgO (tg : E) (d : D) (ρ : Env) (S : Store) : O := match asgT tg d ρ with
  | some ρ' => .nx ρ' S
  | none => .bad
/-- name op= e: of ints, or of texts with + -/
def augB (o : B2) (x y : D) (S : Store) : R D := match o, x, y with
  | .add, .int i, .int j => .ok (.int (i + j)) S
  | .add, .str a, .str b => if a.length + b.length ≤ linesz then .ok (.str (a ++ b)) S else .bad
  | .sub, .int i, .int j => .ok (.int (i - j)) S
  | _, _, _ => .bad
/-- o.f = d -/
def fstO (c f : Str) (d x : D) (ρ : Env) (S : Store) : O := match x with
  | .ref n => match insOf S c (.ref n) with
    | some fs => if fs.length < 1000 then .nx ρ (S.set n (.ins c (putD f d fs))) else .bad
    | none => .bad
  | _ => .bad
/-- a walked dict may be written again -/
def O.unl (n : Nat) (kvs : List (List Int × D)) : O → O
  | .nx ρ S => if S[n]? = some (.hid kvs) then .nx ρ (S.set n (.dct kvs)) else .bad
  | .bk ρ S => if S[n]? = some (.hid kvs) then .bk ρ (S.set n (.dct kvs)) else .bad
  | .ct ρ S => if S[n]? = some (.hid kvs) then .ct ρ (S.set n (.dct kvs)) else .bad
  | .ret d S => if S[n]? = some (.hid kvs) then .ret d (S.set n (.dct kvs)) else .bad
  | .exc c fs ρ S => .exc c fs ρ S
  | .bad => .bad
def lkO (r : R D) (f : Store → O) (S : Store) : O := match r with
  | .ok (.ref n) _ => match S[n]? with
    | some (.dct kvs) => (f (S.set n (.hid kvs))).unl n kvs
    | some (.hid _) => f S
    | _ => .bad
  | _ => .bad
/-- o[i] = d -/
def istO (d x i : D) (ρ : Env) (S : Store) : O := match x, i with
  | .ref n, .int k => match S[n]? with
    | some (.lst xs) => match L2.ixN xs.length k with | some j => .nx ρ (S.set n (.lst (xs.set j d))) | none => .bad
    | _ => .bad
  | .ref n, .tup ks => match S[n]? with
    | some (.dct kvs) => match intsD ks with
      | some k => if kvs.length < linesz then .nx ρ (S.set n (.dct (dPut kvs k d))) else .bad
      | none => .bad
    | _ => .bad
  | .ref n, .str z => match S[n]? with
    | some (.dk kvs) => if kvs.length < linesz then .nx ρ (S.set n (.dk (kPut kvs (.inr z) d))) else .bad
    | _ => .bad
  | _, _ => .bad
/-- del o[i] -/
def delO (x i : D) (ρ : Env) (S : Store) : O := match x, i with
  | .ref n, .tup ks => match S[n]? with
    | some (.dct kvs) => match intsD ks with
      | some k => if (dGet kvs k).isSome = true then .nx ρ (S.set n (.dct (dDel kvs k))) else .bad
      | none => .bad
    | _ => .bad
  | _, _ => .bad
/-- o.f, o.g = d -/
def fst2O (c f g : Str) (o : Env → Store → R D) (d : D) (ρ : Env) (S : Store) : O := match d with
  | .tup [a, b] => O.of ρ (o ρ S) fun x S1 => match fstO c f a x ρ S1 with
    | .nx ρ2 S2 => O.of ρ2 (o ρ2 S2) fun y S3 => fstO c g b y ρ2 S3
    | _ => .bad
  | _ => .bad
def O.unset (i : Nat) : O → O
  | .nx ρ S => .nx (ρ.set i none) S
  | .bk ρ S => .bk (ρ.set i none) S
  | .ct ρ S => .ct (ρ.set i none) S
  | .ret d S => .ret d S
  | _ => .bad
def O.noexc : O → O
  | .exc .. => .bad
  | o => o
/-- a suite's outcome, wherever the exception lies -/
noncomputable def suiteO (f : Nat → O) : O := open Classical in if (∀ a, f a = f 0) then f 0 else .bad
def catchO (o : O) (tbl : List Bool) (k : Nat → Env → Store → O) : O := match o with
  | .exc c fs ρ S => (match tbl[c]?, fs with
    | some true, [] => k c ρ S
    | some false, fs => .exc c fs ρ S
    | _, _ => .bad)
  | o => o
/-- two clauses -/
def catchO2 (o : O) (tbl1 tbl2 : List Bool) (k1 k2 : Nat → Env → Store → O) : O := match o with
  | .exc c fs ρ S => (match tbl1[c]?, fs with
    | some true, [] => k1 c ρ S
    | some false, fs => catchO (.exc c fs ρ S) tbl2 k2
    | _, _ => .bad)
  | o => o
/-- a def of a dict of the top, by a text -/
def dspO (tbl : List (Str × Str × Nat)) (d : D) (k : Nat → O) : O := match d with
  | .str z => match tbl.lookup z with
    | some p => k p.2
    | none => .bad
  | _ => .bad
noncomputable def run (P : Nat → List D → Store → R D) : C → Env → Store → O
  | .skip, ρ, S => .nx ρ S
  | .pass, ρ, S => .nx ρ S
  | .seq a b, ρ, S => (run P a ρ S).seq (run P b)
  | .ex e, ρ, S => O.of ρ (ev P e ρ S) fun _ S1 => .nx ρ S1
  | .asg tg e, ρ, S => O.of ρ (ev P e ρ S) fun d S1 => asgO tg d ρ S1
  | .any, _, _ => .bad
  | .asg2 i j e, ρ, S => O.of ρ (ev P e ρ S) fun d S1 => .nx ((ρ.set i (some d)).set j (some d)) S1
  | .aug i o e, ρ, S => match ρ[i]? with
    | some (some x) => O.of ρ (ev P e ρ S) fun d S1 => O.of ρ (augB o x d S1) fun z S2 => .nx (ρ.set i (some z)) S2
    | _ => .bad
  | .ret e, ρ, S => O.of ρ (ev P e ρ S) fun d S1 => .ret d S1
  | .retN, _, S => .ret .non S
  | .ite c a b, ρ, S => O.of ρ (tst P c ρ S) fun t S1 => bif t then run P a ρ S1 else run P b ρ S1
  | .whl n c b, ρ, S => whlL (tst P c) (run P b) n ρ S
  | .for tg it b, ρ, S => O.of ρ (itr P it ρ S) fun w S1 => forL (ckS w.lk) (fun x ρ S => (asgO tg x ρ S).seq (run P b)) w.ds ρ S1
  | .brk, ρ, S => .bk ρ S
  | .cnt, ρ, S => .ct ρ S
  | .raise c, ρ, S => .exc c [] ρ S
  | .fst c f o e, ρ, S => O.of ρ (ev P e ρ S) fun d S1 => O.of ρ (ev P o ρ S1) fun x S2 => fstO c f d x ρ S2
  | .ist o i e, ρ, S => O.of ρ (ev P e ρ S) fun d S1 => O.of ρ (ev P o ρ S1) fun x S2 => O.of ρ (ev P i ρ S2) fun j S3 => istO d x j ρ S3
  | .fst2 c f g o e, ρ, S => O.of ρ (ev P e ρ S) fun d S1 => fst2O c f g (ev P o) d ρ S1
  | .lk o b, ρ, S => lkO (ev P o ρ S) (run P b ρ) S
  | .fau c f o p e, ρ, S => O.of ρ (ev P o ρ S) fun x S1 => O.of ρ (fldR c f x S1) fun v S2 => O.of ρ (ev P e ρ S2) fun d S3 => O.of ρ (augB p v d S3) fun z S4 => fstO c f z x ρ S4
  | .del o i, ρ, S => O.of ρ (ev P o ρ S) fun x S1 => O.of ρ (ev P i ρ S1) fun j S2 => delO x j ρ S2
  | .dsp i _ tbl e as, ρ, S => bif decide (i < ρ.length) then (O.of ρ (ev P e ρ S) fun d S1 => dspO tbl d fun f => O.of (ρ.set i none) (evs P as (ρ.set i none) S1) fun ds S2 => O.of (ρ.set i none) (P f ds S2) fun v S3 => .ret v S3) else .bad
  | .tryAs b _ tbl i s, ρ, S => catchO (run P b ρ S) tbl fun c ρ' S' => (suiteO fun a => run (hotP c a) s (ρ'.set i (some (.exc c a))) S').unset i
  | .tryOn b _ tbl s, ρ, S => catchO (run P b ρ S) tbl fun c ρ' S' => (suiteO fun a => run (hotP c a) s ρ' S').noexc
  | .tryAs2 b _ tbl1 _ tbl2 i s1 s2, ρ, S => catchO2 (run P b ρ S) tbl1 tbl2 (fun c ρ' S' => (suiteO fun a => run (hotP c a) s1 (ρ'.set i (some (.exc c a))) S').unset i) (fun c ρ' S' => (suiteO fun a => run (hotP c a) s2 (ρ'.set i (some (.exc c a))) S').unset i)

/-! ### defs -/
structure Fn where
  np : Nat
  nl : Nat
  body : C
  /-- a constructor: the class, the number of its __init__ -/
  ctor : Option (Str × Nat) := none
/-- C(..): a new instance, then __init__ -/
def mkR (c : Str) (Q : List D → Store → R D) (ds : List D) (S : Store) : R D :=
  (Q (.ref S.length :: ds) (S ++ [.ins c []])).bind fun v S2 => if v = .non then .ok (.ref S.length) S2 else .bad
mutual
/-- the cells that data name -/
def D.refs : D → List Nat
  | .tup ds => D.refsL ds
  | .ref n => [n]
  | _ => []
def D.refsL : List D → List Nat
  | [] => []
  | d :: ds => D.refs d ++ D.refsL ds
end
mutual
def D.ren (f : Nat → Nat) : D → D
  | .tup ds => .tup (D.renL f ds)
  | .ref n => .ref (f n)
  | d => d
def D.renL (f : Nat → Nat) : List D → List D
  | [] => []
  | d :: ds => D.ren f d :: D.renL f ds
end
def Cell.refs : Cell → List Nat
  | .lst ds => D.refsL ds
  | .ro ds => D.refsL ds
  | .dct kvs => D.refsL (kvs.map (·.2))
  | .dk kvs => D.refsL (kvs.map (·.2))
  | .hid kvs => D.refsL (kvs.map (·.2))
  | .ins _ fs => D.refsL (fs.map (·.2))
def Cell.ren (f : Nat → Nat) : Cell → Cell
  | .lst ds => .lst (D.renL f ds)
  | .ro ds => .ro (D.renL f ds)
  | .dct kvs => .dct ((kvs.map (·.1)).zip (D.renL f (kvs.map (·.2))))
  | .dk kvs => .dk ((kvs.map (·.1)).zip (D.renL f (kvs.map (·.2))))
  | .hid kvs => .hid ((kvs.map (·.1)).zip (D.renL f (kvs.map (·.2))))
  | .ins c fs => .ins c ((fs.map (·.1)).zip (D.renL f (fs.map (·.2))))
/-- the cells from n0 on that are met from a list of them: fuel turns -/
def reach (S : Store) (n0 : Nat) : Nat → List Nat → List Nat → List Nat
  | 0, _, acc => acc
  | _ + 1, [], acc => acc
  | k + 1, n :: r, acc => if n < n0 ∨ n ∈ acc then reach S n0 k r acc else
    match S[n]? with
    | some c => reach S n0 k (c.refs ++ r) (acc ++ [n])
    | none => reach S n0 k r acc
def renOf (n0 : Nat) (L : List Nat) (n : Nat) : Nat := if n < n0 then n else n0 + L.findIdx (· == n)
/-- the cells that the written elder cells name -/
def chg : Store → Store → List Nat
  | c :: S0, e :: S => (if c = e then [] else e.refs) ++ chg S0 S
  | _, _ => []
/-- the elder cells: the written ones renamed -/
def keepE (f : Nat → Nat) : Store → Store → Store
  | c :: S0, e :: S => (if c = e then e else e.ren f) :: keepE f S0 S
  | _, _ => []
/-- the cells L behind the elder ones, renamed -/
def keepS (S0 S : Store) (L : List Nat) : Store := keepE (renOf S0.length L) S0 S ++ L.filterMap fun n => (S[n]?).map (Cell.ren (renOf S0.length L))
def keepC (S0 S : Store) (rs L : List Nat) : Bool :=
  decide (S0.length ≤ S.length) && (L.flatMap fun n => match S[n]? with | some c => c.refs | none => []).all (fun n => decide (n < S0.length) || decide (n ∈ L)) && rs.all (fun n => decide (n < S0.length) || decide (n ∈ L)) && decide L.Nodup
    && L.all (fun n => decide (S0.length ≤ n)) && L.all (fun n => decide (n < S.length))
/-- behind a call: what the def made and nobody names is forgotten -/
def fin (S0 : Store) (d : D) (S : Store) : R D :=
  let rs := d.refs ++ chg S0 S
  let L := reach S S0.length 100000 rs []
  if keepC S0 S rs L then .ok (d.ren (renOf S0.length L)) (keepS S0 S L) else .ok d S
def finX (S0 S : Store) : Store :=
  let rs := chg S0 S
  let L := reach S S0.length 100000 rs []
  if keepC S0 S rs L then keepS S0 S L else S
def finO (S0 : Store) (o : O) : R D := match o with
  | .nx _ S => fin S0 .non S
  | .ret d S => fin S0 d S
  | .exc c fs _ S => .exc c fs (if fs.isEmpty then finX S0 S else S)
  | _ => .bad
/-- a call of the f-th def, k calls deep -/
noncomputable def callN (Fs : List Fn) : Nat → Nat → List D → Store → R D
  | 0, _, _, _ => .bad
  | k + 1, f, ds, S => match Fs[f]? with
    | some fn => match fn.ctor with
      | some (c, g) => mkR c (callN Fs k g) ds S
      | none => if ds.length = fn.np then finO S (run (callN Fs k) fn.body (ds.map some ++ List.replicate (fn.nl - ds.length) none) S) else .bad
    | none => .bad
end Ng

set_option Elab.async false
set_option linter.all false
set_option maxRecDepth 100000
set_option maxHeartbeats 2000000
/-! The engine's data and stores as they lie in the abstract heap. -/
namespace Ng
open PySem PySem.Spec PyProof.Rows L2

abbrev Mu := List Addr
mutual
inductive RepV (K : PySem.W.Frag) (H : Hp) (μ : Mu) : D → V → Prop
  | non : RepV K H μ .non .non
  | bl (b : Bool) : RepV K H μ (.bl b) (.bl b)
  | int (i : Int) : RepV K H μ (.int i) (.int i)
  | str (x : Str) : RepV K H μ (.str x) (.str x)
  | tup {a : Addr} {vs : List V} {ds : List D} : SqT K H a vs → RepVs K H μ ds vs → RepV K H μ (.tup ds) (.ref a)
  | ref {n : Nat} {a : Addr} : μ[n]? = some a → RepV K H μ (.ref n) (.ref a)
  | exc (c a : Nat) : RepV K H μ (.exc c a) (.ref a)
inductive RepVs (K : PySem.W.Frag) (H : Hp) (μ : Mu) : List D → List V → Prop
  | nil : RepVs K H μ [] []
  | cons {d : D} {v : V} {ds : List D} {vs : List V} : RepV K H μ d v → RepVs K H μ ds vs → RepVs K H μ (d :: ds) (v :: vs)
end

/-- what the later heap still knows -/
structure Le0 (K : PySem.W.Frag) (μ : Mu) (H : Hp) (μ' : Mu) (H' : Hp) : Prop where
  pre : ∃ t, μ' = μ ++ t
  tup : ∀ a xs, SqT K H a xs → SqT K H' a xs
theorem Le0.at {K μ H μ' H'} (l : Le0 K μ H μ' H') {n : Nat} {a : Addr} (h : μ[n]? = some a) : μ'[n]? = some a := by
  obtain ⟨t, rfl⟩ := l.pre
  have hn : n < μ.length := (List.getElem?_eq_some_iff.mp h).1
  rw [List.getElem?_append_left hn]; exact h
/-- dicts that are walked -/
def Fz (H H' : Hp) : Prop := ∀ (a : Addr) (o : Obj) (xs : List (List Int × Addr × Value)), H a = some (.frz o (DX a xs)) → H' a = some (.frz o (DX a xs))
structure Le (K : PySem.W.Frag) (μ : Mu) (H : Hp) (μ' : Mu) (H' : Hp) : Prop where
  pre : ∃ t, μ' = μ ++ t
  tup : ∀ a xs, SqT K H a xs → SqT K H' a xs
  fz : Fz H H'
theorem Le.l0 {K μ H μ' H'} (l : Le K μ H μ' H') : Le0 K μ H μ' H' := ⟨l.pre, l.tup⟩
theorem Le.refl {K μ H} : Le K μ H μ H := ⟨⟨[], by simp⟩, fun _ _ h => h, fun _ _ _ h => h⟩
theorem Le.trans {K μ H μ1 H1 μ2 H2} (a : Le K μ H μ1 H1) (b : Le K μ1 H1 μ2 H2) : Le K μ H μ2 H2 := by
  obtain ⟨t, rfl⟩ := a.pre
  obtain ⟨u, rfl⟩ := b.pre
  exact ⟨⟨t ++ u, by simp⟩, fun x xs h => b.tup x xs (a.tup x xs h), fun x o xs h => b.fz x o xs (a.fz x o xs h)⟩
theorem Le.at {K μ H μ' H'} (l : Le K μ H μ' H') {n : Nat} {a : Addr} (h : μ[n]? = some a) : μ'[n]? = some a := by
  obtain ⟨t, rfl⟩ := l.pre
  rw [List.getElem?_append_left (List.getElem?_eq_some_iff.mp h).1]
  exact h
section
variable {K : PySem.W.Frag} {μ μ' : Mu} {H H' : Hp}
mutual
theorem RepV.mono0 (l : Le0 K μ H μ' H') : ∀ {d : D} {v : V}, RepV K H μ d v → RepV K H' μ' d v
  | _, _, .non => .non
  | _, _, .bl b => .bl b
  | _, _, .int i => .int i
  | _, _, .str x => .str x
  | _, _, .tup h r => .tup (l.tup _ _ h) (RepVs.mono0 l r)
  | _, _, .ref h => .ref (l.at h)
  | _, _, .exc c a => .exc c a
theorem RepVs.mono0 (l : Le0 K μ H μ' H') : ∀ {ds : List D} {vs : List V}, RepVs K H μ ds vs → RepVs K H' μ' ds vs
  | _, _, .nil => .nil
  | _, _, .cons h r => .cons (RepV.mono0 l h) (RepVs.mono0 l r)
end
theorem RepV.mono (l : Le K μ H μ' H') {d : D} {v : V} (r : RepV K H μ d v) : RepV K H' μ' d v := r.mono0 l.l0
theorem RepVs.mono (l : Le K μ H μ' H') {ds : List D} {vs : List V} (r : RepVs K H μ ds vs) : RepVs K H' μ' ds vs := r.mono0 l.l0
theorem RepVs.length : ∀ {ds : List D} {vs : List V}, RepVs K H μ ds vs → vs.length = ds.length
  | _, _, .nil => rfl
  | _, _, .cons _ r => by simp [RepVs.length r]
theorem RepVs.append : ∀ {ds es : List D} {vs ws : List V}, RepVs K H μ ds vs → RepVs K H μ es ws → RepVs K H μ (ds ++ es) (vs ++ ws)
  | _, _, _, _, .nil, s => s
  | _, _, _, _, .cons h r, s => .cons h (RepVs.append r s)
theorem RepVs.get : ∀ {ds : List D} {vs : List V} {i : Nat} {d : D}, RepVs K H μ ds vs → ds[i]? = some d → ∃ v, vs[i]? = some v ∧ RepV K H μ d v
  | _, _, i, d, .nil, e => by simp at e
  | _, _, 0, d, .cons (v := v) h _, e => ⟨v, rfl, by simp at e; rw [← e]; exact h⟩
  | _, _, i + 1, d, .cons h r, e => by
    obtain ⟨v, h1, h2⟩ := RepVs.get (i := i) (d := d) r (by simpa using e)
    exact ⟨v, by simpa using h1, h2⟩
theorem RepVs.drop : ∀ {ds : List D} {vs : List V} (n : Nat), RepVs K H μ ds vs → RepVs K H μ (ds.drop n) (vs.drop n)
  | _, _, 0, r => r
  | _, _, _ + 1, .nil => .nil
  | _, _, n + 1, .cons _ r => RepVs.drop n r
theorem RepVs.take : ∀ {ds : List D} {vs : List V} (n : Nat), RepVs K H μ ds vs → RepVs K H μ (ds.take n) (vs.take n)
  | _, _, 0, _ => .nil
  | _, _, _ + 1, .nil => .nil
  | _, _, n + 1, .cons h r => .cons h (RepVs.take n r)
theorem RepVs.isEmpty {ds : List D} {vs : List V} (r : RepVs K H μ ds vs) : vs.isEmpty = ds.isEmpty := by
  cases r <;> rfl
theorem RepVs.rep {ds : List D} {vs : List V} (r : RepVs K H μ ds vs) : ∀ k : Nat, RepVs K H μ (List.replicate k ds).flatten (List.replicate k vs).flatten
  | 0 => .nil
  | k + 1 => by
    simp only [List.replicate_succ, List.flatten_cons]
    exact r.append (RepVs.rep r k)

/-- a list that is never written -/
def RoL (K : PySem.W.Frag) (H : Hp) (a : Addr) (vs : List V) : Prop :=
  (∃ o, H a = some (.frz o (.lst vs))) ∨
    ∃ (o : Obj) (its : Array Value) (n : Nat), K.lookup a = some o ∧ o.cls = .type "list" ∧ o.dict = none ∧ o.data = .seq its n ∧ its.size ≤ sizeLine ∧ Vals vs its.toList
theorem RoL.sq {a : Addr} {vs : List V} (h : RoL K H a vs) : SqL K H a vs := by
  rcases h with ⟨o, h⟩ | h
  · exact .inl (.inr ⟨o, h⟩)
  · exact .inr h
/-- a cell and what the heap holds: dicts, instances -/
def RelC (K : PySem.W.Frag) (H : Hp) (μ : Mu) : Cell → HO → Prop
  | .ins x fs, .ins C _ gs => PySem.W.nsIn K mainGlobals x = some (some (.ref C)) ∧ gs.map (·.1) = fs.map (·.1) ∧ RepVs K H μ (fs.map (·.2)) (gs.map (·.2))
  | .dk kvs, .dK gs => gs.map (·.1) = kvs.map (·.1) ∧ RepVs K H μ (kvs.map (·.2)) (gs.map (·.2))
  | _, _ => False
/-- the pairs of a dict and its entries -/
def KV1 (K : PySem.W.Frag) (H : Hp) (μ : Mu) (p : List Int × D) (q : List Int × Addr × Value) : Prop := p.1 = q.1 ∧ SqT K H q.2.1 (q.1.map V.int) ∧ ∃ v, RepV K H μ p.2 v ∧ RelV v q.2.2
abbrev KVX (K : PySem.W.Frag) (H : Hp) (μ : Mu) (kvs : List (List Int × D)) (xs : List (List Int × Addr × Value)) : Prop := Paired (KV1 K H μ) kvs xs
theorem KVX.mono0 {K : PySem.W.Frag} {H H' : Hp} {μ μ' : Mu} {kvs : List (List Int × D)} {xs : List (List Int × Addr × Value)} (l : Le0 K μ H μ' H') (r : KVX K H μ kvs xs) : KVX K H' μ' kvs xs :=
  Paired.mapP r fun _ _ ⟨h1, h2, v, h3, h4⟩ => ⟨h1, l.tup _ _ h2, v, h3.mono0 l, h4⟩
theorem KVX.mono {K : PySem.W.Frag} {H H' : Hp} {μ μ' : Mu} {kvs : List (List Int × D)} {xs : List (List Int × Addr × Value)} (l : Le K μ H μ' H') (r : KVX K H μ kvs xs) : KVX K H' μ' kvs xs :=
  Paired.mapP r fun _ _ ⟨h1, h2, v, h3, h4⟩ => ⟨h1, l.tup _ _ h2, v, h3.mono l, h4⟩
def RepC (K : PySem.W.Frag) (H : Hp) (μ : Mu) : Cell → Addr → Prop
  | .lst ds, a => ∃ vs, H a = some (.lst vs) ∧ RepVs K H μ ds vs
  | .ro ds, a => ∃ vs, RoL K H a vs ∧ RepVs K H μ ds vs
  | .dct kvs, a => ∃ xs, H a = some (DX a xs) ∧ KVX K H μ kvs xs
  | .dk kvs, a => ∃ o, H a = some o ∧ RelC K H μ (.dk kvs) o
  | .hid kvs, a => ∃ o xs, H a = some (.frz o (DX a xs)) ∧ KVX K H μ kvs xs
  | .ins x fs, a => ∃ o, H a = some o ∧ RelC K H μ (.ins x fs) o
/-- neither a tuple nor a thing that is only read -/
def NT (o : HO) : Prop := (∀ xs, o ≠ .tup xs) ∧ ∀ q u, o ≠ .frz q u
theorem NT.lst {vs : List V} : NT (.lst vs) := ⟨(fun _ z => nomatch z), (fun _ _ z => nomatch z)⟩
theorem RelC.nt {K : PySem.W.Frag} {H : Hp} {μ : Mu} {c : Cell} {o : HO} (r : RelC K H μ c o) : NT o := by
  refine ⟨fun xs z => ?_, fun q u z => ?_⟩ <;> (subst z; cases c <;> exact r)
theorem RelC.mono0 {K : PySem.W.Frag} {H H' : Hp} {μ μ' : Mu} {c : Cell} {o : HO} (l : Le0 K μ H μ' H') (r : RelC K H μ c o) : RelC K H' μ' c o := by
  cases c <;> cases o <;> first | exact r | skip
  · obtain ⟨h1, h2⟩ := r; exact ⟨h1, h2.mono0 l⟩
  · obtain ⟨h0, h1, h2⟩ := r; exact ⟨h0, h1, h2.mono0 l⟩
theorem RelC.mono {K : PySem.W.Frag} {H H' : Hp} {μ μ' : Mu} {c : Cell} {o : HO} (l : Le K μ H μ' H') (r : RelC K H μ c o) : RelC K H' μ' c o := by
  cases c <;> cases o <;> first | exact r | skip
  · obtain ⟨h1, h2⟩ := r; exact ⟨h1, h2.mono l⟩
  · obtain ⟨h0, h1, h2⟩ := r; exact ⟨h0, h1, h2.mono l⟩
def Cell.isRo : Cell → Bool
  | .ro _ => true
  | _ => false
structure RepS (K : PySem.W.Frag) (H : Hp) (μ : Mu) (S : Store) : Prop where
  len : μ.length = S.length
  cell : ∀ (n : Nat) (c : Cell) (a : Addr), S[n]? = some c → μ[n]? = some a → RepC K H μ c a
  apart : ∀ (m n : Nat) (a : Addr) (c e : Cell), m ≠ n → μ[m]? = some a → μ[n]? = some a → S[m]? = some c → S[n]? = some e → c.isRo = true ∨ e.isRo = true
def RepE (K : PySem.W.Frag) (H : Hp) (μ : Mu) (σ : L2.St) (ρ : Env) : Prop := σ.length = ρ.length ∧ ∀ (i : Nat) d, ρ[i]? = some (some d) → ∃ v, σ[i]? = some (some v) ∧ RepV K H μ d v
structure Sim (K : PySem.W.Frag) (μ : Mu) (σ : L2.St) (H : Hp) (ρ : Env) (S : Store) : Prop where
  e : RepE K H μ σ ρ
  s : RepS K H μ S
theorem RepE.mono {σ : L2.St} {ρ : Env} (l : Le K μ H μ' H') (r : RepE K H μ σ ρ) : RepE K H' μ' σ ρ :=
  ⟨r.1, fun i d h => let ⟨v, h1, h2⟩ := r.2 i d h; ⟨v, h1, h2.mono l⟩⟩
theorem RepE.mono0 {σ : L2.St} {ρ : Env} (l : Le0 K μ H μ' H') (r : RepE K H μ σ ρ) : RepE K H' μ' σ ρ :=
  ⟨r.1, fun i d h => let ⟨v, h1, h2⟩ := r.2 i d h; ⟨v, h1, h2.mono0 l⟩⟩
theorem RepS.at {S : Store} (r : RepS K H μ S) {n : Nat} {c : Cell} (h : S[n]? = some c) : ∃ a, μ[n]? = some a ∧ RepC K H μ c a := by
  have hn : n < μ.length := by rw [r.len]; exact (List.getElem?_eq_some_iff.mp h).1
  exact ⟨μ[n], List.getElem?_eq_getElem hn, r.cell n c _ h (List.getElem?_eq_getElem hn)⟩

/-! ### heaps that grow -/
theorem sqT_new {a p : Addr} {xs : List V} {o : HO} (hp : H p = none) (h : SqT K H a xs) : SqT K (upd H p o) a xs := by
  rcases h with (h | ⟨u, h⟩) | h
  · exact .inl (.inl (by rw [upd_ne (ne_of_none h hp)]; exact h))
  · exact .inl (.inr ⟨u, by rw [upd_ne (ne_of_none h hp)]; exact h⟩)
  · exact .inr h
theorem roL_new {a p : Addr} {xs : List V} {o : HO} (hp : H p = none) (h : RoL K H a xs) : RoL K (upd H p o) a xs := by
  rcases h with ⟨u, h⟩ | h
  · exact .inl ⟨u, by rw [upd_ne (ne_of_none h hp)]; exact h⟩
  · exact .inr h
theorem fz_new {p : Addr} {o : HO} (hp : H p = none) : Fz H (upd H p o) := fun a u xs h => by rw [upd_ne (ne_of_none h hp)]; exact h
theorem fz_updC {p : Addr} {o o0 : HO} (hp : H p = some o0) (nt : NT o0) : Fz H (upd H p o) := fun a u xs h => by rw [upd_ne (ne_of h hp (nt.2 _ _).symm)]; exact h
theorem le_new {p : Addr} {o : HO} (hp : H p = none) : Le K μ H μ (upd H p o) := ⟨⟨[], by simp⟩, fun _ _ h => sqT_new hp h, fz_new hp⟩
theorem le_newP {p : Addr} {o : HO} (hp : H p = none) : Le K μ H (μ ++ [p]) (upd H p o) := ⟨⟨[p], rfl⟩, fun _ _ h => sqT_new hp h, fz_new hp⟩
/-- a new object that no cell stands for -/
theorem RepC.new {p a : Addr} {o : HO} {c : Cell} (hp : H p = none) (r : RepC K H μ c a) : RepC K (upd H p o) μ c a := by
  cases c with
  | lst ds => obtain ⟨vs, h, r⟩ := r; exact ⟨vs, by rw [upd_ne (ne_of_none h hp)]; exact h, r.mono (le_new hp)⟩
  | ro ds => obtain ⟨vs, h, r⟩ := r; exact ⟨vs, roL_new hp h, r.mono (le_new hp)⟩
  | dct _ => obtain ⟨q, h, r⟩ := r; exact ⟨q, by rw [upd_ne (ne_of_none h hp)]; exact h, r.mono (le_new hp)⟩
  | dk _ => obtain ⟨q, h, r⟩ := r; exact ⟨q, by rw [upd_ne (ne_of_none h hp)]; exact h, r.mono (le_new hp)⟩
  | hid _ => obtain ⟨o, q, h, r⟩ := r; exact ⟨o, q, by rw [upd_ne (ne_of_none h hp)]; exact h, r.mono (le_new hp)⟩
  | ins _ _ => obtain ⟨q, h, r⟩ := r; exact ⟨q, by rw [upd_ne (ne_of_none h hp)]; exact h, r.mono (le_new hp)⟩
theorem RepC.more {t : Mu} {a : Addr} {c : Cell} (r : RepC K H μ c a) : RepC K H (μ ++ t) c a := by
  have l : Le K μ H (μ ++ t) H := ⟨⟨t, rfl⟩, fun _ _ h => h, fun _ _ _ h => h⟩
  cases c with
  | lst ds => obtain ⟨vs, h, r⟩ := r; exact ⟨vs, h, r.mono l⟩
  | ro ds => obtain ⟨vs, h, r⟩ := r; exact ⟨vs, h, r.mono l⟩
  | dct _ => obtain ⟨q, h, r⟩ := r; exact ⟨q, h, r.mono l⟩
  | dk _ => obtain ⟨q, h, r⟩ := r; exact ⟨q, h, r.mono l⟩
  | hid _ => obtain ⟨o, q, h, r⟩ := r; exact ⟨o, q, h, r.mono l⟩
  | ins _ _ => obtain ⟨q, h, r⟩ := r; exact ⟨q, h, r.mono l⟩
theorem RepS.new {S : Store} {p : Addr} {o : HO} (hp : H p = none) (r : RepS K H μ S) : RepS K (upd H p o) μ S :=
  ⟨r.len, fun n c a h1 h2 => (r.cell n c a h1 h2).new hp, r.apart⟩
/-- a mutable cell's address is tracked -/
theorem RepC.tracked {a : Addr} {c : Cell} (r : RepC K H μ c a) (h : c.isRo = false) : H a ≠ none := by
  cases c with
  | lst ds => obtain ⟨vs, h, _⟩ := r; rw [h]; simp
  | ro ds => simp [Cell.isRo] at h
  | dct _ => obtain ⟨q, h, _⟩ := r; rw [h]; simp
  | dk _ => obtain ⟨q, h, _⟩ := r; rw [h]; simp
  | hid _ => obtain ⟨o, q, h, _⟩ := r; rw [h]; simp
  | ins _ _ => obtain ⟨q, h, _⟩ := r; rw [h]; simp
theorem get_snoc {α : Type} {l : List α} {x : α} {n : Nat} {y : α} (h : (l ++ [x])[n]? = some y) : l[n]? = some y ∨ (n = l.length ∧ y = x) := by
  by_cases hn : n < l.length
  · rw [List.getElem?_append_left hn] at h; exact .inl h
  · rw [List.getElem?_append_right (by omega)] at h
    have : n - l.length = 0 := by
      cases e : n - l.length with
      | zero => rfl
      | succ k => rw [e] at h; simp at h
    rw [this] at h
    simp at h
    exact .inr ⟨by omega, h.symm⟩
theorem snoc_at {α : Type} {l : List α} {x : α} : (l ++ [x])[l.length]? = some x := by simp
/-- a new cell -/
theorem RepS.alloc {S : Store} {p : Addr} {o : HO} {c : Cell} (hp : H p = none) (r : RepS K H μ S) (new : RepC K (upd H p o) (μ ++ [p]) c p) : RepS K (upd H p o) (μ ++ [p]) (S ++ [c]) := by
  refine ⟨by simp [r.len], fun n e a h1 h2 => ?_, fun m n a e f hmn h1 h2 h3 h4 => ?_⟩
  · rcases get_snoc h1 with h1 | ⟨rfl, rfl⟩
    · rcases get_snoc h2 with h2 | ⟨rfl, rfl⟩
      · exact ((r.cell n e a h1 h2).new hp).more
      · have := (List.getElem?_eq_some_iff.mp h1).1; rw [r.len] at this; omega
    · rw [← r.len, snoc_at] at h2
      cases h2
      exact new
  · have key : ∀ (k : Nat) (g : Cell), μ[k]? = some p → S[k]? = some g → g.isRo = true := fun k g h5 h6 => by
      have rc := r.cell k g p h6 h5
      cases hg : g.isRo with
      | true => rfl
      | false => exact absurd hp (rc.tracked hg)
    rcases get_snoc h1 with g1 | ⟨e1, e2⟩
    · rcases get_snoc h2 with g2 | ⟨e3, e4⟩
      · have hm := (List.getElem?_eq_some_iff.mp g1).1
        have hn := (List.getElem?_eq_some_iff.mp g2).1
        rw [r.len] at hm hn
        rw [List.getElem?_append_left hm] at h3
        rw [List.getElem?_append_left hn] at h4
        exact r.apart m n a e f hmn g1 g2 h3 h4
      · have hm := (List.getElem?_eq_some_iff.mp g1).1
        rw [r.len] at hm
        rw [List.getElem?_append_left hm] at h3
        exact .inl (key m e (by rw [← e4]; exact g1) h3)
    · rcases get_snoc h2 with g2 | ⟨e3, e4⟩
      · have hn := (List.getElem?_eq_some_iff.mp g2).1
        rw [r.len] at hn
        rw [List.getElem?_append_left hn] at h4
        exact .inr (key n f (by rw [← e2]; exact g2) h4)
      · omega
/-! ### a cell is written -/
theorem sqT_updC {a p : Addr} {xs : List V} {o o0 : HO} (hp : H p = some o0) (nt : NT o0) (h : SqT K H a xs) : SqT K (upd H p o) a xs := by
  rcases h with (h | ⟨u, h⟩) | h
  · exact .inl (.inl (by rw [upd_ne (ne_of h hp (nt.1 _).symm)]; exact h))
  · exact .inl (.inr ⟨u, by rw [upd_ne (ne_of h hp (nt.2 _ _).symm)]; exact h⟩)
  · exact .inr h
theorem roL_updC {a p : Addr} {xs : List V} {o o0 : HO} (hp : H p = some o0) (nt : NT o0) (h : RoL K H a xs) : RoL K (upd H p o) a xs := by
  rcases h with ⟨u, h⟩ | h
  · exact .inl ⟨u, by rw [upd_ne (ne_of h hp (nt.2 _ _).symm)]; exact h⟩
  · exact .inr h
theorem le_updC {p : Addr} {o o0 : HO} (hp : H p = some o0) (nt : NT o0) : Le K μ H μ (upd H p o) := ⟨⟨[], by simp⟩, fun _ _ h => sqT_updC hp nt h, fz_updC hp nt⟩
theorem le_upd {p : Addr} {vs : List V} {o : HO} (hp : H p = some (.lst vs)) : Le K μ H μ (upd H p o) := le_updC hp .lst
theorem RepC.upd {p a : Addr} {o o0 : HO} {c : Cell} (hp : H p = some o0) (nt : NT o0) (ha : a ≠ p) (r : RepC K H μ c a) : RepC K (upd H p o) μ c a := by
  cases c with
  | lst es => obtain ⟨us, h, r2⟩ := r; exact ⟨us, by rw [upd_ne ha]; exact h, r2.mono (le_updC hp nt)⟩
  | ro es => obtain ⟨us, h, r2⟩ := r; exact ⟨us, roL_updC hp nt h, r2.mono (le_updC hp nt)⟩
  | dct _ => obtain ⟨q, h, r⟩ := r; exact ⟨q, by rw [upd_ne ha]; exact h, r.mono (le_updC hp nt)⟩
  | dk _ => obtain ⟨q, h, r⟩ := r; exact ⟨q, by rw [upd_ne ha]; exact h, r.mono (le_updC hp nt)⟩
  | hid _ => obtain ⟨o, q, h, r⟩ := r; exact ⟨o, q, by rw [upd_ne ha]; exact h, r.mono (le_updC hp nt)⟩
  | ins _ _ => obtain ⟨q, h, r⟩ := r; exact ⟨q, by rw [upd_ne ha]; exact h, r.mono (le_updC hp nt)⟩
theorem RepS.writeC {S : Store} {p : Addr} {n : Nat} {o o' : HO} {c0 c1 : Cell} (r : RepS K H μ S) (hS : S[n]? = some c0) (hm : μ[n]? = some p) (hp : H p = some o) (nt : NT o) (hc : c0.isRo = false) (hc1 : c1.isRo = false)
    (new : RepC K (L2.upd H p o') μ c1 p) : RepS K (L2.upd H p o') μ (S.set n c1) := by
  have hn := (List.getElem?_eq_some_iff.mp hS).1
  refine ⟨by simp [r.len], fun k c a h1 h2 => ?_, fun k l a c e hkl h1 h2 h3 h4 => ?_⟩
  · by_cases hk : n = k
    · subst hk
      rw [List.getElem?_set_self hn] at h1
      cases h1
      rw [hm] at h2
      cases h2
      exact new
    · rw [List.getElem?_set_ne hk] at h1
      have rc := r.cell k c a h1 h2
      by_cases ha : a = p
      · subst ha
        rcases r.apart n k a _ c hk hm h2 hS h1 with q | q
        · rw [hc] at q; cases q
        · cases c with
          | ro es =>
            obtain ⟨us, h, r2⟩ := rc
            exact ⟨us, roL_updC hp nt h, r2.mono (le_updC hp nt)⟩
          | _ => simp [Cell.isRo] at q
      · exact rc.upd hp nt ha
  · have ro_of : ∀ (j : Nat) (g : Cell), (S.set n c1)[j]? = some g → ∃ g', S[j]? = some g' ∧ g'.isRo = g.isRo := fun j g hj => by
      by_cases e : n = j
      · subst e
        rw [List.getElem?_set_self hn] at hj
        cases hj
        exact ⟨_, hS, by rw [hc, hc1]⟩
      · rw [List.getElem?_set_ne e] at hj
        exact ⟨g, hj, rfl⟩
    obtain ⟨c', h5, e5⟩ := ro_of k c h3
    obtain ⟨e', h6, e6⟩ := ro_of l e h4
    rw [← e5, ← e6]
    exact r.apart k l a c' e' hkl h1 h2 h5 h6
theorem RepS.write {S : Store} {p : Addr} {n : Nat} {vs ws : List V} {xs ds : List D} (r : RepS K H μ S) (hS : S[n]? = some (.lst xs)) (hm : μ[n]? = some p) (hp : H p = some (.lst vs)) (rw' : RepVs K H μ ds ws) :
    RepS K (L2.upd H p (.lst ws)) μ (S.set n (.lst ds)) := r.writeC hS hm hp .lst rfl rfl ⟨ws, upd_same, rw'.mono (le_upd hp)⟩
/-! ### a walked dict is let go -/
theorem ne_frz {p a : Addr} {o u : Obj} {xs : List (List Int × Addr × Value)} {w : HO} (hp : H p = some (.frz o (DX p xs))) (h : H a = some (.frz u w)) (hw : (∃ ys, w = .tup ys) ∨ ∃ ys, w = .lst ys) : a ≠ p := fun e => by
  subst e
  rw [hp] at h
  cases h
  rcases hw with ⟨_, h⟩ | ⟨_, h⟩ <;> (unfold DX at h; cases h)
theorem le0_unl {p : Addr} {o : Obj} {xs : List (List Int × Addr × Value)} {w : HO} (hp : H p = some (.frz o (DX p xs))) : Le0 K μ H μ (L2.upd H p w) := ⟨⟨[], by simp⟩, fun a ys h => by
  rcases h with (h | ⟨u, h⟩) | h
  · exact .inl (.inl (by rw [upd_ne (ne_of h hp (by intro z; cases z))]; exact h))
  · exact .inl (.inr ⟨u, by rw [upd_ne (ne_frz hp h (.inl ⟨_, rfl⟩))]; exact h⟩)
  · exact .inr h⟩
theorem roL_unl {p a : Addr} {o : Obj} {xs : List (List Int × Addr × Value)} {w : HO} {ys : List V} (hp : H p = some (.frz o (DX p xs))) (h : RoL K H a ys) : RoL K (L2.upd H p w) a ys := by
  rcases h with ⟨u, h⟩ | h
  · exact .inl ⟨u, by rw [upd_ne (ne_frz hp h (.inr ⟨_, rfl⟩))]; exact h⟩
  · exact .inr h
theorem RepC.unl {p a : Addr} {o : Obj} {xs : List (List Int × Addr × Value)} {w : HO} {c : Cell} (hp : H p = some (.frz o (DX p xs))) (ha : a ≠ p) (r : RepC K H μ c a) : RepC K (L2.upd H p w) μ c a := by
  cases c with
  | lst es => obtain ⟨us, h, r2⟩ := r; exact ⟨us, by rw [upd_ne ha]; exact h, r2.mono0 (le0_unl hp)⟩
  | ro es => obtain ⟨us, h, r2⟩ := r; exact ⟨us, roL_unl hp h, r2.mono0 (le0_unl hp)⟩
  | dct _ => obtain ⟨q, h, r⟩ := r; exact ⟨q, by rw [upd_ne ha]; exact h, r.mono0 (le0_unl hp)⟩
  | dk _ => obtain ⟨q, h, r⟩ := r; exact ⟨q, by rw [upd_ne ha]; exact h, r.mono0 (le0_unl hp)⟩
  | hid _ => obtain ⟨o, q, h, r⟩ := r; exact ⟨o, q, by rw [upd_ne ha]; exact h, r.mono0 (le0_unl hp)⟩
  | ins _ _ => obtain ⟨q, h, r⟩ := r; exact ⟨q, by rw [upd_ne ha]; exact h, r.mono0 (le0_unl hp)⟩
theorem RepS.unl {S : Store} {p : Addr} {n : Nat} {o : Obj} {xs : List (List Int × Addr × Value)} {kvs : List (List Int × D)} (r : RepS K H μ S) (hS : S[n]? = some (.hid kvs)) (hm : μ[n]? = some p) (hp : H p = some (.frz o (DX p xs))) :
    RepS K (L2.upd H p (DX p xs)) μ (S.set n (.dct kvs)) := by
  have hn := (List.getElem?_eq_some_iff.mp hS).1
  refine ⟨by simp [r.len], fun k c a h1 h2 => ?_, fun k l a c e hkl h1 h2 h3 h4 => ?_⟩
  · by_cases hk : n = k
    · subst hk
      rw [List.getElem?_set_self hn] at h1
      cases h1
      rw [hm] at h2
      cases h2
      obtain ⟨o', xs', h, rr⟩ := r.cell n _ p hS hm
      rw [hp] at h
      have hx : DX p xs = DX p xs' := by injection h with h; injection h
      exact ⟨xs', by rw [upd_same, hx], rr.mono0 (le0_unl hp)⟩
    · rw [List.getElem?_set_ne hk] at h1
      have rc := r.cell k c a h1 h2
      by_cases ha : a = p
      · subst ha
        rcases r.apart n k a _ c hk hm h2 hS h1 with q | q
        · cases q
        · cases c with
          | ro es =>
            obtain ⟨us, h, r2⟩ := rc
            exact ⟨us, roL_unl hp h, r2.mono0 (le0_unl hp)⟩
          | _ => simp [Cell.isRo] at q
      · exact rc.unl hp ha
  · have ro_of : ∀ (j : Nat) (g : Cell), (S.set n (.dct kvs))[j]? = some g → ∃ g', S[j]? = some g' ∧ g'.isRo = g.isRo := fun j g hj => by
      by_cases e : n = j
      · subst e
        rw [List.getElem?_set_self hn] at hj
        cases hj
        exact ⟨_, hS, rfl⟩
      · rw [List.getElem?_set_ne e] at hj
        exact ⟨g, hj, rfl⟩
    obtain ⟨c', h5, e5⟩ := ro_of k c h3
    obtain ⟨e', h6, e6⟩ := ro_of l e h4
    rw [← e5, ← e6]
    exact r.apart k l a c' e' hkl h1 h2 h5 h6
end
end Ng

set_option Elab.async false
set_option linter.all false
set_option maxRecDepth 100000
set_option maxHeartbeats 2000000
/-! Readings by the engine; operations on values. -/
namespace Ng
open PySem PySem.Spec PyProof.Rows L2

/-- an exception's own dict -/
def XD (K : PySem.W.Frag) (H : Hp) (μ : Mu) (fs : List (Str × D)) (d : Option Addr) : Prop :=
  (fs = [] ∧ d = none) ∨ fs ≠ [] ∧ ∃ a gs, d = some a ∧ H a = some (.xd gs) ∧ gs.map (·.1) = fs.map (·.1) ∧ RepVs K H μ (fs.map (·.2)) (gs.map (·.2))
section
variable (K : PySem.W.Frag) (γ : Nat → Value) (W : WX)
/-- what follows an outcome -/
def PostR {α β : Type} (rel : Mu → Hp → α → β → Prop) (μ : Mu) (H : Hp) (σ : L2.St) (ρ : Env) (r : R α) (Q : β → Hp → Prop) : Prop :=
  match r with
  | .ok a S' => ∀ μ' H' b, Le K μ H μ' H' → Sim K μ' σ H' ρ S' → rel μ' H' a b → Q b H'
  | .exc c fs S' => ∀ μ' H' d, Le K μ H μ' H' → Sim K μ' σ H' ρ S' → XD K H' μ' fs d → W (γ c) d σ H'
  | .bad => False
def relV (μ : Mu) (H : Hp) (d : D) (v : V) : Prop := RepV K H μ d v
def relVs (μ : Mu) (H : Hp) (d : List D) (v : List V) : Prop := RepVs K H μ d v
def relEq {α : Type} (_ : Mu) (_ : Hp) (a b : α) : Prop := a = b
def tR {α β : Type} (rel : Mu → Hp → α → β → Prop) (f : Env → Store → R α) (σ : L2.St) (H : Hp) (Q : β → Hp → Prop) : Prop :=
  ∃ μ ρ S, Sim K μ σ H ρ S ∧ PostR K γ W rel μ H σ ρ (f ρ S) Q
def tE (f : Env → Store → R D) : TE := tR K γ W (relV K) f
def tT (f : Env → Store → R Bool) : TT := tR K γ W relEq f
def tA (f : Env → Store → R (List D)) : TA := tR K γ W (relVs K) f
def tO (f : Env → Store → R (Option Int)) : TO := tR K γ W relEq f
end
section
variable {K : PySem.W.Frag} {γ : Nat → Value} {W : WX} {α β α' β' : Type} {rel : Mu → Hp → α → β → Prop} {rel' : Mu → Hp → α' → β' → Prop} {μ μ1 : Mu} {H H1 : Hp} {σ : L2.St} {ρ : Env} {S : Store} {r : R α}
theorem PostR.base {Q : β → Hp → Prop} (l : Le K μ H μ1 H1) (h : PostR K γ W rel μ H σ ρ r Q) : PostR K γ W rel μ1 H1 σ ρ r Q := by
  cases r with
  | ok a S' => exact fun μ' H' b l' => h μ' H' b (l.trans l')
  | exc c fs S' => exact fun μ' H' d l' => h μ' H' d (l.trans l')
  | bad => exact h
theorem PostR.imp {Q Q' : β → Hp → Prop} (h : PostR K γ W rel μ H σ ρ r Q) (q : ∀ b H', Q b H' → Q' b H') : PostR K γ W rel μ H σ ρ r Q' := by
  cases r with
  | ok a S' => exact fun μ' H' b l s rl => q _ _ (h μ' H' b l s rl)
  | exc c fs S' => exact h
  | bad => exact h
/-- one behind the other -/
theorem PostR.bind {k : α → Store → R α'} {Q : β' → Hp → Prop} (h : PostR K γ W rel' μ H σ ρ (r.bind k) Q) :
    PostR K γ W rel μ H σ ρ r fun b H1 => ∃ μ1 S1 a, Le K μ H μ1 H1 ∧ Sim K μ1 σ H1 ρ S1 ∧ rel μ1 H1 a b ∧ PostR K γ W rel' μ1 H1 σ ρ (k a S1) Q := by
  cases r with
  | ok a S' => exact fun μ' H' b l s rl => ⟨μ', S', a, l, s, rl, PostR.base l h⟩
  | exc c fs S' => exact h
  | bad => exact h
/-- an outcome that is there -/
theorem PostR.here {a : α} {b : β} {Q : β → Hp → Prop} (h : PostR K γ W rel μ H σ ρ (.ok a S) Q) (s : Sim K μ σ H ρ S) (rl : rel μ H a b) : Q b H := h μ H b .refl s rl
theorem PostR.later {a : α} {b : β} {Q : β → Hp → Prop} (h : PostR K γ W rel μ H σ ρ (.ok a S) Q) (l : Le K μ H μ1 H1) (s : Sim K μ1 σ H1 ρ S) (rl : rel μ1 H1 a b) : Q b H1 := h μ1 H1 b l s rl
theorem Sim.alloc {p : Addr} {o : HO} {c : Cell} (s : Sim K μ σ H ρ S) (hp : H p = none) (new : RepC K (upd H p o) (μ ++ [p]) c p) : Sim K (μ ++ [p]) σ (upd H p o) ρ (S ++ [c]) :=
  ⟨s.e.mono (le_newP hp), s.s.alloc hp new⟩
theorem Sim.new {p : Addr} {o : HO} (s : Sim K μ σ H ρ S) (hp : H p = none) : Sim K μ σ (upd H p o) ρ S := ⟨s.e.mono (le_new hp), s.s.new hp⟩
theorem Sim.ref (s : Sim K μ σ H ρ S) (p : Addr) : (μ ++ [p])[S.length]? = some p := by rw [← s.s.len]; exact snoc_at
end

/-! ### weaker readings, two readings of one syntax -/
section
variable {X : Cx} {e : Expr} {es : List Expr}
theorem pe_imp {t t' : TE} (h : PE X e t) (i : ∀ σ H Q, t' σ H Q → t σ H Q) : PE X e t' := ⟨fun pins s σ H Q I q => h.run pins s σ H Q I (i σ H Q q)⟩
theorem pt_imp {t t' : TT} (h : PT X e t) (i : ∀ σ H Q, t' σ H Q → t σ H Q) : PT X e t' := ⟨fun pins s σ H Q I q => h.run pins s σ H Q I (i σ H Q q)⟩
theorem pw_imp {t t' : TT} (h : PW X e t) (i : ∀ σ H Q, t' σ H Q → t σ H Q) : PW X e t' := ⟨fun w pins s σ H Q I q => h.run w pins s σ H Q I (i σ H Q q)⟩
theorem pa_imp {t t' : TA} (h : PA X es t) (i : ∀ σ H Q, t' σ H Q → t σ H Q) : PA X es t' := ⟨fun pos pins s σ H Q I q => h.run pos pins s σ H Q I (i σ H Q q)⟩
theorem po_imp {o : Option Expr} {t t' : TO} (h : PO X o t) (i : ∀ σ H Q, t' σ H Q → t σ H Q) : PO X o t' := ⟨fun pins s σ H Q I q => h.run pins s σ H Q I (i σ H Q q)⟩
theorem ps_imp {st : Stmt} {t t' : TS} (h : PS X st t) (i : ∀ D σ H, t' D σ H → t D σ H) : PS X st t' := ⟨fun pins s σ H D I q => h.run pins s σ H D I (i D σ H q)⟩
theorem pss_imp {st : List Stmt} {t t' : TS} (h : PSs X st t) (i : ∀ D σ H, t' D σ H → t D σ H) : PSs X st t' := ⟨fun pins s σ H D I q => h.run pins s σ H D I (i D σ H q)⟩
theorem opR_imp {f : Value → Value → Sem Value} {r r' : R2} (h : OpR X f r) (i : ∀ x y H Q, r' x y H Q → r x y H Q) : OpR X f r' :=
  fun pins s σ H x y v u Q I rx ry q => h pins s σ H x y v u Q I rx ry (i x y H Q q)
theorem unR_imp {f : Value → Sem Value} {r r' : V → Hp → VK → Prop} (h : UnR X f r) (i : ∀ x H Q, r' x H Q → r x H Q) : UnR X f r' :=
  fun pins s σ H x v Q I rx q => h pins s σ H x v Q I rx (i x H Q q)
theorem truR_imp {r r' : V → Hp → (Bool → Hp → Prop) → Prop} (h : TruR X r) (i : ∀ x H Q, r' x H Q → r x H Q) : TruR X r' :=
  fun pins s σ H x v Q I rx q => h pins s σ H x v Q I rx (i x H Q q)
theorem callR_imp {f : Value} {r r' : List V → Hp → VK → Prop} (h : CallR X f r) (i : ∀ xs H Q, r' xs H Q → r xs H Q) : CallR X f r' :=
  fun pins s σ H xs us Q I rx q => h pins s σ H xs us Q I rx (i xs H Q q)
theorem ixR_imp {r r' : R2} (h : IxR X r) (i : ∀ x y H Q, r' x y H Q → r x y H Q) : IxR X r' :=
  fun a b pins s σ H x y v u Q I rx ry q => h a b pins s σ H x y v u Q I rx ry (i x y H Q q)
theorem mtR_imp {id : String} {r r' : V → List V → Hp → VK → Prop} (h : MtR X id r) (i : ∀ x xs H Q, r' x xs H Q → r x xs H Q) : MtR X id r' :=
  fun pins s σ H x xs v us Q I rx ry q => h pins s σ H x xs v us Q I rx ry (i x xs H Q q)
theorem slR_imp {r r' : V → Option Int → Option Int → Hp → VK → Prop} (h : SlR X r) (i : ∀ x l u H Q, r' x l u H Q → r x l u H Q) : SlR X r' :=
  fun pins s σ H x v vl vu lo hi sl Q I rx hs pl pu q => h pins s σ H x v vl vu lo hi sl Q I rx hs pl pu (i x lo hi H Q q)
end

/-! ### what stands behind data -/
section
variable {K : PySem.W.Frag} {γ : Nat → Value} {W : WX} {μ μ1 : Mu} {H H1 : Hp} {σ : L2.St} {ρ : Env} {S : Store}
theorem Sim.list (s : Sim K μ σ H ρ S) {n : Nat} {ds : List D} {v : V} (r : RepV K H μ (.ref n) v) (h : S[n]? = some (.lst ds)) : ∃ a vs, v = .ref a ∧ H a = some (.lst vs) ∧ RepVs K H μ ds vs ∧ μ[n]? = some a := by
  cases r with
  | ref hm =>
    obtain ⟨vs, h1, h2⟩ := s.s.cell n _ _ h hm
    exact ⟨_, vs, rfl, h1, h2, hm⟩
theorem Sim.roL (s : Sim K μ σ H ρ S) {n : Nat} {ds : List D} {v : V} (r : RepV K H μ (.ref n) v) (h : S[n]? = some (.ro ds)) : ∃ a vs, v = .ref a ∧ RoL K H a vs ∧ RepVs K H μ ds vs ∧ μ[n]? = some a := by
  cases r with
  | ref hm =>
    obtain ⟨vs, h1, h2⟩ := s.s.cell n _ _ h hm
    exact ⟨_, vs, rfl, h1, h2, hm⟩
/-- an instance -/
theorem Sim.inst (s : Sim K μ σ H ρ S) {x : D} {c : Str} {fs : List (Str × D)} {v : V} (r : RepV K H μ x v) (h : insOf S c x = some fs) : ∃ n a C dx gs, x = .ref n ∧ v = .ref a ∧ S[n]? = some (.ins c fs) ∧ H a = some (.ins C dx gs) ∧
    PySem.W.nsIn K mainGlobals c = some (some (.ref C)) ∧ gs.map (·.1) = fs.map (·.1) ∧ RepVs K H μ (fs.map (·.2)) (gs.map (·.2)) ∧ μ[n]? = some a := by
  cases x with
  | ref n =>
    simp only [insOf] at h
    split at h
    case h_2 => cases h
    case h_1 y fs' e =>
      split at h
      case isFalse => cases h
      case isTrue hy =>
        cases h
        subst hy
        cases r with
        | ref hm =>
          obtain ⟨o, h1, h2⟩ := s.s.cell n _ _ e hm
          cases o <;> first | exact h2.elim | skip
          exact ⟨n, _, _, _, _, rfl, rfl, e, h1, h2.1, h2.2.1, h2.2.2, hm⟩
  | _ => simp [insOf] at h
theorem lookup_rep : ∀ {fs : List (Str × D)} {gs : List (Str × V)} (f : Str), gs.map (·.1) = fs.map (·.1) → RepVs K H μ (fs.map (·.2)) (gs.map (·.2)) →
    (∀ d, fs.lookup f = some d → ∃ v, gs.lookup f = some v ∧ RepV K H μ d v) ∧ (fs.lookup f = none → gs.lookup f = none)
  | [], [], f, _, _ => ⟨fun d h => by simp at h, fun _ => rfl⟩
  | [], _ :: _, f, e, _ => by simp at e
  | _ :: _, [], f, e, _ => by simp at e
  | (k, d0) :: fs, (k', v0) :: gs, f, e, r => by
    simp only [List.map_cons, List.cons.injEq] at e r
    obtain ⟨rfl, e2⟩ := e
    cases r with
    | cons r1 r2 =>
      obtain ⟨i1, i2⟩ := lookup_rep (fs := fs) (gs := gs) f e2 r2
      by_cases hf : f = k'
      · subst hf
        refine ⟨fun d h => ?_, fun h => ?_⟩
        · simp only [List.lookup, beq_self_eq_true] at h ⊢
          cases h
          exact ⟨_, rfl, r1⟩
        · simp [List.lookup] at h
      · have hb : (f == k') = false := beq_eq_false_iff_ne.mpr hf
        simp only [List.lookup, hb]
        exact ⟨i1, i2⟩
theorem put_rep {f : Str} {d : D} {v : V} (rv : RepV K H μ d v) : ∀ {fs : List (Str × D)} {gs : List (Str × V)}, gs.map (·.1) = fs.map (·.1) → RepVs K H μ (fs.map (·.2)) (gs.map (·.2)) →
    (putF f v gs).map (·.1) = (putD f d fs).map (·.1) ∧ RepVs K H μ ((putD f d fs).map (·.2)) ((putF f v gs).map (·.2))
  | [], [], _, _ => ⟨rfl, .cons rv .nil⟩
  | [], _ :: _, e, _ => by simp at e
  | _ :: _, [], e, _ => by simp at e
  | (k, d0) :: fs, (k', v0) :: gs, e, r => by
    simp only [List.map_cons, List.cons.injEq] at e r
    obtain ⟨rfl, e2⟩ := e
    cases r with
    | cons r1 r2 =>
      obtain ⟨i1, i2⟩ := put_rep rv (fs := fs) (gs := gs) e2 r2
      rw [show putF f v ((k', v0) :: gs) = (if k' = f then (k', v) :: gs else (k', v0) :: putF f v gs) from rfl, show putD f d ((k', d0) :: fs) = (if k' = f then (k', d) :: fs else (k', d0) :: putD f d fs) from rfl]
      by_cases hk : k' = f
      · rw [if_pos hk, if_pos hk]
        exact ⟨by simp [e2], .cons rv r2⟩
      · rw [if_neg hk, if_neg hk]
        exact ⟨by simp [i1], .cons r1 i2⟩
/-- a list or a tuple -/
theorem Sim.seq (s : Sim K μ σ H ρ S) {d : D} {ds : List D} {v : V} (r : RepV K H μ d v) (h : seqD S d = some ds) : ∃ a vs, v = .ref a ∧ (SqL K H a vs ∨ SqT K H a vs) ∧ RepVs K H μ ds vs := by
  cases d with
  | tup es =>
    cases h
    cases r with
    | tup h1 h2 => exact ⟨_, _, rfl, .inr h1, h2⟩
  | ref n =>
    simp only [seqD] at h
    split at h
    · cases h
      obtain ⟨a, vs, e, h1, h2, _⟩ := s.list r (by assumption)
      exact ⟨a, vs, e, .inl (.of h1), h2⟩
    · cases h
      obtain ⟨a, vs, e, h1, h2, _⟩ := s.roL r (by assumption)
      exact ⟨a, vs, e, .inl h1.sq, h2⟩
    · cases h
  | _ => simp [seqD] at h
/-- a new list's outcome -/
theorem PostR.newL {ds : List D} {vs : List V} {Q : VK} (h : PostR K γ W (relV K) μ H σ ρ (.ok (.ref S.length) (S ++ [.lst ds])) Q) (s : Sim K μ σ H ρ S) (r : RepVs K H μ ds vs) :
    ∀ p, H p = none → Q (.ref p) (upd H p (.lst vs)) := fun p hp =>
  h (μ ++ [p]) _ _ (le_newP hp) (s.alloc hp ⟨vs, upd_same, r.mono (le_newP hp)⟩) (.ref (s.ref p))
/-- a new tuple's outcome -/
theorem PostR.newT {ds : List D} {vs : List V} {Q : VK} (h : PostR K γ W (relV K) μ H σ ρ (.ok (.tup ds) S) Q) (s : Sim K μ σ H ρ S) (r : RepVs K H μ ds vs) :
    ∀ p, H p = none → Q (.ref p) (upd H p (.tup vs)) := fun p hp =>
  h μ _ _ (le_new hp) (s.new hp) (.tup (.of upd_same) (r.mono (le_new hp)))
theorem Sim.write (s : Sim K μ σ H ρ S) {n : Nat} {p : Addr} {vs ws : List V} {xs ds : List D} (hS : S[n]? = some (.lst xs)) (hm : μ[n]? = some p) (hp : H p = some (.lst vs)) (r : RepVs K H μ ds ws) :
    Sim K μ σ (upd H p (.lst ws)) ρ (S.set n (.lst ds)) := ⟨s.e.mono (le_upd hp), s.s.write hS hm hp r⟩

/-! ### operators -/
theorem linesz_eq : linesz = sizeLine := by rw [sizeLine_eq]; rfl
section
variable (K : PySem.W.Frag) (γ : Nat → Value) (W : WX)
/-- an operation on data, by values -/
def opV (f : D → D → Store → R D) : R2 := fun x y H Q => ∃ μ σ ρ S d e, Sim K μ σ H ρ S ∧ RepV K H μ d x ∧ RepV K H μ e y ∧ PostR K γ W (relV K) μ H σ ρ (f d e S) Q
def unV (f : D → Store → R D) : V → Hp → VK → Prop := fun x H Q => ∃ μ σ ρ S d, Sim K μ σ H ρ S ∧ RepV K H μ d x ∧ PostR K γ W (relV K) μ H σ ρ (f d S) Q
def truV (f : D → Store → R Bool) : V → Hp → (Bool → Hp → Prop) → Prop := fun x H Q => ∃ μ σ ρ S d, Sim K μ σ H ρ S ∧ RepV K H μ d x ∧ PostR K γ W relEq μ H σ ρ (f d S) Q
def callV (f : List D → Store → R D) : List V → Hp → VK → Prop := fun xs H Q => ∃ μ σ ρ S ds, Sim K μ σ H ρ S ∧ RepVs K H μ ds xs ∧ PostR K γ W (relV K) μ H σ ρ (f ds S) Q
def methV (f : D → List D → Store → R D) : V → List V → Hp → VK → Prop := fun x xs H Q => ∃ μ σ ρ S d ds, Sim K μ σ H ρ S ∧ RepV K H μ d x ∧ RepVs K H μ ds xs ∧ PostR K γ W (relV K) μ H σ ρ (f d ds S) Q
def slV (f : D → Option Int → Option Int → Store → R D) : V → Option Int → Option Int → Hp → VK → Prop := fun x lo hi H Q => ∃ μ σ ρ S d, Sim K μ σ H ρ S ∧ RepV K H μ d x ∧ PostR K γ W (relV K) μ H σ ρ (f d lo hi S) Q
end
variable {X : Cx}
theorem bin_add : OpR X (binaryOp .Add) (opV X.K γ W (bin2 .add)) := by
  refine opR_imp (op_add.or (op_add_str.or (op_catA.or op_cat))) fun x y H Q ⟨μ, σ, ρ, S, d, e, s, rx, ry, h⟩ => ?_
  cases d <;> cases e <;> first | (exfalso; exact h) | skip
  · cases rx; cases ry
    exact .inl ⟨_, _, rfl, rfl, h.here s (.int _)⟩
  · cases rx; cases ry
    simp only [bin2] at h
    split at h
    · exact .inr (.inl ⟨_, _, rfl, rfl, by rw [← linesz_eq]; assumption, h.here s (.str _)⟩)
    · exact h.elim
  · cases rx with
    | tup h1 r1 =>
      cases ry with
      | tup h2 r2 =>
        simp only [bin2] at h
        split at h
        case isFalse => exact h.elim
        case isTrue hz =>
          refine .inr (.inr (.inl ⟨_, _, _, _, rfl, rfl, h1, h2, by rw [r1.length, r2.length, ← linesz_eq]; exact hz, ?_, ?_, ?_⟩))
          · intro e; subst e
            cases r1
            exact h.here s (.tup h2 r2)
          · intro _ e; subst e
            cases r2
            rw [List.append_nil] at h
            exact h.here s (.tup h1 r1)
          · intro _ _
            exact h.newT s (r1.append r2)
  · simp only [bin2] at h
    split at h
    case h_2 => exact h.elim
    case h_1 h1 h2 =>
      split at h
      case isFalse => exact h.elim
      case isTrue hz =>
        obtain ⟨a, vs, rfl, g1, r1, _⟩ := s.list rx h1
        obtain ⟨b, ws, rfl, g2, r2, _⟩ := s.list ry h2
        exact .inr (.inr (.inr ⟨a, b, vs, ws, rfl, rfl, g1, g2, by rw [r1.length, r2.length, ← linesz_eq]; exact hz, h.newL s (r1.append r2)⟩))
theorem bin_sub : OpR X (binaryOp .Sub) (opV X.K γ W (bin2 .sub)) := by
  refine opR_imp op_sub fun x y H Q ⟨μ, σ, ρ, S, d, e, s, rx, ry, h⟩ => ?_
  cases d <;> cases e <;> first | (exfalso; exact h) | skip
  cases rx; cases ry
  exact ⟨_, _, rfl, rfl, h.here s (.int _)⟩
theorem tuple_mul1 (l : Addr) (items : Array Value) (n : Nat) (dd : Option Addr) (sl : Array (Option Value)) (u : Tok) :
    Meets (Builtin.«tuple.__mul__» ⟨[.ref l, .int 1 u], []⟩) (fun _ R s => s.heap.get? l = some { cls := .type "tuple", dict := dd, data := .seq items n, slots := sl } ∧ R (.ok (.ret (Value.ref l))) { s with toks := s.toks }) :=
  .of_wp fun prog w A R s h => by
    obtain ⟨hp, g, d, tk, os⟩ := s
    obtain ⟨hl, h⟩ := h
    have f1 := AutoSeq1.idx_int
    have c1 : (items.isEmpty || (1 : Int) == 1) = true := by simp
    wp_walk using AutoSeq1.wpAny_loadPart' hl
    repeat (first
      | (refine wpAny_ite_false (decide_eq_false (by decide)) ?_; wp_walk using AutoSeq1.wpAny_loadPart' hl)
      | (refine wpAny_ite_true (decide_eq_true c1) ?_; wp_walk using AutoSeq1.wpAny_loadPart' hl))
    exact ⟨_, rfl, h⟩
theorem op_repT1 : OpR X (binaryOp .Mult) (fun x y H Q => ∃ l xs, x = .ref l ∧ y = .int 1 ∧ SqT X.K H l xs ∧ Q (.ref l) H) := by
  intro pins s σ H x y v u Q I rx ry h
  obtain ⟨l, xs, rfl, rfl, hT, q⟩ := h
  cases rx
  obtain ⟨t, rfl⟩ := ry
  obtain ⟨its, r, ⟨⟨cls, dd, data, sl⟩, ho, hc, n, hd⟩, hs⟩ := I.tuple hT
  simp only at hc hd
  subst hc hd
  refine wpAny_binaryOp_repeat_ref (T := "tuple") (U := "int") (by decide) ⟨_, ho, rfl⟩ (fun s' => typeIs_int s' 1 t) noFill_tuple_mul F.fills_int_mul F.slot_int_rmul repeat_tuple F.slot_int_index.lookup
    (call_meets F.slot_int_rmul (typeIs_int s 1 t) F.entry_int_rmul (F.args_int_rmul_2 _ _) (int_rmul_tuple 1 t l its.toArray n dd sl)
      ⟨ho, rfl, ⟨_, ho, rfl⟩, call_meets F.slot_tuple_mul ⟨_, ho, rfl⟩ F.entry_tuple_mul (F.args_tuple_mul_2 _ _) (tuple_mul1 l its.toArray n dd sl t) ⟨ho, ?_⟩⟩)
  exact ⟨.ref l, H, I, rfl, q⟩
theorem tuple_mul0 (l : Addr) (items : Array Value) (n : Nat) (dd : Option Addr) (sl : Array (Option Value)) (u : Tok) (hne : items.isEmpty = false) :
    Meets (Builtin.«tuple.__mul__» ⟨[.ref l, .int 0 u], []⟩) (fun _ R s => s.heap.get? l = some { cls := .type "tuple", dict := dd, data := .seq items n, slots := sl } ∧
      R (.ok (.ret (Value.ref s.heap.objs.size))) { s with heap := s.heap.push { cls := Value.type "tuple", data := Data.seq #[] }, toks := s.toks }) :=
  .of_wp fun prog w A R s h => by
    obtain ⟨hp, g, d, tk, os⟩ := s
    obtain ⟨hl, h⟩ := h
    have f1 := AutoSeq1.idx_int
    have c1 : (items.isEmpty || (0 : Int) == 1) = false := by rw [hne]; rfl
    have c2 : (decide ((0 : Int) ≤ 0) || items.isEmpty) = true := rfl
    have hsz : (#[] : Array Value).size ≤ sizeLine := Nat.zero_le _
    wp_walk using AutoSeq1.wpAny_loadPart' hl
    repeat (first
      | (refine wpAny_ite_false (decide_eq_false (by decide)) ?_; wp_walk using AutoSeq1.wpAny_loadPart' hl)
      | (refine wpAny_ite_false (decide_eq_false (by rw [c1]; exact Bool.false_ne_true)) ?_; wp_walk using AutoSeq1.wpAny_loadPart' hl)
      | (refine wpAny_ite_true (decide_eq_true c2) ?_; wp_walk using AutoSeq1.wpAny_loadPart' hl)
      | (refine wpAny_ite_false (decide_eq_false (Nat.not_lt.mpr hsz)) ?_; wp_walk using AutoSeq1.wpAny_loadPart' hl))
    exact ⟨_, rfl, h⟩
theorem op_repT0 : OpR X (binaryOp .Mult) (fun x y H Q => ∃ l xs, x = .ref l ∧ y = .int 0 ∧ SqT X.K H l xs ∧ xs ≠ [] ∧ ∀ p, H p = none → Q (.ref p) (upd H p (.tup []))) := by
  intro pins s σ H x y v u Q I rx ry h
  obtain ⟨l, xs, rfl, rfl, hT, hne, q⟩ := h
  cases rx
  obtain ⟨t, rfl⟩ := ry
  obtain ⟨its, r, ⟨⟨cls, dd, data, sl⟩, ho, hc, n, hd⟩, hs⟩ := I.tuple hT
  simp only at hc hd
  subst hc hd
  have hn : its.toArray.isEmpty = false := by
    cases r with
    | nil => exact absurd rfl hne
    | cons => rfl
  refine wpAny_binaryOp_repeat_ref (T := "tuple") (U := "int") (by decide) ⟨_, ho, rfl⟩ (fun s' => typeIs_int s' 0 t) noFill_tuple_mul F.fills_int_mul F.slot_int_rmul repeat_tuple F.slot_int_index.lookup
    (call_meets F.slot_int_rmul (typeIs_int s 0 t) F.entry_int_rmul (F.args_int_rmul_2 _ _) (int_rmul_tuple 0 t l its.toArray n dd sl)
      ⟨ho, rfl, ⟨_, ho, rfl⟩, call_meets F.slot_tuple_mul ⟨_, ho, rfl⟩ F.entry_tuple_mul (F.args_tuple_mul_2 _ _) (tuple_mul0 l its.toArray n dd sl t hn) ⟨ho, ?_⟩⟩)
  refine ⟨.ref s.heap.objs.size, _, I.laid (t' := s.toks) (o := .tup []) (fun b ob q => Heap.get?_push_of_some _ q) (Nat.le_refl _) ?_, rfl, q _ (I.hok.fresh (Nat.le_refl _))⟩
  exact ⟨Nat.zero_le _, [], .nil, IsTup.new _ _⟩
theorem bin_mul : OpR X (binaryOp .Mult) (opV X.K γ W (bin2 .mul)) := by
  refine opR_imp (op_mul.or (op_rep.or (op_repT.or (op_repT1.or op_repT0)))) fun x y H Q ⟨μ, σ, ρ, S, d, e, s, rx, ry, h⟩ => ?_
  cases d <;> cases e <;> first | (exfalso; exact h) | skip
  · cases rx; cases ry
    simp only [bin2] at h
    split at h
    case isFalse => exact h.elim
    case isTrue hz => exact .inl ⟨_, _, rfl, rfl, hz, h.here s (.int _)⟩
  · cases ry
    cases rx with
    | tup h1 r1 =>
      simp only [bin2] at h
      split at h
      case isTrue hz =>
        refine .inr (.inr (.inl ⟨_, _, _, rfl, rfl, h1, fun e => ?_, hz.1, hz.2.1, by rw [r1.length]; exact hz.2.2.1, h.newT s (r1.rep _)⟩))
        subst e
        cases r1
        simp at hz
      case isFalse =>
        split at h
        case isFalse =>
          split at h
          case isFalse => exact h.elim
          case isTrue hk =>
            obtain ⟨rfl, he⟩ := hk
            refine .inr (.inr (.inr (.inr ⟨_, _, rfl, rfl, h1, fun e => ?_, h.newT s .nil⟩)))
            subst e
            cases r1
            simp at he
        case isTrue hk =>
          subst hk
          exact .inr (.inr (.inr (.inl ⟨_, _, rfl, rfl, h1, h.here s (.tup h1 r1)⟩)))
  · cases ry
    simp only [bin2] at h
    split at h
    case h_2 => exact h.elim
    case h_1 h1 =>
      split at h
      case isFalse => exact h.elim
      case isTrue hz =>
        obtain ⟨a, vs, rfl, g1, r1, _⟩ := s.list rx h1
        refine .inr (.inl ⟨a, _, vs, rfl, rfl, g1, by simpa using hz.1, by simpa using hz.2.1, by rw [r1.length, ← linesz_eq]; exact hz.2.2, h.newL s (r1.rep _)⟩)
theorem bin_fdiv : OpR X (binaryOp .FloorDiv) (opV X.K γ W (bin2 .fdiv)) := by
  refine opR_imp op_fdiv fun x y H Q ⟨μ, σ, ρ, S, d, e, s, rx, ry, h⟩ => ?_
  cases d <;> cases e <;> first | (exfalso; exact h) | skip
  cases rx; cases ry
  simp only [bin2] at h
  split at h
  case isFalse => exact h.elim
  case isTrue hz => exact ⟨_, _, rfl, rfl, hz, h.here s (.int _)⟩
theorem bin_mod : OpR X (binaryOp .Mod) (opV X.K γ W (bin2 .mod)) := by
  refine opR_imp op_mod fun x y H Q ⟨μ, σ, ρ, S, d, e, s, rx, ry, h⟩ => ?_
  cases d <;> cases e <;> first | (exfalso; exact h) | skip
  cases rx; cases ry
  simp only [bin2] at h
  split at h
  case isFalse => exact h.elim
  case isTrue hz => exact ⟨_, _, rfl, rfl, hz, h.here s (.int _)⟩
theorem bin_pow : OpR X (binaryOp .Pow) (opV X.K γ W (bin2 .pow)) := by
  refine opR_imp op_pow fun x y H Q ⟨μ, σ, ρ, S, d, e, s, rx, ry, h⟩ => ?_
  cases d <;> cases e <;> first | (exfalso; exact h) | skip
  cases rx; cases ry
  simp only [bin2] at h
  split at h
  case isFalse => exact h.elim
  case isTrue hz => exact ⟨_, _, rfl, rfl, by simpa [CPow] using hz, h.here s (.int _)⟩
def opOf : B2 → Operator
  | .add => .Add | .sub => .Sub | .mul => .Mult | .fdiv => .FloorDiv | .mod => .Mod | .pow => .Pow
theorem bin_all (o : B2) : OpR X (binaryOp (opOf o)) (opV X.K γ W (bin2 o)) := by
  cases o
  · exact bin_add
  · exact bin_sub
  · exact bin_mul
  · exact bin_fdiv
  · exact bin_mod
  · exact bin_pow
theorem neg_ok : UnR X (unaryOp .USub) (unV X.K γ W negR) := by
  refine unR_imp un_neg fun x H Q ⟨μ, σ, ρ, S, d, s, rx, h⟩ => ?_
  cases d <;> first | (exfalso; exact h) | skip
  cases rx
  exact ⟨_, rfl, h.here s (.int _)⟩
end
end Ng

set_option Elab.async false
set_option linter.all false
set_option maxRecDepth 100000
set_option maxHeartbeats 2000000
/-! Comparisons, truth, built-ins by values. -/
namespace Ng
open PySem PySem.Spec PyProof.Rows L2
section
variable {K : PySem.W.Frag} {γ : Nat → Value} {W : WX} {μ μ1 : Mu} {H H1 : Hp} {σ : L2.St} {ρ : Env} {S : Store}

/-! ### == -/
mutual
theorem dp_of {rf : Nat → Option PyData} (hr : ∀ n a p, rf n = some p → μ[n]? = some a → Dp K H (.ref a) p) : ∀ (d : D) (v : V) (p : PyData), RepV K H μ d v → toPyW rf d = some p → Dp K H v p
  | .non, _, _, .non, e => by simp only [toPyW, Option.some.injEq] at e; subst e; exact .non
  | .bl b, _, _, .bl _, e => by simp only [toPyW, Option.some.injEq] at e; subst e; exact .bl b
  | .int i, _, _, .int _, e => by simp only [toPyW, Option.some.injEq] at e; subst e; exact .int i
  | .str x, _, _, .str _, e => by simp only [toPyW, Option.some.injEq] at e; subst e; exact .str x
  | .tup ds, _, _, .tup h r, e => by
    simp only [toPyW, Option.map_eq_some_iff] at e
    obtain ⟨ps, e1, rfl⟩ := e
    exact .tup h (dps_of hr ds _ ps r e1)
  | .ref n, _, _, .ref h, e => hr n _ _ e h
  | .exc .., _, _, _, e => by simp [toPyW] at e
theorem dps_of {rf : Nat → Option PyData} (hr : ∀ n a p, rf n = some p → μ[n]? = some a → Dp K H (.ref a) p) : ∀ (ds : List D) (vs : List V) (ps : List PyData), RepVs K H μ ds vs → toPysW rf ds = some ps → DpAll K H vs ps
  | [], _, _, .nil, e => by simp only [toPysW, Option.some.injEq] at e; subst e; exact .nil
  | d :: ds, _, _, .cons h r, e => by
    simp only [toPysW] at e
    split at e
    case h_1 e1 e2 => cases e; exact .cons (dp_of hr d _ _ h e1) (dps_of hr ds _ _ r e2)
    case h_2 => cases e
end
theorem dp_cell (s : Sim K μ σ H ρ S) : ∀ (k n : Nat) (a : Addr) (p : PyData), toPyN S k n = some p → μ[n]? = some a → Dp K H (.ref a) p
  | 0, _, _, _, e, _ => by simp [toPyN] at e
  | k + 1, n, a, p, e, hm => by
    simp only [toPyN] at e
    split at e
    case h_1 ds h =>
      simp only [Option.map_eq_some_iff] at e
      obtain ⟨ps, e1, rfl⟩ := e
      obtain ⟨vs, h1, r⟩ := s.s.cell n _ _ h hm
      exact .lst (.of h1) (dps_of (fun n a p => dp_cell s k n a p) ds vs ps r e1)
    case h_2 ds h =>
      simp only [Option.map_eq_some_iff] at e
      obtain ⟨ps, e1, rfl⟩ := e
      obtain ⟨vs, h1, r⟩ := s.s.cell n _ _ h hm
      exact .lst h1.sq (dps_of (fun n a p => dp_cell s k n a p) ds vs ps r e1)
    case h_3 => cases e
theorem dp_sim (s : Sim K μ σ H ρ S) {d : D} {v : V} {p : PyData} (r : RepV K H μ d v) (e : toPy S d = some p) : Dp K H v p :=
  dp_of (fun n a p => dp_cell s 6 n a p) d v p r e
/-- what == asks of the values -/
theorem eq_sim (s : Sim K μ σ H ρ S) {x y : D} {v u : V} {b : Bool} (rx : RepV K H μ x v) (ry : RepV K H μ y u) (e : eqD0 S x y = some b) :
    (scal v u = true ∧ decide (v = u) = b) ∨ ∃ d e, Dp K H v d ∧ Dp K H u e ∧ SeqAt.shaped d = true ∧ SeqAt.shaped e = true ∧ PyData.eqv d e = b := by
  unfold eqD0 at e
  split at e
  · cases rx; cases ry; cases e; exact .inl ⟨rfl, by simp⟩
  · cases rx; cases ry; cases e; exact .inl ⟨rfl, by simp⟩
  · cases rx; cases ry; cases e; exact .inl ⟨rfl, by simp⟩
  · cases rx; cases ry; cases e; exact .inl ⟨rfl, by simp⟩
  · split at e
    case h_1 e1 e2 =>
      split at e
      case isTrue hs =>
        rw [Bool.and_eq_true] at hs
        cases e
        exact .inr ⟨_, _, dp_sim s rx e1, dp_sim s ry e2, hs.1, hs.2, rfl⟩
      case isFalse => cases e
    case h_2 => cases e
/-! ### dicts -/
theorem Sim.dct (s : Sim K μ σ H ρ S) {n : Nat} {kvs : List (List Int × D)} {v : V} (r : RepV K H μ (.ref n) v) (h : S[n]? = some (.dct kvs)) : ∃ a xs, v = .ref a ∧ H a = some (DX a xs) ∧ KVX K H μ kvs xs ∧ μ[n]? = some a := by
  cases r with
  | ref hm =>
    obtain ⟨xs, h1, h2⟩ := s.s.cell n _ _ h hm
    exact ⟨_, xs, rfl, h1, h2, hm⟩
/-- read only: walked or not -/
theorem Sim.rd (s : Sim K μ σ H ρ S) {n : Nat} {kvs : List (List Int × D)} {v : V} (r : RepV K H μ (.ref n) v) (h : rdC S[n]? = some kvs) : ∃ a xs, v = .ref a ∧ Rd H a (DX a xs) ∧ KVX K H μ kvs xs := by
  unfold rdC at h
  split at h
  · rename_i q e
    cases h
    obtain ⟨a, xs, h1, h2, h3, _⟩ := s.dct r e
    exact ⟨a, xs, h1, .inl h2, h3⟩
  · rename_i q e
    cases h
    cases r with
    | ref hm =>
      obtain ⟨o, xs, h1, h2⟩ := s.s.cell n _ _ e hm
      exact ⟨_, xs, rfl, .inr ⟨o, h1⟩, h2⟩
  · cases h
theorem nt_dx {a : Addr} {xs : List (List Int × Addr × Value)} : NT (DX a xs) := ⟨(fun _ z => nomatch z), (fun _ _ z => nomatch z)⟩
theorem ints_rep : ∀ {ds : List D} {k : List Int} {vs : List V}, RepVs K H μ ds vs → intsD ds = some k → vs = k.map V.int
  | _, k, _, .nil, e => by cases e; rfl
  | d :: ds, k, _, .cons r rs, e => by
    cases d <;> simp only [intsD] at e <;> first | (cases e; done) | skip
    rename_i i
    cases e2 : intsD ds with
    | none => rw [e2] at e; cases e
    | some k' =>
      rw [e2] at e
      cases e
      cases r
      rw [ints_rep rs e2]; rfl
theorem key_rep {d : D} {v : V} {k : List Int} (r : RepV K H μ d v) (e : keyI d = some k) : ∃ b, v = .ref b ∧ SqT K H b (k.map V.int) := by
  cases r <;> simp only [keyI] at e <;> first | (cases e; done) | skip
  rename_i h rs
  exact ⟨_, rfl, by rw [← ints_rep rs e]; exact h⟩
theorem KVX.kx {kvs : List (List Int × D)} {xs : List (List Int × Addr × Value)} (r : KVX K H μ kvs xs) : KX K H xs := by
  intro x hx
  induction r with
  | nil => cases hx
  | cons h t ih =>
    rcases List.mem_cons.mp hx with rfl | hx
    · exact h.2.1
    · exact ih hx
theorem dGet_cons {p : List Int × D} {r : List (List Int × D)} {k : List Int} : dGet (p :: r) k = if p.1 = k then some p.2 else dGet r k := by
  unfold dGet
  by_cases h : p.1 = k <;> simp [List.find?_cons, h]
theorem atKey_cons {p : List Int × Addr × Value} {r : List (List Int × Addr × Value)} {k : List Int} : atKey (p :: r) k = if p.1 = k then some p.2 else atKey r k := by
  unfold atKey
  by_cases h : p.1 = k <;> simp [List.find?_cons, h]
theorem KVX.get {kvs : List (List Int × D)} {xs : List (List Int × Addr × Value)} (r : KVX K H μ kvs xs) (k : List Int) :
    match dGet kvs k with | some d => ∃ p v, atKey xs k = some p ∧ RepV K H μ d v ∧ RelV v p.2 | none => atKey xs k = none := by
  induction r with
  | nil => rfl
  | @cons p q ps qs h t ih =>
    obtain ⟨h1, h2, v, h3, h4⟩ := h
    rw [dGet_cons, atKey_cons, ← h1]
    by_cases e : p.1 = k
    · rw [if_pos e, if_pos e]; exact ⟨_, v, rfl, h3, h4⟩
    · rw [if_neg e, if_neg e]; exact ih
theorem KVX.isS {kvs : List (List Int × D)} {xs : List (List Int × Addr × Value)} (r : KVX K H μ kvs xs) (k : List Int) : (atKey xs k).isSome = (dGet kvs k).isSome := by
  have := r.get k
  cases h : dGet kvs k with
  | none => rw [h] at this; have this : atKey xs k = none := this; rw [this]; rfl
  | some d => rw [h] at this; obtain ⟨p, v, e, _⟩ := this; rw [e]; rfl
theorem KVX.length {kvs : List (List Int × D)} {xs : List (List Int × Addr × Value)} (r : KVX K H μ kvs xs) : kvs.length = xs.length := Paired.length r
theorem KVX.repl {kvs : List (List Int × D)} {xs : List (List Int × Addr × Value)} (r : KVX K H μ kvs xs) (k : List Int) {d : D} {v : V} {u : Value} (rv : RepV K H μ d v) (ru : RelV v u) :
    KVX K H μ (kvs.map fun p => if p.1 = k then (p.1, d) else p) (xs.map (putAt k u)) := by
  induction r with
  | nil => exact .nil
  | @cons p q ps qs h t ih =>
    rw [List.map_cons, List.map_cons]
    refine .cons ?_ ih
    obtain ⟨h1, h2, h3⟩ := h
    unfold putAt
    rw [← h1]
    by_cases e : p.1 = k
    · rw [if_pos e, if_pos e]; exact ⟨rfl, by rw [h1]; exact h2, v, rv, ru⟩
    · rw [if_neg e, if_neg e]; exact ⟨h1, h2, h3⟩
theorem KVX.put {kvs : List (List Int × D)} {xs : List (List Int × Addr × Value)} (r : KVX K H μ kvs xs) {k : List Int} {b : Addr} {d : D} {v : V} {u : Value} (hb : SqT K H b (k.map V.int)) (rv : RepV K H μ d v) (ru : RelV v u) :
    KVX K H μ (dPut kvs k d) (storedH xs k b u) := by
  unfold dPut storedH
  rw [r.isS k]
  by_cases q : (dGet kvs k).isSome = true
  · rw [if_pos q, if_pos q]; exact r.repl k rv ru
  · rw [if_neg q, if_neg q]; exact Paired.snoc r ⟨rfl, hb, v, rv, ru⟩
theorem KVX.del {kvs : List (List Int × D)} {xs : List (List Int × Addr × Value)} (r : KVX K H μ kvs xs) (k : List Int) : KVX K H μ (dDel kvs k) (withoutH xs k) := by
  unfold dDel withoutH
  induction r with
  | nil => exact .nil
  | @cons p q ps qs h t ih =>
    rw [List.filter_cons, List.filter_cons, ← h.1]
    by_cases e : p.1 = k
    · simp only [e, ne_eq, not_true, decide_false, Bool.false_eq_true, if_false]; exact ih
    · simp only [e, ne_eq, not_false_eq_true, decide_true, if_true]; exact .cons h ih
/-! ### dicts with text keys -/
theorem Sim.dk (s : Sim K μ σ H ρ S) {n : Nat} {kvs : List (L2.Key × D)} {v : V} (r : RepV K H μ (.ref n) v) (h : S[n]? = some (.dk kvs)) : ∃ a gs, v = .ref a ∧ H a = some (.dK gs) ∧ gs.map (·.1) = kvs.map (·.1) ∧ RepVs K H μ (kvs.map (·.2)) (gs.map (·.2)) ∧ μ[n]? = some a := by
  cases r with
  | ref hm =>
    obtain ⟨o, h1, h2⟩ := s.s.cell n _ _ h hm
    cases o <;> first | exact h2.elim | skip
    exact ⟨_, _, rfl, h1, h2.1, h2.2, hm⟩
theorem Sim.hid (s : Sim K μ σ H ρ S) {n : Nat} {kvs : List (List Int × D)} {v : V} (r : RepV K H μ (.ref n) v) (h : S[n]? = some (.hid kvs)) : ∃ a o xs, v = .ref a ∧ H a = some (.frz o (DX a xs)) ∧ KVX K H μ kvs xs ∧ μ[n]? = some a := by
  cases r with
  | ref hm =>
    obtain ⟨o, xs, h1, h2⟩ := s.s.cell n _ _ h hm
    exact ⟨_, o, xs, rfl, h1, h2, hm⟩
theorem nt_dk {gs : List (L2.Key × V)} : NT (.dK gs) := ⟨(fun _ z => nomatch z), (fun _ _ z => nomatch z)⟩
theorem dk_get : ∀ {kvs : List (L2.Key × D)} {gs : List (L2.Key × V)}, gs.map (·.1) = kvs.map (·.1) → RepVs K H μ (kvs.map (·.2)) (gs.map (·.2)) → ∀ {k : L2.Key} {d : D}, kGet kvs k = some d → ∃ v, valV gs k = some v ∧ RepV K H μ d v
  | [], [], _, _, k, d, e => by cases e
  | [], _ :: _, h, _, _, _, _ => by simp at h
  | _ :: _, [], h, _, _, _, _ => by simp at h
  | p :: kvs, q :: gs, h, r, k, d, e => by
    simp only [List.map_cons, List.cons.injEq] at h
    cases r with
    | cons r1 rs =>
      unfold kGet at e
      unfold valV
      rw [List.find?_cons] at e ⊢
      rw [h.1]
      by_cases z : p.1 = k
      · simp only [z, decide_true, Option.map_some, Option.some.injEq] at e ⊢
        exact ⟨_, rfl, e ▸ r1⟩
      · simp only [z, decide_false] at e ⊢
        exact dk_get h.2 rs e
theorem dk_any {kvs : List (L2.Key × D)} {gs : List (L2.Key × V)} (h : gs.map (·.1) = kvs.map (·.1)) (k : L2.Key) : (gs.any fun p => decide (p.1 = k)) = kvs.any fun p => decide (p.1 = k) := by
  have e1 : (gs.any fun p => decide (p.1 = k)) = (gs.map (·.1)).any fun x => decide (x = k) := by rw [List.any_map]; rfl
  have e2 : (kvs.any fun p => decide (p.1 = k)) = (kvs.map (·.1)).any fun x => decide (x = k) := by rw [List.any_map]; rfl
  rw [e1, e2, h]
theorem dk_repl {k : L2.Key} {d : D} {v : V} (rv : RepV K H μ d v) : ∀ {kvs : List (L2.Key × D)} {gs : List (L2.Key × V)}, gs.map (·.1) = kvs.map (·.1) → RepVs K H μ (kvs.map (·.2)) (gs.map (·.2)) →
    (gs.map fun p => if p.1 = k then (p.1, v) else p).map (·.1) = (kvs.map fun p => if p.1 = k then (p.1, d) else p).map (·.1) ∧ RepVs K H μ ((kvs.map fun p => if p.1 = k then (p.1, d) else p).map (·.2)) ((gs.map fun p => if p.1 = k then (p.1, v) else p).map (·.2))
  | [], [], _, _ => ⟨rfl, .nil⟩
  | [], _ :: _, h, _ => by simp at h
  | _ :: _, [], h, _ => by simp at h
  | p :: kvs, q :: gs, h, r => by
    simp only [List.map_cons, List.cons.injEq] at h
    cases r with
    | cons r1 rs =>
      obtain ⟨i1, i2⟩ := dk_repl rv h.2 rs
      simp only [List.map_cons, List.cons.injEq]
      rw [h.1]
      by_cases z : p.1 = k
      · simp only [z, if_true]; exact ⟨⟨trivial, i1⟩, .cons rv i2⟩
      · simp only [z, if_false]; exact ⟨⟨h.1, i1⟩, .cons r1 i2⟩
theorem dk_put {kvs : List (L2.Key × D)} {gs : List (L2.Key × V)} (h : gs.map (·.1) = kvs.map (·.1)) (r : RepVs K H μ (kvs.map (·.2)) (gs.map (·.2))) {k : L2.Key} {d : D} {v : V} (rv : RepV K H μ d v) :
    (putK gs k v).map (·.1) = (kPut kvs k d).map (·.1) ∧ RepVs K H μ ((kPut kvs k d).map (·.2)) ((putK gs k v).map (·.2)) := by
  unfold putK kPut
  rw [dk_any h]
  by_cases z : (kvs.any fun p => decide (p.1 = k)) = true
  · rw [if_pos z, if_pos z]; exact dk_repl rv h r
  · rw [if_neg z, if_neg z]
    simp only [List.map_append, List.map_cons, List.map_nil, h]
    exact ⟨trivial, r.append (.cons rv .nil)⟩
theorem dPut_len (kvs : List (List Int × D)) (k : List Int) (d : D) : (dPut kvs k d).length ≤ kvs.length + 1 := by
  unfold dPut; split <;> simp
theorem KVX.puts : ∀ {ps : List (List Int × D)} {qs : List (List Int × Addr × V)} {rs : List (List Int × Addr × Value)} {kvs : List (List Int × D)} {xs : List (List Int × Addr × Value)},
    Paired (fun (p : List Int × D) (q : List Int × Addr × V) => p.1 = q.1 ∧ SqT K H q.2.1 (q.1.map V.int) ∧ RepV K H μ p.2 q.2.2) ps qs → KVs qs rs → KVX K H μ kvs xs → KVX K H μ (dPuts kvs ps) (storedAllH xs rs)
  | [], _, _, _, _, .nil, .nil, r => r
  | p :: ps, q :: qs, x :: rs, kvs, xs, .cons h t, .cons h2 t2, r => by
    obtain ⟨a1, a2, a3⟩ := h
    obtain ⟨b1, b2, b3⟩ := h2
    show KVX K H μ (dPuts (dPut kvs p.1 p.2) ps) (storedAllH (storedH xs x.1 x.2.1 x.2.2) rs)
    refine KVX.puts t t2 ?_
    rw [a1, ← b1, ← b2]
    exact r.put a2 a3 b3
/-- a display is filled -/
theorem dd_done {γ : Nat → Value} {W : WX} {n : Nat} {p : Addr} {ps : List (D × D)} {vs : List (V × V)} {Q : VK} (s : Sim K μ σ H ρ S) (hm : μ[n]? = some p) (hps : Paired (fun (a : D × D) (b : V × V) => RepV K H μ a.1 b.1 ∧ RepV K H μ a.2 b.2) ps vs) (hl : ps.length ≤ 15)
    (q : PostR K γ W (relV K) μ H σ ρ (ddR n ps S) Q) :
    ∃ kvs : List (List Int × Addr × V), vs = kvs.map (fun q => (V.ref q.2.1, q.2.2)) ∧ H p = some (DX p []) ∧ (∀ q ∈ kvs, SqT K H q.2.1 (q.1.map V.int)) ∧ kvs.length ≤ 15 ∧ ∀ rs, KVs kvs rs → Q (.ref p) (upd H p (DX p (storedAllH [] rs))) := by
  unfold ddR at q
  split at q
  case h_2 => exact q.elim
  case h_1 hS =>
    split at q
    case h_2 => exact q.elim
    case h_1 kvs hk =>
      obtain ⟨xs0, hp, rx⟩ := s.s.cell n _ _ hS hm
      cases rx
      have key : ∀ {ps : List (D × D)} {vs : List (V × V)} {kvs : List (List Int × D)}, Paired (fun (a : D × D) (b : V × V) => RepV K H μ a.1 b.1 ∧ RepV K H μ a.2 b.2) ps vs → keysI ps = some kvs →
          ∃ qs : List (List Int × Addr × V), vs = qs.map (fun q => (V.ref q.2.1, q.2.2)) ∧ Paired (fun (p : List Int × D) (q : List Int × Addr × V) => p.1 = q.1 ∧ SqT K H q.2.1 (q.1.map V.int) ∧ RepV K H μ p.2 q.2.2) kvs qs := by
        intro ps vs kvs hps
        induction hps generalizing kvs with
        | nil => intro e; cases e; exact ⟨[], rfl, .nil⟩
        | @cons a b as bs h t ih =>
          intro e
          simp only [keysI] at e
          split at e
          case h_2 => cases e
          case h_1 k ks e1 e2 =>
            cases e
            obtain ⟨qs, rfl, pq⟩ := ih e2
            obtain ⟨ad, hv, hq⟩ := key_rep h.1 e1
            exact ⟨(k, ad, b.2) :: qs, by rw [List.map_cons, ← hv], .cons ⟨rfl, hq, h.2⟩ pq⟩
      obtain ⟨qs, rfl, pq⟩ := key hps hk
      have lq := Paired.length pq
      have l2 := Paired.length hps
      rw [List.length_map] at l2
      have kq : ∀ {ps : List (List Int × D)} {qs : List (List Int × Addr × V)}, Paired (fun (p : List Int × D) (q : List Int × Addr × V) => p.1 = q.1 ∧ SqT K H q.2.1 (q.1.map V.int) ∧ RepV K H μ p.2 q.2.2) ps qs → ∀ q ∈ qs, SqT K H q.2.1 (q.1.map V.int) := by
        intro ps qs r
        induction r with
        | nil => intro q hq; cases hq
        | cons h t ih =>
          intro q hq
          rcases List.mem_cons.mp hq with rfl | hq
          · exact h.2.1
          · exact ih q hq
      refine ⟨qs, rfl, hp, kq pq, by omega, fun rs hr => ?_⟩
      have le : Le K μ H μ (upd H p (DX p (storedAllH [] rs))) := le_updC hp nt_dx
      exact q μ _ _ le ⟨s.e.mono le, s.s.writeC hS hm hp nt_dx rfl rfl ⟨_, upd_same, (KVX.puts pq hr .nil).mono le⟩⟩ (.ref hm)
/-- == of two data, by what they are as PyData -/
theorem eq_dp (s : Sim K μ σ H ρ S) {x y : D} {v u : V} {b : Bool} (rx : RepV K H μ x v) (ry : RepV K H μ y u) (e : eqDp S x y = some b) :
    ∃ d e, Dp K H v d ∧ Dp K H u e ∧ SeqAt.shaped d = true ∧ SeqAt.shaped e = true ∧ PyData.eqv d e = b := by
  unfold eqDp at e
  split at e
  case h_1 e1 e2 =>
    split at e
    case isTrue hs =>
      rw [Bool.and_eq_true] at hs
      cases e
      exact ⟨_, _, dp_sim s rx e1, dp_sim s ry e2, hs.1, hs.2, rfl⟩
    case isFalse => cases e
  case h_2 => cases e
theorem hits_of {X : Cx} {pins : List (Addr × Obj)} {σ' : L2.St} {sh : Shared} (hK : X.K = K) (I : Inv X pins σ' H sh) (hu : X.A.units + 66 < cLine) (s : Sim K μ σ H ρ S) {kb : List (List Int × D)} {xb : List (List Int × Addr × Value)} (rb : KVX K H μ kb xb) :
    ∀ {ka : List (List Int × D)} {xa : List (List Int × Addr × Value)} {r : Bool}, KVX K H μ ka xa → eqKvs S kb ka = some r → HitsH X.prog X.w X.A.in1 sh xb xa r
  | _, _, r, .nil, e => by cases e; exact .nil
  | (k, d) :: ka, (k', p) :: xa, r, .cons h t, e => by
    obtain ⟨h1, h2, v, h3, h4⟩ := h
    simp only at h1 h2 h3 h4
    subst h1
    have g := rb.get k
    simp only [eqKvs] at e
    cases hg : dGet kb k with
    | none =>
      rw [hg] at e g
      cases e
      exact .miss g
    | some d2 =>
      rw [hg] at e g
      obtain ⟨q, v2, g1, g2, g3⟩ := g
      simp only at e
      split at e
      case h_2 => cases e
      case h_1 x y e1 e2 =>
        cases e
        obtain ⟨p1, p2, q1, q2, q3, q4, q5⟩ := eq_dp s h3 g2 e1
        have ih := hits_of hK I hu s rb t e2
        subst hK
        obtain ⟨as, r1⟩ := Dp.reads I p1 v p.2 q1 h4
        obtain ⟨bs, r2⟩ := Dp.reads I p2 v2 q.2 q2 g3
        have ea := PySem.W.keq_at (A := X.A) r1 r2 q3 q4 (by show X.A.units + 1 + 64 < cLine; omega)
        rw [q5] at ea
        exact .hit g1 ea.eqP ih
theorem RepV.flat {d : D} {v : V} (r : RepV K H μ d v) (h : flatD d = true) : flatV v = true := by
  cases r <;> first | rfl | simp [flatD] at h
theorem RepVs.flat : ∀ {ds : List D} {vs : List V}, RepVs K H μ ds vs → ds.all flatD = true → vs.all flatV = true
  | _, _, .nil, _ => rfl
  | _, _, .cons r rs, h => by
    simp only [List.all_cons, Bool.and_eq_true] at h ⊢
    exact ⟨r.flat h.1, RepVs.flat rs h.2⟩
theorem eqF_of {x y : D} {v u : V} (rx : RepV K H μ x v) (ry : RepV K H μ y u) (hx : flatD x = true) (hy : flatD y = true) : eqV u v = eqF y x := by
  cases rx <;> cases ry <;> first | rfl | (simp [flatD] at hx; done) | (simp [flatD] at hy; done) | (simp only [eqV, eqF, Bool.beq_eq_decide_eq]) | simp only [eqV, eqF]
theorem inF_of {x : D} {v : V} (rx : RepV K H μ x v) (hx : flatD x = true) : ∀ {ds : List D} {vs : List V}, RepVs K H μ ds vs → ds.all flatD = true → inV v vs = inF x ds
  | _, _, .nil, _ => rfl
  | _, _, .cons r rs, h => by
    simp only [List.all_cons, Bool.and_eq_true] at h
    have ih := inF_of rx hx rs h.2
    unfold inV inF at ih ⊢
    simp only [List.any_cons]
    rw [eqF_of rx r hx h.1, ih]
theorem lex_of : ∀ {xs ys : List D} {vs us : List V} {b : Bool}, RepVs K H μ xs vs → RepVs K H μ ys us → lexD xs ys = some b → ∃ ns ms : List Int, vs = ns.map V.int ∧ us = ms.map V.int ∧ HT.lexLt ns ms = b
  | [], [], _, _, _, .nil, .nil, e => by simp only [lexD, Option.some.injEq] at e; exact ⟨[], [], rfl, rfl, by rw [← e]; rfl⟩
  | [], y :: ys, _, _, _, .nil, .cons r rs, e => by
    cases y <;> simp only [lexD] at e <;> first | (cases e; done) | skip
    rename_i j
    simp only [Option.map_eq_some_iff] at e
    obtain ⟨b', e1, rfl⟩ := e
    obtain ⟨ns, ms, h1, h2, _⟩ := lex_of .nil rs e1
    cases r
    cases ns with
    | nil => exact ⟨[], j :: ms, rfl, by rw [h2]; rfl, rfl⟩
    | cons => cases h1
  | x :: xs, [], _, _, _, .cons r rs, .nil, e => by
    cases x <;> simp only [lexD] at e <;> first | (cases e; done) | skip
    rename_i j
    simp only [Option.map_eq_some_iff] at e
    obtain ⟨b', e1, rfl⟩ := e
    obtain ⟨ns, ms, h1, h2, _⟩ := lex_of rs .nil e1
    cases r
    cases ms with
    | nil => exact ⟨j :: ns, [], by rw [h1]; rfl, rfl, rfl⟩
    | cons => cases h2
  | x :: xs, y :: ys, _, _, _, .cons r rs, .cons q qs, e => by
    cases x <;> cases y <;> simp only [lexD] at e <;> first | (cases e; done) | skip
    rename_i i j
    simp only [Option.map_eq_some_iff] at e
    obtain ⟨b', e1, rfl⟩ := e
    obtain ⟨ns, ms, h1, h2, h3⟩ := lex_of rs qs e1
    cases r; cases q
    refine ⟨i :: ns, j :: ms, by rw [h1]; rfl, by rw [h2]; rfl, ?_⟩
    rw [HT.lexLt_cons, h3]
variable {X : Cx}
def cmpOf : CO → CmpOp
  | .eq => .Eq | .ne => .NotEq | .lt => .Lt | .le => .LtE | .gt => .Gt | .ge => .GtE | .is => .Is | .isnot => .IsNot | .in_ => .In | .notin => .NotIn
theorem cmp_here {o : CO} {x y : D} {b : Bool} {Q : VK} (h : PostR K γ W (relV K) μ H σ ρ (cmpR o x y S) Q) (s : Sim K μ σ H ρ S) (e : cmp2 o x y S = some b) : Q (.bl b) H := by
  unfold cmpR at h
  rw [e] at h
  exact h.here s (.bl b)
/-- the comparison is one the engine knows -/
theorem cmp_some {o : CO} {x y : D} {Q : VK} (h : PostR K γ W (relV K) μ H σ ρ (cmpR o x y S) Q) : ∃ b, cmp2 o x y S = some b := by
  unfold cmpR at h
  cases e : cmp2 o x y S with
  | some b => exact ⟨b, rfl⟩
  | none => rw [e] at h; exact h.elim
theorem eqD_cases {x y : D} {b : Bool} (e : eqD S x y = some b) : eqD0 S x y = some b ∨ eqDct S x y = some b := by
  unfold eqD at e
  split at e
  · rename_i b' h; cases e; exact .inl h
  · exact .inr e
theorem eq_dct (s : Sim K μ σ H ρ S) {x y : D} {v u : V} {b : Bool} (rx : RepV K H μ x v) (ry : RepV K H μ y u) (e : eqDct S x y = some b) {neg : Bool} {Q : VK} (q : Q (.bl (b ^^ neg)) H) : rEqX K neg v u H Q := by
  unfold eqDct at e
  split at e
  case h_2 => cases e
  case h_1 m n =>
    split at e
    case h_2 => cases e
    case h_1 ka kb h1 h2 =>
      obtain ⟨a, xa, rfl, ea, ra⟩ := s.rd rx h1
      obtain ⟨b', xb, rfl, eb, rb⟩ := s.rd ry h2
      have la := ra.length
      have lb := rb.length
      split at e
      case isTrue hl =>
        refine ⟨a, b', xa, xb, b, rfl, rfl, ea, eb, ra.kx, rb.kx, fun X pins σ' sh hK I hu _ => hits_of hK I hu s rb ra e, ?_⟩
        rw [show (xa.length == xb.length) = true from by rw [← la, ← lb, hl]; simp, Bool.true_and]
        exact q
      case isFalse hl =>
        cases e
        refine ⟨a, b', xa, xb, false, rfl, rfl, ea, eb, ra.kx, rb.kx, fun X pins σ' sh hK I hu hz => absurd (by rw [la, lb]; exact hz) hl, ?_⟩
        rw [Bool.and_false]
        exact q
theorem cmp_eq (hu : X.A.units + 66 < cLine) : OpR X (compareOp .Eq) (opV X.K γ W (cmpR .eq)) := by
  refine opR_imp ((op_eq.or (op_eqD (by omega))).or (eq_dx hu)) fun x y H Q ⟨μ, σ, ρ, S, d, e, s, rx, ry, h⟩ => ?_
  obtain ⟨b, e1⟩ := cmp_some h
  have q := cmp_here h s e1
  rcases eqD_cases e1 with e1 | e1
  · rcases eq_sim s rx ry e1 with ⟨h1, h2⟩ | ⟨p, p', h1, h2, h3, h4, h5⟩
    · exact .inl (.inl ⟨h1, by rw [h2]; exact q⟩)
    · exact .inl (.inr ⟨p, p', h1, h2, h3, h4, by rw [h5]; exact q⟩)
  · exact .inr (eq_dct s rx ry e1 (by simpa using q))
theorem cmp_ne (hu : X.A.units + 66 < cLine) : OpR X (compareOp .NotEq) (opV X.K γ W (cmpR .ne)) := by
  refine opR_imp ((op_ne.or (op_neD (by omega))).or (ne_dx hu)) fun x y H Q ⟨μ, σ, ρ, S, d, e, s, rx, ry, h⟩ => ?_
  obtain ⟨b, e1⟩ := cmp_some h
  have q := cmp_here h s e1
  simp only [cmp2, Option.map_eq_some_iff] at e1
  obtain ⟨b', e2, rfl⟩ := e1
  rcases eqD_cases e2 with e2 | e2
  · rcases eq_sim s rx ry e2 with ⟨h1, h2⟩ | ⟨p, p', h1, h2, h3, h4, h5⟩
    · exact .inl (.inl ⟨h1, by rw [h2]; exact q⟩)
    · exact .inl (.inr ⟨p, p', h1, h2, h3, h4, by rw [h5]; exact q⟩)
  · exact .inr (eq_dct s rx ry e2 (by simpa using q))
theorem cmp_lt (hu : X.A.units + 64 < cLine) : OpR X (compareOp .Lt) (opV X.K γ W (cmpR .lt)) := by
  refine opR_imp (op_lt.or (op_ltT (by omega))) fun x y H Q ⟨μ, σ, ρ, S, d, e, s, rx, ry, h⟩ => ?_
  obtain ⟨b, e1⟩ := cmp_some h
  have q := cmp_here h s e1
  cases d <;> cases e <;> simp only [cmp2] at e1 <;> first | (cases e1; done) | skip
  · cases rx; cases ry
    cases e1
    exact .inl ⟨_, _, rfl, rfl, q⟩
  · cases rx with
    | tup h1 r1 =>
      cases ry with
      | tup h2 r2 =>
        obtain ⟨ns, ms, h3, h4, h5⟩ := lex_of r1 r2 e1
        exact .inr ⟨_, _, ns, ms, rfl, rfl, by rw [← h3]; exact h1, by rw [← h4]; exact h2, by rw [h5]; exact q⟩
theorem cmp_le : OpR X (compareOp .LtE) (opV X.K γ W (cmpR .le)) := by
  refine opR_imp op_le fun x y H Q ⟨μ, σ, ρ, S, d, e, s, rx, ry, h⟩ => ?_
  obtain ⟨b, e1⟩ := cmp_some h
  have q := cmp_here h s e1
  cases d <;> cases e <;> simp only [cmp2] at e1 <;> first | (cases e1; done) | skip
  cases rx; cases ry; cases e1
  exact ⟨_, _, rfl, rfl, q⟩
theorem cmp_gt : OpR X (compareOp .Gt) (opV X.K γ W (cmpR .gt)) := by
  refine opR_imp op_gt fun x y H Q ⟨μ, σ, ρ, S, d, e, s, rx, ry, h⟩ => ?_
  obtain ⟨b, e1⟩ := cmp_some h
  have q := cmp_here h s e1
  cases d <;> cases e <;> simp only [cmp2] at e1 <;> first | (cases e1; done) | skip
  cases rx; cases ry; cases e1
  exact ⟨_, _, rfl, rfl, q⟩
theorem cmp_ge : OpR X (compareOp .GtE) (opV X.K γ W (cmpR .ge)) := by
  refine opR_imp op_ge fun x y H Q ⟨μ, σ, ρ, S, d, e, s, rx, ry, h⟩ => ?_
  obtain ⟨b, e1⟩ := cmp_some h
  have q := cmp_here h s e1
  cases d <;> cases e <;> simp only [cmp2] at e1 <;> first | (cases e1; done) | skip
  cases rx; cases ry; cases e1
  exact ⟨_, _, rfl, rfl, q⟩
theorem cmp_is : OpR X (compareOp .Is) (opV X.K γ W (cmpR .is)) := by
  refine opR_imp (op_isBl.or op_isN) fun x y H Q ⟨μ, σ, ρ, S, d, e, s, rx, ry, h⟩ => ?_
  obtain ⟨b, e1⟩ := cmp_some h
  have q := cmp_here h s e1
  cases e with
  | bl b2 =>
    cases d <;> simp only [cmp2] at e1 <;> first | (cases e1; done) | skip
    cases rx; cases ry; cases e1
    exact .inl ⟨_, _, rfl, rfl, q⟩
  | non =>
    cases ry
    refine .inr ⟨rfl, ?_⟩
    cases rx <;> simp only [cmp2] at e1 <;> cases e1 <;> simpa using q
  | _ => cases d <;> simp only [cmp2] at e1 <;> cases e1
theorem cmp_isnot : OpR X (compareOp .IsNot) (opV X.K γ W (cmpR .isnot)) := by
  refine opR_imp (op_notBl.or op_notN) fun x y H Q ⟨μ, σ, ρ, S, d, e, s, rx, ry, h⟩ => ?_
  obtain ⟨b, e1⟩ := cmp_some h
  have q := cmp_here h s e1
  cases e with
  | bl b2 =>
    cases d <;> simp only [cmp2] at e1 <;> first | (cases e1; done) | skip
    cases rx; cases ry; cases e1
    exact .inl ⟨_, _, rfl, rfl, q⟩
  | non =>
    cases ry
    refine .inr ⟨rfl, ?_⟩
    cases rx <;> simp only [cmp2] at e1 <;> cases e1 <;> simpa using q
  | _ => cases d <;> simp only [cmp2] at e1 <;> cases e1
theorem cmp_in (hu : X.A.units + 66 < cLine) : OpR X (compareOp .In) (opV X.K γ W (cmpR .in_)) := by
  refine opR_imp ((op_in_seq.or (op_inD (by omega))).or (in_dx (by omega))) fun x y H Q ⟨μ, σ, ρ, S, d, e, s, rx, ry, h⟩ => ?_
  obtain ⟨b, e1⟩ := cmp_some h
  have q := cmp_here h s e1
  have key : ∀ ds, seqD S e = some ds → (if (flatD d && ds.all flatD) = true then some (inF d ds) else none) = some b → rIn X.K false x y H Q := fun ds hs hi => by
    split at hi
    case isFalse => cases hi
    case isTrue hf =>
      rw [Bool.and_eq_true] at hf
      cases hi
      obtain ⟨a, vs, rfl, hq, r⟩ := s.seq ry hs
      exact ⟨a, vs, rfl, hq, rx.flat hf.1, r.flat hf.2, by rw [inF_of rx hf.1 r hf.2]; exact q⟩
  cases e <;> simp only [cmp2] at e1 <;> first | (cases e1; done) | skip
  · exact .inl (.inl (key _ rfl e1))
  · rename_i n
    split at e1
    · rename_i ds hn
      split at e1
      · rename_i hf
        exact .inl (.inl (key ds (by simp only [seqD, hn]) (by rw [if_pos hf]; exact e1)))
      · refine .inl (.inr ?_)
        have e2 : inN S d ds = some b := by exact e1
        unfold inN at e2
        split at e2
        case h_2 => cases e2
        case h_1 p ps e3 e4 =>
          split at e2
          case isFalse => cases e2
          case isTrue hs =>
            rw [Bool.and_eq_true] at hs
            obtain ⟨a, vs, rfl, h1, r1, hm⟩ := s.list ry hn
            refine ⟨p, ps, dp_sim s rx e3, .lst (.of h1) (dps_of (fun n a p => dp_cell s 6 n a p) ds vs ps r1 e4), hs.1, hs.2, ?_⟩
            rw [Option.some.inj e2]
            exact q
    · rename_i ds hn
      exact .inl (.inl (key ds (by simp only [seqD, hn]) e1))
    · rename_i kvs hn
      rw [Option.map_eq_some_iff] at e1
      obtain ⟨k, hk, rfl⟩ := e1
      obtain ⟨a, xs, rfl, ea, ra⟩ := s.rd ry (kvs := kvs) (by rw [hn]; rfl)
      obtain ⟨b', rfl, hb⟩ := key_rep rx hk
      exact .inr ⟨a, b', xs, k, rfl, rfl, ea, ra.kx, hb, by rw [ra.isS k]; simpa using q⟩
    · rename_i kvs hn
      rw [Option.map_eq_some_iff] at e1
      obtain ⟨k, hk, rfl⟩ := e1
      obtain ⟨a, xs, rfl, ea, ra⟩ := s.rd ry (kvs := kvs) (by rw [hn]; rfl)
      obtain ⟨b', rfl, hb⟩ := key_rep rx hk
      exact .inr ⟨a, b', xs, k, rfl, rfl, ea, ra.kx, hb, by rw [ra.isS k]; simpa using q⟩
    · cases e1
theorem cmp_notin (hu : X.A.units + 66 < cLine) : OpR X (compareOp .NotIn) (opV X.K γ W (cmpR .notin)) := by
  refine opR_imp ((op_notIn_seq.or (op_notInD (by omega))).or (notIn_dx (by omega))) fun x y H Q ⟨μ, σ, ρ, S, d, e, s, rx, ry, h⟩ => ?_
  obtain ⟨b, e1⟩ := cmp_some h
  have q := cmp_here h s e1
  have key : ∀ ds, seqD S e = some ds → (if (flatD d && ds.all flatD) = true then some !(inF d ds) else none) = some b → rIn X.K true x y H Q := fun ds hs hi => by
    split at hi
    case isFalse => cases hi
    case isTrue hf =>
      rw [Bool.and_eq_true] at hf
      cases hi
      obtain ⟨a, vs, rfl, hq, r⟩ := s.seq ry hs
      exact ⟨a, vs, rfl, hq, rx.flat hf.1, r.flat hf.2, by rw [inF_of rx hf.1 r hf.2]; exact q⟩
  cases e <;> simp only [cmp2] at e1 <;> first | (cases e1; done) | skip
  · exact .inl (.inl (key _ rfl e1))
  · rename_i n
    split at e1
    · rename_i ds hn
      split at e1
      · rename_i hf
        exact .inl (.inl (key ds (by simp only [seqD, hn]) (by rw [if_pos hf]; exact e1)))
      · refine .inl (.inr ?_)
        have e2 : inN S d ds = some (!b) := by (simp only [Option.map_eq_some_iff] at e1; obtain ⟨b1, h1, rfl⟩ := e1; simpa using h1)
        unfold inN at e2
        split at e2
        case h_2 => cases e2
        case h_1 p ps e3 e4 =>
          split at e2
          case isFalse => cases e2
          case isTrue hs =>
            rw [Bool.and_eq_true] at hs
            obtain ⟨a, vs, rfl, h1, r1, hm⟩ := s.list ry hn
            refine ⟨p, ps, dp_sim s rx e3, .lst (.of h1) (dps_of (fun n a p => dp_cell s 6 n a p) ds vs ps r1 e4), hs.1, hs.2, ?_⟩
            rw [Option.some.inj e2]
            exact by simpa using q
    · rename_i ds hn
      exact .inl (.inl (key ds (by simp only [seqD, hn]) e1))
    · rename_i kvs hn
      rw [Option.map_eq_some_iff] at e1
      obtain ⟨k, hk, rfl⟩ := e1
      obtain ⟨a, xs, rfl, ea, ra⟩ := s.rd ry (kvs := kvs) (by rw [hn]; rfl)
      obtain ⟨b', rfl, hb⟩ := key_rep rx hk
      exact .inr ⟨a, b', xs, k, rfl, rfl, ea, ra.kx, hb, by rw [ra.isS k]; simpa using q⟩
    · rename_i kvs hn
      rw [Option.map_eq_some_iff] at e1
      obtain ⟨k, hk, rfl⟩ := e1
      obtain ⟨a, xs, rfl, ea, ra⟩ := s.rd ry (kvs := kvs) (by rw [hn]; rfl)
      obtain ⟨b', rfl, hb⟩ := key_rep rx hk
      exact .inr ⟨a, b', xs, k, rfl, rfl, ea, ra.kx, hb, by rw [ra.isS k]; simpa using q⟩
    · cases e1
theorem cmp_all (hu : X.A.units + 66 < cLine) (o : CO) : OpR X (compareOp (cmpOf o)) (opV X.K γ W (cmpR o)) := by
  cases o
  · exact cmp_eq (by omega)
  · exact cmp_ne (by omega)
  · exact cmp_lt (by omega)
  · exact cmp_le
  · exact cmp_gt
  · exact cmp_ge
  · exact cmp_is
  · exact cmp_isnot
  · exact cmp_in hu
  · exact cmp_notin hu
/-! ### truth -/
theorem tru_of (s : Sim K μ σ H ρ S) {d : D} {v : V} {b : Bool} (r : RepV K H μ d v) (e : truD0 S d = some b) : TruV K v H b := by
  cases d with
  | non => cases r; cases e; rfl
  | bl x => cases r; cases e; rfl
  | int i => cases r; cases e; rfl
  | str x =>
    cases r
    simp only [truD0] at e
    split at e
    case isTrue h => cases e; exact ⟨by rw [← linesz_eq]; exact h, rfl⟩
    case isFalse => cases e
  | tup ds =>
    cases r with
    | tup h r => cases e; exact .inr (.inl ⟨_, h, by rw [r.isEmpty]⟩)
  | ref n =>
    simp only [truD0] at e
    split at e
    · cases e
      obtain ⟨a, vs, rfl, h1, h2, _⟩ := s.list r (by assumption)
      exact .inl ⟨vs, .of h1, by rw [h2.isEmpty]⟩
    · cases e
      obtain ⟨a, vs, rfl, h1, h2, _⟩ := s.roL r (by assumption)
      exact .inl ⟨vs, h1.sq, by rw [h2.isEmpty]⟩
    · cases e
  | exc => cases e
theorem truD_old {d : D} (hn : ∀ n kvs, d = .ref n → rdC S[n]? ≠ some kvs) : truD S d = truD0 S d := by
  cases d <;> try rfl
  rename_i n
  simp only [truD, truD0]
  cases hc : S[n]? with
  | none => rfl
  | some c =>
    cases c with
    | dct kvs => exact absurd (by rw [hc]; rfl) (hn n kvs rfl)
    | hid kvs => exact absurd (by rw [hc]; rfl) (hn n kvs rfl)
    | _ => rfl
theorem tru_some {d : D} {Q : Bool → Hp → Prop} (h : PostR K γ W relEq μ H σ ρ (truR d S) Q) (s : Sim K μ σ H ρ S) : ∃ b, truD S d = some b ∧ Q b H := by
  unfold truR at h
  cases e : truD S d with
  | some b => rw [e] at h; exact ⟨b, rfl, h.here s rfl⟩
  | none => rw [e] at h; exact h.elim
theorem tru_all : TruR X (truV X.K γ W truR) := by
  intro pins s σ H x v Q I rx ⟨μ, σ', ρ, S, d, sm, rd, h⟩
  obtain ⟨b, e, q⟩ := tru_some h sm
  by_cases hd : ∃ n kvs, d = .ref n ∧ rdC S[n]? = some kvs
  · obtain ⟨n, kvs, rfl, hk⟩ := hd
    obtain ⟨a, xs, rfl, ea, ra⟩ := sm.rd rd hk
    obtain rfl : v = Value.ref a := rx
    have hb : b = !xs.isEmpty := by
      have hl : kvs.isEmpty = xs.isEmpty := by cases ra <;> rfl
      rw [← hl]
      unfold rdC at hk
      simp only [truD] at e
      split at hk
      · rename_i h1; cases hk; rw [h1] at e; exact (Option.some.inj e).symm
      · rename_i h1; cases hk; rw [h1] at e; exact (Option.some.inj e).symm
      · cases hk
    exact tru_dx I ea (hb ▸ q)
  · rw [truD_old (fun n kvs e1 e2 => hd ⟨n, kvs, e1, e2⟩)] at e
    exact tru_ok pins s σ H x v Q I rx ⟨b, tru_of sm rd e, q⟩
/-- a test by its value's truth; not -/
theorem pt_truR {x : Expr} {ta : TE} {r : V → Hp → (Bool → Hp → Prop) → Prop} (h : PE X x ta) (ht : TruR X r) (he : ∀ whole, isTrue x X.env whole = (do let v ← whole; standAt x.pos; holding [v] (truthy v))) : PT X x (fun σ H Q => ta σ H fun z H' => r z H' Q) :=
  ⟨fun pins s σ H Q I q => isTrue_plain (thn (h.run pins s σ H _ I q) fun v s1 ⟨z, H1, I1, r1, q1⟩ => ht pins s1 σ H1 z v Q I1 r1 q1) (he _)⟩
theorem pe_notR {x : Expr} {pos : Pos} {ta : TE} {r : V → Hp → (Bool → Hp → Prop) → Prop} (h : PE X x ta) (ht : TruR X r) : PE X (.UnaryOp .Not x pos) (fun σ H Q => ta σ H fun z H' => r z H' fun c H2 => Q (.bl (!c)) H2) :=
  ⟨fun pins s σ H Q I q => UnaryOp_ (thn (h.run pins s σ H _ I q) fun v s1 ⟨z, H1, I1, r1, q1⟩ => not_of (thn (ht pins s1 σ H1 z v _ I1 r1 q1) fun c s2 ⟨H2, I2, q2⟩ => ⟨.bl (!c), H2, I2, rfl, q2⟩))⟩
/-! ### items, slices -/
theorem atI_rep {ds : List D} {vs : List V} {i : Int} {d : D} (r : RepVs K H μ ds vs) (h : L2.atI ds i = some d) : ∃ v, L2.atI vs i = some v ∧ RepV K H μ d v := by
  unfold L2.atI at h ⊢
  rw [r.length]
  cases e : L2.ixN ds.length i with
  | none => rw [e] at h; cases h
  | some j =>
    rw [e] at h
    obtain ⟨v, h1, h2⟩ := r.get (show ds[j]? = some d from h)
    exact ⟨v, h1, h2⟩
theorem ix_all (hu : X.A.units + 1 < cLine) : IxR X (opV X.K γ W ix2) := by
  refine ixR_imp ((ix_seq.or (ix_dx hu)).or (ix_dk hu)) fun x y H Q ⟨μ, σ, ρ, S, d, e, s, rx, ry, h⟩ => ?_
  by_cases hd : ∃ n ks, d = .ref n ∧ e = .tup ks
  · obtain ⟨n, ks, rfl, rfl⟩ := hd
    left; right
    simp only [ix2] at h
    split at h
    case h_2 => exact h.elim
    case h_1 kvs hn =>
      split at h
      case h_2 => exact h.elim
      case h_1 k hk =>
        split at h
        case h_2 => exact h.elim
        case h_1 dd hg =>
          obtain ⟨a, xs, rfl, ea, ra⟩ := s.rd rx hn
          obtain ⟨b', rfl, hb⟩ := key_rep ry (show keyI (.tup ks) = some k from hk)
          have g := ra.get k
          rw [hg] at g
          obtain ⟨p, v, g1, g2, g3⟩ := g
          exact ⟨a, b', xs, k, p, v, rfl, rfl, ea, ra.kx, hb, g1, g3, h.here s g2⟩
  by_cases hk : ∃ n z, d = .ref n ∧ e = .str z
  · obtain ⟨n, z, rfl, rfl⟩ := hk
    right
    simp only [ix2] at h
    split at h
    case h_2 => exact h.elim
    case h_1 kvs hn =>
      split at h
      case h_2 => exact h.elim
      case h_1 dd hg =>
        obtain ⟨a, gs, rfl, ea, g1, g2, _⟩ := s.dk rx hn
        cases ry
        obtain ⟨v, e1, e2⟩ := dk_get g1 g2 hg
        exact ⟨a, gs, .inr z, v, rfl, rfl, ea, e1, h.here s e2⟩
  left; left
  cases d <;> cases e <;> first | (exfalso; exact h) | (exfalso; exact hd ⟨_, _, rfl, rfl⟩) | (exfalso; exact hk ⟨_, _, rfl, rfl⟩) | skip
  · cases rx; cases ry
    simp only [ix2] at h
    split at h
    case isFalse => exact h.elim
    case isTrue hz =>
      split at h
      case h_1 c hc => exact .inr (.inr ⟨_, _, c, rfl, rfl, by rw [← linesz_eq]; exact hz, hc, h.here s (.str _)⟩)
      case h_2 => exact h.elim
  · cases ry
    cases rx with
    | tup h1 r =>
      simp only [ix2] at h
      split at h
      case h_1 d hd =>
        obtain ⟨v, e1, e2⟩ := atI_rep r hd
        exact .inr (.inl ⟨_, _, _, v, rfl, rfl, h1, e1, h.here s e2⟩)
      case h_2 => exact h.elim
  · cases ry
    simp only [ix2] at h
    split at h
    · split at h
      case h_2 => exact h.elim
      case h_1 d hd =>
        obtain ⟨a, vs, rfl, h1, r, _⟩ := s.list rx (by assumption)
        obtain ⟨v, e1, e2⟩ := atI_rep r hd
        exact .inl ⟨_, _, _, v, rfl, rfl, .of h1, e1, h.here s e2⟩
    · split at h
      case h_2 => exact h.elim
      case h_1 d hd =>
        obtain ⟨a, vs, rfl, h1, r, _⟩ := s.roL rx (by assumption)
        obtain ⟨v, e1, e2⟩ := atI_rep r hd
        exact .inl ⟨_, _, _, v, rfl, rfl, h1.sq, e1, h.here s e2⟩
    · exact h.elim
theorem cut_rep {ds : List D} {vs : List V} (r : RepVs K H μ ds vs) (lo hi : Option Int) : RepVs K H μ (cutD ds lo hi) (L2.cutV vs lo hi) := by
  unfold cutD L2.cutV
  rw [r.length]
  exact (r.drop _).take _
theorem slc_all : SlR X (slV X.K γ W slc2) := by
  refine slR_imp (SlR.or C8.sl_txt (sl_list.or sl_tupA)) fun x lo hi H Q ⟨μ, σ, ρ, S, d, s, rx, h⟩ => ?_
  cases d <;> first | (exfalso; exact h) | skip
  · cases rx
    simp only [slc2] at h
    split at h
    · rename_i hz
      exact .inl ⟨_, rfl, by rw [← linesz_eq]; exact hz, h.here s (.str _)⟩
    · exact h.elim
  · cases rx with
    | tup h1 r =>
      simp only [slc2] at h
      refine .inr (.inr ⟨_, _, rfl, h1, fun hw => ?_, fun _ => h.newT s (cut_rep r lo hi)⟩)
      have q : PostR X.K γ W (relV X.K) μ H σ ρ (.ok (.tup (cutD _ lo hi)) S) Q := h
      refine q.here s (.tup h1 ?_)
      rename_i a vs ds
      have e1 : L2.cutV vs lo hi = vs := by
        unfold L2.cutV
        rw [hw.1, hw.2]
        simp
      have t := cut_rep r lo hi
      rw [e1] at t
      exact t
  · simp only [slc2] at h
    split at h
    · obtain ⟨a, vs, rfl, h1, r, _⟩ := s.list rx (by assumption)
      exact .inr (.inl ⟨a, vs, rfl, .of h1, h.newL s (cut_rep r lo hi)⟩)
    · obtain ⟨a, vs, rfl, h1, r, _⟩ := s.roL rx (by assumption)
      exact .inr (.inl ⟨a, vs, rfl, h1.sq, h.newL s (cut_rep r lo hi)⟩)
    · exact h.elim
end
end Ng

set_option Elab.async false
set_option linter.all false
set_option maxRecDepth 100000
set_option maxHeartbeats 4000000
/-! What the text must be for an expression of the engine; that the engine reads it. -/
namespace Ng
open PySem PySem.Spec PyProof.Rows L2

/-- a constant of the top: a value, a dict with text keys -/
inductive GC where
  | v (d : D) | d (kvs : List (Str × D)) | f (tbl : List (Str × Str × Nat)) | i (kvs : List (Int × D))
  deriving DecidableEq
/-- a def's key: a top def, a method, a constructor -/
inductive FK where
  | fn (x : Str) | me (c m : Str) | mk (c : Str)
  deriving DecidableEq
/-- what is known of the place: the names by slot, the scope, which cells may be stored, whether nothing is being handled; the defs by number, the constants, the built-ins that the module does not hide -/
structure Gam where
  N : List Str
  sc : Scope
  fn : Str → Bool
  calm : Bool
  fns : List FK
  atr : List (Str × Str)
  glb : List (Str × GC)
  blt : List Str
  exs : List Str
  isa : List (Str × List Bool)
  hot : Bool
def glX (Γ : Gam) (x : Str) : Bool := decide (Γ.sc.names.lookup x = some .globalImplicit)
def blX (Γ : Gam) (x : Str) : Bool := glX Γ x && Γ.blt.contains x
def visX (Γ : Gam) (x : Str) : Bool := match Γ.sc.names.lookup x with | some .local => true | some .cell => true | some .free => true | _ => false
def nodbg (x : Str) : Bool := !(x == ("__debug__" : Str)) && !(x == ("__classdict__" : Str)) && !(x == ("__name__" : Str))
def biName : Bi → Str
  | .len => "len" | .abs => "abs" | .min2 => "min" | .max2 => "max" | .min3 => "min" | .max3 => "max" | .int => "int" | .str => "str" | .tuple => "tuple" | .list => "list" | .any => "any" | .all => "all" | .sum => "sum"
  | .sorted => "sorted" | .minL => "min" | .maxL => "max" | .dict0 => "dict" | .dict => "dict"
/-- how many arguments; 0: not served -/
def biArgs : Bi → Nat
  | .len => 1 | .abs => 1 | .min2 => 2 | .max2 => 2 | .min3 => 3 | .max3 => 3 | .int => 1 | .str => 1 | .tuple => 1 | .list => 1 | .any => 1 | .all => 1 | .sum => 1 | .sorted => 1 | .minL => 1 | .maxL => 1 | .dict => 1
  | _ => 0
def tyName : Ty → String
  | .int => "int" | .bool => "bool" | .str => "str" | .tuple => "tuple" | .list => "list" | .dict => "dict"
/-- what a piece of text is: an expression, arguments, a part of a slice, an iterable -/
structure Ck where
  e : Expr → Bool
  a : List Expr → Bool
  o : Option Expr → Bool
  i : Expr → Expr → Bool
def Ck.ofE (f : Expr → Bool) : Ck := { e := f, a := fun _ => false, o := fun x => match x with | some x => f x | none => false, i := fun x _ => f x }
def Ck.no : Ck := Ck.ofE fun _ => false
def ckRest (f : Expr → Bool) (op : BoolOp) (pos : Pos) : List Expr → Bool
  | [] => false
  | [y] => f y
  | y :: z :: r => f (.BoolOp op (y :: z :: r) pos)
def tyExpr (Γ : Gam) (t : Ty) : Expr → Bool
  | .Name x _ => decide (x = Str.ofString (tyName t)) && blX Γ x
  | _ => false
def tyExprs (Γ : Gam) : List Ty → List Expr → Bool
  | [], [] => true
  | t :: ts, e :: es => tyExpr Γ t e && tyExprs Γ ts es
  | _, _ => false
/-- a target of names -/
def ckName (Γ : Gam) (i : Nat) (x : Str) : Bool := decide (Γ.N[i]? = some x) && (match Γ.sc.names.lookup x with | some .local => true | some .cell => Γ.fn x | _ => false)
def ckGs (Γ : Gam) : E → List Expr → Bool
  | .nil, [] => true
  | .cons (.var i) ts, .Name x _ :: es => ckName Γ i x && ckGs Γ ts es
  | _, _ => false
def ckG (Γ : Gam) : E → Expr → Bool
  | .var i, .Name x _ => ckName Γ i x
  | .tup ts, .Tuple es _ _ => Γ.calm && ckGs Γ ts es
  | _, _ => false
def tgSlots : E → List Nat
  | .var i => [i]
  | .tup ts => tgSlots ts
  | .cons (.var i) ts => i :: tgSlots ts
  | _ => []
def ownOf (N : List Str) (own : List Nat) : List (Str × Nat) := own.filterMap fun i => (N[i]?).map fun x => (x, i)
def Gam.blk (Γ : Gam) (scope : Scope) : Gam := { Γ with sc := relS scope Γ.sc, fn := fun x => scope.names.lookup x == some .cell, hot := false }
def Gam.suite (Γ : Gam) : Gam := { Γ with calm := false, hot := true }
def isSet : Expr → Bool
  | .Set .. => true
  | _ => false
def isTupE : Expr → Bool
  | .Tuple .. => true
  | _ => false
/-- built-ins that may be called while an exception is handled -/
def calmFree : Bi → Bool
  | .len => true | .abs => true | .int => true | .str => true | .tuple => true | .list => true
  | _ => false
def plainObj : Expr → Bool
  | .Call _ (_ :: _) _ _ => true
  | .Call .. => false
  | _ => true
/-- the written keys of a display -/
def ckKeys : List Str → List (Option Expr) → Bool
  | [], [] => true
  | k :: ks, some (.Constant (.str z) _ _) :: r => decide (k = z) && ckKeys ks r
  | _, _ => false
def chk : E → Gam → Ck
  | .var i, Γ => Ck.ofE fun x => match x with
    | .Name x _ => decide (Γ.N[i]? = some x) && visX Γ x && nodbg x
    | _ => false
  | .non, _ => Ck.ofE fun x => match x with | .Constant .none _ _ => true | _ => false
  | .bl b, _ => Ck.ofE fun x => match x with | .Constant (.bool c) _ _ => b == c | _ => false
  | .int i, _ => Ck.ofE fun x => match x with | .Constant (.int j) _ _ => i == j | _ => false
  | .str s, _ => Ck.ofE fun x => match x with | .Constant (.str t) _ _ => decide (s = t) | _ => false
  | .glb y d, Γ => Ck.ofE fun x => match x with
    | .Name x _ => decide (x = y) && glX Γ x && nodbg x && decide (Γ.glb.lookup x = some (.v d))
    | _ => false
  | .bin o a b, Γ => Ck.ofE fun x => match x with | .BinOp l p r _ => decide (p = opOf o) && (chk a Γ).e l && (chk b Γ).e r | _ => false
  | .neg a, Γ => Ck.ofE fun x => match x with | .UnaryOp .USub y _ => (chk a Γ).e y | _ => false
  | .cmp o a b, Γ => Ck.ofE fun x => match x with | .Compare l [p] [r] _ => decide (p = cmpOf o) && (chk a Γ).e l && (chk b Γ).e r && !(behindInMarks p r) | _ => false
  | .chain o1 o2 a b c, Γ => Ck.ofE fun x => match x with | .Compare l [p, q] [r, z] _ => decide (p = cmpOf o1) && decide (q = cmpOf o2) && (chk a Γ).e l && (chk b Γ).e r && (chk c Γ).e z && !(lastMarks [p, q] [r, z]) | _ => false
  | .not a, Γ => Ck.ofE fun x => match x with | .UnaryOp .Not y _ => (chk a Γ).e y | _ => false
  | .and a b, Γ => Ck.ofE fun x => match x with | .BoolOp .And (y :: r) pos => (chk a Γ).e y && ckRest (chk b Γ).e .And pos r | _ => false
  | .or a b, Γ => Ck.ofE fun x => match x with | .BoolOp .Or (y :: r) pos => (chk a Γ).e y && ckRest (chk b Γ).e .Or pos r | _ => false
  | .ite c a b, Γ => Ck.ofE fun x => match x with | .IfExp t y z _ => (chk c Γ).e t && (chk a Γ).e y && (chk b Γ).e z | _ => false
  | .tup as, Γ => Ck.ofE fun x => match x with | .Tuple es _ _ => (chk as Γ).a es | _ => false
  | .lst as, Γ => Ck.ofE fun x => match x with | .List es _ => (chk as Γ).a es | _ => false
  | .nil, _ => { e := fun _ => false, a := fun xs => match xs with | [] => true | _ => false, o := fun x => match x with | none => true | _ => false, i := fun _ _ => false }
  | .cons a as, Γ => { e := fun _ => false, a := fun xs => match xs with | [] => false | x :: r => (chk a Γ).e x && (chk as Γ).a r, o := fun _ => false, i := fun _ _ => false }
  | .ix a b, Γ => Ck.ofE fun x => match x with | .Subscript o i _ => (chk a Γ).e o && (chk b Γ).e i | _ => false
  | .slc a lo hi, Γ => Ck.ofE fun x => match x with | .Subscript o (.Slice l u none _) _ => (chk a Γ).e o && (chk lo Γ).o l && (chk hi Γ).o u | _ => false
  | .call f as, Γ => Ck.ofE fun x => match x with
    | .Call (.Name x _) es [] _ => Γ.calm && (decide (Γ.fns[f]? = some (.fn x)) || decide (Γ.fns[f]? = some (.mk x))) && glX Γ x && nodbg x && (chk as Γ).a es
    | _ => false
  | .bi f as, Γ => Ck.ofE fun x => match x with
    | .Call (.Name x _) es [] _ => (calmFree f || Γ.calm) && decide (x = biName f) && blX Γ x && decide (es.length = biArgs f) && (chk as Γ).a es
    | _ => false
  | .me m o as, Γ => Ck.ofE fun x => match x with
    | .Call (.Attribute v x apos) (e :: es) [] pos => (match m with | .append => decide (x = ("append" : Str)) | .index => decide (x = ("index" : Str)) | .insert => decide (x = ("insert" : Str)) | .get1 => decide (x = ("get" : Str)) | .get2 => decide (x = ("get" : Str)) | .pop => decide (x = ("pop" : Str)) | _ => false) && (apos.endLine == pos.line) && plainObj v && (chk o Γ).e v && (chk as Γ).a (e :: es) && decide (es.length < 20)
    | _ => false
  | .fld c f o, Γ => Ck.ofE fun x => match x with
    | .Attribute v x _ => decide (x = f) && Γ.atr.contains (c, f) && plainObj v && (chk o Γ).e v
    | _ => false
  | .mth f c m o as, Γ => Ck.ofE fun x => match x with
    | .Call (.Attribute v x apos) es [] pos => Γ.calm && decide (x = m) && decide (Γ.fns[f]? = some (.me c m)) && (apos.endLine == pos.line) && decide (es.length < 30) && plainObj v && (chk o Γ).e v && (chk as Γ).a es
    | _ => false
  | .lc2 own own2 tg src tg2 src2 elt, Γ => Ck.ofE fun x => match x with
    | .ListComp el [⟨t, it, [], 0⟩, ⟨t2, it2, [], 0⟩] scope _ =>
      Γ.calm && (chk src Γ).i it t && !(isSet it) && blkC Γ.N Γ.sc scope (ownOf Γ.N own) && decide ((ownOf Γ.N own).map (·.2) = own) && ckG (Γ.blk scope) tg t && (tgSlots tg).all (fun i => own.contains i) &&
        (chk src2 (Γ.blk scope)).i it2 t2 && !(isSet it2) && ckG (Γ.blk scope) tg2 t2 && (tgSlots tg2).all (fun i => own2.contains i) && own2.all (fun i => own.contains i) && (chk elt (Γ.blk scope)).e el
    | _ => false
  | .isi a ts multi, Γ => Ck.ofE fun x => match x with
    | .Call (.Name x _) [y, z] [] _ => decide (x = ("isinstance" : Str)) && (!ts.isEmpty && decide (ts.length ≤ 10)) && blX Γ x && (chk a Γ).e y && (bif multi then (match z with | .Tuple es _ _ => tyExprs Γ ts es | _ => false) else tyExprs Γ ts [z])
    | _ => false
  | .isx a y tbl, Γ => Ck.ofE fun x => match x with
    | .Call (.Name x _) [z, .Name y' _] [] _ => Γ.hot && decide (x = ("isinstance" : Str)) && blX Γ x && decide (y' = y) && glX Γ y && nodbg y && decide (Γ.isa.lookup y = some tbl) && (chk a Γ).e z
    | _ => false
  | .rng as, Γ => { Ck.no with i := fun x _ => match x with
    | .Call (.Name x _) es [] _ => decide (x = ("range" : Str)) && blX Γ x && (es.length == 1 || es.length == 2 || es.length == 3) && (chk as Γ).a es
    | _ => false }
  | .enm as, Γ => { Ck.no with i := fun x tg => match x with
    | .Call (.Name x _) es [] _ => decide (x = ("enumerate" : Str)) && blX Γ x && (es.length == 1) && isTupE tg && (chk as Γ).a es
    | _ => false }
  | .zp as, Γ => { Ck.no with i := fun x tg => match x with
    | .Call (.Name x _) es [] _ => decide (x = ("zip" : Str)) && blX Γ x && (es.length == 2) && isTupE tg && (chk as Γ).a es
    | _ => false }
  | .fjs as, Γ => Ck.ofE fun x => match x with
    | .JoinedStr (v1 :: v2 :: rest) _ => (chk as Γ).a (v1 :: v2 :: rest)
    | _ => false
  | .fmt a, Γ => Ck.ofE fun x => match x with
    | .FormattedValue e c none _ => decide (c = -1) && (chk a Γ).e e
    | _ => false
  | .sm m o a, Γ => Ck.ofE fun x => match x with
    | .Call (.Attribute v x apos) [e] [] pos => (match m with | .split => decide (x = ("split" : Str)) | .join => decide (x = ("join" : Str)) | .startswith => decide (x = ("startswith" : Str)) | .upper => false) && (apos.endLine == pos.line) && plainObj v && (chk o Γ).e v && (chk a Γ).e e
    | _ => false
  | .sm0 m o, Γ => Ck.ofE fun x => match x with
    | .Call (.Attribute v x apos) [] [] pos => (match m with | .upper => decide (x = ("upper" : Str)) | _ => false) && (apos.endLine == pos.line) && plainObj v && (chk o Γ).e v
    | _ => false
  | .dd0, _ => Ck.ofE fun x => match x with | .Dict [] [] _ => true | _ => false
  | .kd0, _ => Ck.ofE fun x => match x with | .Dict [] [] _ => true | _ => false
  | .dd1 k v, Γ => Ck.ofE fun x => match x with | .Dict [some kx] [vx] _ => (chk k Γ).e kx && (chk v Γ).e vx | _ => false
  | .dd2 k v k2 v2, Γ => Ck.ofE fun x => match x with | .Dict [some kx, some kx2] [vx, vx2] _ => (chk k Γ).e kx && (chk v Γ).e vx && (chk k2 Γ).e kx2 && (chk v2 Γ).e vx2 | _ => false
  | .kdd ks vs, Γ => Ck.ofE fun x => match x with
    | .Dict keys values _ => ckKeys ks keys && (chk vs Γ).a values && decide (ks.length = values.length) && decide (0 < ks.length) && decide (ks.length ≤ 15)
    | _ => false
  | .pop0 o, Γ => Ck.ofE fun x => match x with
    | .Call (.Attribute v x apos) [] [] pos => decide (x = ("pop" : Str)) && (apos.endLine == pos.line) && plainObj v && (chk o Γ).e v
    | _ => false
  | .lk _ e, Γ => Ck.ofE fun x => match x with
    | .ListComp el gs sc p => (chk e Γ).e (.ListComp el gs sc p)
    | .DictComp k v gs sc p => (chk e Γ).e (.DictComp k v gs sc p)
    | _ => false
  | .dc own tg src cond kx vx, Γ => Ck.ofE fun x => match x with
    | .DictComp k v [⟨t, it, ifs, 0⟩] scope _ =>
      Γ.calm && (chk src Γ).i it t && !(isSet it) && blkC Γ.N Γ.sc scope (ownOf Γ.N own) && decide ((ownOf Γ.N own).map (·.2) = own) && ckG (Γ.blk scope) tg t && (tgSlots tg).all (fun i => own.contains i) &&
        (match ifs with | [] => (match cond with | .bl true => true | _ => false) | [c] => (chk cond (Γ.blk scope)).e c | _ => false) && ((chk kx (Γ.blk scope)).e k && (chk vx (Γ.blk scope)).e v)
    | _ => false
  | .dc2 own own2 tg src tg2 src2 kx vx, Γ => Ck.ofE fun x => match x with
    | .DictComp k v [⟨t, it, [], 0⟩, ⟨t2, it2, [], 0⟩] scope _ =>
      Γ.calm && (chk src Γ).i it t && !(isSet it) && blkC Γ.N Γ.sc scope (ownOf Γ.N own) && decide ((ownOf Γ.N own).map (·.2) = own) && ckG (Γ.blk scope) tg t && (tgSlots tg).all (fun i => own.contains i) &&
        (chk src2 (Γ.blk scope)).i it2 t2 && !(isSet it2) && ckG (Γ.blk scope) tg2 t2 && (tgSlots tg2).all (fun i => own2.contains i) && own2.all (fun i => own.contains i) && ((chk kx (Γ.blk scope)).e k && (chk vx (Γ.blk scope)).e v)
    | _ => false
  | .rpl6 x f b c y1 z1 y2 z2 d, Γ => Ck.ofE fun w => match w with
    | .List [.BinOp (.Constant (.str x') _ _) op f0 _, eb, ec, .Call (.Attribute o1 m1 ap1) [.Constant (.str a1) _ _, .Constant (.str b1) _ _, .Constant (.int n1) _ _] [] ps1, .Call (.Attribute o2 m2 ap2) [.Constant (.str a2) _ _, .Constant (.str b2) _ _, .Constant (.int n2) _ _] [] ps2, ed] _ =>
      (decide (x' = x) && decide (op = .Add) && (chk f Γ).e f0 && (chk b Γ).e eb && (chk c Γ).e ec && (chk d Γ).e ed) &&
      ((decide (m1 = ("replace" : Str)) && decide (a1 = y1) && decide (b1 = z1) && decide (n1 = 1) && (ap1.endLine == ps1.line) && (chk f Γ).e o1 && plainObj o1 && !(y1 == z1)) &&
       (decide (m2 = ("replace" : Str)) && decide (a2 = y2) && decide (b2 = z2) && decide (n2 = 1) && (ap2.endLine == ps2.line) && (chk f Γ).e o2 && plainObj o2 && !(y2 == z2)))
    | _ => false
  | .gix y kvs a, Γ => Ck.ofE fun x => match x with
    | .Subscript (.Name x _) i _ => decide (x = y) && glX Γ x && nodbg x && decide (Γ.glb.lookup x = some (.i kvs)) && (chk a Γ).e i
    | _ => false
  | .gdx y kvs a, Γ => Ck.ofE fun x => match x with
    | .Subscript (.Name x _) i _ => decide (x = y) && glX Γ x && nodbg x && decide (Γ.glb.lookup x = some (.d kvs)) && (chk a Γ).e i
    | _ => false
  | .giin y kvs neg a, Γ => Ck.ofE fun x => match x with
    | .Compare l [p] [.Name x q] _ => decide (p = if neg then .NotIn else .In) && decide (x = y) && glX Γ x && nodbg x && decide (Γ.glb.lookup x = some (.i kvs)) && (chk a Γ).e l && !(behindInMarks p (.Name x q))
    | _ => false
  | .gdin y kvs neg a, Γ => Ck.ofE fun x => match x with
    | .Compare l [p] [.Name x q] _ => decide (p = if neg then .NotIn else .In) && decide (x = y) && glX Γ x && nodbg x && decide (Γ.glb.lookup x = some (.d kvs)) && (chk a Γ).e l && !(behindInMarks p (.Name x q))
    | _ => false
  | .bln a, Γ => Ck.ofE fun x => match x with
    | .Call (.Attribute v x apos) [] [] pos => decide (x = ("bit_length" : Str)) && (apos.endLine == pos.line) && plainObj v && (chk a Γ).e v
    | _ => false
  | .lrv a, Γ => Ck.ofE fun x => match x with
    | .Call (.Name x _) [.Call (.Name y _) [e] [] _] [] _ => Γ.calm && decide (x = ("list" : Str)) && blX Γ x && decide (y = ("reversed" : Str)) && blX Γ y && (chk a Γ).e e
    | _ => false
  | .itm _, _ => Ck.no
  | .lc own tg src cond elt, Γ => Ck.ofE fun x => match x with
    | .ListComp el [⟨t, it, ifs, 0⟩] scope _ =>
      Γ.calm && (chk src Γ).i it t && !(isSet it) && blkC Γ.N Γ.sc scope (ownOf Γ.N own) && decide ((ownOf Γ.N own).map (·.2) = own) && ckG (Γ.blk scope) tg t && (tgSlots tg).all (fun i => own.contains i) &&
        (match ifs with | [] => (match cond with | .bl true => true | _ => false) | [c] => (chk cond (Γ.blk scope)).e c | _ => false) && (chk elt (Γ.blk scope)).e el
    | _ => false
end Ng

set_option Elab.async false
set_option linter.all false
set_option maxRecDepth 100000
set_option maxHeartbeats 4000000
/-! The engine's expressions are read as they are evaluated. -/
namespace Ng
open PySem PySem.Spec PyProof.Rows L2

/-- a def's promise, by the engine -/
def spF (K : PySem.W.Frag) (γ : Nat → Value) (P : Nat → List D → Store → R D) (np f : Nat) : Sp := fun vs H Q E => vs.length = np ∧ ∃ μ S ds, RepS K H μ S ∧ RepVs K H μ ds vs ∧
  match P f ds S with
  | .ok d S' => ∀ μ' v H', Le K μ H μ' H' → RepS K H' μ' S' → RepV K H' μ' d v → Q v H'
  | .exc c fs S' => ∀ μ' H' d, Le K μ H μ' H' → RepS K H' μ' S' → XD K H' μ' fs d → E (γ c) d H'
  | .bad => False
/-- the walk of an iterable is what the engine tells -/
def Wk (K : PySem.W.Frag) (μ₀ : Mu) (H₀ : Hp) (w : Ng.It) (J : L2.It) : Prop := ∀ μ σ H ρ S (i : Nat), Le K μ₀ H₀ μ H → Sim K μ σ H ρ S → ckS w.lk S = true →
  (w.ds[i]? = none → J.stop i H) ∧ (∀ d, w.ds[i]? = some d → J.go i H ∧ ∀ x H', J.yld i H x H' → ∃ μ', Le K μ H μ' H' ∧ Sim K μ' σ H' ρ S ∧ RepV K H' μ' d x)
def tI (K : PySem.W.Frag) (γ : Nat → Value) (W : WX) (f : Env → Store → R Ng.It) : TI := tR K γ W (Wk K) f
/-- what the classes of the exceptions are, asked about the class that y names -/
def Isa (K : PySem.W.Frag) (mg : Str → Option Value) (γ : Nat → Value) (y : Str) (tbl : List Bool) : Prop :=
  ∃ cv v, (∀ u, RelV v u → u = cv) ∧ RelV v cv ∧ (mg y = some cv ∨ (mg y = none ∧ bootBuiltins y = some cv ∧ y ≠ "__name__")) ∧ ∀ c b, tbl[c]? = some b → PySem.W.kitOne K (γ c) cv = some b ∧ PySem.W.exmOne K (γ c) cv = some b
/-- a def that keeps the engine's promise -/
structure FnP (prog : Program) (w : World) (K : PySem.W.Frag) (mg : Str → Option Value) (base : Heap) (γ : Nat → Value) (P : Nat → List D → Store → R D) (f : Nat) (k : Nat) (addr : Addr) (fd : FuncData) (ps : List Str) : Prop where
  ok : FnOk prog w K mg base (L2.CX prog w) k addr fd ps (spF K γ P ps.length f)
  len : ∀ ds S, P f ds S ≠ .bad → ds.length = ps.length
  bnd : Binds K fd ps []
/-- what is known of a def's key -/
def FnG (X : Cx) (γ : Nat → Value) (P : Nat → List D → Store → R D) (f : Nat) : FK → Prop
  | .fn x => ∃ k addr fd ps, FnP X.prog X.w X.K X.mg X.base γ P f k addr fd ps ∧ Room k X.A ∧ X.mg x = some (.ref addr) ∧ PySem.W.keepIn X.K (.ref addr) = true
  | .me c m => ∃ k addr fd ps C, FnP X.prog X.w X.K X.mg X.base γ P f k addr fd ps ∧ Room k X.A ∧ PySem.W.nsIn X.K mainGlobals c = some (some (.ref C)) ∧ Cls X.K C ∧ Meth X.K C m addr
  | .mk c => ∃ C addr, PySem.W.nsIn X.K mainGlobals c = some (some (.ref C)) ∧ X.mg c = some (.ref C) ∧ Mk X.K C addr ∧
    ((∀ ds S, P f ds S = .bad) ∨ ∃ k fd ps g P', (∀ ds S, P f ds S = mkR c (P' g) ds S) ∧ FnP X.prog X.w X.K X.mg X.base γ P' g k addr fd ps ∧ Room (k + 1) X.A)
/-- what a dict of the top holds at a text -/
def KvAt (K : PySem.W.Frag) (a : Addr) (z : Str) : Option D → Prop
  | some d => ∃ u v, PySem.W.nsIn K a z = some (some u) ∧ RelV v u ∧ ∀ H μ, RepV K H μ d v
  | none => PySem.W.nsIn K a z = some none
def GOk (K : PySem.W.Frag) (w : World) (mg : Str → Option Value) (x : Str) : GC → Prop
  | .v d => ∃ u v, mg x = some u ∧ RelV v u ∧ ∀ H μ, RepV K H μ d v
  | .d kvs => ∃ a es n, mg x = some (.ref a) ∧ KDict K w a es n ∧ ∀ z, KvAt K a z (kvs.lookup z)
  | .i kvs => ∃ a es n, mg x = some (.ref a) ∧ K.lookup a = some ⟨.type "dict", none, .dict es n, #[]⟩ ∧ (∀ e ∈ es, ∃ i t, e.key = .int i t ∧ e.hash = hashInt i) ∧ (a == sysModules) = false ∧ (∀ i, kvs.lookup i = none → findBy Value.isInt es i = none) ∧ ∀ i d, kvs.lookup i = some d → ∃ u v, findBy Value.isInt es i = some u ∧ RelV v u ∧ ∀ H μ, RepV K H μ d v
  | .f tbl => ∃ a es n, mg x = some (.ref a) ∧ KDict K w a es n ∧ ∀ p ∈ tbl, ∃ addr, mg p.2.1 = some (.ref addr) ∧ PySem.W.nsIn K a p.1 = some (some (.ref addr))
structure Good (X : Cx) (Γ : Gam) (γ : Nat → Value) (W : WX) (P : Nat → List D → Store → R D) : Prop where
  N : X.N = Γ.N
  nd : X.N.Nodup
  sc : X.env.scope = Γ.sc
  fn : ∀ x, Γ.fn x = true → X.fn x = true
  calm : Γ.calm = true → X.calm = true
  un : X.A.units + 66 < cLine
  glb : ∀ x d, Γ.glb.lookup x = some d → GOk X.K X.w X.mg x d
  blt : ∀ x, Γ.blt.contains x = true → X.mg x = none
  tk : Takes X W
  fns : Γ.calm = true → ∀ f q, Γ.fns[f]? = some q → FnG X γ P f q
  atr : ∀ c f, Γ.atr.contains (c, f) = true → ∃ C, PySem.W.nsIn X.K mainGlobals c = some (some (.ref C)) ∧ Cls X.K C ∧ NoAttr X.K C f
  isa : ∀ y tbl, Γ.isa.lookup y = some tbl → Isa X.K X.mg γ y tbl
  hot : Γ.hot = true → ∀ c a S, P hotq [.exc c a] S ≠ .bad → P hotq [.exc c a] S = .ok .non S ∧ ∃ C, γ c = .ref C ∧ CallR X (.builtin "isinstance") (rIsE X.K C a)
def tJ (K : PySem.W.Frag) (γ : Nat → Value) (W : WX) (f : Env → Store → R Str) : L2.St → Hp → (Str → Hp → Prop) → Prop := tR K γ W relEq f
/-- expressions one by one -/
inductive PKs (X : Cx) (γ : Nat → Value) (W : WX) : List Expr → List (Env → Store → R D) → Prop
  | nil : PKs X γ W [] []
  | cons {x : Expr} {xs : List Expr} {t : Env → Store → R D} {ts : List (Env → Store → R D)} (h : PE X x (tE X.K γ W t)) (r : PKs X γ W xs ts) : PKs X γ W (x :: xs) (t :: ts)
def tKs (K : PySem.W.Frag) (γ : Nat → Value) (W : WX) : List (Env → Store → R D) → L2.St → Hp → (List V → Hp → Prop) → Prop
  | [], _, H, T => T [] H
  | t :: ts, σ, H, T => tE K γ W t σ H fun x H1 => tKs K γ W ts σ H1 fun xs H2 => T (x :: xs) H2
theorem tE_imp {K : PySem.W.Frag} {γ : Nat → Value} {W : WX} {f : Env → Store → R D} {σ : L2.St} {H : Hp} {Q Q' : VK} (h : tE K γ W f σ H Q) (i : ∀ v H, Q v H → Q' v H) : tE K γ W f σ H Q' := by
  obtain ⟨μ, ρ, S, s, q⟩ := h
  exact ⟨μ, ρ, S, s, q.imp i⟩
structure Snd (X : Cx) (γ : Nat → Value) (W : WX) (d : Den) (ck : Ck) : Prop where
  e : ∀ x, ck.e x = true → PE X x (tE X.K γ W d.v)
  t : ∀ x, ck.e x = true → PT X x (tT X.K γ W d.t)
  w : ∀ op vs pos, ck.e (.BoolOp op vs pos) = true → PW X (.BoolOp op vs pos) (tT X.K γ W d.t)
  a : ∀ xs, ck.a xs = true → PA X xs (tA X.K γ W d.a)
  o : ∀ x, ck.o x = true → PO X x (tO X.K γ W d.o)
  i : ∀ x tg, ck.i x tg = true → PI X tg x (tI X.K γ W d.i)
  j : ∀ xs, ck.a xs = true → ∃ ts, PJ X xs ts ∧ ∀ acc σ H Q, tJ X.K γ W (d.j acc) σ H Q → tJs ts acc σ H Q
  k : ∀ xs, ck.a xs = true → ∃ ts, PKs X γ W xs ts ∧ ∀ σ H T, tA X.K γ W d.a σ H T → tKs X.K γ W ts σ H T
section
variable {X : Cx} {γ : Nat → Value} {W : WX} {Γ : Gam} {P : Nat → List D → Store → R D}
theorem pi_imp {tg x : Expr} {t t' : TI} (h : PI X tg x t) (i : ∀ σ H R, t' σ H R → t σ H R) : PI X tg x t' := ⟨fun pins s σ H R I q => h.run pins s σ H R I (i σ H R q)⟩
theorem pi_or {tg x : Expr} {t t' : TI} (h : PI X tg x t) (h' : PI X tg x t') : PI X tg x (fun σ H R => t σ H R ∨ t' σ H R) := ⟨fun pins s σ H R I q => q.elim (h.run pins s σ H R I) (h'.run pins s σ H R I)⟩
theorem pe_or' {x : Expr} {t t' : TE} (h : PE X x t) (h' : PE X x t') : PE X x (fun σ H Q => t σ H Q ∨ t' σ H Q) := ⟨fun pins s σ H Q I q => q.elim (h.run pins s σ H Q I) (h'.run pins s σ H Q I)⟩
/-! ### iterables of values -/
theorem wk_list {K : PySem.W.Frag} {μ : Mu} {H : Hp} {n : Nat} {ds : List D} {a : Addr} (hm : μ[n]? = some a) {c : Cell} (hc : c = .lst ds ∨ c = .ro ds) : Wk K μ H ⟨ds, some (n, c)⟩ (Itl K a) := by
  intro μ1 σ H1 ρ S i le s hck
  have hS : S[n]? = some c := by simpa [ckS] using hck
  obtain ⟨vs, hq, r⟩ : ∃ vs, SqL K H1 a vs ∧ RepVs K H1 μ1 ds vs := by
    have rc := s.s.cell n _ _ hS (le.at hm)
    rcases hc with rfl | rfl
    · obtain ⟨vs, h1, r⟩ := rc; exact ⟨vs, .of h1, r⟩
    · obtain ⟨vs, h1, r⟩ := rc; exact ⟨vs, h1.sq, r⟩
  refine ⟨fun hn => ⟨vs, hq, ?_⟩, fun d hd => ?_⟩
  · rw [r.length]; exact List.getElem?_eq_none_iff.mp hn
  · obtain ⟨v, h1, h2⟩ := r.get hd
    refine ⟨⟨vs, v, hq, h1⟩, fun x H' ⟨e, hx⟩ => ?_⟩
    subst e
    have := hx vs hq
    rw [h1] at this
    cases this
    exact ⟨μ1, .refl, s, h2⟩
theorem wk_tup {K : PySem.W.Frag} {μ : Mu} {H : Hp} {ds : List D} {vs : List V} {a : Addr} (hq : SqT K H a vs) (r : RepVs K H μ ds vs) : Wk K μ H ⟨ds, none⟩ (Itt K a) := by
  intro μ1 σ H1 ρ S i le s _
  have hq1 := le.tup _ _ hq
  have r1 := r.mono le
  refine ⟨fun hn => ⟨vs, hq1, ?_⟩, fun d hd => ?_⟩
  · rw [r.length]; exact List.getElem?_eq_none_iff.mp hn
  · obtain ⟨v, h1, h2⟩ := r1.get hd
    refine ⟨⟨vs, v, hq1, h1⟩, fun x H' ⟨e, hx⟩ => ?_⟩
    subst e
    have := hx vs hq1
    rw [h1] at this
    cases this
    exact ⟨μ1, .refl, s, h2⟩
theorem wk_rng {K : PySem.W.Frag} {μ : Mu} {H : Hp} {lo : Int} {n : Nat} : Wk K μ H ⟨rngD lo n, none⟩ (Itr lo n) := by
  intro μ1 σ H1 ρ S i le s _
  refine ⟨fun hn => ?_, fun d hd => ?_⟩
  · have := List.getElem?_eq_none_iff.mp hn
    have h2 : n ≤ i := by simpa [rngD] using this
    exact h2
  · unfold rngD at hd
    rw [List.getElem?_map] at hd
    cases e : (List.range n)[i]? with
    | none => rw [e] at hd; cases hd
    | some j =>
      rw [e] at hd
      cases hd
      have hi := (List.getElem?_eq_some_iff.mp e).1
      rw [List.length_range] at hi
      rw [List.getElem?_range hi] at e
      cases e
      refine ⟨hi, fun x H' ⟨e1, e2⟩ => ?_⟩
      subst e1; subst e2
      exact ⟨μ1, .refl, s, .int _⟩
theorem wk_rngN {K : PySem.W.Frag} {μ : Mu} {H : Hp} {lo : Int} {n : Nat} : Wk K μ H ⟨rngN lo n, none⟩ (Itc lo (-1) n) := by
  intro μ1 σ H1 ρ S i le s _
  refine ⟨fun hn => ?_, fun d hd => ?_⟩
  · have := List.getElem?_eq_none_iff.mp hn
    have h2 : n ≤ i := by simpa [rngN] using this
    exact h2
  · unfold rngN at hd
    rw [List.getElem?_map] at hd
    cases e : (List.range n)[i]? with
    | none => rw [e] at hd; cases hd
    | some j =>
      rw [e] at hd
      cases hd
      have hi := (List.getElem?_eq_some_iff.mp e).1
      rw [List.length_range] at hi
      rw [List.getElem?_range hi] at e
      cases e
      refine ⟨hi, fun x H' ⟨e1, e2⟩ => ?_⟩
      subst e1; subst e2
      exact ⟨μ1, .refl, s, .int _⟩
theorem ints_reps {K : PySem.W.Frag} {H : Hp} {μ : Mu} : ∀ k : List Int, RepVs K H μ (k.map D.int) (k.map V.int)
  | [] => .nil
  | i :: k => .cons (.int i) (ints_reps k)
theorem paired_at {α β : Type} {r : α → β → Prop} : ∀ {xs : List α} {ys : List β} {i : Nat} {x : α}, Paired r xs ys → xs[i]? = some x → ∃ y, ys[i]? = some y ∧ r x y
  | [], _, i, x, .nil, h => by simp at h
  | a :: xs, b :: ys, 0, x, .cons h _, e => by simp at e; subst e; exact ⟨b, rfl, h⟩
  | a :: xs, b :: ys, i + 1, x, .cons _ t, e => by
    obtain ⟨y, h1, h2⟩ := paired_at (i := i) t (by simpa using e)
    exact ⟨y, by simpa using h1, h2⟩
theorem wk_keys {K : PySem.W.Frag} {μ : Mu} {H : Hp} {kvs : List (List Int × D)} {xs : List (List Int × Addr × Value)} {a : Addr} {o : Obj} (hH : H a = some (.frz o (DX a xs))) (r : KVX K H μ kvs xs) : Wk K μ H ⟨kvs.map fun p => .tup (p.1.map D.int), none⟩ (ItX a o xs) := by
  intro μ1 σ H1 ρ S i le s _
  have hH1 := le.fz a o xs hH
  have r1 := r.mono le
  refine ⟨fun hn => ⟨hH1, ?_⟩, fun d hd => ?_⟩
  · rw [← r.length]
    have := List.getElem?_eq_none_iff.mp hn
    simpa using this
  · rw [List.getElem?_map] at hd
    cases e : kvs[i]? with
    | none => rw [e] at hd; cases hd
    | some p =>
      rw [e] at hd
      cases hd
      obtain ⟨q, hq, h1, h2, _⟩ := paired_at r1 e
      have hi : i < xs.length := (List.getElem?_eq_some_iff.mp hq).1
      refine ⟨⟨hH1, hi⟩, fun x H' ⟨e1, k, b, v, e2, e3⟩ => ?_⟩
      subst e1 e3
      rw [hq] at e2
      cases e2
      exact ⟨μ1, .refl, s, .tup h2 (by rw [h1]; exact ints_reps _)⟩
theorem pi_val {tg x : Expr} {v : Env → Store → R D} (h : PE X x (tE X.K γ W v)) : PI X tg x (tI X.K γ W fun ρ S => (v ρ S).bind itD) := by
  refine pi_imp (pi_or (pi_or (pi_list h) (pi_tup h)) (pi_keysX h)) fun σ H R ⟨μ, ρ, S, s, q⟩ => ?_
  have q1 := PostR.bind (rel := relV X.K) q
  cases e : v ρ S with
  | bad => rw [e] at q1; exact q1.elim
  | exc c fs S' =>
    rw [e] at q1
    exact .inl (.inl ⟨μ, ρ, S, s, by rw [e]; exact q1⟩)
  | ok d S1 =>
    have key : ∀ {T : VK}, (∀ μ1 H1 v, Le X.K μ H μ1 H1 → Sim X.K μ1 σ H1 ρ S1 → RepV X.K H1 μ1 d v → T v H1) → tE X.K γ W v σ H T := fun t => ⟨μ, ρ, S, s, by rw [e]; exact t⟩
    change PostR X.K γ W (Wk X.K) μ H σ ρ ((v ρ S).bind itD) R at q
    rw [e] at q
    change PostR X.K γ W (Wk X.K) μ H σ ρ (itD d S1) R at q
    cases d with
    | tup ds =>
      refine .inl (.inr (key fun μ1 H1 x le s1 r => ?_))
      cases r with
      | tup h1 r1 => exact ⟨_, rfl, ⟨_, h1⟩, (q.base le).here s1 (wk_tup h1 r1)⟩
    | ref n =>
      simp only [itD] at q
      split at q
      · refine .inl (.inl (key fun μ1 H1 x le s1 r => ?_))
        obtain ⟨a, vs, rfl, h1, r1, hm⟩ := s1.list r (by assumption)
        exact ⟨a, rfl, ⟨vs, .of h1⟩, (q.base le).here s1 (wk_list hm (.inl rfl))⟩
      · refine .inl (.inl (key fun μ1 H1 x le s1 r => ?_))
        obtain ⟨a, vs, rfl, h1, r1, hm⟩ := s1.roL r (by assumption)
        exact ⟨a, rfl, ⟨vs, h1.sq⟩, (q.base le).here s1 (wk_list hm (.inr rfl))⟩
      · refine .inr (key fun μ1 H1 x le s1 r => ?_)
        obtain ⟨a, o, xs, rfl, h1, r1, hm⟩ := s1.hid r (by assumption)
        exact ⟨a, o, xs, rfl, h1, (q.base le).here s1 (wk_keys h1 r1)⟩
      · exact q.elim
    | _ => exact q.elim
/-! ### tests, parts of slices -/
theorem pt_of {x : Expr} {v : Env → Store → R D} (h : PE X x (tE X.K γ W v)) (he : ∀ whole, isTrue x X.env whole = (do let v ← whole; standAt x.pos; holding [v] (truthy v))) : PT X x (tT X.K γ W fun ρ S => (v ρ S).bind truR) := by
  exact pt_imp (pt_truR h (tru_all (γ := γ) (W := W)) he) fun σ H Q ⟨μ, ρ, S, s, q⟩ => ⟨μ, ρ, S, s, (PostR.bind q).imp fun x H1 ⟨μ1, S1, d, le, s1, r, q1⟩ => ⟨μ1, σ, ρ, S1, d, s1, r, q1⟩⟩
theorem po_of {x : Expr} {v : Env → Store → R D} (h : PE X x (tE X.K γ W v)) : PO X (some x) (tO X.K γ W fun ρ S => (v ρ S).bind optR) := by
  refine po_imp (po_some h) fun σ H Q ⟨μ, ρ, S, s, q⟩ => ⟨μ, ρ, S, s, (PostR.bind q).imp fun x H1 ⟨μ1, S1, d, le, s1, r, q1⟩ => ?_⟩
  cases r <;> first | (exfalso; exact q1) | skip
  exact ⟨_, rfl, q1.here s1 rfl⟩
theorem snd_ofVT {f : Expr → Bool} {v : Env → Store → R D} {t : Env → Store → R Bool} (he : ∀ x, f x = true → PE X x (tE X.K γ W v)) (ht : ∀ x, f x = true → PT X x (tT X.K γ W t)) (hw : ∀ op vs pos, f (.BoolOp op vs pos) = true → PW X (.BoolOp op vs pos) (tT X.K γ W t)) :
    Snd X γ W (ofVT v t) (Ck.ofE f) where
  e := he
  t := ht
  w := hw
  a := fun _ h => nomatch h
  o := fun x h => match x, h with | some x, h => po_of (he x h)
  i := fun x _ h => pi_val (he x h)
  j := fun _ h => nomatch h
  k := fun _ h => nomatch h
theorem snd_ofV {f : Expr → Bool} {v : Env → Store → R D} (h : ∀ x, f x = true → PE X x (tE X.K γ W v) ∧ (∀ whole, isTrue x X.env whole = (do let v ← whole; standAt x.pos; holding [v] (truthy v))) ∧ ∀ op vs pos, x ≠ .BoolOp op vs pos) :
    Snd X γ W (ofV v) (Ck.ofE f) :=
  snd_ofVT (fun x q => (h x q).1) (fun x q => pt_of (h x q).1 (h x q).2.1) fun op vs pos q => absurd rfl ((h _ q).2.2 op vs pos)
theorem snd_no {d : Den} : Snd X γ W d Ck.no where
  e := fun _ h => nomatch h
  t := fun _ h => nomatch h
  w := fun _ _ _ h => nomatch h
  a := fun _ h => nomatch h
  o := fun x h => by cases x <;> cases h
  i := fun _ _ h => nomatch h
  j := fun _ h => nomatch h
  k := fun _ h => nomatch h
end
end Ng

set_option Elab.async false
set_option linter.all false
set_option maxRecDepth 100000
set_option maxHeartbeats 4000000
/-! Every expression that passes the check is read as the engine evaluates it. -/
namespace Ng
open PySem PySem.Spec PyProof.Rows L2
section
variable {X : Cx} {γ : Nat → Value} {W : WX} {Γ : Gam} {P : Nat → List D → Store → R D}
theorem band {a b : Bool} (h : (a && b) = true) : a = true ∧ b = true := by rwa [Bool.and_eq_true] at h
theorem nodbg_of {x : Str} (h : nodbg x = true) : (x == ("__debug__" : Str)) = false ∧ (x == ("__classdict__" : Str)) = false ∧ x ≠ ("__name__" : Str) := by
  unfold nodbg at h
  obtain ⟨h1, h3⟩ := band h
  obtain ⟨h1, h2⟩ := band h1
  refine ⟨by simpa using h1, by simpa using h2, fun e => ?_⟩
  subst e
  simp at h3
theorem vis_of (G : Good X Γ γ W P) {x : Str} (h : visX Γ x = true) : Vis X.env.scope x := by
  unfold visX at h
  rw [G.sc]
  unfold Vis
  split at h <;> simp_all
theorem gl_of (G : Good X Γ γ W P) {x : Str} (h : glX Γ x = true) : Gl X x := by
  unfold glX at h
  show X.env.scope.names.lookup x = some .globalImplicit
  rw [G.sc]
  exact of_decide_eq_true h
theorem bl_of (G : Good X Γ γ W P) {x : Str} (h : blX Γ x = true) : Gl X x ∧ X.mg x = none := by
  obtain ⟨h1, h2⟩ := band h
  exact ⟨gl_of G h1, G.blt x h2⟩
/-! ### leaves -/
theorem snd_var (G : Good X Γ γ W P) (i : Nat) : Snd X γ W (den P (.var i)) (chk (.var i) Γ) := by
  refine snd_ofV fun x h => ?_
  split at h
  case h_2 => cases h
  case h_1 y p =>
    obtain ⟨h1, h3⟩ := band h
    obtain ⟨h1, h2⟩ := band h1
    obtain ⟨n1, n2, n3⟩ := nodbg_of h3
    refine ⟨pe_imp (pe_var (by rw [G.N]; exact of_decide_eq_true h1) (vis_of G h2) n1 n2) fun σ H Q ⟨μ, ρ, S, s, q⟩ => ?_, fun _ => rfl, fun _ _ _ z => nomatch z⟩
    unfold varR at q
    split at q
    case h_2 => exact q.elim
    case h_1 d hd =>
      obtain ⟨v, h4, r⟩ := s.e.2 i d hd
      exact ⟨v, h4, q.here s r⟩
theorem snd_lit {f : Expr → Bool} {d : D} (h : ∀ x, f x = true → (∃ v, PE X x (tC v) ∧ ∀ H μ, RepV X.K H μ d v) ∧ (∀ whole, isTrue x X.env whole = (do let v ← whole; standAt x.pos; holding [v] (truthy v))) ∧ ∀ op vs pos, x ≠ .BoolOp op vs pos) :
    Snd X γ W (ofV fun _ S => .ok d S) (Ck.ofE f) := by
  refine snd_ofV fun x q => ?_
  obtain ⟨⟨v, h1, h2⟩, h3, h4⟩ := h x q
  exact ⟨pe_imp h1 fun σ H Q ⟨μ, ρ, S, s, q⟩ => q.here s (h2 H μ), h3, h4⟩
theorem snd_glb (G : Good X Γ γ W P) (y : Str) (d : D) : Snd X γ W (den P (.glb y d)) (chk (.glb y d) Γ) := by
  refine snd_lit fun x h => ?_
  split at h
  case h_2 => cases h
  case h_1 z p =>
    obtain ⟨h1, h4⟩ := band h
    obtain ⟨h1, h3⟩ := band h1
    obtain ⟨h1, h2⟩ := band h1
    obtain ⟨n1, n2, n3⟩ := nodbg_of h3
    obtain ⟨u, v, g1, g2, g3⟩ := G.glb z (.v d) (of_decide_eq_true h4)
    exact ⟨⟨v, pe_glob (gl_of G h2) g1 g2 n1, g3⟩, fun _ => rfl, fun _ _ _ z => nomatch z⟩
/-! ### operators -/
variable {a b c : E}
theorem snd_bin (o : B2) (ha : Snd X γ W (den P a) (chk a Γ)) (hb : Snd X γ W (den P b) (chk b Γ)) : Snd X γ W (den P (.bin o a b)) (chk (.bin o a b) Γ) := by
  refine snd_ofV fun x h => ?_
  split at h
  case h_2 => cases h
  case h_1 l p r pos =>
    obtain ⟨h1, h3⟩ := band h
    obtain ⟨h1, h2⟩ := band h1
    have e := of_decide_eq_true h1
    subst e
    refine ⟨pe_imp (pe_op (bin_all (γ := γ) (W := W) o) (ha.e _ h2) (hb.e _ h3)) fun σ H Q ⟨μ, ρ, S, s, q⟩ => ?_, fun _ => rfl, fun _ _ _ z => nomatch z⟩
    exact ⟨μ, ρ, S, s, (PostR.bind q).imp fun x H1 ⟨μ1, S1, d1, le1, s1, r1, q1⟩ => ⟨μ1, ρ, S1, s1, (PostR.bind q1).imp fun y H2 ⟨μ2, S2, d2, le2, s2, r2, q2⟩ => ⟨μ2, σ, ρ, S2, d1, d2, s2, r1.mono le2, r2, q2⟩⟩⟩
theorem snd_neg (ha : Snd X γ W (den P a) (chk a Γ)) : Snd X γ W (den P (.neg a)) (chk (.neg a) Γ) := by
  refine snd_ofV fun x h => ?_
  split at h
  case h_2 => cases h
  case h_1 y pos =>
    refine ⟨pe_imp (pe_un (neg_ok (γ := γ) (W := W)) (ha.e _ h)) fun σ H Q ⟨μ, ρ, S, s, q⟩ => ?_, fun _ => rfl, fun _ _ _ z => nomatch z⟩
    exact ⟨μ, ρ, S, s, (PostR.bind q).imp fun x H1 ⟨μ1, S1, d1, le1, s1, r1, q1⟩ => ⟨μ1, σ, ρ, S1, d1, s1, r1, q1⟩⟩
/-- a comparison as a test -/
theorem cmpT_of {K : PySem.W.Frag} {μ : Mu} {H : Hp} {σ : L2.St} {ρ : Env} {S : Store} {o : CO} {x y : D} {Q : Bool → Hp → Prop} (q : PostR K γ W relEq μ H σ ρ (cmpT o x y S) Q) :
    PostR K γ W (relV K) μ H σ ρ (cmpR o x y S) (fun v H' => ∃ k, v = .bl k ∧ Q k H') := by
  unfold cmpT at q
  unfold cmpR
  cases e : cmp2 o x y S with
  | some t =>
    rw [e] at q
    intro μ' H' v le s r
    cases r
    exact ⟨t, rfl, q.later le s rfl⟩
  | none =>
    rw [e] at q
    exact q.elim
theorem snd_cmp (G : Good X Γ γ W P) (o : CO) (ha : Snd X γ W (den P a) (chk a Γ)) (hb : Snd X γ W (den P b) (chk b Γ)) : Snd X γ W (den P (.cmp o a b)) (chk (.cmp o a b) Γ) := by
  have go : ∀ x, (chk (.cmp o a b) Γ).e x = true → ∃ l r pos, x = .Compare l [cmpOf o] [r] pos ∧ (chk a Γ).e l = true ∧ (chk b Γ).e r = true ∧ behindInMarks (cmpOf o) r = false := fun x h => by
    simp only [chk, Ck.ofE] at h
    split at h
    case h_2 => cases h
    case h_1 l p r pos =>
      obtain ⟨h1, h4⟩ := band h
      obtain ⟨h1, h3⟩ := band h1
      obtain ⟨h1, h2⟩ := band h1
      have e := of_decide_eq_true h1
      subst e
      exact ⟨l, r, pos, rfl, h2, h3, by simpa using h4⟩
  refine snd_ofVT (fun x h => ?_) (fun x h => ?_) (fun op vs pos h => ?_)
  · obtain ⟨l, r, pos, rfl, h1, h2, h3⟩ := go x h
    refine pe_imp (pe_cmpR (cmp_all (γ := γ) (W := W) G.un o) (ha.e _ h1) (hb.e _ h2) h3) fun σ H Q ⟨μ, ρ, S, s, q⟩ => ?_
    exact ⟨μ, ρ, S, s, (PostR.bind q).imp fun x H1 ⟨μ1, S1, d1, le1, s1, r1, q1⟩ => ⟨μ1, ρ, S1, s1, (PostR.bind q1).imp fun y H2 ⟨μ2, S2, d2, le2, s2, r2, q2⟩ => ⟨μ2, σ, ρ, S2, d1, d2, s2, r1.mono le2, r2, q2⟩⟩⟩
  · obtain ⟨l, r, pos, rfl, h1, h2, h3⟩ := go x h
    refine pt_imp (pt_cmpR (cmp_all (γ := γ) (W := W) G.un o) (ha.e _ h1) (hb.e _ h2) h3) fun σ H Q ⟨μ, ρ, S, s, q⟩ => ?_
    exact ⟨μ, ρ, S, s, (PostR.bind q).imp fun x H1 ⟨μ1, S1, d1, le1, s1, r1, q1⟩ => ⟨μ1, ρ, S1, s1, (PostR.bind q1).imp fun y H2 ⟨μ2, S2, d2, le2, s2, r2, q2⟩ => ⟨μ2, σ, ρ, S2, d1, d2, s2, r1.mono le2, r2, cmpT_of q2⟩⟩⟩
  · obtain ⟨l, r, pos, e, _⟩ := go (.BoolOp op vs pos) h
    cases e
theorem snd_chain (G : Good X Γ γ W P) (o1 o2 : CO) (ha : Snd X γ W (den P a) (chk a Γ)) (hb : Snd X γ W (den P b) (chk b Γ)) (hc : Snd X γ W (den P c) (chk c Γ)) : Snd X γ W (den P (.chain o1 o2 a b c)) (chk (.chain o1 o2 a b c) Γ) := by
  have go : ∀ x, (chk (.chain o1 o2 a b c) Γ).e x = true → ∃ l r z pos, x = .Compare l [cmpOf o1, cmpOf o2] [r, z] pos ∧ (chk a Γ).e l = true ∧ (chk b Γ).e r = true ∧ (chk c Γ).e z = true ∧ lastMarks [cmpOf o1, cmpOf o2] [r, z] = false := fun x h => by
    simp only [chk, Ck.ofE] at h
    split at h
    case h_2 => cases h
    case h_1 l p p2 r z pos =>
      obtain ⟨h1, h6⟩ := band h
      obtain ⟨h1, h5⟩ := band h1
      obtain ⟨h1, h4⟩ := band h1
      obtain ⟨h1, h3⟩ := band h1
      obtain ⟨h1, h2⟩ := band h1
      have e := of_decide_eq_true h1
      have e2 := of_decide_eq_true h2
      subst e; subst e2
      exact ⟨l, r, z, pos, rfl, h3, h4, h5, by simpa using h6⟩
  refine snd_ofVT (fun x h => ?_) (fun x h => ?_) (fun op vs pos h => ?_)
  · obtain ⟨l, r, z, pos, rfl, h1, h2, h3, h4⟩ := go x h
    refine pe_imp (pe_chain (cmp_all (γ := γ) (W := W) G.un o1) (cmp_all (γ := γ) (W := W) G.un o2) (ha.e _ h1) (hb.e _ h2) (hc.e _ h3) h4) fun σ H Q ⟨μ, ρ, S, s, q⟩ => ?_
    refine ⟨μ, ρ, S, s, (PostR.bind q).imp fun x H1 ⟨μ1, S1, d1, le1, s1, r1, q1⟩ => ⟨μ1, ρ, S1, s1, (PostR.bind q1).imp fun y H2 ⟨μ2, S2, d2, le2, s2, r2, q2⟩ => ?_⟩⟩
    unfold chainV at q2
    split at q2
    case h_1 e =>
      refine ⟨μ2, σ, ρ, S2, d1, d2, s2, r1.mono le2, r2, ?_⟩
      unfold cmpR
      rw [e]
      intro μ3 H3 v3 le3 s3 r3
      cases r3
      refine ⟨true, rfl, ?_⟩
      rw [if_pos rfl]
      exact ⟨μ3, ρ, S2, s3, (PostR.bind (q2.base le3)).imp fun z H4 ⟨μ4, S4, d4, le4, s4, r4, q4⟩ => ⟨μ4, σ, ρ, S4, d2, d4, s4, (r2.mono le3).mono le4, r4, q4⟩⟩
    case h_2 e =>
      refine ⟨μ2, σ, ρ, S2, d1, d2, s2, r1.mono le2, r2, ?_⟩
      unfold cmpR
      rw [e]
      intro μ3 H3 v3 le3 s3 r3
      cases r3
      refine ⟨false, rfl, ?_⟩
      rw [if_neg Bool.false_ne_true]
      exact q2.later le3 s3 (.bl false)
    case h_3 => exact q2.elim
  · obtain ⟨l, r, z, pos, rfl, h1, h2, h3, h4⟩ := go x h
    refine pt_imp (pt_chain (cmp_all (γ := γ) (W := W) G.un o1) (cmp_all (γ := γ) (W := W) G.un o2) (ha.e _ h1) (hb.e _ h2) (hc.e _ h3) h4) fun σ H Q ⟨μ, ρ, S, s, q⟩ => ?_
    refine ⟨μ, ρ, S, s, (PostR.bind q).imp fun x H1 ⟨μ1, S1, d1, le1, s1, r1, q1⟩ => ⟨μ1, ρ, S1, s1, (PostR.bind q1).imp fun y H2 ⟨μ2, S2, d2, le2, s2, r2, q2⟩ => ?_⟩⟩
    unfold chainT at q2
    split at q2
    case h_1 e =>
      refine ⟨μ2, σ, ρ, S2, d1, d2, s2, r1.mono le2, r2, ?_⟩
      unfold cmpR
      rw [e]
      intro μ3 H3 v3 le3 s3 r3
      cases r3
      refine ⟨true, rfl, ?_⟩
      rw [if_pos rfl]
      refine ⟨μ3, ρ, S2, s3, (PostR.bind (q2.base le3)).imp fun z H4 ⟨μ4, S4, d4, le4, s4, r4, q4⟩ => ?_⟩
      exact ⟨μ4, σ, ρ, S4, d2, d4, s4, (r2.mono le3).mono le4, r4, cmpT_of q4⟩
    case h_2 e =>
      refine ⟨μ2, σ, ρ, S2, d1, d2, s2, r1.mono le2, r2, ?_⟩
      unfold cmpR
      rw [e]
      intro μ3 H3 v3 le3 s3 r3
      cases r3
      refine ⟨false, rfl, ?_⟩
      rw [if_neg Bool.false_ne_true]
      exact ⟨false, rfl, q2.later le3 s3 rfl⟩
    case h_3 => exact q2.elim
  · obtain ⟨l, r, z, pos, e, _⟩ := go (.BoolOp op vs pos) h
    cases e
/-! ### not, and, or, a if c else b -/
theorem snd_not (ha : Snd X γ W (den P a) (chk a Γ)) : Snd X γ W (den P (.not a)) (chk (.not a) Γ) := by
  have go : ∀ x, (chk (.not a) Γ).e x = true → ∃ y pos, x = .UnaryOp .Not y pos ∧ (chk a Γ).e y = true := fun x h => by
    simp only [chk, Ck.ofE] at h
    split at h
    case h_2 => cases h
    case h_1 y pos => exact ⟨y, pos, rfl, h⟩
  refine snd_ofVT (fun x h => ?_) (fun x h => ?_) (fun op vs pos h => ?_)
  · obtain ⟨y, pos, rfl, h1⟩ := go x h
    refine pe_imp (pe_notR (ha.e _ h1) (tru_all (γ := γ) (W := W))) fun σ H Q ⟨μ, ρ, S, s, q⟩ => ?_
    refine ⟨μ, ρ, S, s, (PostR.bind q).imp fun x H1 ⟨μ1, S1, d1, le1, s1, r1, q1⟩ => ⟨μ1, σ, ρ, S1, d1, s1, r1, ?_⟩⟩
    unfold truR at q1 ⊢
    split at q1
    case h_1 k e => exact fun μ' H' b l sm rl => by cases rl; exact q1 μ' H' _ l sm (.bl _)
    case h_2 => exact q1.elim
  · obtain ⟨y, pos, rfl, h1⟩ := go x h
    refine pt_imp (pt_not (ha.t _ h1)) fun σ H Q ⟨μ, ρ, S, s, q⟩ => ?_
    exact ⟨μ, ρ, S, s, (PostR.bind q).imp fun x H1 ⟨μ1, S1, d1, le1, s1, r1, q1⟩ => by cases r1; exact q1.here s1 rfl⟩
  · obtain ⟨y, pos, e, _⟩ := go (.BoolOp op vs pos) h
    cases e
theorem rest_e {op : BoolOp} {pos : Pos} (hb : Snd X γ W (den P b) (chk b Γ)) : ∀ {r : List Expr}, ckRest (chk b Γ).e op pos r = true → ∃ y r', r = y :: r' ∧ PE X (.BoolOp op r pos) (tE X.K γ W (den P b).v)
  | [], h => nomatch h
  | [y], h => ⟨y, [], rfl, pe_one (hb.e y h)⟩
  | y :: z :: r, h => ⟨y, z :: r, rfl, hb.e _ h⟩
theorem and_t {pos : Pos} (hb : Snd X γ W (den P b) (chk b Γ)) : ∀ {r : List Expr}, ckRest (chk b Γ).e .And pos r = true → PW X (.BoolOp .And r pos) (tT X.K γ W (den P b).t)
  | [], h => nomatch h
  | [y], h => pw_and1 (hb.t y h)
  | y :: z :: r, h => hb.w _ _ _ h
theorem or_t {pos : Pos} (hb : Snd X γ W (den P b) (chk b Γ)) : ∀ {r : List Expr}, ckRest (chk b Γ).e .Or pos r = true → PW X (.BoolOp .Or r pos) (tT X.K γ W (den P b).t)
  | [], h => nomatch h
  | [y], h => pw_or1 (hb.t y h)
  | y :: z :: r, h => hb.w _ _ _ h
theorem snd_and (ha : Snd X γ W (den P a) (chk a Γ)) (hb : Snd X γ W (den P b) (chk b Γ)) : Snd X γ W (den P (.and a b)) (chk (.and a b) Γ) := by
  have go : ∀ x, (chk (.and a b) Γ).e x = true → ∃ y r pos, x = .BoolOp .And (y :: r) pos ∧ (chk a Γ).e y = true ∧ ckRest (chk b Γ).e .And pos r = true := fun x h => by
    simp only [chk, Ck.ofE] at h
    split at h
    case h_2 => cases h
    case h_1 y r pos => obtain ⟨h1, h2⟩ := band h; exact ⟨y, r, pos, rfl, h1, h2⟩
  have tt : ∀ y r pos, (chk a Γ).e y = true → ckRest (chk b Γ).e .And pos r = true → PW X (.BoolOp .And (y :: r) pos) (tT X.K γ W (den P (.and a b)).t) := fun y r pos h1 h2 => by
    obtain ⟨z, r', rfl, _⟩ := rest_e (op := .And) hb h2
    refine pw_imp (pw_and (ha.t _ h1) (and_t hb h2)) fun σ H Q ⟨μ, ρ, S, s, q⟩ => ?_
    refine ⟨μ, ρ, S, s, (PostR.bind q).imp fun x H1 ⟨μ1, S1, d1, le1, s1, r1, q1⟩ => ?_⟩
    have e1 : d1 = x := r1
    subst e1
    cases d1 with
    | true => rw [if_pos rfl]; exact ⟨μ1, ρ, S1, s1, q1⟩
    | false => rw [if_neg Bool.false_ne_true]; exact q1.here s1 rfl
  refine snd_ofVT (fun x h => ?_) (fun x h => ?_) (fun op vs pos h => ?_)
  · obtain ⟨y, r, pos, rfl, h1, h2⟩ := go x h
    obtain ⟨z, r', rfl, h3⟩ := rest_e (op := .And) hb h2
    refine pe_imp (pe_andT (ha.e _ h1) h3) fun σ H Q ⟨μ, ρ, S, s, q⟩ => ?_
    refine ⟨μ, ρ, S, s, (PostR.bind q).imp fun x H1 ⟨μ1, S1, d1, le1, s1, r1, q1⟩ => ?_⟩
    unfold andR at q1
    split at q1
    case h_1 e => exact ⟨true, tru_of s1 r1 e, by rw [if_pos rfl]; exact ⟨μ1, ρ, S1, s1, q1⟩⟩
    case h_2 e => exact ⟨false, tru_of s1 r1 e, by rw [if_neg Bool.false_ne_true]; exact q1.here s1 r1⟩
    case h_3 => exact q1.elim
  · obtain ⟨y, r, pos, rfl, h1, h2⟩ := go x h
    exact (tt y r pos h1 h2).pt
  · obtain ⟨y, r, pos', e, h1, h2⟩ := go (.BoolOp op vs pos) h
    cases e
    exact tt y r pos h1 h2
theorem snd_or (ha : Snd X γ W (den P a) (chk a Γ)) (hb : Snd X γ W (den P b) (chk b Γ)) : Snd X γ W (den P (.or a b)) (chk (.or a b) Γ) := by
  have go : ∀ x, (chk (.or a b) Γ).e x = true → ∃ y r pos, x = .BoolOp .Or (y :: r) pos ∧ (chk a Γ).e y = true ∧ ckRest (chk b Γ).e .Or pos r = true := fun x h => by
    simp only [chk, Ck.ofE] at h
    split at h
    case h_2 => cases h
    case h_1 y r pos => obtain ⟨h1, h2⟩ := band h; exact ⟨y, r, pos, rfl, h1, h2⟩
  have tt : ∀ y r pos, (chk a Γ).e y = true → ckRest (chk b Γ).e .Or pos r = true → PW X (.BoolOp .Or (y :: r) pos) (tT X.K γ W (den P (.or a b)).t) := fun y r pos h1 h2 => by
    obtain ⟨z, r', rfl, _⟩ := rest_e (op := .Or) hb h2
    refine pw_imp (pw_or (ha.t _ h1) (or_t hb h2)) fun σ H Q ⟨μ, ρ, S, s, q⟩ => ?_
    refine ⟨μ, ρ, S, s, (PostR.bind q).imp fun x H1 ⟨μ1, S1, d1, le1, s1, r1, q1⟩ => ?_⟩
    have e1 : d1 = x := r1
    subst e1
    cases d1 with
    | true => rw [if_pos rfl]; exact q1.here s1 rfl
    | false => rw [if_neg Bool.false_ne_true]; exact ⟨μ1, ρ, S1, s1, q1⟩
  refine snd_ofVT (fun x h => ?_) (fun x h => ?_) (fun op vs pos h => ?_)
  · obtain ⟨y, r, pos, rfl, h1, h2⟩ := go x h
    obtain ⟨z, r', rfl, h3⟩ := rest_e (op := .Or) hb h2
    refine pe_imp (pe_orT (ha.e _ h1) h3) fun σ H Q ⟨μ, ρ, S, s, q⟩ => ?_
    refine ⟨μ, ρ, S, s, (PostR.bind q).imp fun x H1 ⟨μ1, S1, d1, le1, s1, r1, q1⟩ => ?_⟩
    unfold orR at q1
    split at q1
    case h_1 e => exact ⟨true, tru_of s1 r1 e, by rw [if_pos rfl]; exact q1.here s1 r1⟩
    case h_2 e => exact ⟨false, tru_of s1 r1 e, by rw [if_neg Bool.false_ne_true]; exact ⟨μ1, ρ, S1, s1, q1⟩⟩
    case h_3 => exact q1.elim
  · obtain ⟨y, r, pos, rfl, h1, h2⟩ := go x h
    exact (tt y r pos h1 h2).pt
  · obtain ⟨y, r, pos', e, h1, h2⟩ := go (.BoolOp op vs pos) h
    cases e
    exact tt y r pos h1 h2
theorem snd_ite (hc : Snd X γ W (den P c) (chk c Γ)) (ha : Snd X γ W (den P a) (chk a Γ)) (hb : Snd X γ W (den P b) (chk b Γ)) : Snd X γ W (den P (.ite c a b)) (chk (.ite c a b) Γ) := by
  have go : ∀ x, (chk (.ite c a b) Γ).e x = true → ∃ t y z pos, x = .IfExp t y z pos ∧ (chk c Γ).e t = true ∧ (chk a Γ).e y = true ∧ (chk b Γ).e z = true := fun x h => by
    simp only [chk, Ck.ofE] at h
    split at h
    case h_2 => cases h
    case h_1 t y z pos => obtain ⟨h1, h3⟩ := band h; obtain ⟨h1, h2⟩ := band h1; exact ⟨t, y, z, pos, rfl, h1, h2, h3⟩
  refine snd_ofVT (fun x h => ?_) (fun x h => ⟨fun pins s σ H Q I ⟨μ, ρ, S, s1, q⟩ => q.elim⟩) (fun op vs pos h => ?_)
  · obtain ⟨t, y, z, pos, rfl, h1, h2, h3⟩ := go x h
    refine pe_imp (pe_ifExp (hc.t _ h1) (ha.e _ h2) (hb.e _ h3)) fun σ H Q ⟨μ, ρ, S, s, q⟩ => ?_
    refine ⟨μ, ρ, S, s, (PostR.bind q).imp fun x H1 ⟨μ1, S1, d1, le1, s1, r1, q1⟩ => ?_⟩
    have e1 : d1 = x := r1
    subst e1
    cases d1 with
    | true => rw [if_pos rfl]; exact ⟨μ1, ρ, S1, s1, q1⟩
    | false => rw [if_neg Bool.false_ne_true]; exact ⟨μ1, ρ, S1, s1, q1⟩
  · obtain ⟨t, y, z, pos, e, _⟩ := go (.BoolOp op vs pos) h
    cases e
/-! ### arguments, displays -/
/-- no star in a text that passes -/
theorem star_of (ha : Snd X γ W (den P a) (chk a Γ)) : ∀ x, (chk a Γ).e x = true → ∀ es, starEach (x :: es) X.env = (false, eval x X.env) :: starEach es X.env := by
  intro x h es
  cases x <;> first | rfl | skip
  rename_i y p
  exfalso
  cases a <;> simp [chk, Ck.ofE, Ck.no] at h
theorem snd_nil : Snd X γ W (den P .nil) (chk .nil Γ) where
  k := fun xs h => by
    cases xs with
    | nil => exact ⟨[], .nil, fun σ H T ⟨μ, ρ, S, s, q⟩ => q.here s .nil⟩
    | cons => cases h
  e := fun _ h => nomatch h
  t := fun _ h => nomatch h
  w := fun _ _ _ h => nomatch h
  a := fun xs h => by
    cases xs with
    | nil => exact pa_imp pa_nil fun σ H Q ⟨μ, ρ, S, s, q⟩ => q.here s .nil
    | cons => cases h
  o := fun x h => by
    cases x with
    | none => exact po_imp po_none fun σ H Q ⟨μ, ρ, S, s, q⟩ => q.here s rfl
    | some => cases h
  i := fun _ _ h => nomatch h
  j := fun xs h => by
    cases xs with
    | nil => exact ⟨[], .nil, fun acc σ H Q ⟨μ, ρ, S, s, q⟩ => q.here s rfl⟩
    | cons => cases h
theorem snd_cons (ha : Snd X γ W (den P a) (chk a Γ)) (hb : Snd X γ W (den P b) (chk b Γ)) : Snd X γ W (den P (.cons a b)) (chk (.cons a b) Γ) where
  k := fun xs h => by
    cases xs with
    | nil => cases h
    | cons x r =>
      obtain ⟨h1, h2⟩ := band h
      obtain ⟨ts, pk, hk⟩ := hb.k _ h2
      refine ⟨_, .cons (ha.e _ h1) pk, fun σ H T ⟨μ, ρ, S, s, q⟩ => ?_⟩
      exact ⟨μ, ρ, S, s, (PostR.bind q).imp fun v H1 ⟨μ1, S1, d1, le1, s1, r1, q1⟩ => hk σ H1 _ ⟨μ1, ρ, S1, s1, (PostR.bind q1).imp fun y H2 ⟨μ2, S2, d2, le2, s2, r2, q2⟩ => q2.here s2 (.cons (r1.mono le2) r2)⟩⟩
  e := fun _ h => nomatch h
  t := fun _ h => nomatch h
  w := fun _ _ _ h => nomatch h
  a := fun xs h => by
    cases xs with
    | nil => cases h
    | cons x r =>
      obtain ⟨h1, h2⟩ := band h
      refine pa_imp (pa_cons (ha.e _ h1) (hb.a _ h2) (star_of ha x h1 r)) fun σ H Q ⟨μ, ρ, S, s, q⟩ => ?_
      exact ⟨μ, ρ, S, s, (PostR.bind q).imp fun x H1 ⟨μ1, S1, d1, le1, s1, r1, q1⟩ => ⟨μ1, ρ, S1, s1, (PostR.bind q1).imp fun y H2 ⟨μ2, S2, d2, le2, s2, r2, q2⟩ => q2.here s2 (.cons (r1.mono le2) r2)⟩⟩
  o := fun _ h => nomatch h
  i := fun _ _ h => nomatch h
  j := fun xs h => by
    cases xs with
    | nil => cases h
    | cons x r =>
      obtain ⟨h1, h2⟩ := band h
      obtain ⟨ts, pj, hj⟩ := hb.j _ h2
      refine ⟨_, .cons (ha.e _ h1) pj, fun acc σ H Q ⟨μ, ρ, S, s, q⟩ => ?_⟩
      refine ⟨μ, ρ, S, s, (PostR.bind q).imp fun v H1 ⟨μ1, S1, d1, le1, s1, r1, q1⟩ => ?_⟩
      unfold catJ at q1
      split at q1
      case h_2 => exact q1.elim
      case h_1 y =>
        cases r1
        split at q1
        case isFalse => exact q1.elim
        case isTrue hz => exact ⟨y, rfl, by rw [← linesz_eq]; exact hz, hj _ σ H1 Q ⟨μ1, ρ, S1, s1, q1⟩⟩
theorem snd_tup (ha : Snd X γ W (den P a) (chk a Γ)) : Snd X γ W (den P (.tup a)) (chk (.tup a) Γ) := by
  refine snd_ofV fun x h => ?_
  split at h
  case h_2 => cases h
  case h_1 es k pos =>
    refine ⟨pe_imp (pe_tup (ha.a _ h)) fun σ H Q ⟨μ, ρ, S, s, q⟩ => ?_, fun _ => rfl, fun _ _ _ z => nomatch z⟩
    refine ⟨μ, ρ, S, s, (PostR.bind q).imp fun xs H1 ⟨μ1, S1, d1, le1, s1, r1, q1⟩ => ?_⟩
    unfold tupR at q1
    split at q1
    case isTrue hz => exact ⟨by rw [RepVs.length r1, ← linesz_eq]; exact hz, q1.newT s1 r1⟩
    case isFalse => exact q1.elim
theorem snd_lst (ha : Snd X γ W (den P a) (chk a Γ)) : Snd X γ W (den P (.lst a)) (chk (.lst a) Γ) := by
  refine snd_ofV fun x h => ?_
  split at h
  case h_2 => cases h
  case h_1 es pos =>
    refine ⟨pe_imp (pe_lst (ha.a _ h)) fun σ H Q ⟨μ, ρ, S, s, q⟩ => ?_, fun _ => rfl, fun _ _ _ z => nomatch z⟩
    refine ⟨μ, ρ, S, s, (PostR.bind q).imp fun xs H1 ⟨μ1, S1, d1, le1, s1, r1, q1⟩ => ?_⟩
    unfold lstR at q1
    split at q1
    case isTrue hz => exact ⟨by rw [RepVs.length r1, ← linesz_eq]; exact hz, q1.newL s1 r1⟩
    case isFalse => exact q1.elim
theorem snd_fjs (ha : Snd X γ W (den P a) (chk a Γ)) : Snd X γ W (den P (.fjs a)) (chk (.fjs a) Γ) := by
  refine snd_ofV fun x h => ?_
  split at h
  case h_2 => cases h
  case h_1 v1 v2 rest pos =>
    obtain ⟨ts, pj, hj⟩ := ha.j _ h
    refine ⟨pe_imp (pe_joined pj) fun σ H Q ⟨μ, ρ, S, s, q⟩ => ?_, fun _ => rfl, fun _ _ _ z => nomatch z⟩
    exact hj Str.empty σ H _ ⟨μ, ρ, S, s, (PostR.bind q).imp fun y H1 ⟨μ1, S1, d1, le1, s1, r1, q1⟩ => by cases r1; exact q1.here s1 (.str _)⟩
theorem snd_fmt (ha : Snd X γ W (den P a) (chk a Γ)) : Snd X γ W (den P (.fmt a)) (chk (.fmt a) Γ) := by
  refine snd_ofV fun x h => ?_
  split at h
  case h_2 => cases h
  case h_1 e c pos =>
    obtain ⟨h1, h2⟩ := band h
    obtain rfl := of_decide_eq_true h1
    refine ⟨pe_imp (pe_fmt (ha.e _ h2)) fun σ H Q ⟨μ, ρ, S, s, q⟩ => ?_, fun _ => rfl, fun _ _ _ z => nomatch z⟩
    refine ⟨μ, ρ, S, s, (PostR.bind q).imp fun v H1 ⟨μ1, S1, d1, le1, s1, r1, q1⟩ => ?_⟩
    unfold fmtR at q1
    split at q1
    · cases r1
      split at q1
      · rename_i hz; exact .inl ⟨_, rfl, by rw [← linesz_eq]; exact hz, q1.here s1 (.str _)⟩
      · exact q1.elim
    · cases r1
      split at q1
      · rename_i hz; exact .inr ⟨_, rfl, hz, q1.here s1 (.str _)⟩
      · exact q1.elim
    · exact q1.elim
theorem no_slice : ∀ i, (chk b Γ).e i = true → ∀ l u s p, i ≠ .Slice l u s p := fun i h l u s p e => by
  subst e
  cases b <;> simp [chk, Ck.ofE, Ck.no] at h
theorem plain_ix (hb : ∀ l u s p, b' ≠ Expr.Slice l u s p) : PlainIx b' := fun o i => by
  cases b' <;> first | rfl | exact absurd rfl (hb _ _ _ _)
theorem snd_ix (G : Good X Γ γ W P) (ha : Snd X γ W (den P a) (chk a Γ)) (hb : Snd X γ W (den P b) (chk b Γ)) : Snd X γ W (den P (.ix a b)) (chk (.ix a b) Γ) := by
  refine snd_ofV fun x h => ?_
  split at h
  case h_2 => cases h
  case h_1 o i pos =>
    obtain ⟨h1, h2⟩ := band h
    refine ⟨pe_imp (pe_ix (ix_all (γ := γ) (W := W) (by have := G.un; omega)) (ha.e _ h1) (hb.e _ h2) (plain_ix (no_slice i h2))) fun σ H Q ⟨μ, ρ, S, s, q⟩ => ?_, fun _ => rfl, fun _ _ _ z => nomatch z⟩
    exact ⟨μ, ρ, S, s, (PostR.bind q).imp fun x H1 ⟨μ1, S1, d1, le1, s1, r1, q1⟩ => ⟨μ1, ρ, S1, s1, (PostR.bind q1).imp fun y H2 ⟨μ2, S2, d2, le2, s2, r2, q2⟩ => ⟨μ2, σ, ρ, S2, d1, d2, s2, r1.mono le2, r2, q2⟩⟩⟩
/-! ### displays of dicts with tuple keys -/
theorem snd_dd0 : Snd X γ W (den P .dd0) (chk .dd0 Γ) := by
  refine snd_ofV fun x h => ?_
  split at h
  case h_2 => cases h
  case h_1 pos =>
    refine ⟨pe_imp pe_dnewX fun σ H Q ⟨μ, ρ, S, s, q⟩ => fun p hp => ?_, fun _ => rfl, fun _ _ _ z => nomatch z⟩
    exact q (μ ++ [p]) _ _ (le_newP hp) (s.alloc hp ⟨_, upd_same, .nil⟩) (.ref (s.ref p))
theorem snd_kd0 : Snd X γ W (den P .kd0) (chk .kd0 Γ) := by
  refine snd_ofV fun x h => ?_
  split at h
  case h_2 => cases h
  case h_1 pos =>
    refine ⟨pe_imp pe_dnewK fun σ H Q ⟨μ, ρ, S, s, q⟩ => fun p hp => ?_, fun _ => rfl, fun _ _ _ z => nomatch z⟩
    exact q (μ ++ [p]) _ _ (le_newP hp) (s.alloc hp ⟨_, upd_same, rfl, .nil⟩) (.ref (s.ref p))
theorem snd_dd1 {v : E} (G : Good X Γ γ W P) (ha : Snd X γ W (den P a) (chk a Γ)) (hv : Snd X γ W (den P v) (chk v Γ)) : Snd X γ W (den P (.dd1 a v)) (chk (.dd1 a v) Γ) := by
  refine snd_ofV fun x h => ?_
  split at h
  case h_2 => cases h
  case h_1 kx vx pos =>
    obtain ⟨h1, h2⟩ := band h
    refine ⟨pe_imp (pe_dispX (by have := G.un; omega) (pps_cons (ha.e _ h1) (hv.e _ h2) pps_nil) rfl rfl (by simp) (by simp)) fun σ H Q ⟨μ, ρ, S, s, q⟩ => fun p hp => ?_, fun _ => rfl, fun _ _ _ z => nomatch z⟩
    have s1 : Sim X.K (μ ++ [p]) σ (upd H p (DX p [])) ρ (S ++ [.dct []]) := s.alloc hp ⟨_, upd_same, .nil⟩
    refine ⟨μ ++ [p], ρ, S ++ [.dct []], s1, (PostR.bind (PostR.base (le_newP hp) q)).imp fun x H1 ⟨μ1, S1, d1, le1, s2, r1, q1⟩ => ⟨μ1, ρ, S1, s2, (PostR.bind q1).imp fun y H2 ⟨μ2, S2, d2, le2, s3, r2, q2⟩ => ?_⟩⟩
    exact dd_done (ps := [(d1, d2)]) s3 (le2.at (le1.at (s.ref p))) (.cons ⟨r1.mono le2, r2⟩ .nil) (by simp) q2
theorem snd_dd2 {v k2 v2 : E} (G : Good X Γ γ W P) (ha : Snd X γ W (den P a) (chk a Γ)) (hv : Snd X γ W (den P v) (chk v Γ)) (ha2 : Snd X γ W (den P k2) (chk k2 Γ)) (hv2 : Snd X γ W (den P v2) (chk v2 Γ)) : Snd X γ W (den P (.dd2 a v k2 v2)) (chk (.dd2 a v k2 v2) Γ) := by
  refine snd_ofV fun x h => ?_
  split at h
  case h_2 => cases h
  case h_1 kx kx2 vx vx2 pos =>
    obtain ⟨h, h4⟩ := band h
    obtain ⟨h, h3⟩ := band h
    obtain ⟨h1, h2⟩ := band h
    refine ⟨pe_imp (pe_dispX (by have := G.un; omega) (pps_cons (ha.e _ h1) (hv.e _ h2) (pps_cons (ha2.e _ h3) (hv2.e _ h4) pps_nil)) rfl rfl (by simp) (by simp)) fun σ H Q ⟨μ, ρ, S, s, q⟩ => fun p hp => ?_, fun _ => rfl, fun _ _ _ z => nomatch z⟩
    have s1 : Sim X.K (μ ++ [p]) σ (upd H p (DX p [])) ρ (S ++ [.dct []]) := s.alloc hp ⟨_, upd_same, .nil⟩
    refine ⟨μ ++ [p], ρ, S ++ [.dct []], s1, (PostR.bind (PostR.base (le_newP hp) q)).imp fun x H1 ⟨μ1, S1, d1, le1, s2, r1, q1⟩ => ⟨μ1, ρ, S1, s2, (PostR.bind q1).imp fun y H2 ⟨μ2, S2, d2, le2, s3, r2, q2⟩ =>
      ⟨μ2, ρ, S2, s3, (PostR.bind q2).imp fun x2 H3 ⟨μ3, S3, d3, le3, s4, r3, q3⟩ => ⟨μ3, ρ, S3, s4, (PostR.bind q3).imp fun y2 H4 ⟨μ4, S4, d4, le4, s5, r4, q4⟩ => ?_⟩⟩⟩⟩
    exact dd_done (ps := [(d1, d2), (d3, d4)]) s5 (le4.at (le3.at (le2.at (le1.at (s.ref p))))) (.cons ⟨((r1.mono le2).mono le3).mono le4, (r2.mono le3).mono le4⟩ (.cons ⟨r3.mono le4, r4⟩ .nil)) (by simp) q4
/-! ### displays of dicts with text keys -/
theorem pps_of {pos : Pos} : ∀ {ks : List Str} {keys : List (Option Expr)} {values : List Expr} {ts : List (Env → Store → R D)}, ckKeys ks keys = true → PKs X γ W values ts → ks.length = values.length → PPs X pos keys values ((ks.zip ts).map fun q => (tC (.str q.1), tE X.K γ W q.2))
  | [], [], [], _, _, .nil, _ => pps_nil
  | [], [], _ :: _, _, _, _, h => by simp at h
  | [], _ :: _, _, _, h, _, _ => nomatch h
  | _ :: _, _, [], _, _, _, h => by simp at h
  | k :: ks, [], _ :: _, _, h, _, _ => nomatch h
  | k :: ks, none :: keys, _ :: _, _, h, _, _ => nomatch h
  | k :: ks, some x :: keys, v :: vs, _, h, .cons hv r, hl => by
    cases x <;> first | (cases h; done) | skip
    rename_i c j p
    cases c <;> first | (cases h; done) | skip
    obtain ⟨h1, h2⟩ := band h
    have e := of_decide_eq_true h1
    subst e
    exact pps_cons pe_str hv (pps_of h2 r (by simpa using hl))
theorem pairs_of {σ : L2.St} : ∀ {ks : List Str} {ts : List (Env → Store → R D)} {H : Hp} {T : List V → Hp → Prop} {R : List (V × V) → Hp → Prop}, ks.length = ts.length → (∀ us H2, us.length = ks.length → T us H2 → R ((ks.zip us).map fun q => (V.str q.1, q.2)) H2) → tKs X.K γ W ts σ H T → tPairs ((ks.zip ts).map fun q => (tC (.str q.1), tE X.K γ W q.2)) σ H R
  | [], [], H, T, R, _, i, h => i [] H rfl h
  | [], _ :: _, _, _, _, hl, _, _ => by simp at hl
  | _ :: _, [], _, _, _, hl, _, _ => by simp at hl
  | k :: ks, t :: ts, H, T, R, hl, i, h => by
    show tE X.K γ W t σ H fun y H2 => tPairs ((ks.zip ts).map fun q => (tC (.str q.1), tE X.K γ W q.2)) σ H2 fun ps H3 => R ((V.str k, y) :: ps) H3
    exact tE_imp h fun y H2 h2 => pairs_of (by simpa using hl) (fun us H3 hu ht => i (y :: us) H3 (by simp [hu]) ht) h2
theorem pks_len : ∀ {xs : List Expr} {ts : List (Env → Store → R D)}, PKs X γ W xs ts → ts.length = xs.length
  | [], _, .nil => rfl
  | _ :: _, _, .cons _ r => by simp [pks_len r]
theorem merge_new : ∀ (kvs acc : List (L2.Key × V)), (kvs.map (·.1)).Nodup → (∀ p ∈ kvs, ∀ q ∈ acc, q.1 ≠ p.1) → mergeK acc kvs = acc ++ kvs
  | [], acc, _, _ => by simp [mergeK]
  | p :: kvs, acc, hn, hd => by
    rw [List.map_cons, List.nodup_cons] at hn
    have e : putK acc p.1 p.2 = acc ++ [p] := by
      unfold putK
      rw [if_neg]
      rw [List.any_eq_true]
      rintro ⟨q, hq, e⟩
      exact hd p List.mem_cons_self q hq (of_decide_eq_true e)
    show mergeK (putK acc p.1 p.2) kvs = _
    rw [e, merge_new kvs (acc ++ [p]) hn.2 (fun q hq r hr => by
      rcases List.mem_append.mp hr with hr | hr
      · exact hd q (List.mem_cons_of_mem _ hq) r hr
      · simp at hr; subst hr
        exact fun z => hn.1 (by rw [z]; exact List.mem_map_of_mem hq))]
    simp
theorem zip_map1 {α β : Type} : ∀ {xs : List α} {ys : List β}, xs.length = ys.length → (xs.zip ys).map (·.1) = xs ∧ (xs.zip ys).map (·.2) = ys
  | [], [], _ => ⟨rfl, rfl⟩
  | [], _ :: _, h => by simp at h
  | _ :: _, [], h => by simp at h
  | x :: xs, y :: ys, h => by
    obtain ⟨a, b⟩ := zip_map1 (xs := xs) (ys := ys) (by simpa using h)
    simp [a, b]
theorem snd_kdd (ks : List Str) (ha : Snd X γ W (den P a) (chk a Γ)) : Snd X γ W (den P (.kdd ks a)) (chk (.kdd ks a) Γ) := by
  refine snd_ofV fun x h => ?_
  split at h
  case h_2 => cases h
  case h_1 keys values pos =>
    obtain ⟨h, h5⟩ := band h
    obtain ⟨h, h4⟩ := band h
    obtain ⟨h, h3⟩ := band h
    obtain ⟨h1, h2⟩ := band h
    have h3 := of_decide_eq_true h3
    have h4 := of_decide_eq_true h4
    have h5 := of_decide_eq_true h5
    obtain ⟨ts, pk, hk⟩ := ha.k _ h2
    have hts := pks_len pk
    have hkl : ∀ {ks : List Str} {keys : List (Option Expr)}, ckKeys ks keys = true → keys.length = ks.length ∧ keys.all (·.isSome) = true := by
      intro ks
      induction ks with
      | nil => intro keys h; cases keys with
        | nil => exact ⟨rfl, rfl⟩
        | cons => cases h
      | cons k ks ih =>
        intro keys h
        cases keys with
        | nil => cases h
        | cons x r =>
          cases x with
          | none => cases h
          | some x =>
            cases x <;> first | (cases h; done) | skip
            rename_i c j p
            cases c <;> first | (cases h; done) | skip
            obtain ⟨_, h2⟩ := band h
            obtain ⟨i1, i2⟩ := ih h2
            exact ⟨by simp [i1], by simp [i2]⟩
    obtain ⟨k1, k2⟩ := hkl h1
    refine ⟨pe_imp (pe_disp (pps_of h1 pk h3) k2 (by rw [k1, h3]) (fun e => by rw [e] at k1; simp at k1; omega) (by rw [k1]; exact h5)) fun σ H Q ⟨μ, ρ, S, s, q⟩ => fun p hp => ?_, fun _ => rfl, fun _ _ _ z => nomatch z⟩
    have s1 : Sim X.K (μ ++ [p]) σ (upd H p (.dK [])) ρ (S ++ [.dk []]) := s.alloc hp ⟨_, upd_same, rfl, .nil⟩
    refine pairs_of (by rw [hts]; exact h3) ?_ (hk σ _ _ ⟨μ ++ [p], ρ, S ++ [.dk []], s1, PostR.bind (PostR.base (le_newP hp) q)⟩)
    rintro us H2 hul ⟨μ1, S1, ds, le1, s2, r1, q1⟩
    unfold kddR at q1
    split at q1
    case h_2 => exact q1.elim
    case h_1 hS =>
      split at q1
      case isFalse => exact q1.elim
      case isTrue hz =>
        obtain ⟨z1, z2, z3⟩ := hz
        have hm : μ1[S.length]? = some p := le1.at (s.ref p)
        obtain ⟨a', gs, ea, hH, g1, g2, _⟩ := s2.dk (.ref hm) hS
        cases ea
        have eg : gs = [] := by cases gs with | nil => rfl | cons => simp at g1
        subst eg
        have hzl := zip_map1 (xs := ks.map (Sum.inr : Str → L2.Key)) (ys := us) (by simp [hul])
        have hzd := zip_map1 (xs := ks.map (Sum.inr : Str → L2.Key)) (ys := ds) (by simp [z1])
        refine ⟨hH, (ks.map Sum.inr).zip us, ?_, by simp [hul]; omega, ?_⟩
        · clear q1 q hk pk hkl
          rw [List.zip_map_left, List.map_map]
          rfl
        · have nd : ((ks.map (Sum.inr : Str → L2.Key)).zip us).map (·.1) |>.Nodup := by
            rw [hzl.1]
            exact (List.pairwise_map.mpr (z2.imp fun {a b} h e => h (Sum.inr.inj e)))
          rw [merge_new _ [] nd (fun _ _ _ h => by cases h), List.nil_append]
          have le2 : Le X.K μ1 H2 μ1 (upd H2 p (.dK ((ks.map Sum.inr).zip us))) := le_updC hH nt_dk
          exact q1 μ1 _ _ le2 ⟨s2.e.mono le2, s2.s.writeC hS hm hH nt_dk rfl rfl ⟨_, upd_same, by rw [hzl.1, hzd.1], by rw [hzl.2, hzd.2]; exact r1.mono le2⟩⟩ (.ref hm)
/-! ### an expression while a dict is walked -/
theorem snd_lk (o : E) (ha : Snd X γ W (den P a) (chk a Γ)) : Snd X γ W (den P (.lk o a)) (chk (.lk o a) Γ) := by
  have main : ∀ x, (chk a Γ).e x = true → PE X x (tE X.K γ W (den P (.lk o a)).v) := fun x h => by
    refine ⟨fun pins sh σ H Q I ⟨μ, ρ, S, s, q⟩ => ?_⟩
    change PostR X.K γ W (relV X.K) μ H σ ρ (lkR ((den P o).v ρ S) ((den P a).v ρ) S) Q at q
    unfold lkR at q
    split at q
    case h_2 => exact q.elim
    case h_1 n S0 _ =>
      split at q
      case h_3 => exact q.elim
      case h_2 kvs hS => exact (ha.e _ h).run pins sh σ H Q I ⟨μ, ρ, S, s, q⟩
      case h_1 kvs hS =>
        refine (pe_lock (ha.e _ h)).run pins sh σ H Q I ?_
        obtain ⟨b, hm, xs, hH, rx⟩ := s.s.at hS
        refine ⟨b, DX b xs, hH, True.intro, fun od => ?_⟩
        have le1 : Le X.K μ H μ (upd H b (.frz od (DX b xs))) := le_updC hH nt_dx
        have sl : Sim X.K μ σ (upd H b (.frz od (DX b xs))) ρ (S.set n (.hid kvs)) := ⟨s.e.mono le1, s.s.writeC hS hm hH nt_dx rfl rfl ⟨od, xs, upd_same, rx.mono le1⟩⟩
        refine ⟨μ, ρ, S.set n (.hid kvs), sl, ?_⟩
        cases hr : (den P a).v ρ (S.set n (.hid kvs)) with
        | bad => rw [hr] at q; exact q.elim
        | exc c fs S2 => rw [hr] at q; exact q.elim
        | ok d S2 =>
          rw [hr] at q
          simp only at q
          split at q
          case isFalse => exact q.elim
          case isTrue hS2 =>
            intro μ' H' v le s2 rv
            have hF : H' b = some (.frz od (DX b xs)) := le.fz b od xs upd_same
            have hm' : μ'[n]? = some b := le.at hm
            refine ⟨hF, ?_⟩
            refine q μ' (upd H' b (DX b xs)) v ⟨le.pre, fun c ys hc => (le0_unl (K := X.K) (μ := μ) hF).tup c ys (le.tup c ys (le1.tup c ys hc)), fun c u ys hc => ?_⟩ ⟨s2.e.mono0 (le0_unl hF), s2.s.unl hS2 hm' hF⟩ (RepV.mono0 (le0_unl hF) rv)
            have hne : c ≠ b := fun e => by
              subst e
              rw [hH] at hc
              injection hc with hc
              unfold DX at hc
              cases hc
            rw [upd_ne hne]
            exact le.fz c u ys (by rw [upd_ne hne]; exact hc)
  refine snd_ofV fun x h => ?_
  split at h
  · exact ⟨main _ h, fun _ => rfl, fun _ _ _ z => nomatch z⟩
  · exact ⟨main _ h, fun _ => rfl, fun _ _ _ z => nomatch z⟩
  · cases h
/-- an item of a written dict, by a number -/
def rIxI (K : PySem.W.Frag) : R2 := fun x y H Q => ∃ p z v, x = .ref p ∧ y = .int z ∧ (∃ es n u, K.lookup p = some ⟨.type "dict", none, .dict es n, #[]⟩ ∧ (∀ e ∈ es, ∃ i t, e.key = .int i t ∧ e.hash = hashInt i) ∧ findBy Value.isInt es z = some u ∧ RelV v u) ∧ Q v H
theorem ix_idict {X : Cx} : IxR X (rIxI X.K) := by
  intro value slice pins s σ H x y v u Q I rx ry h hs
  obtain ⟨p, z, r, rfl, rfl, ⟨es, n, u0, hl, hk, e, ru⟩, q⟩ := h
  obtain rfl : v = Value.ref p := rx
  obtain ⟨t, rfl⟩ := ry
  have hm : s.heap.MapOf (PySem.intKind X.prog X.w) p (fun k => findBy Value.isInt es k) := ⟨_, es, n, I.kIn _ _ hl, ⟨rfl, rfl, rfl⟩, rfl, fun e he => by
    obtain ⟨i, t, e1, e2⟩ := hk e he
    exact ⟨i, by rw [e1]; exact PySem.intKind_is X.prog X.w i t, e2⟩, fun _ => rfl⟩
  exact tail_any hm.typeIs slot_dict_getitem.lookup (wpAny_getItem_of (PySem.intKind_is X.prog X.w z t) hm e ⟨r, H, I.tok _, ru, q⟩) hs
theorem snd_gix (G : Good X Γ γ W P) (y : Str) (kvs : List (Int × D)) (ha : Snd X γ W (den P a) (chk a Γ)) : Snd X γ W (den P (.gix y kvs a)) (chk (.gix y kvs a) Γ) := by
  refine snd_ofV fun x h => ?_
  split at h
  case h_2 => cases h
  case h_1 z p i pos =>
    obtain ⟨k4, h5⟩ := band h
    obtain ⟨k3, h4⟩ := band k4
    obtain ⟨k2, h3⟩ := band k3
    obtain ⟨k1, h2⟩ := band k2
    obtain ⟨n1, n2, n3⟩ := nodbg_of h3
    obtain ⟨ad, es, n, g1, gl, gk, _, _, g3⟩ := G.glb z (.i kvs) (of_decide_eq_true h4)
    refine ⟨pe_imp (pe_ix (ix_idict (X := X)) (pe_glob (v := .ref ad) (gl_of G h2) g1 rfl n1) (ha.e _ h5) (plain_ix (no_slice i h5))) fun σ H Q ⟨μ, ρ, S, s, q⟩ => ?_, fun _ => rfl, fun _ _ _ z => nomatch z⟩
    refine ⟨μ, ρ, S, s, (PostR.bind q).imp fun x H1 ⟨μ1, S1, d1, le1, s1, r1, q1⟩ => ?_⟩
    unfold gixR at q1
    split at q1
    case h_2 => exact q1.elim
    case h_1 t =>
      cases r1
      split at q1
      case h_2 => exact q1.elim
      case h_1 d e =>
        obtain ⟨u, v, g5, g6, g7⟩ := g3 t d e
        exact ⟨ad, t, v, rfl, rfl, ⟨es, n, u, gl, gk, g5, g6⟩, q1.here s1 (g7 _ _)⟩
theorem snd_gdx (G : Good X Γ γ W P) (y : Str) (kvs : List (Str × D)) (ha : Snd X γ W (den P a) (chk a Γ)) : Snd X γ W (den P (.gdx y kvs a)) (chk (.gdx y kvs a) Γ) := by
  refine snd_ofV fun x h => ?_
  split at h
  case h_2 => cases h
  case h_1 z p i pos =>
    obtain ⟨k4, h5⟩ := band h
    obtain ⟨k3, h4⟩ := band k4
    obtain ⟨k2, h3⟩ := band k3
    obtain ⟨k1, h2⟩ := band k2
    obtain ⟨n1, n2, n3⟩ := nodbg_of h3
    obtain ⟨ad, es, n, g1, D, g3⟩ := G.glb z (.d kvs) (of_decide_eq_true h4)
    refine ⟨pe_imp (pe_ix (ix_kdict (X := X)) (pe_glob (v := .ref ad) (gl_of G h2) g1 rfl n1) (ha.e _ h5) (plain_ix (no_slice i h5))) fun σ H Q ⟨μ, ρ, S, s, q⟩ => ?_, fun _ => rfl, fun _ _ _ z => nomatch z⟩
    refine ⟨μ, ρ, S, s, (PostR.bind q).imp fun x H1 ⟨μ1, S1, d1, le1, s1, r1, q1⟩ => ?_⟩
    unfold gdxR at q1
    split at q1
    case h_2 => exact q1.elim
    case h_1 t =>
      cases r1
      split at q1
      case h_2 => exact q1.elim
      case h_1 d e =>
        have g4 := g3 t
        rw [e] at g4
        obtain ⟨u, v, g5, g6, g7⟩ := g4
        exact ⟨ad, t, v, rfl, rfl, ⟨es, n, u, D.at_, D.lit, g5, g6⟩, q1.here s1 (g7 _ _)⟩
theorem kv_some {K : PySem.W.Frag} {ad : Addr} {t : Str} {o : Option D} (h : KvAt K ad t o) : ∃ r, PySem.W.nsIn K ad t = some r ∧ r.isSome = o.isSome := by
  cases o with
  | none => exact ⟨none, h, rfl⟩
  | some d => obtain ⟨u, v, h1, _⟩ := h; exact ⟨some u, h1, rfl⟩
theorem snd_gdin (G : Good X Γ γ W P) (y : Str) (kvs : List (Str × D)) (neg : Bool) (ha : Snd X γ W (den P a) (chk a Γ)) : Snd X γ W (den P (.gdin y kvs neg a)) (chk (.gdin y kvs neg a) Γ) := by
  have go : ∀ x, (chk (.gdin y kvs neg a) Γ).e x = true → ∃ l p z q pos ad es n, x = .Compare l [p] [.Name z q] pos ∧ p = (if neg then .NotIn else .In) ∧ (chk a Γ).e l = true ∧ behindInMarks p (.Name z q) = false ∧ PE X (.Name z q) (tC (.ref ad)) ∧ KDict X.K X.w ad es n ∧ ∀ z, KvAt X.K ad z (kvs.lookup z) := fun x h => by
    simp only [chk, Ck.ofE] at h
    split at h
    case h_2 => cases h
    case h_1 l p z q pos =>
      obtain ⟨k6, h7⟩ := band h
      obtain ⟨k5, h6⟩ := band k6
      obtain ⟨k4, h5⟩ := band k5
      obtain ⟨k3, h4⟩ := band k4
      obtain ⟨k2, h3⟩ := band k3
      obtain ⟨k1, h2⟩ := band k2
      obtain ⟨n1, n2, n3⟩ := nodbg_of h4
      obtain ⟨ad, es, n, g1, D, g3⟩ := G.glb z (.d kvs) (of_decide_eq_true h5)
      exact ⟨l, p, z, q, pos, ad, es, n, rfl, of_decide_eq_true k1, h6, by simpa using h7, pe_glob (v := .ref ad) (gl_of G h3) g1 rfl n1, D, g3⟩
  have opR : ∀ {ad es n}, KDict X.K X.w ad es n → (∀ z, KvAt X.K ad z (kvs.lookup z)) → OpR X (compareOp (if neg then .NotIn else .In)) (fun x y H Q => ∃ t, x = .str t ∧ y = .ref ad ∧ Q (.bl (if neg then !(kvs.lookup t).isSome else (kvs.lookup t).isSome)) H) := fun {ad es n} D g => by
    cases neg with
    | true =>
      refine opR_imp (op_notIn_kd D) fun x y H Q ⟨t, e1, e2, q⟩ => ?_
      obtain ⟨r, h1, h2⟩ := kv_some (g t)
      exact ⟨t, r, e1, e2, h1, by rw [h2]; exact q⟩
    | false =>
      refine opR_imp (op_in_kd D) fun x y H Q ⟨t, e1, e2, q⟩ => ?_
      obtain ⟨r, h1, h2⟩ := kv_some (g t)
      exact ⟨t, r, e1, e2, h1, by rw [h2]; exact q⟩
  refine snd_ofVT (fun x h => ?_) (fun x h => ?_) (fun op vs pos h => ?_)
  · obtain ⟨l, p, z, q, pos, ad, es, n, rfl, rfl, h1, h2, h3, D, g⟩ := go x h
    refine pe_imp (pe_cmpR (opR D g) (ha.e _ h1) h3 h2) fun σ H Q ⟨μ, ρ, S, s, q⟩ => ?_
    refine ⟨μ, ρ, S, s, (PostR.bind q).imp fun x H1 ⟨μ1, S1, d1, le1, s1, r1, q1⟩ => ?_⟩
    unfold gdinR at q1
    split at q1
    case h_2 => exact q1.elim
    case h_1 t =>
      cases r1
      exact ⟨t, rfl, rfl, q1.here s1 (.bl _)⟩
  · obtain ⟨l, p, z, q, pos, ad, es, n, rfl, rfl, h1, h2, h3, D, g⟩ := go x h
    refine pt_imp (pt_cmpR (opR D g) (ha.e _ h1) h3 h2) fun σ H Q ⟨μ, ρ, S, s, q⟩ => ?_
    refine ⟨μ, ρ, S, s, (PostR.bind q).imp fun x H1 ⟨μ1, S1, d1, le1, s1, r1, q1⟩ => ?_⟩
    unfold gdinT at q1
    split at q1
    case h_2 => exact q1.elim
    case h_1 t =>
      cases r1
      exact ⟨t, rfl, rfl, _, rfl, q1.here s1 rfl⟩
  · obtain ⟨l, p, z, q, pos, ad, es, n, e, _⟩ := go (.BoolOp op vs pos) h
    cases e
/-- a written dict with numbers as keys -/
structure KI (K : PySem.W.Frag) (a : Addr) (es : Array DictEntry) (n : Nat) (kvs : List (Int × D)) : Prop where
  at_ : K.lookup a = some ⟨.type "dict", none, .dict es n, #[]⟩
  key : ∀ e ∈ es, ∃ i t, e.key = .int i t ∧ e.hash = hashInt i
  low : (a == sysModules) = false
  fnd : ∀ i, (findBy Value.isInt es i).isSome = (kvs.lookup i).isSome
theorem snd_giin (G : Good X Γ γ W P) (y : Str) (kvs : List (Int × D)) (neg : Bool) (ha : Snd X γ W (den P a) (chk a Γ)) : Snd X γ W (den P (.giin y kvs neg a)) (chk (.giin y kvs neg a) Γ) := by
  have go : ∀ x, (chk (.giin y kvs neg a) Γ).e x = true → ∃ l p z q pos ad es n, x = .Compare l [p] [.Name z q] pos ∧ p = (if neg then .NotIn else .In) ∧ (chk a Γ).e l = true ∧ behindInMarks p (.Name z q) = false ∧ PE X (.Name z q) (tC (.ref ad)) ∧ KI X.K ad es n kvs := fun x h => by
    simp only [chk, Ck.ofE] at h
    split at h
    case h_2 => cases h
    case h_1 l p z q pos =>
      obtain ⟨k6, h7⟩ := band h
      obtain ⟨k5, h6⟩ := band k6
      obtain ⟨k4, h5⟩ := band k5
      obtain ⟨k3, h4⟩ := band k4
      obtain ⟨k2, h3⟩ := band k3
      obtain ⟨k1, h2⟩ := band k2
      obtain ⟨n1, n2, n3⟩ := nodbg_of h4
      obtain ⟨ad, es, n, g1, gl, gk, gy, gn, g3⟩ := G.glb z (.i kvs) (of_decide_eq_true h5)
      exact ⟨l, p, z, q, pos, ad, es, n, rfl, of_decide_eq_true k1, h6, by simpa using h7, pe_glob (v := .ref ad) (gl_of G h3) g1 rfl n1, ⟨gl, gk, gy, fun i => by
        cases e : kvs.lookup i with
        | none => rw [gn i e]; rfl
        | some d => obtain ⟨u, v, g5, _⟩ := g3 i d e; rw [g5]; rfl⟩⟩
  have opR : ∀ {ad es n}, KI X.K ad es n kvs → OpR X (compareOp (if neg then .NotIn else .In)) (fun x y H Q => ∃ t, x = .int t ∧ y = .ref ad ∧ Q (.bl (if neg then !(kvs.lookup t).isSome else (kvs.lookup t).isSome)) H) := fun {ad es n} D pins s σ H x y v u Q I rx ry h => by
    obtain ⟨z, rfl, rfl, q⟩ := h
    obtain ⟨t, rfl⟩ := rx
    cases ry
    have hm : s.heap.MapOf (PySem.intKind X.prog X.w) ad (fun k => findBy Value.isInt es k) := ⟨_, es, n, I.kIn _ _ D.at_, ⟨rfl, rfl, rfl⟩, rfl, fun e he => by
      obtain ⟨i, t, e1, e2⟩ := D.key e he
      exact ⟨i, by rw [e1]; exact PySem.intKind_is X.prog X.w i t, e2⟩, fun _ => rfl⟩
    cases neg with
    | true =>
      refine wpAny_notIn_of (PySem.intKind_is X.prog X.w z t) D.low hm ?_
      rw [D.fnd z]
      exact ⟨.bl _, H, I.tok _, rfl, q⟩
    | false =>
      refine wpAny_in_of (PySem.intKind_is X.prog X.w z t) D.low hm ?_
      rw [D.fnd z]
      exact ⟨.bl _, H, I.tok _, rfl, q⟩
  refine snd_ofVT (fun x h => ?_) (fun x h => ?_) (fun op vs pos h => ?_)
  · obtain ⟨l, p, z, q, pos, ad, es, n, rfl, rfl, h1, h2, h3, D⟩ := go x h
    refine pe_imp (pe_cmpR (opR D) (ha.e _ h1) h3 h2) fun σ H Q ⟨μ, ρ, S, s, q⟩ => ?_
    refine ⟨μ, ρ, S, s, (PostR.bind q).imp fun x H1 ⟨μ1, S1, d1, le1, s1, r1, q1⟩ => ?_⟩
    unfold giinR at q1
    split at q1
    case h_2 => exact q1.elim
    case h_1 t =>
      cases r1
      exact ⟨t, rfl, rfl, q1.here s1 (.bl _)⟩
  · obtain ⟨l, p, z, q, pos, ad, es, n, rfl, rfl, h1, h2, h3, D⟩ := go x h
    refine pt_imp (pt_cmpR (opR D) (ha.e _ h1) h3 h2) fun σ H Q ⟨μ, ρ, S, s, q⟩ => ?_
    refine ⟨μ, ρ, S, s, (PostR.bind q).imp fun x H1 ⟨μ1, S1, d1, le1, s1, r1, q1⟩ => ?_⟩
    unfold giinT at q1
    split at q1
    case h_2 => exact q1.elim
    case h_1 t =>
      cases r1
      exact ⟨t, rfl, rfl, _, rfl, q1.here s1 rfl⟩
  · obtain ⟨l, p, z, q, pos, ad, es, n, e, _⟩ := go (.BoolOp op vs pos) h
    cases e
theorem snd_slc {lo hi : E} (ha : Snd X γ W (den P a) (chk a Γ)) (hl : Snd X γ W (den P lo) (chk lo Γ)) (hh : Snd X γ W (den P hi) (chk hi Γ)) : Snd X γ W (den P (.slc a lo hi)) (chk (.slc a lo hi) Γ) := by
  refine snd_ofV fun x h => ?_
  split at h
  case h_2 => cases h
  case h_1 o l u p2 pos =>
    obtain ⟨h1, h3⟩ := band h
    obtain ⟨h1, h2⟩ := band h1
    refine ⟨pe_imp (pe_slice (slc_all (γ := γ) (W := W)) (ha.e _ h1) (hl.o _ h2) (hh.o _ h3)) fun σ H Q ⟨μ, ρ, S, s, q⟩ => ?_, fun _ => rfl, fun _ _ _ z => nomatch z⟩
    refine ⟨μ, ρ, S, s, (PostR.bind q).imp fun x H1 ⟨μ1, S1, d1, le1, s1, r1, q1⟩ => ⟨μ1, ρ, S1, s1, (PostR.bind q1).imp fun l H2 ⟨μ2, S2, o2, le2, s2, r2, q2⟩ => ⟨μ2, ρ, S2, s2, (PostR.bind q2).imp fun u H3 ⟨μ3, S3, o3, le3, s3, r3, q3⟩ => ?_⟩⟩⟩
    cases r2; cases r3
    exact ⟨μ3, σ, ρ, S3, d1, s3, (RepV.mono le2 r1).mono le3, q3⟩
end
end Ng

set_option Elab.async false
set_option linter.all false
set_option maxRecDepth 100000
set_option maxHeartbeats 4000000
/-! Calls, built-ins, methods, comprehensions. -/
namespace Ng
open PySem PySem.Spec PyProof.Rows L2
section
variable {X : Cx} {γ : Nat → Value} {W : WX} {Γ : Gam} {P : Nat → List D → Store → R D} {a b c : E}
theorem star1 : ∀ (a : E) x, (chk a Γ).e x = true → ∀ es env, starEach (x :: es) env = (false, eval x env) :: starEach es env := by
  intro a x h es env
  cases x <;> first | rfl | skip
  rename_i y p
  exfalso
  cases a <;> simp [chk, Ck.ofE, Ck.no] at h
theorem nostar : ∀ (a : E) es, (chk a Γ).a es = true → ∀ env pos, (backTo pos (starEach es env)).any (·.1) = false
  | .nil, es, h, env, pos => by
    cases es with
    | nil => rfl
    | cons => cases h
  | .cons a as, es, h, env, pos => by
    cases es with
    | nil => cases h
    | cons x r =>
      obtain ⟨h1, h2⟩ := band h
      have ih := nostar as r h2 env pos
      rw [star1 a x h1]
      show (false || (backTo pos (starEach r env)).any (·.1)) = false
      rw [ih]; rfl
  | .var _, _, h, _, _ => nomatch h
  | .non, _, h, _, _ => nomatch h
  | .bl _, _, h, _, _ => nomatch h
  | .int _, _, h, _, _ => nomatch h
  | .str _, _, h, _, _ => nomatch h
  | .glb _ _, _, h, _, _ => nomatch h
  | .bin _ _ _, _, h, _, _ => nomatch h
  | .neg _, _, h, _, _ => nomatch h
  | .cmp _ _ _, _, h, _, _ => nomatch h
  | .chain _ _ _ _ _, _, h, _, _ => nomatch h
  | .not _, _, h, _, _ => nomatch h
  | .and _ _, _, h, _, _ => nomatch h
  | .or _ _, _, h, _, _ => nomatch h
  | .ite _ _ _, _, h, _, _ => nomatch h
  | .tup _, _, h, _, _ => nomatch h
  | .lst _, _, h, _, _ => nomatch h
  | .ix _ _, _, h, _, _ => nomatch h
  | .slc _ _ _, _, h, _, _ => nomatch h
  | .call _ _, _, h, _, _ => nomatch h
  | .bi _ _, _, h, _, _ => nomatch h
  | .me _ _ _, _, h, _, _ => nomatch h
  | .isi _ _ _, _, h, _, _ => nomatch h
  | .rng _, _, h, _, _ => nomatch h
  | .enm _, _, h, _, _ => nomatch h
  | .zp _, _, h, _, _ => nomatch h
  | .dd0, _, h, _, _ => nomatch h
  | .kd0, _, h, _, _ => nomatch h
  | .kdd _ _, _, h, _, _ => nomatch h
  | .pop0 _, _, h, _, _ => nomatch h
  | .lk _ _, _, h, _, _ => nomatch h
  | .dc _ _ _ _ _ _, _, h, _, _ => nomatch h
  | .dc2 _ _ _ _ _ _ _ _, _, h, _, _ => nomatch h
  | .rpl6 _ _ _ _ _ _ _ _ _, _, h, _, _ => nomatch h
  | .dd1 _ _, _, h, _, _ => nomatch h
  | .dd2 _ _ _ _, _, h, _, _ => nomatch h
  | .bln _, _, h, _, _ => nomatch h
  | .gix _ _ _, _, h, _, _ => nomatch h
  | .fjs _, _, h, _, _ => nomatch h
  | .fmt _, _, h, _, _ => nomatch h
  | .sm _ _ _, _, h, _, _ => nomatch h
  | .sm0 _ _, _, h, _, _ => nomatch h
  | .gdx _ _ _, _, h, _, _ => nomatch h
  | .gdin _ _ _ _, _, h, _, _ => nomatch h
  | .giin _ _ _ _, _, h, _, _ => nomatch h
  | .lrv _, _, h, _, _ => nomatch h
  | .itm _, _, h, _, _ => nomatch h
  | .lc _ _ _ _ _, _, h, _, _ => nomatch h
  | .fld _ _ _, _, h, _, _ => nomatch h
  | .mth _ _ _ _ _, _, h, _, _ => nomatch h
  | .lc2 _ _ _ _ _ _ _, _, h, _, _ => nomatch h
/-- the first of some arguments -/
theorem star_a : ∀ (a : E) e es, (chk a Γ).a (e :: es) = true → ∀ env, starEach (e :: es) env = (false, eval e env) :: starEach es env ∧ ∀ pos, (backTo pos (starEach es env)).any (·.1) = false := by
  intro a e es h env
  cases a <;> first | (exfalso; revert h; simp [chk, Ck.ofE, Ck.no]; done) | skip
  rename_i a as
  obtain ⟨h1, h2⟩ := band h
  exact ⟨star1 a e h1 es env, fun pos => nostar as es h2 env pos⟩
/-! ### own defs -/
theorem pe_callS0 {CX : CXT} {k : Nat} {f : Addr} {fd : FuncData} {ps : List Str} {sp : Sp} {E : L2.St → XK} {x : Str} {p pos : Pos} (F : FnOk X.prog X.w X.K X.mg X.base CX k f fd ps sp) (hr : Room k X.A) (hg : Gl X x) (hm : X.mg x = some (.ref f)) (hk : PySem.W.keepIn X.K (.ref f) = true)
    (hb : Binds X.K fd ps []) (hx : ∀ σ, PassesAt CX X σ (E σ)) (hdb : (x == ("__debug__" : Str)) = false) : PE X (.Call (.Name x p) [] [] pos) (tCallSD sp [] E tNil) := by
  refine ⟨fun pins s σ H Q I h => ?_⟩
  refine wpAny_Call_Name_kw (ld_glob I hg hm ?_ hdb)
  exact PySem.W.callWith_K0 I.kIn hk (run_fnSD (us := []) F hr hb .nil (hx σ) I .nil h)
theorem sp_of {np f : Nat} {μ : Mu} {σ : L2.St} {H : Hp} {ρ : Env} {S : Store} {ds : List D} {vs : List V} {Q : VK} (hl : ∀ ds S, P f ds S ≠ .bad → ds.length = np) (s : Sim X.K μ σ H ρ S) (r : RepVs X.K H μ ds vs) (q : PostR X.K γ W (relV X.K) μ H σ ρ (P f ds S) Q) :
    spF X.K γ P np f vs H Q (WE W σ) := by
  refine ⟨?_, μ, S, ds, s.s, r, ?_⟩
  · rw [r.length]
    refine hl ds S fun e => ?_
    rw [e] at q
    exact q
  · cases e : P f ds S with
    | ok d S' =>
      rw [e] at q
      exact fun μ' v H' le rs rv => q μ' H' v le ⟨s.e.mono le, rs⟩ rv
    | exc c fs S' =>
      rw [e] at q
      exact fun μ' H' d le rs x => q μ' H' d le ⟨s.e.mono le, rs⟩ x
    | bad => rw [e] at q; exact q
/-- C(..), by values -/
theorem pe_mkG {C f : Addr} {R : List V → L2.St → Hp → VK → Prop} {x : Str} {p pos : Pos} {e : Expr} {es : List Expr} {t : TA} (M : Mk X.K C f) (hg : Gl X x) (hm : X.mg x = some (.ref C)) (ha : PA X (e :: es) t) (hdb : (x == ("__debug__" : Str)) = false)
    (he : starEach (e :: es) X.env = (false, eval e X.env) :: starEach es X.env) (hpl : (backTo pos (starEach es X.env)).any (·.1) = false)
    (run : ∀ (pins : List (Addr × Obj)) (σ : L2.St) (H : Hp) (s : Shared) (us : List Value) (vs : List V) (Q : VK), Inv X pins σ H s → Vals vs us → R vs σ H Q → wpAny (model X.prog X.w) X.A (PySem.call (.ref C) us) (EP X pins σ Q) X.xe s) :
    PE X (.Call (.Name x p) (e :: es) [] pos) (fun σ H Q => t σ H fun vs H1 => R vs σ H1 Q) := by
  refine ⟨fun pins s σ H Q I h => ?_⟩
  refine wpAny_Call_Name_kw (ld_glob I hg hm ?_ hdb)
  refine PySem.W.callWith_K (h₀ := X.base) I.ok.mod.kin M.kp (thn (ha.run pos pins s σ H _ I h) fun us s1 ⟨vs, H1, I1, r, q⟩ => ⟨I1.kIn, ?_⟩) he hpl
  exact run pins σ H1 s1 us vs Q I1 r q
theorem pe_mkG0 {C f : Addr} {R : List V → L2.St → Hp → VK → Prop} {x : Str} {p pos : Pos} (M : Mk X.K C f) (hg : Gl X x) (hm : X.mg x = some (.ref C)) (hdb : (x == ("__debug__" : Str)) = false)
    (run : ∀ (pins : List (Addr × Obj)) (σ : L2.St) (H : Hp) (s : Shared) (us : List Value) (vs : List V) (Q : VK), Inv X pins σ H s → Vals vs us → R vs σ H Q → wpAny (model X.prog X.w) X.A (PySem.call (.ref C) us) (EP X pins σ Q) X.xe s) :
    PE X (.Call (.Name x p) [] [] pos) (fun σ H Q => R [] σ H Q) := by
  refine ⟨fun pins s σ H Q I h => ?_⟩
  refine wpAny_Call_Name_kw (ld_glob I hg hm ?_ hdb)
  exact PySem.W.callWith_K0 I.kIn M.kp (run pins σ H s [] [] Q I .nil h)
theorem run_mkSD {CX : CXT} {C f : Addr} {fd : FuncData} {k : Nat} {ps : List Str} {sp : Sp} {E : XK} {pins : List (Addr × Obj)} {σ : L2.St} {H : Hp} {s : Shared} {Q : VK} {us : List Value} {vs : List V} (M : Mk X.K C f) (F : FnOk X.prog X.w X.K X.mg X.base CX k f fd ps sp) (hr : Room (k + 1) X.A) (hb : Binds X.K fd ps [])
    (hx : PassesAt CX X σ E) (I : Inv X pins σ H s) (r : Vals vs us)
    (h : ∀ x dx, H x = none → H dx = none → dx ≠ x → sp (.ref x :: vs) (upd (upd H dx (.own x)) x (.ins C dx [])) (fun v H2 => v = .non ∧ Q (.ref x) H2) E) :
    wpAny (model X.prog X.w) X.A (PySem.call (.ref C) us) (EP X pins σ Q) X.xe s := by
  have hq := h (s.heap.objs.size + 1) s.heap.objs.size (I.hok.fresh (Nat.le_succ _)) (I.hok.fresh (Nat.le_refl _)) (Nat.ne_of_lt (Nat.lt_succ_self _))
  have I2 := Inv.made (C := C) I
  have r2 : Vals (V.ref (s.heap.objs.size + 1) :: vs) (Value.ref (s.heap.objs.size + 1) :: us) := .cons rfl r
  have hl : ((Value.ref (s.heap.objs.size + 1) :: us) ++ []).length = ps.length := by
    have e := r2.length
    rw [F.len _ _ _ _ hq] at e
    rw [List.append_nil]
    exact e.symm
  have hbb := hb _ (Value.ref (s.heap.objs.size + 1) :: us) I2.kIn hl
  rw [List.append_nil] at hbb
  refine wpAny_call (make_map (f := f) I.kIn M.makes M.init (beq_iff_eq.mp M.fn) (codeAny_mono (F.run _ X.stack _ _ ⟨Value.ref (s.heap.objs.size + 1) :: us, []⟩ (Value.ref (s.heap.objs.size + 1) :: us) _ _ E (hr.make C us [])
    (I2.env0.make C us []) hbb r2 hq) fun r s' hq' => ?_))
  cases r with
  | error e => exact hx pins _ _ e s' I2 hq'
  | ok fl =>
    cases fl with
    | ret u =>
      obtain ⟨v, H', I3, rv, ev, q3⟩ := I2.after hq'
      subst ev
      exact ⟨rv, ⟨V.ref (s.heap.objs.size + 1), H', I3, rfl, q3⟩⟩
    | next => exact False.elim hq'
    | brk => exact False.elim hq'
    | cont => exact False.elim hq'
/-- what a constructor asks of the values -/
def rMk (K : PySem.W.Frag) (γ : Nat → Value) (W : WX) (f : List D → Store → R D) (vs : List V) (σ : L2.St) (H : Hp) (Q : VK) : Prop :=
  ∃ μ ρ S ds, Sim K μ σ H ρ S ∧ RepVs K H μ ds vs ∧ PostR K γ W (relV K) μ H σ ρ (f ds S) Q
theorem run_mk (G : Good X Γ γ W P) {f : Nat} {c : Str} {C addr : Addr} (M : Mk X.K C addr) (hc : PySem.W.nsIn X.K mainGlobals c = some (some (.ref C)))
    (h : (∀ ds S, P f ds S = .bad) ∨ ∃ k fd ps g P', (∀ ds S, P f ds S = mkR c (P' g) ds S) ∧ FnP X.prog X.w X.K X.mg X.base γ P' g k addr fd ps ∧ Room (k + 1) X.A) {pins : List (Addr × Obj)} {σ : L2.St} {H : Hp} {s : Shared} {us : List Value} {vs : List V} {Q : VK}
    (I : Inv X pins σ H s) (r : Vals vs us) (q : rMk X.K γ W (P f) vs σ H Q) : wpAny (model X.prog X.w) X.A (PySem.call (.ref C) us) (EP X pins σ Q) X.xe s := by
  obtain ⟨μ, ρ, S, ds, sm, rv, q⟩ := q
  rcases h with h | ⟨k, fd, ps, g, P', hP, F, hr⟩
  · rw [h] at q; exact q.elim
  · rw [hP] at q
    refine run_mkSD M F.ok hr F.bnd (passAt G.tk σ) I r fun x dx hx hdx hne => ?_
    have hx1 : (upd H dx (.own x)) x = none := by rw [upd_ne hne.symm]; exact hx
    have rs : RepS X.K (upd (upd H dx (.own x)) x (.ins C dx [])) (μ ++ [x]) (S ++ [.ins c []]) := (sm.s.new hdx).alloc hx1 ⟨_, upd_same, hc, rfl, .nil⟩
    have le : Le X.K μ H (μ ++ [x]) (upd (upd H dx (.own x)) x (.ins C dx [])) := (le_new hdx).trans (le_newP hx1)
    have rx : RepV X.K (upd (upd H dx (.own x)) x (.ins C dx [])) (μ ++ [x]) (.ref S.length) (.ref x) := .ref (sm.ref x)
    refine ⟨?_, μ ++ [x], S ++ [.ins c []], .ref S.length :: ds, rs, .cons rx (rv.mono le), ?_⟩
    · have hb : P' g (.ref S.length :: ds) (S ++ [.ins c []]) ≠ .bad := fun e => by
        unfold mkR at q
        rw [e] at q
        exact q
      have := F.len _ _ hb
      rw [← this, List.length_cons, List.length_cons, rv.length]
    · cases e : P' g (.ref S.length :: ds) (S ++ [.ins c []]) with
      | bad => unfold mkR at q; rw [e] at q; exact q
      | exc cc fs S' =>
        unfold mkR at q
        rw [e] at q
        exact fun μ' H' d le2 rs2 x2 => q μ' H' d (le.trans le2) ⟨sm.e.mono (le.trans le2), rs2⟩ x2
      | ok d S' =>
        unfold mkR at q
        rw [e] at q
        change PostR X.K γ W (relV X.K) μ H σ ρ (if d = .non then .ok (.ref S.length) S' else .bad) Q at q
        by_cases hd : d = .non
        · rw [if_pos hd] at q
          subst hd
          intro μ' v H' le2 rs2 rv2
          cases rv2
          exact ⟨rfl, q μ' H' _ (le.trans le2) ⟨sm.e.mono (le.trans le2), rs2⟩ (rx.mono le2)⟩
        · rw [if_neg hd] at q; exact q.elim
theorem snd_call (G : Good X Γ γ W P) (f : Nat) (ha : Snd X γ W (den P a) (chk a Γ)) : Snd X γ W (den P (.call f a)) (chk (.call f a) Γ) := by
  refine snd_ofV fun x h => ?_
  split at h
  case h_2 => cases h
  case h_1 x p es pos =>
    obtain ⟨h1, h5⟩ := band h
    obtain ⟨h1, h4⟩ := band h1
    obtain ⟨h1, h3⟩ := band h1
    obtain ⟨h1, h2⟩ := band h1
    obtain ⟨n1, n2, n3⟩ := nodbg_of h4
    have e0 : es = [] → evs P a = fun ρ S => .ok [] S := fun e => by
      subst e
      cases a <;> first | rfl | (exfalso; revert h5; simp [chk, Ck.ofE, Ck.no]; done)
    rw [Bool.or_eq_true] at h2
    refine ⟨?_, fun _ => rfl, fun _ _ _ z => nomatch z⟩
    rcases h2 with h2 | h2
    · obtain ⟨k, addr, fd, ps, F, hr, hm, hk⟩ := G.fns h1 f _ (of_decide_eq_true h2)
      cases es with
      | nil =>
        refine pe_imp (pe_callS0 F.ok hr (gl_of G h3) hm hk F.bnd (fun σ => passAt G.tk σ) n1) fun σ H Q ⟨μ, ρ, S, s, q⟩ => ?_
        change PostR X.K γ W (relV X.K) μ H σ ρ ((evs P a ρ S).bind fun ds S1 => P f ds S1) Q at q
        rw [e0 rfl] at q
        exact sp_of F.len s .nil q
      | cons e es =>
        obtain ⟨s1, s2⟩ := star_a a e es h5 X.env
        refine pe_imp (pe_callSD F.ok hr (gl_of G h3) hm hk F.bnd .nil (fun σ => passAt G.tk σ) (ha.a _ h5) n1 s1 (s2 pos)) fun σ H Q ⟨μ, ρ, S, s, q⟩ => ?_
        refine ⟨μ, ρ, S, s, (PostR.bind q).imp fun xs H1 ⟨μ1, S1, ds, le1, s1, r1, q1⟩ => ?_⟩
        rw [List.append_nil]
        exact sp_of F.len s1 r1 q1
    · obtain ⟨C, addr, hc, hm, M, hh⟩ := G.fns h1 f _ (of_decide_eq_true h2)
      have run := fun (pins : List (Addr × Obj)) (σ : L2.St) (H : Hp) (s : Shared) (us : List Value) (vs : List V) (Q : VK) (I : Inv X pins σ H s) (r : Vals vs us) (q : rMk X.K γ W (P f) vs σ H Q) => run_mk G M hc hh I r q
      cases es with
      | nil =>
        refine pe_imp (pe_mkG0 M (gl_of G h3) hm n1 run) fun σ H Q ⟨μ, ρ, S, s, q⟩ => ?_
        change PostR X.K γ W (relV X.K) μ H σ ρ ((evs P a ρ S).bind fun ds S1 => P f ds S1) Q at q
        rw [e0 rfl] at q
        exact ⟨μ, ρ, S, [], s, .nil, q⟩
      | cons e es =>
        obtain ⟨s1, s2⟩ := star_a a e es h5 X.env
        refine pe_imp (pe_mkG M (gl_of G h3) hm (ha.a _ h5) n1 s1 (s2 pos) run) fun σ H Q ⟨μ, ρ, S, s, q⟩ => ?_
        exact ⟨μ, ρ, S, s, (PostR.bind q).imp fun xs H1 ⟨μ1, S1, ds, le1, s1, r1, q1⟩ => ⟨μ1, ρ, S1, ds, s1, r1, q1⟩⟩
/-! ### built-ins -/
theorem vs1 {K : PySem.W.Frag} {μ : Mu} {H : Hp} {d : D} {xs : List V} (r : RepVs K H μ [d] xs) : ∃ v, xs = [v] ∧ RepV K H μ d v := by
  cases r with
  | cons r1 r2 => cases r2; exact ⟨_, rfl, r1⟩
theorem vs2 {K : PySem.W.Frag} {μ : Mu} {H : Hp} {d e : D} {xs : List V} (r : RepVs K H μ [d, e] xs) : ∃ v u, xs = [v, u] ∧ RepV K H μ d v ∧ RepV K H μ e u := by
  cases r with
  | cons r1 r2 =>
    cases r2 with
    | cons r2 r3 => cases r3; exact ⟨_, _, rfl, r1, r2⟩
theorem vs3 {K : PySem.W.Frag} {μ : Mu} {H : Hp} {d e f : D} {xs : List V} (r : RepVs K H μ [d, e, f] xs) : ∃ v u w, xs = [v, u, w] ∧ RepV K H μ d v ∧ RepV K H μ e u ∧ RepV K H μ f w := by
  cases r with
  | cons r1 r2 =>
    obtain ⟨u, w, rfl, h1, h2⟩ := vs2 r2
    exact ⟨_, u, w, rfl, r1, h1, h2⟩
theorem bls_of {K : PySem.W.Frag} {μ : Mu} {H : Hp} : ∀ {ds : List D} {vs : List V} {bs : List Bool}, RepVs K H μ ds vs → blsD ds = some bs → vs = bs.map V.bl
  | [], _, _, .nil, e => by cases e; rfl
  | d :: ds, _, _, .cons r rs, e => by
    cases d <;> simp only [blsD] at e <;> first | (cases e; done) | skip
    simp only [Option.map_eq_some_iff] at e
    obtain ⟨bs, e1, rfl⟩ := e
    cases r
    rw [bls_of rs e1]; rfl
theorem ints_of {K : PySem.W.Frag} {μ : Mu} {H : Hp} : ∀ {ds : List D} {vs : List V} {bs : List Int}, RepVs K H μ ds vs → intsD ds = some bs → vs = bs.map V.int
  | [], _, _, .nil, e => by cases e; rfl
  | d :: ds, _, _, .cons r rs, e => by
    cases d <;> simp only [intsD] at e <;> first | (cases e; done) | skip
    simp only [Option.map_eq_some_iff] at e
    obtain ⟨bs, e1, rfl⟩ := e
    cases r
    rw [ints_of rs e1]; rfl
theorem bi_len : CallR X (.builtin "len") (callV X.K γ W (biD .len)) := by
  refine callR_imp ((call_len_seq.or call_len_str).or call_lenX) fun xs H Q ⟨μ, σ, ρ, S, ds, s, r, q⟩ => ?_
  cases ds with
  | nil => exact q.elim
  | cons d ds =>
    cases ds with
    | cons => cases d <;> exact q.elim
    | nil =>
      obtain ⟨v, rfl, rv⟩ := vs1 r
      have key : ∀ xs, seqD S d = some xs → PostR X.K γ W (relV X.K) μ H σ ρ (.ok (.int xs.length) S) Q → (∃ p ys, [v] = [V.ref p] ∧ (SqL X.K H p ys ∨ SqT X.K H p ys) ∧ Q (.int ys.length) H) := fun xs e q => by
        obtain ⟨p, vs, rfl, hq, r1⟩ := s.seq rv e
        exact ⟨p, vs, rfl, hq, by rw [r1.length]; exact q.here s (.int _)⟩
      cases d with
      | str x =>
        cases rv
        simp only [biD] at q
        split at q
        case isTrue hz => exact .inl (.inr ⟨x, rfl, by rw [← linesz_eq]; exact hz, q.here s (.int _)⟩)
        case isFalse => exact q.elim
      | tup es => exact .inl (.inl (key es rfl q))
      | ref n =>
        simp only [biD] at q
        split at q
        case h_1 xs e => exact .inl (.inl (key xs e q))
        case h_2 =>
          split at q
          case h_2 => exact q.elim
          case h_1 k hk =>
            simp only [dctN, Option.map_eq_some_iff] at hk
            obtain ⟨kvs, hS, rfl⟩ := hk
            · obtain ⟨a, xs, rfl, hH, rx⟩ := s.rd rv hS
              exact .inr ⟨a, xs, rfl, hH, rx.kx, by rw [← rx.length]; exact q.here s (.int _)⟩
      | _ => exact q.elim
theorem prs_of {K : PySem.W.Frag} {μ : Mu} {H : Hp} : ∀ {ds : List D} {vs : List V} {ps : List (Int × Int)}, RepVs K H μ ds vs → prsD ds = some ps → Paired (PrV K H) vs ps
  | [], _, ps, .nil, e => by cases e; exact .nil
  | d :: ds, v :: vs, ps, .cons r rs, e => by
    unfold prsD at e
    split at e
    case h_1 => rename_i h; cases h
    case h_3 => cases e
    case h_2 i j r' h =>
      cases h
      rw [Option.map_eq_some_iff] at e
      obtain ⟨qs, e1, rfl⟩ := e
      refine .cons ?_ (prs_of rs e1)
      cases r with
      | tup hq rr =>
        cases rr with
        | cons r1 rr =>
          cases rr with
          | cons r2 rr =>
            cases rr
            cases r1
            cases r2
            exact ⟨_, rfl, hq⟩
theorem prs_rep {K : PySem.W.Frag} {μ : Mu} {H : Hp} : ∀ {vs : List V} {ps : List (Int × Int)}, Paired (PrV K H) vs ps → RepVs K H μ (ps.map prD) vs
  | [], _, .nil => .nil
  | v :: vs, p :: ps, .cons h t => by
    obtain ⟨a, rfl, hq⟩ := h
    exact .cons (.tup hq (.cons (.int _) (.cons (.int _) .nil))) (prs_rep t)
theorem kpr_of {K : PySem.W.Frag} {μ : Mu} {H : Hp} : ∀ {kvs : List (List Int × D)} {xs : List (List Int × Addr × Value)} {ps : List (Int × Int)}, KVX K H μ kvs xs → prsK (kvs.map (·.1)) = some ps → KPr xs ps
  | kvs, xs, ps, r, e => by
    have h1 : xs.map (·.1) = kvs.map (·.1) := by
      clear e
      induction r with
      | nil => rfl
      | cons h t ih => simp only [List.map_cons, ih, h.1]
    have h2 : ∀ (ks : List (List Int)) (ps : List (Int × Int)), prsK ks = some ps → ks = ps.map fun p => [p.1, p.2] := by
      intro ks
      induction ks with
      | nil => intro ps e; cases e; rfl
      | cons k ks ih =>
        intro ps e
        unfold prsK at e
        split at e
        case h_1 h => cases h
        case h_3 => cases e
        case h_2 i j r' h =>
          cases h
          rw [Option.map_eq_some_iff] at e
          obtain ⟨qs, e1, rfl⟩ := e
          rw [ih qs e1]; rfl
    unfold KPr
    rw [h1, h2 _ _ e]
theorem bi_sorted (hc : X.calm = true) : CallR X (.builtin "sorted") (callV X.K γ W (biD .sorted)) := by
  refine callR_imp (cr_sortedX.or (cr_sortedDX hc)) fun xs H Q ⟨μ, σ, ρ, S, ds, s, r, q⟩ => ?_
  unfold biD at q
  split at q <;> first | contradiction | (cases q; done) | skip
  rename_i n _
  obtain ⟨v, rfl, rv⟩ := vs1 r
  split at q
  case h_2 =>
    split at q
    case h_2 => exact q.elim
    case h_1 ps e =>
      unfold dctPs at e
      split at e
      case h_2 => cases e
      case h_1 kvs hS =>
        obtain ⟨a, xs, rfl, hH, rx, _⟩ := s.dct rv hS
        refine .inr ⟨a, xs, ps, rfl, hH, rx.kx, kpr_of rx e, fun ys p hy hp => ?_⟩
        have le : Le X.K μ H (μ ++ [p]) (upd H p (.lst ys)) := le_newP hp
        have hy2 : Paired (PrV X.K (upd H p (.lst ys))) ys (srtP ps) := Paired.mapP hy fun x q ⟨t, e, hq⟩ => ⟨t, e, le.tup _ _ hq⟩
        exact q (μ ++ [p]) _ _ le (s.alloc hp ⟨ys, upd_same, prs_rep hy2⟩) (.ref (s.ref p))
  case h_1 ps e =>
    obtain ⟨es, e1, e2⟩ := Option.bind_eq_some_iff.mp e
    have hq : ∃ a vs, v = .ref a ∧ SqL X.K H a vs ∧ RepVs X.K H μ es vs := by
      simp only [seqD] at e1
      split at e1
      · cases e1
        obtain ⟨a, vs, h1, h2, h3, _⟩ := s.list rv (by assumption)
        exact ⟨a, vs, h1, .of h2, h3⟩
      · cases e1
        obtain ⟨a, vs, h1, h2, h3, _⟩ := s.roL rv (by assumption)
        exact ⟨a, vs, h1, h2.sq, h3⟩
      · cases e1
    obtain ⟨a, vs, rfl, h1, h2⟩ := hq
    refine .inl ⟨a, vs, ps, rfl, h1, prs_of h2 e2, fun ys p hy hp => ?_⟩
    have le : Le X.K μ H (μ ++ [p]) (upd H p (.lst ys)) := le_newP hp
    have hy2 : Paired (PrV X.K (upd H p (.lst ys))) ys (srtP ps) := Paired.mapP hy fun x q ⟨t, e, hq⟩ => ⟨t, e, le.tup _ _ hq⟩
    exact q (μ ++ [p]) _ _ le (s.alloc hp ⟨ys, upd_same, prs_rep hy2⟩) (.ref (s.ref p))
theorem bi_abs : CallR X (.builtin "abs") (callV X.K γ W (biD .abs)) := by
  refine callR_imp call_abs fun xs H Q ⟨μ, σ, ρ, S, ds, s, r, q⟩ => ?_
  unfold biD at q
  split at q <;> first | contradiction | (cases q; done) | skip
  obtain ⟨v, rfl, rv⟩ := vs1 r
  cases rv
  exact ⟨_, rfl, q.here s (.int _)⟩
theorem bi_min2 (hc : X.calm = true) : CallR X (.builtin "min") (callV X.K γ W (biD .min2)) := by
  refine callR_imp (call_min2 hc) fun xs H Q ⟨μ, σ, ρ, S, ds, s, r, q⟩ => ?_
  unfold biD at q
  split at q <;> first | contradiction | (cases q; done) | skip
  obtain ⟨v, u, rfl, rv, ru⟩ := vs2 r
  cases rv; cases ru
  exact ⟨_, _, rfl, q.here s (.int _)⟩
theorem bi_max2 (hc : X.calm = true) : CallR X (.builtin "max") (callV X.K γ W (biD .max2)) := by
  refine callR_imp (call_max2 hc) fun xs H Q ⟨μ, σ, ρ, S, ds, s, r, q⟩ => ?_
  unfold biD at q
  split at q <;> first | contradiction | (cases q; done) | skip
  obtain ⟨v, u, rfl, rv, ru⟩ := vs2 r
  cases rv; cases ru
  exact ⟨_, _, rfl, q.here s (.int _)⟩
theorem bi_max3 (hc : X.calm = true) : CallR X (.builtin "max") (callV X.K γ W (biD .max3)) := by
  refine callR_imp (call_max3Nu hc) fun xs H Q ⟨μ, σ, ρ, S, ds, s, r, q⟩ => ?_
  unfold biD at q
  split at q <;> first | contradiction | (cases q; done) | skip
  obtain ⟨v, u, w, rfl, rv, ru, rw'⟩ := vs3 r
  cases rv; cases ru; cases rw'
  rename_i i j k e1 e2
  refine ⟨_, _, _, _, rfl, ?_, q.here s (.int _)⟩
  by_cases h1 : i < j
  · by_cases h2 : j < k <;> simp [nuMax3, nuMax2, nuLt, nuCB, h1, h2]
  · by_cases h2 : i < k <;> simp [nuMax3, nuMax2, nuLt, nuCB, h1, h2]
theorem bi_min3 (hc : X.calm = true) : CallR X (.builtin "min") (callV X.K γ W (biD .min3)) := by
  refine callR_imp (call_min3Nu hc) fun xs H Q ⟨μ, σ, ρ, S, ds, s, r, q⟩ => ?_
  unfold biD at q
  split at q <;> first | contradiction | (cases q; done) | skip
  obtain ⟨v, u, w, rfl, rv, ru, rw'⟩ := vs3 r
  cases rv; cases ru; cases rw'
  rename_i i j k e1 e2
  refine ⟨_, _, _, _, rfl, ?_, q.here s (.int _)⟩
  by_cases h1 : j < i
  · by_cases h2 : k < j <;> simp [nuMin3, nuMin2, nuLt, nuCB, h1, h2]
  · by_cases h2 : k < i <;> simp [nuMin3, nuMin2, nuLt, nuCB, h1, h2]
theorem bi_int : CallR X (.type "int") (callV X.K γ W (biD .int)) := by
  refine callR_imp call_int1 fun xs H Q ⟨μ, σ, ρ, S, ds, s, r, q⟩ => ?_
  unfold biD at q
  split at q <;> first | contradiction | (cases q; done) | skip
  · obtain ⟨v, rfl, rv⟩ := vs1 r
    cases rv
    exact .inl ⟨_, rfl, q.here s (.int _)⟩
  · obtain ⟨v, rfl, rv⟩ := vs1 r
    cases rv
    exact .inr ⟨_, rfl, q.here s (.int _)⟩
theorem bi_str : CallR X (.type "str") (callV X.K γ W (biD .str)) := by
  refine callR_imp call_str_int fun xs H Q ⟨μ, σ, ρ, S, ds, s, r, q⟩ => ?_
  unfold biD at q
  split at q <;> first | contradiction | (cases q; done) | skip
  obtain ⟨v, rfl, rv⟩ := vs1 r
  cases rv
  split at q
  case isTrue hz => exact ⟨_, rfl, hz, q.here s (.str _)⟩
  case isFalse => exact q.elim
theorem bi_tuple : CallR X (.type "tuple") (callV X.K γ W (biD .tuple)) := by
  refine callR_imp call_tuple_of fun xs H Q ⟨μ, σ, ρ, S, ds, s, r, q⟩ => ?_
  unfold biD at q
  split at q <;> first | contradiction | (cases q; done) | skip
  rename_i d
  obtain ⟨v, rfl, rv⟩ := vs1 r
  split at q
  case h_2 => exact q.elim
  case h_1 es e =>
    obtain ⟨p, vs, rfl, hq, r1⟩ := s.seq rv e
    refine ⟨p, vs, rfl, ?_⟩
    rcases hq with hq | hq
    · exact .inl ⟨hq, q.newT s r1⟩
    · exact .inr ⟨hq, q.here s (.tup hq r1)⟩
theorem bi_list : CallR X (.type "list") (callV X.K γ W (biD .list)) := by
  refine callR_imp call_list_of fun xs H Q ⟨μ, σ, ρ, S, ds, s, r, q⟩ => ?_
  unfold biD at q
  split at q <;> first | contradiction | (cases q; done) | skip
  obtain ⟨v, rfl, rv⟩ := vs1 r
  split at q
  case h_2 => exact q.elim
  case h_1 es e =>
    obtain ⟨p, vs, rfl, hq, r1⟩ := s.seq rv e
    exact ⟨p, vs, rfl, hq, q.newL s r1⟩
theorem seq_ref {K : PySem.W.Frag} {μ : Mu} {H : Hp} {σ : L2.St} {ρ : Env} {S : Store} {n : Nat} {es : List D} {v : V} (s : Sim K μ σ H ρ S) (rv : RepV K H μ (.ref n) v) (e : seqD S (.ref n) = some es) : ∃ p vs, v = .ref p ∧ SqL K H p vs ∧ RepVs K H μ es vs := by
  simp only [seqD] at e
  split at e
  · cases e
    obtain ⟨p, vs, h1, h2, h3, _⟩ := s.list rv (by assumption)
    exact ⟨p, vs, h1, .of h2, h3⟩
  · cases e
    obtain ⟨p, vs, h1, h2, h3, _⟩ := s.roL rv (by assumption)
    exact ⟨p, vs, h1, h2.sq, h3⟩
  · cases e
theorem bi_any (hc : X.calm = true) : CallR X (.builtin "any") (callV X.K γ W (biD .any)) := by
  refine callR_imp (cr_any hc) fun xs H Q ⟨μ, σ, ρ, S, ds, s, r, q⟩ => ?_
  unfold biD at q
  split at q <;> first | contradiction | (cases q; done) | skip
  obtain ⟨v, rfl, rv⟩ := vs1 r
  split at q
  case h_2 => exact q.elim
  case h_1 bs e =>
    simp only [Option.bind_eq_some_iff] at e
    obtain ⟨es, e1, e2⟩ := e
    obtain ⟨p, vs, rfl, hq, r1⟩ := seq_ref s rv e1
    exact ⟨p, bs, rfl, by rw [← bls_of r1 e2]; exact hq, q.here s (.bl _)⟩
theorem bi_all (hc : X.calm = true) : CallR X (.builtin "all") (callV X.K γ W (biD .all)) := by
  refine callR_imp (cr_all hc) fun xs H Q ⟨μ, σ, ρ, S, ds, s, r, q⟩ => ?_
  unfold biD at q
  split at q <;> first | contradiction | (cases q; done) | skip
  obtain ⟨v, rfl, rv⟩ := vs1 r
  split at q
  case h_2 => exact q.elim
  case h_1 bs e =>
    simp only [Option.bind_eq_some_iff] at e
    obtain ⟨es, e1, e2⟩ := e
    obtain ⟨p, vs, rfl, hq, r1⟩ := seq_ref s rv e1
    exact ⟨p, bs, rfl, by rw [← bls_of r1 e2]; exact hq, q.here s (.bl _)⟩
theorem bi_sum (hc : X.calm = true) : CallR X (.builtin "sum") (callV X.K γ W (biD .sum)) := by
  refine callR_imp (cr_sum hc) fun xs H Q ⟨μ, σ, ρ, S, ds, s, r, q⟩ => ?_
  unfold biD at q
  split at q <;> first | contradiction | (cases q; done) | skip
  obtain ⟨v, rfl, rv⟩ := vs1 r
  split at q
  case h_2 => exact q.elim
  case h_1 bs e =>
    simp only [Option.bind_eq_some_iff] at e
    obtain ⟨es, e1, e2⟩ := e
    obtain ⟨p, vs, rfl, hq, r1⟩ := seq_ref s rv e1
    exact ⟨p, bs, rfl, by rw [← ints_of r1 e2]; exact hq, q.here s (.int _)⟩
theorem minI_mem : ∀ (a : Int) (r : List Int), minI a r ∈ a :: r
  | a, [] => List.mem_cons_self
  | a, b :: r => by
    have := minI_mem (if b < a then b else a) r
    simp only [minI]
    rcases List.mem_cons.mp this with h | h
    · rw [h]; split <;> simp
    · exact List.mem_cons_of_mem _ (List.mem_cons_of_mem _ h)
theorem minI_le : ∀ (a : Int) (r : List Int), ∀ y ∈ a :: r, minI a r ≤ y
  | a, [], y, h => by simp at h; subst h; exact Int.le_refl _
  | a, b :: r, y, h => by
    have ih := minI_le (if b < a then b else a) r
    have i0 := ih _ List.mem_cons_self
    have i1 : (if b < a then b else a) ≤ a ∧ (if b < a then b else a) ≤ b := by split <;> omega
    simp only [minI]
    generalize (if b < a then b else a) = c at *
    rcases List.mem_cons.mp h with rfl | h
    · omega
    · rcases List.mem_cons.mp h with rfl | h
      · omega
      · exact ih y (List.mem_cons_of_mem _ h)
theorem maxI_mem : ∀ (a : Int) (r : List Int), maxI a r ∈ a :: r
  | a, [] => List.mem_cons_self
  | a, b :: r => by
    have := maxI_mem (if a < b then b else a) r
    simp only [maxI]
    rcases List.mem_cons.mp this with h | h
    · rw [h]; split <;> simp
    · exact List.mem_cons_of_mem _ (List.mem_cons_of_mem _ h)
theorem maxI_ge : ∀ (a : Int) (r : List Int), ∀ y ∈ a :: r, y ≤ maxI a r
  | a, [], y, h => by simp at h; subst h; exact Int.le_refl _
  | a, b :: r, y, h => by
    have ih := maxI_ge (if a < b then b else a) r
    have i0 := ih _ List.mem_cons_self
    have i1 : (if a < b then b else a) ≥ a ∧ (if a < b then b else a) ≥ b := by split <;> omega
    simp only [maxI]
    generalize (if a < b then b else a) = c at *
    rcases List.mem_cons.mp h with rfl | h
    · omega
    · rcases List.mem_cons.mp h with rfl | h
      · omega
      · exact ih y (List.mem_cons_of_mem _ h)
theorem bi_minL (hc : X.calm = true) : CallR X (.builtin "min") (callV X.K γ W (biD .minL)) := by
  refine callR_imp (cr_min hc) fun xs H Q ⟨μ, σ, ρ, S, ds, s, r, q⟩ => ?_
  unfold biD at q
  split at q <;> first | contradiction | (cases q; done) | skip
  obtain ⟨v, rfl, rv⟩ := vs1 r
  split at q
  case h_2 => exact q.elim
  case h_1 a0 r0 e =>
    simp only [Option.bind_eq_some_iff] at e
    obtain ⟨es, e1, e2⟩ := e
    obtain ⟨p, vs, rfl, hq, r1⟩ := seq_ref s rv e1
    refine ⟨p, a0 :: r0, rfl, by rw [← ints_of r1 e2]; exact hq, Nat.succ_pos _, fun m h1 h2 => ?_⟩
    have : m = minI a0 r0 := by have := h2 _ (minI_mem a0 r0); have := minI_le a0 r0 m h1; omega
    rw [this]; exact q.here s (.int _)
theorem bi_maxL (hc : X.calm = true) : CallR X (.builtin "max") (callV X.K γ W (biD .maxL)) := by
  refine callR_imp (cr_max hc) fun xs H Q ⟨μ, σ, ρ, S, ds, s, r, q⟩ => ?_
  unfold biD at q
  split at q <;> first | contradiction | (cases q; done) | skip
  obtain ⟨v, rfl, rv⟩ := vs1 r
  split at q
  case h_2 => exact q.elim
  case h_1 a0 r0 e =>
    simp only [Option.bind_eq_some_iff] at e
    obtain ⟨es, e1, e2⟩ := e
    obtain ⟨p, vs, rfl, hq, r1⟩ := seq_ref s rv e1
    refine ⟨p, a0 :: r0, rfl, by rw [← ints_of r1 e2]; exact hq, Nat.succ_pos _, fun m h1 h2 => ?_⟩
    have : m = maxI a0 r0 := by have := h2 _ (maxI_mem a0 r0); have := maxI_ge a0 r0 m h1; omega
    rw [this]; exact q.here s (.int _)
theorem kvx_keys {K : PySem.W.Frag} {μ : Mu} {H : Hp} : ∀ {kvs : List (List Int × D)} {xs : List (List Int × Addr × Value)}, KVX K H μ kvs xs → xs.map (·.1) = kvs.map (·.1)
  | [], _, .nil => rfl
  | p :: kvs, q :: xs, .cons ⟨h, _⟩ t => by rw [List.map_cons, List.map_cons, kvx_keys t, h]
theorem bi_dict (hu : X.A.units + 2 < cLine) : CallR X (.type "dict") (callV X.K γ W (biD .dict)) := by
  refine callR_imp (call_dictX hu) fun xs H Q ⟨μ, σ, ρ, S, ds, s, r, q⟩ => ?_
  unfold biD at q
  split at q <;> first | contradiction | (cases q; done) | skip
  obtain ⟨v, rfl, rv⟩ := vs1 r
  split at q
  case h_2 => exact q.elim
  case h_1 kvs hk =>
    split at q
    case isFalse => exact q.elim
    case isTrue hn =>
      obtain ⟨a, xs, rfl, ea, ra⟩ := s.rd rv hk
      have e1 := kvx_keys ra
      have e2 : (xs.map fun x => hashI x.1) = kvs.map fun p => hashI p.1 := by
        have := congrArg (List.map hashI) e1
        simpa [List.map_map, Function.comp_def] using this
      refine ⟨a, xs, rfl, ea, ra.kx, by rw [e2]; exact hn, fun p hp => ?_⟩
      have le : Le X.K μ H (μ ++ [p]) (upd H p (DX p xs)) := le_newP hp
      exact q (μ ++ [p]) _ _ le (s.alloc (c := .dct kvs) hp ⟨xs, upd_same, ra.mono le⟩) (.ref (s.ref p))
theorem b_abs : bootBuiltins "abs" = some (.builtin "abs") := by decide +kernel
/-- f(..), f a built-in -/
theorem pe_bi (G : Good X Γ γ W P) (f : Bi) {p pos : Pos} {e : Expr} {es : List Expr} {t : TA} (hc0 : calmFree f = true ∨ X.calm = true) (hb : blX Γ (biName f) = true) (hf : 0 < biArgs f) (ha : PA X (e :: es) t)
    (s1 : starEach (e :: es) X.env = (false, eval e X.env) :: starEach es X.env) (s2 : (backTo pos (starEach es X.env)).any (·.1) = false) :
    PE X (.Call (.Name (biName f) p) (e :: es) [] pos) (tCB (callV X.K γ W (biD f)) t) := by
  obtain ⟨g1, g2⟩ := bl_of G hb
  cases f <;> first | (exfalso; revert hf; decide) | skip
  · exact pe_callB bi_len g1 g2 PySem.boot_len ha (by decide) (by decide) s1 s2
  · exact pe_callB bi_abs g1 g2 b_abs ha (by decide) (by decide) s1 s2
  · exact pe_callB (bi_min2 (hc0.resolve_left (by decide))) g1 g2 PyProof.Rows.boot_min ha (by decide) (by decide) s1 s2
  · exact pe_callB (bi_max2 (hc0.resolve_left (by decide))) g1 g2 PyProof.Rows.boot_max ha (by decide) (by decide) s1 s2
  · exact pe_callB (bi_min3 (hc0.resolve_left (by decide))) g1 g2 PyProof.Rows.boot_min ha (by decide) (by decide) s1 s2
  · exact pe_callB (bi_max3 (hc0.resolve_left (by decide))) g1 g2 PyProof.Rows.boot_max ha (by decide) (by decide) s1 s2
  · exact pe_callTy bi_int g1 g2 (by decide +kernel) ha (by decide) (by decide) s1 s2
  · exact pe_callTy bi_str g1 g2 (by decide +kernel) ha (by decide) (by decide) s1 s2
  · exact pe_callTy bi_tuple g1 g2 (by decide +kernel) ha (by decide) (by decide) s1 s2
  · exact pe_callTy bi_list g1 g2 (by decide +kernel) ha (by decide) (by decide) s1 s2
  · exact pe_callB (bi_any (hc0.resolve_left (by decide))) g1 g2 (by decide +kernel) ha (by decide) (by decide) s1 s2
  · exact pe_callB (bi_all (hc0.resolve_left (by decide))) g1 g2 (by decide +kernel) ha (by decide) (by decide) s1 s2
  · exact pe_callB (bi_sum (hc0.resolve_left (by decide))) g1 g2 (by decide +kernel) ha (by decide) (by decide) s1 s2
  · exact pe_callB (bi_sorted (hc0.resolve_left (by decide))) g1 g2 (by decide +kernel) ha (by decide) (by decide) s1 s2
  · exact pe_callB (bi_minL (hc0.resolve_left (by decide))) g1 g2 PyProof.Rows.boot_min ha (by decide) (by decide) s1 s2
  · exact pe_callB (bi_maxL (hc0.resolve_left (by decide))) g1 g2 PyProof.Rows.boot_max ha (by decide) (by decide) s1 s2
  · exact pe_callTy (bi_dict (by have := G.un; omega)) g1 g2 (by decide +kernel) ha (by decide) (by decide) s1 s2
theorem snd_bi (G : Good X Γ γ W P) (f : Bi) (ha : Snd X γ W (den P a) (chk a Γ)) : Snd X γ W (den P (.bi f a)) (chk (.bi f a) Γ) := by
  refine snd_ofV fun x h => ?_
  split at h
  case h_2 => cases h
  case h_1 x p es pos =>
    obtain ⟨g1, h5⟩ := band h
    obtain ⟨g2, h4⟩ := band g1
    obtain ⟨g3, h3⟩ := band g2
    obtain ⟨h1, h2⟩ := band g3
    clear g1 g2 g3 h
    refine ⟨?_, fun _ => rfl, fun _ _ _ z => nomatch z⟩
    have e2 := of_decide_eq_true h2
    subst e2
    have hl := of_decide_eq_true h4
    cases es with
    | nil =>
      have : evs P a = fun ρ S => .ok [] S := by
        cases a <;> first | rfl | (exfalso; revert h5; simp [chk, Ck.ofE, Ck.no]; done)
      refine ⟨fun pins s σ H Q I ⟨μ, ρ, S, s1, q⟩ => ?_⟩
      change PostR X.K γ W (relV X.K) μ H σ ρ ((evs P a ρ S).bind fun ds S1 => biD f ds S1) Q at q
      rw [this] at q
      exfalso
      change PostR X.K γ W (relV X.K) μ H σ ρ (biD f [] S) Q at q
      have e : biD f [] S = .bad := by cases f <;> rfl
      rw [e] at q
      exact q
    | cons e es =>
      obtain ⟨s1, s2⟩ := star_a a e es h5 X.env
      refine pe_imp (pe_bi (γ := γ) (W := W) G f ((Bool.or_eq_true _ _ ▸ h1).imp id G.calm) h3 (by rw [← hl]; exact Nat.succ_pos _) (ha.a _ h5) s1 (s2 pos)) fun σ H Q ⟨μ, ρ, S, s, q⟩ => ?_
      exact ⟨μ, ρ, S, s, (PostR.bind q).imp fun xs H1 ⟨μ1, S1, ds, le1, s1, r1, q1⟩ => ⟨μ1, σ, ρ, S1, ds, s1, r1, q1⟩⟩
/-! ### methods -/
theorem base_of : ∀ (a : E) o, (chk a Γ).e o = true → (∀ f ks p, o ≠ .Call f [] ks p) → ∀ name env, attributeBase o name env (eval o env) = eval o env := by
  intro a o h hn name env
  cases o <;> first | rfl | skip
  rename_i f as ks p
  cases as with
  | nil => exact absurd rfl (hn _ _ _)
  | cons => cases f <;> rfl
theorem me_append : MtR X "list.append" (methV X.K γ W (meD .append)) := by
  refine mtR_imp mt_append fun x xs H Q ⟨μ, σ, ρ, S, d, ds, s, r, rs, q⟩ => ?_
  unfold meD at q
  split at q <;> first | contradiction | (cases q; done) | skip
  obtain ⟨v, rfl, rv⟩ := vs1 rs
  split at q
  case h_2 => exact q.elim
  case h_1 es e =>
    split at q
    case isFalse => exact q.elim
    case isTrue hz =>
      obtain ⟨p, vs, rfl, h1, r1, hm⟩ := s.list r e
      exact ⟨p, vs, v, rfl, rfl, h1, by rw [r1.length, ← linesz_eq]; exact hz, q.later (le_upd h1) (s.write e hm h1 (r1.append (.cons rv .nil))) .non⟩
theorem findIdx_of {p : PyData → Bool} : ∀ {ds : List PyData} {j : Nat}, ds.findIdx? p = some j → ∃ z, ds[j]? = some z ∧ p z = true ∧ ∀ (m : Nat) z', m < j → ds[m]? = some z' → p z' = false := fun {ds j} h => by
  obtain ⟨hj, h1, h2⟩ := List.findIdx?_eq_some_iff_getElem.mp h
  refine ⟨ds[j], List.getElem?_eq_getElem hj, h1, fun m z' hm hz => ?_⟩
  obtain ⟨hm2, e⟩ := List.getElem?_eq_some_iff.mp hz
  rw [← e]
  simpa using h2 m hm
theorem me_index (hu : X.A.units + 66 < cLine) : MtR X "list.index" (methV X.K γ W (meD .index)) := by
  refine mtR_imp (mt_indexD (by omega)) fun x xs H Q ⟨μ, σ, ρ, S, d, ds, s, r, rs, q⟩ => ?_
  unfold meD at q
  split at q <;> first | contradiction | (cases q; done) | skip
  obtain ⟨v, rfl, rv⟩ := vs1 rs
  split at q
  case h_2 => exact q.elim
  case h_1 es e =>
    split at q
    case h_2 => exact q.elim
    case h_1 j hj =>
      unfold indexN at hj
      split at hj
      case h_2 => cases hj
      case h_1 p ps e3 e4 =>
        split at hj
        case isFalse => cases hj
        case isTrue hs =>
          rw [Bool.and_eq_true] at hs
          obtain ⟨a, vs, rfl, h1, r1, hm⟩ := s.list r e
          obtain ⟨z, hz, hp, hno⟩ := findIdx_of hj
          exact ⟨a, v, p, ps, j, z, rfl, rfl, .lst (.of h1) (dps_of (fun n a p => dp_cell s 6 n a p) es vs ps r1 e4), dp_sim s rv e3, hs.2, hs.1, hz, hp, hno, q.here s (.int _)⟩
theorem me_insert : MtR X "list.insert" (methV X.K γ W (meD .insert)) := by
  refine mtR_imp mt_insert fun x xs H Q ⟨μ, σ, ρ, S, d, ds, s, r, rs, q⟩ => ?_
  unfold meD at q
  split at q <;> first | contradiction | (cases q; done) | skip
  obtain ⟨v, u, rfl, rv, ru⟩ := vs2 rs
  cases rv
  split at q
  case h_2 => exact q.elim
  case h_1 es e =>
    split at q
    case isFalse => exact q.elim
    case isTrue hz =>
      obtain ⟨p, vs, rfl, h1, r1, hm⟩ := s.list r e
      exact ⟨p, vs, _, u, rfl, rfl, h1, by rw [r1.length, ← linesz_eq]; exact hz.1, hz.2.1, by have := hz.2.2; omega, q.later (le_upd h1) (s.write e hm h1 (((r1.take _).append (.cons ru .nil)).append (r1.drop _))) .non⟩
theorem got_of {kvs : List (List Int × D)} {xs : List (List Int × Addr × Value)} {K : PySem.W.Frag} {μ : Mu} {H : Hp} (r : KVX K H μ kvs xs) (k : List Int) {d : D} {v : V} (rv : RepV K H μ d v) {q : V → Prop} (h : ∀ w, RepV K H μ ((dGet kvs k).getD d) w → q w) : gotX xs k v q := by
  have g := r.get k
  cases e : dGet kvs k with
  | none => rw [e] at g h; exact .inl ⟨g, h _ rv⟩
  | some d' => rw [e] at g h; obtain ⟨p, w, g1, g2, g3⟩ := g; exact .inr ⟨p, w, g1, g3, h _ g2⟩
theorem me_get1 (hu : X.A.units + 1 < cLine) : MtR X "dict.get" (methV X.K γ W (meD .get1)) := by
  refine mtR_imp (mt_getX hu) fun x xs H Q ⟨μ, σ, ρ, S, d, ds, s, r, rs, q⟩ => ?_
  unfold meD at q
  split at q <;> first | contradiction | (cases q; done) | skip
  obtain ⟨v, rfl, rv⟩ := vs1 rs
  split at q
  case h_2 => exact q.elim
  case h_1 kvs e =>
    split at q
    case h_2 => exact q.elim
    case h_1 k hk =>
      obtain ⟨a, xs, rfl, ea, ra⟩ := s.rd r e
      obtain ⟨b, rfl, hb⟩ := key_rep rv hk
      exact ⟨a, b, xs, k, rfl, ea, ra.kx, hb, .inl ⟨rfl, got_of ra k .non fun w rw' => q.here s rw'⟩⟩
theorem mt_getK (hu : X.A.units + 1 < cLine) : MtR X "dict.get" (fun x xs H Q => ∃ a y d o, x = .ref a ∧ xs = [y, d] ∧ DGet H a y o ∧ Q (o.getD d) H) := by
  intro pins s σ H x vs v us Q I rx rs h
  obtain ⟨a, y, d, o, rfl, rfl, g, q⟩ := h
  obtain rfl : v = Value.ref a := rx
  obtain ⟨u1, u2, rfl, r1, r2⟩ := vals2 rs
  exact d_get2 hu I g r1 r2 fun w' s' I' rw' => ⟨o.getD d, H, I', rw', q⟩
theorem kGet_map : ∀ {kvs : List (L2.Key × D)} {gs : List (L2.Key × V)} {k : L2.Key}, gs.map (·.1) = kvs.map (·.1) → kGet kvs k = none → valV gs k = none
  | [], [], _, _, _ => rfl
  | [], _ :: _, _, h, _ => by cases h
  | _ :: _, [], _, h, _ => by cases h
  | p :: kvs, g :: gs, k, h, e => by
    simp only [List.map_cons, List.cons.injEq] at h
    unfold kGet at e
    unfold valV
    rw [List.find?_cons] at e ⊢
    rw [h.1]
    by_cases z : p.1 = k
    · simp [z] at e
    · simp only [z, decide_false] at e ⊢
      exact kGet_map h.2 e
theorem me_get2 (hu : X.A.units + 1 < cLine) : MtR X "dict.get" (methV X.K γ W (meD .get2)) := by
  refine mtR_imp ((mt_getX hu).or (mt_getK hu)) fun x xs H Q ⟨μ, σ, ρ, S, d, ds, s, r, rs, q⟩ => ?_
  unfold meD at q
  split at q <;> first | contradiction | (cases q; done) | skip
  obtain ⟨v, u, rfl, rv, ru⟩ := vs2 rs
  split at q
  case h_1 kvs e =>
    split at q
    case h_2 => exact q.elim
    case h_1 k hk =>
      obtain ⟨a, xs, rfl, ea, ra⟩ := s.rd r e
      obtain ⟨b, rfl, hb⟩ := key_rep rv hk
      exact .inl ⟨a, b, xs, k, rfl, ea, ra.kx, hb, .inr ⟨u, rfl, got_of ra k ru fun w rw' => q.here s rw'⟩⟩
  case h_2 =>
    split at q
    case h_2 => exact q.elim
    case h_1 kvs z hS =>
      obtain ⟨a, gs, rfl, hH, hk, hv, _⟩ := s.dk r hS
      cases rv
      refine .inr ⟨a, .str z, u, valV gs (.inr z), rfl, rfl, .inl ⟨gs, .inr z, .inl hH, rfl, rfl⟩, ?_⟩
      cases e : kGet kvs (.inr z) with
      | none =>
        rw [e] at q
        rw [kGet_map hk e]
        exact q.here s ru
      | some d =>
        rw [e] at q
        obtain ⟨w, e1, rw'⟩ := dk_get hk hv e
        rw [e1]
        exact q.here s rw'
theorem me_popd (hu : X.A.units + 1 < cLine) : MtR X "dict.pop" (methV X.K γ W (meD .pop)) := by
  refine mtR_imp (mt_popX hu) fun x xs H Q ⟨μ, σ, ρ, S, d, ds, s, r, rs, q⟩ => ?_
  unfold meD at q
  split at q <;> first | contradiction | (cases q; done) | skip
  obtain ⟨v, rfl, rv⟩ := vs1 rs
  split at q
  case h_2 => exact q.elim
  case h_1 kvs e =>
    split at q
    case h_2 => exact q.elim
    case h_1 k hk =>
      split at q
      case h_2 => exact q.elim
      case h_1 dd hg =>
        obtain ⟨a, xs, rfl, ea, ra, hm⟩ := s.dct r e
        obtain ⟨b, rfl, hb⟩ := key_rep rv hk
        have g := ra.get k
        rw [hg] at g
        obtain ⟨p, w, g1, g2, g3⟩ := g
        have le : Le X.K μ H μ (upd H a (DX a (withoutH xs k))) := le_updC ea nt_dx
        exact ⟨a, b, xs, k, p, w, rfl, rfl, ea, ra.kx, hb, g1, g3, q.later le ⟨s.e.mono le, s.s.writeC e hm ea nt_dx rfl rfl ⟨_, upd_same, (ra.del k).mono le⟩⟩ (g2.mono le)⟩
/-- xs.pop() -/
theorem snd_pop0 (hb : Snd X γ W (den P b) (chk b Γ)) : Snd X γ W (den P (.pop0 b)) (chk (.pop0 b) Γ) := by
  refine snd_ofV fun x h => ?_
  split at h
  case h_2 => cases h
  case h_1 v x apos pos =>
    obtain ⟨h, h4⟩ := band h
    obtain ⟨h, h3⟩ := band h
    obtain ⟨h1, h2⟩ := band h
    refine ⟨?_, fun _ => rfl, fun _ _ _ z => nomatch z⟩
    have hp : ∀ f ks p, v ≠ .Call f [] ks p := fun f ks p e => by subst e; simp [plainObj] at h3
    obtain rfl := of_decide_eq_true h1
    refine pe_imp (pe_bm0 PySem.F.plainAttrs_list PySem.F.slot_list_pop PySem.F.type_list_pop mt_pop (hb.e _ h4) (base_of b v h4 hp _ _) h2) fun σ H Q ⟨μ, ρ, S, s, q⟩ => ?_
    refine ⟨μ, ρ, S, s, (PostR.bind q).imp fun x H1 ⟨μ1, S1, d, le1, s1, r1, q1⟩ => ?_⟩
    unfold pop0R at q1
    split at q1
    case h_2 => exact q1.elim
    case h_1 n =>
      split at q1
      case h_2 => exact q1.elim
      case h_1 es e =>
        split at q1
        case h_2 => exact q1.elim
        case h_1 dd hd =>
          obtain ⟨a, vs, rfl, h6, r3, hm⟩ := s1.list r1 e
          obtain ⟨w, g1, g2⟩ := r3.get hd
          refine ⟨.inl ⟨rfl, vs, .of h6⟩, a, vs, w, rfl, rfl, h6, by rw [r3.length]; exact g1, ?_⟩
          have rd : RepVs X.K H1 μ1 es.dropLast vs.dropLast := by
            rw [List.dropLast_eq_take, List.dropLast_eq_take, r3.length]
            exact r3.take _
          exact q1.later (le_upd h6) (s1.write e hm h6 rd) (g2.mono (le_upd h6))
theorem few_of : ∀ (a : E) (es : List Expr), (chk a Γ).a es = true → es.length < 21 → ∀ (env : PySem.Env) (pos : Pos), (backTo pos (starEach es env)).all (fun x => !x.1) = true
  | .nil, es, h, _, env, pos => by
    cases es with
    | nil => rfl
    | cons e es => cases h
  | .cons a as, es, h, hl, env, pos => by
    cases es with
    | nil => cases h
    | cons e es =>
      obtain ⟨h1, h2⟩ := band h
      obtain ⟨s1, _⟩ := star_a (.cons a as) e es h env
      rw [s1]
      have ih := few_of as es h2 (by simp at hl; omega) env pos
      simp only [backTo, List.map_cons, List.all_cons] at ih ⊢
      simpa using ih
  | .var _, _, h, _, _, _ => nomatch h
  | .non, _, h, _, _, _ => nomatch h
  | .bl _, _, h, _, _, _ => nomatch h
  | .int _, _, h, _, _, _ => nomatch h
  | .str _, _, h, _, _, _ => nomatch h
  | .glb _ _, _, h, _, _, _ => nomatch h
  | .bin _ _ _, _, h, _, _, _ => nomatch h
  | .neg _, _, h, _, _, _ => nomatch h
  | .cmp _ _ _, _, h, _, _, _ => nomatch h
  | .chain _ _ _ _ _, _, h, _, _, _ => nomatch h
  | .not _, _, h, _, _, _ => nomatch h
  | .and _ _, _, h, _, _, _ => nomatch h
  | .or _ _, _, h, _, _, _ => nomatch h
  | .ite _ _ _, _, h, _, _, _ => nomatch h
  | .tup _, _, h, _, _, _ => nomatch h
  | .lst _, _, h, _, _, _ => nomatch h
  | .ix _ _, _, h, _, _, _ => nomatch h
  | .slc _ _ _, _, h, _, _, _ => nomatch h
  | .call _ _, _, h, _, _, _ => nomatch h
  | .bi _ _, _, h, _, _, _ => nomatch h
  | .me _ _ _, _, h, _, _, _ => nomatch h
  | .isi _ _ _, _, h, _, _, _ => nomatch h
  | .isx _ _ _, _, h, _, _, _ => nomatch h
  | .rng _, _, h, _, _, _ => nomatch h
  | .enm _, _, h, _, _, _ => nomatch h
  | .zp _, _, h, _, _, _ => nomatch h
  | .dd0, _, h, _, _, _ => nomatch h
  | .kd0, _, h, _, _, _ => nomatch h
  | .kdd _ _, _, h, _, _, _ => nomatch h
  | .pop0 _, _, h, _, _, _ => nomatch h
  | .lk _ _, _, h, _, _, _ => nomatch h
  | .dc _ _ _ _ _ _, _, h, _, _, _ => nomatch h
  | .dc2 _ _ _ _ _ _ _ _, _, h, _, _, _ => nomatch h
  | .rpl6 _ _ _ _ _ _ _ _ _, _, h, _, _, _ => nomatch h
  | .dd1 _ _, _, h, _, _, _ => nomatch h
  | .dd2 _ _ _ _, _, h, _, _, _ => nomatch h
  | .bln _, _, h, _, _, _ => nomatch h
  | .gix _ _ _, _, h, _, _, _ => nomatch h
  | .fjs _, _, h, _, _, _ => nomatch h
  | .fmt _, _, h, _, _, _ => nomatch h
  | .sm _ _ _, _, h, _, _, _ => nomatch h
  | .sm0 _ _, _, h, _, _, _ => nomatch h
  | .gdx _ _ _, _, h, _, _, _ => nomatch h
  | .gdin _ _ _ _, _, h, _, _, _ => nomatch h
  | .giin _ _ _ _, _, h, _, _, _ => nomatch h
  | .lrv _, _, h, _, _, _ => nomatch h
  | .itm _, _, h, _, _, _ => nomatch h
  | .lc _ _ _ _ _, _, h, _, _, _ => nomatch h
  | .fld _ _ _, _, h, _, _, _ => nomatch h
  | .mth _ _ _ _ _, _, h, _, _, _ => nomatch h
  | .lc2 _ _ _ _ _ _ _, _, h, _, _, _ => nomatch h
theorem snd_me (G : Good X Γ γ W P) (m : Me) (hb : Snd X γ W (den P b) (chk b Γ)) (ha : Snd X γ W (den P a) (chk a Γ)) : Snd X γ W (den P (.me m b a)) (chk (.me m b a) Γ) := by
  refine snd_ofV fun x h => ?_
  split at h
  case h_2 => cases h
  case h_1 v x apos e es pos =>
    obtain ⟨h1, h6⟩ := band h
    obtain ⟨h1, h5⟩ := band h1
    obtain ⟨h1, h4⟩ := band h1
    obtain ⟨h1, h3⟩ := band h1
    obtain ⟨h1, h2⟩ := band h1
    refine ⟨?_, fun _ => rfl, fun _ _ _ z => nomatch z⟩
    obtain ⟨s1, s2⟩ := star_a a e es h5 X.env
    have hn := of_decide_eq_true h6
    have hfew : ((backTo pos (starEach (e :: es) X.env)).all (fun x => !x.1) && (backToKw pos (keywordEach [] X.env)).all (fun x => x.1.isSome)
        && decide ((e :: es).length + ([] : List Keyword).length + (if ([] : List Keyword).isEmpty then 0 else 1) < 30)) = true := by
      rw [few_of a (e :: es) h5 (by simp; omega) X.env pos]
      simp [keywordEach, backToKw]
      omega
    have hp : ∀ f ks p, v ≠ .Call f [] ks p := fun f ks p e => by subst e; simp [plainObj] at h3
    have go : ∀ {μ1 : Mu} {H1 : Hp} {σ : L2.St} {ρ : Ng.Env} {Q : VK} (r : R D) (b : Bool), PostR X.K γ W (relV X.K) μ1 H1 σ ρ (bif b then r else .bad) Q → b = true ∧ PostR X.K γ W (relV X.K) μ1 H1 σ ρ r Q := fun r b z => by
      cases b with
      | true => exact ⟨rfl, z⟩
      | false => exact z.elim
    have key : (m = .append ∨ m = .index ∨ m = .insert) → (∀ σ H Q, tE X.K γ W (den P (.me m b a)).v σ H Q → tBM X.K "list" (methV X.K γ W (meD m)) (tE X.K γ W (den P b).v) (tA X.K γ W (den P a).a) σ H Q) := fun hm σ H Q ⟨μ, ρ, S, s, q⟩ => by
      refine ⟨μ, ρ, S, s, (PostR.bind q).imp fun x H1 ⟨μ1, S1, d, le1, s1, r1, q1⟩ => ?_⟩
      obtain ⟨ok, q2⟩ := go _ _ q1
      refine ⟨?_, μ1, ρ, S1, s1, (PostR.bind q2).imp fun xs H2 ⟨μ2, S2, ds, le2, s2, r2, q3⟩ => ⟨μ2, σ, ρ, S2, d, ds, s2, RepV.mono le2 r1, r2, q3⟩⟩
      have hx : ∃ n es, d = .ref n ∧ S1[n]? = some (.lst es) := by
        rcases hm with rfl | rfl | rfl <;> (cases d <;> first | (cases ok; done) | (simp only [meOk] at ok; split at ok <;> first | (cases ok; done) | exact ⟨_, _, rfl, by assumption⟩))
      obtain ⟨n, es', rfl, e⟩ := hx
      obtain ⟨p, vs, rfl, h6, r3, hm⟩ := s1.list r1 e
      exact .inl ⟨rfl, vs, .of h6⟩
    have keyX : (m = .get1 ∨ m = .get2 ∨ m = .pop) → (∀ σ H Q, tE X.K γ W (den P (.me m b a)).v σ H Q → tBMX (methV X.K γ W (meD m)) (tE X.K γ W (den P b).v) (tA X.K γ W (den P a).a) σ H Q) := fun hm σ H Q ⟨μ, ρ, S, s, q⟩ => by
      refine ⟨μ, ρ, S, s, (PostR.bind q).imp fun x H1 ⟨μ1, S1, d, le1, s1, r1, q1⟩ => ?_⟩
      obtain ⟨ok, q2⟩ := go _ _ q1
      refine ⟨?_, μ1, ρ, S1, s1, (PostR.bind q2).imp fun xs H2 ⟨μ2, S2, ds, le2, s2, r2, q3⟩ => ⟨μ2, σ, ρ, S2, d, ds, s2, RepV.mono le2 r1, r2, q3⟩⟩
      have hx : (∃ n es, d = .ref n ∧ rdC S1[n]? = some es) ∨ ∃ n gs, d = .ref n ∧ S1[n]? = some (.dk gs) := by
        rcases hm with rfl | rfl | rfl
        · cases d <;> first | (cases ok; done) | skip
          obtain ⟨es, h⟩ := Option.isSome_iff_exists.mp ok
          exact .inl ⟨_, es, rfl, h⟩
        · cases d <;> first | (cases ok; done) | skip
          simp only [meOk] at ok
          rw [Bool.or_eq_true] at ok
          rcases ok with ok | ok
          · obtain ⟨es, h⟩ := Option.isSome_iff_exists.mp ok
            exact .inl ⟨_, es, rfl, h⟩
          · split at ok
            · exact .inr ⟨_, _, rfl, by assumption⟩
            · cases ok
        · cases d <;> first | (cases ok; done) | (simp only [meOk] at ok; split at ok <;> first | (cases ok; done) | (rename_i es he; exact .inl ⟨_, es, rfl, by rw [he]; rfl⟩))
      rcases hx with ⟨n, es', rfl, e⟩ | ⟨n, gs, rfl, e⟩
      · obtain ⟨p, xs, rfl, h6, r3⟩ := s1.rd r1 e
        exact .inl ⟨p, xs, rfl, h6⟩
      · obtain ⟨p, xs, rfl, h6, r3⟩ := s1.dk r1 e
        exact .inr ⟨p, xs, rfl, .inl h6⟩
    cases m <;> first | (cases h1; done) | skip
    · have e1 := of_decide_eq_true h1
      subst e1
      exact pe_imp (pe_bm PySem.F.plainAttrs_list PySem.F.slot_list_append PySem.F.type_list_append (me_append (γ := γ) (W := W)) (hb.e _ h4) (ha.a _ h5) (base_of b v h4 hp _ _) hfew h2 s1 (s2 pos)) (key (.inl rfl))
    · have e1 := of_decide_eq_true h1
      subst e1
      exact pe_imp (pe_bm PySem.F.plainAttrs_list PySem.F.slot_list_index PySem.F.type_list_index (me_index (γ := γ) (W := W) G.un) (hb.e _ h4) (ha.a _ h5) (base_of b v h4 hp _ _) hfew h2 s1 (s2 pos)) (key (.inr (.inl rfl)))
    · have e1 := of_decide_eq_true h1
      subst e1
      exact pe_imp (pe_bmX PySem.F.slot_dict_pop PySem.F.type_dict_pop (me_popd (γ := γ) (W := W) (by have := G.un; omega)) (hb.e _ h4) (ha.a _ h5) (base_of b v h4 hp _ _) hfew h2 s1 (s2 pos)) (keyX (.inr (.inr rfl)))
    · have e1 := of_decide_eq_true h1
      subst e1
      exact pe_imp (pe_bmX PySem.F.slot_dict_get PySem.F.type_dict_get (me_get1 (γ := γ) (W := W) (by have := G.un; omega)) (hb.e _ h4) (ha.a _ h5) (base_of b v h4 hp _ _) hfew h2 s1 (s2 pos)) (keyX (.inl rfl))
    · have e1 := of_decide_eq_true h1
      subst e1
      exact pe_imp (pe_bmX PySem.F.slot_dict_get PySem.F.type_dict_get (me_get2 (γ := γ) (W := W) (by have := G.un; omega)) (hb.e _ h4) (ha.a _ h5) (base_of b v h4 hp _ _) hfew h2 s1 (s2 pos)) (keyX (.inr (.inl rfl)))
    · have e1 := of_decide_eq_true h1
      subst e1
      exact pe_imp (pe_bm PySem.F.plainAttrs_list PySem.F.slot_list_insert PySem.F.type_list_insert (me_insert (γ := γ) (W := W)) (hb.e _ h4) (ha.a _ h5) (base_of b v h4 hp _ _) hfew h2 s1 (s2 pos)) (key (.inr (.inr rfl)))
/-! ### methods of texts -/
theorem strs_rep {K : PySem.W.Frag} {H : Hp} {μ : Mu} : ∀ {ds : List D} {vs : List V} {ys : List Str}, RepVs K H μ ds vs → strsD ds = some ys → vs = ys.map V.str
  | [], _, _, .nil, e => by cases e; rfl
  | d :: ds, _, ys, .cons r1 r2, e => by
    cases d <;> first | (cases e; done) | skip
    simp only [strsD] at e
    cases e2 : strsD ds with
    | none => rw [e2] at e; cases e
    | some zs =>
      rw [e2] at e
      cases e
      cases r1
      rw [strs_rep r2 e2]; rfl
theorem strs_rep' {K : PySem.W.Frag} {H : Hp} {μ : Mu} : ∀ ys : List Str, RepVs K H μ (ys.map D.str) (ys.map V.str)
  | [] => .nil
  | y :: ys => .cons (.str y) (strs_rep' ys)
theorem snd_sm (m : SM) (hb : Snd X γ W (den P b) (chk b Γ)) (ha : Snd X γ W (den P a) (chk a Γ)) : Snd X γ W (den P (.sm m b a)) (chk (.sm m b a) Γ) := by
  refine snd_ofV fun x h => ?_
  split at h
  case h_2 => cases h
  case h_1 v x apos e pos =>
    obtain ⟨h, h5⟩ := band h
    obtain ⟨h, h4⟩ := band h
    obtain ⟨h, h3⟩ := band h
    obtain ⟨h1, h2⟩ := band h
    refine ⟨?_, fun _ => rfl, fun _ _ _ z => nomatch z⟩
    have hp : ∀ f ks p, v ≠ .Call f [] ks p := fun f ks p e => by subst e; simp [plainObj] at h3
    have hs : starEach [e] X.env = [(false, eval e X.env)] := star_of ha e h5 []
    have key : ∀ {r : V → List V → Hp → VK → Prop}, (∀ σ H Q μ ρ S d y x v, Sim X.K μ σ H ρ S → RepV X.K H μ d x → RepV X.K H μ y v → isS d = true → PostR X.K γ W (relV X.K) μ H σ ρ (smR m d y S) Q → r x [v] H Q) →
        ∀ σ H Q, tE X.K γ W (den P (.sm m b a)).v σ H Q → tM1 r (tE X.K γ W (den P b).v) (tE X.K γ W (den P a).v) σ H Q := fun {r} hr σ H Q ⟨μ, ρ, S, s, q⟩ => by
      refine ⟨μ, ρ, S, s, (PostR.bind q).imp fun x H1 ⟨μ1, S1, d, le1, s1, r1, q1⟩ => ?_⟩
      have go : ∀ b : Bool, PostR X.K γ W (relV X.K) μ1 H1 σ ρ (bif b then (ev P a ρ S1).bind fun y S2 => smR m d y S2 else .bad) Q → b = true ∧ PostR X.K γ W (relV X.K) μ1 H1 σ ρ ((ev P a ρ S1).bind fun y S2 => smR m d y S2) Q := fun b z => by
        cases b with
        | true => exact ⟨rfl, z⟩
        | false => exact z.elim
      obtain ⟨ok, q2⟩ := go _ q1
      refine ⟨?_, μ1, ρ, S1, s1, (PostR.bind q2).imp fun y H2 ⟨μ2, S2, d2, le2, s2, r2, q3⟩ => hr σ H2 Q μ2 ρ S2 d d2 x y s2 (r1.mono le2) r2 ok q3⟩
      cases d <;> first | (cases ok; done) | skip
      cases r1
      exact ⟨_, rfl⟩
    cases m with
    | split =>
      obtain rfl := of_decide_eq_true h1
      refine pe_imp (pe_m1 F.slot_str_split F.type_str_split mt_split (hb.e _ h4) (ha.e _ h5) hs (base_of b v h4 hp _ _) h2) (key fun σ H Q μ ρ S d y x v s rx rv ok q => ?_)
      cases d <;> first | (cases ok; done) | skip
      cases y <;> first | (exact q.elim) | skip
      cases rx; cases rv
      simp only [smR] at q
      split at q
      case isFalse => exact q.elim
      case isTrue hz => exact ⟨_, _, rfl, rfl, hz.1, by rw [← linesz_eq]; exact hz.2, q.newL s (strs_rep' _)⟩
    | startswith =>
      obtain rfl := of_decide_eq_true h1
      refine pe_imp (pe_m1 F.slot_str_startswith F.type_str_startswith mt_startswith (hb.e _ h4) (ha.e _ h5) hs (base_of b v h4 hp _ _) h2) (key fun σ H Q μ ρ S d y x v s rx rv ok q => ?_)
      cases d <;> first | (cases ok; done) | skip
      cases y <;> first | (exact q.elim) | skip
      cases rx; cases rv
      exact ⟨_, _, rfl, rfl, q.here s (.bl _)⟩
    | join =>
      obtain rfl := of_decide_eq_true h1
      refine pe_imp (pe_m1 F.slot_str_join F.type_str_join mt_join (hb.e _ h4) (ha.e _ h5) hs (base_of b v h4 hp _ _) h2) (key fun σ H Q μ ρ S d y x v s rx rv ok q => ?_)
      cases d <;> first | (cases ok; done) | skip
      cases y <;> first | (exact q.elim) | skip
      cases rx
      simp only [smR] at q
      split at q
      case h_2 => exact q.elim
      case h_1 ys ey =>
        split at q
        case isFalse => exact q.elim
        case isTrue hz =>
          obtain ⟨ds, e1, e2⟩ := Option.bind_eq_some_iff.mp ey
          obtain ⟨p, vs, rfl, hq, rv2⟩ := s.seq rv e1
          have e3 := strs_rep rv2 e2
          subst e3
          exact ⟨_, p, ys, rfl, rfl, hq, hz, q.here s (.str _)⟩
    | upper => cases h1
theorem snd_sm0 (m : SM) (hb : Snd X γ W (den P b) (chk b Γ)) : Snd X γ W (den P (.sm0 m b)) (chk (.sm0 m b) Γ) := by
  refine snd_ofV fun x h => ?_
  split at h
  case h_2 => cases h
  case h_1 v x apos pos =>
    obtain ⟨h, h4⟩ := band h
    obtain ⟨h, h3⟩ := band h
    obtain ⟨h1, h2⟩ := band h
    refine ⟨?_, fun _ => rfl, fun _ _ _ z => nomatch z⟩
    have hp : ∀ f ks p, v ≠ .Call f [] ks p := fun f ks p e => by subst e; simp [plainObj] at h3
    cases m <;> first | (cases h1; done) | skip
    obtain rfl := of_decide_eq_true h1
    refine pe_imp (pe_m0 F.slot_str_upper F.type_str_upper mt_upper (hb.e _ h4) (base_of b v h4 hp _ _) h2) fun σ H Q ⟨μ, ρ, S, s, q⟩ => ?_
    refine ⟨μ, ρ, S, s, (PostR.bind q).imp fun x H1 ⟨μ1, S1, d, le1, s1, r1, q1⟩ => ?_⟩
    unfold sm0R at q1
    split at q1
    case h_2 => exact q1.elim
    case h_1 =>
      cases r1
      split at q1
      case isFalse => exact q1.elim
      case isTrue hz => exact ⟨⟨_, rfl⟩, _, rfl, rfl, hz, q1.here s1 (.str _)⟩
/-! ### attributes, methods -/
theorem plain_obj {v : Expr} (h : plainObj v = true) : ∀ f ks p, v ≠ .Call f [] ks p := fun f ks p e => by subst e; simp [plainObj] at h
theorem snd_fld (G : Good X Γ γ W P) (c f : Str) (ha : Snd X γ W (den P a) (chk a Γ)) : Snd X γ W (den P (.fld c f a)) (chk (.fld c f a) Γ) := by
  refine snd_ofV fun x h => ?_
  split at h
  case h_2 => cases h
  case h_1 v x pos =>
    obtain ⟨h1, h4⟩ := band h
    obtain ⟨h1, h3⟩ := band h1
    obtain ⟨h1, h2⟩ := band h1
    have e1 := of_decide_eq_true h1
    subst e1
    obtain ⟨C, hc, cl, na⟩ := G.atr c x h2
    refine ⟨?_, fun _ => rfl, fun _ _ _ z => nomatch z⟩
    refine pe_imp (pe_fld (ha.e _ h4) (base_of a v h4 (plain_obj h3) _ _)) fun σ H Q ⟨μ, ρ, S, s, q⟩ => ?_
    refine ⟨μ, ρ, S, s, (PostR.bind q).imp fun y H1 ⟨μ1, S1, d, le1, s1, r1, q1⟩ => ?_⟩
    unfold fldR at q1
    split at q1
    case h_2 => exact q1.elim
    case h_1 fs hi =>
      split at q1
      case h_2 => exact q1.elim
      case h_1 d2 hl =>
        obtain ⟨n, p, C2, dx, gs, rfl, rfl, hS, hH, hc2, e3, r3, hm⟩ := s1.inst r1 hi
        have : C2 = C := by
          have := hc2.symm.trans hc
          cases this; rfl
        subst this
        obtain ⟨u, hu, ru⟩ := (lookup_rep x e3 r3).1 d2 hl
        exact ⟨p, C2, dx, gs, u, rfl, hH, cl, na, hu, q1.here s1 ru⟩
def tMethSD (C : Addr) (m : Str) (sp : Sp) (E : L2.St → XK) (ta : TE) (t : TA) : TE := fun σ H Q => ta σ H fun x H1 => ∃ a dx fs, x = .ref a ∧ H1 a = some (.ins C dx fs) ∧ fs.lookup m = none ∧ t σ H1 fun vs H2 => sp (x :: vs) H2 Q (E σ)
theorem meth_tree {o : Expr} {m : Str} {apos pos : Pos} {es : List Expr} {env : PySem.Env} (hb : attributeBase o m env (eval o env) = eval o env) (hf : methodCallForm (es.length + ([] : List Keyword).length) (backTo pos (starEach es env)) (backToKw pos (keywordEach [] env)) = true) (hl : (apos.endLine == pos.line) = true) :
    eval (.Call (.Attribute o m apos) es [] pos) env = (do
      let ov ← eval o env
      standAt apos.atName
      let (f, first) ← holding [ov] (getMethod ov m (do return (← importBound o env).getD true))
      callWith pos f first (backTo pos (starEach es env)) (backToKw pos (keywordEach [] env))) := by
  refine mcall_of hb fun ov => ?_
  have hpos : methodCallPos true o env apos pos = pure pos := by unfold methodCallPos; simp [hl]
  unfold methodCall
  rw [hf, hpos]
  rfl
theorem pe_mthSD {CX : CXT} {C f : Addr} {k : Nat} {fd : FuncData} {ps : List Str} {sp : Sp} {E : L2.St → XK} {m : Str} {apos pos : Pos} {o e : Expr} {es : List Expr} {ta : TE} {t : TA} {pl : Sem Bool} (he : PE X o ta) (c : Cls X.K C) (hm : Meth X.K C m f) (F : FnOk X.prog X.w X.K X.mg X.base CX k f fd ps sp) (hr : Room k X.A) (hb : Binds X.K fd ps [])
    (hx : ∀ σ, PassesAt CX X σ (E σ)) (ha : PA X (e :: es) t) (hst : starEach (e :: es) X.env = (false, eval e X.env) :: starEach es X.env) (hpl : (backTo pos (starEach es X.env)).any (·.1) = false)
    (ht : eval (.Call (.Attribute o m apos) (e :: es) [] pos) X.env = (do
      let ov ← eval o X.env
      standAt apos.atName
      let (f, first) ← holding [ov] (getMethod ov m pl)
      callWith pos f first (backTo pos (starEach (e :: es) X.env)) (backToKw pos (keywordEach [] X.env)))) :
    PE X (.Call (.Attribute o m apos) (e :: es) [] pos) (tMethSD C m sp E ta t) := by
  refine ⟨fun pins s σ H Q I h => ?_⟩
  refine PySem.W.methodCall_KW (pl := pl) (thn (he.run pins s σ H _ I h) fun u s1 ⟨x, H1, I1, rx, a, dx, fs, ex, ea, l, q⟩ => ?_) ht
  subst ex
  obtain rfl : u = Value.ref a := rx
  refine getmeth_ok I1 ea c hm l ?_
  refine PySem.W.callWith_K (first := [.ref a]) (h₀ := X.base) I.ok.mod.kin hm.kp (thn (ha.run pos pins s1 σ H1 _ I1 q) fun us s2 ⟨vs, H2, I2, r, q2⟩ => ⟨I2.kIn, ?_⟩) hst hpl
  exact run_fnSD (us := .ref a :: us) (vs := .ref a :: vs) F hr hb .nil (hx σ) I2 (.cons rfl r) (by rw [List.append_nil]; exact q2)
theorem pe_mthSD0 {CX : CXT} {C f : Addr} {k : Nat} {fd : FuncData} {ps : List Str} {sp : Sp} {E : L2.St → XK} {m : Str} {apos pos : Pos} {o : Expr} {ta : TE} {pl : Sem Bool} (he : PE X o ta) (c : Cls X.K C) (hm : Meth X.K C m f) (F : FnOk X.prog X.w X.K X.mg X.base CX k f fd ps sp) (hr : Room k X.A) (hb : Binds X.K fd ps [])
    (hx : ∀ σ, PassesAt CX X σ (E σ))
    (ht : eval (.Call (.Attribute o m apos) [] [] pos) X.env = (do
      let ov ← eval o X.env
      standAt apos.atName
      let (f, first) ← holding [ov] (getMethod ov m pl)
      callWith pos f first (backTo pos (starEach [] X.env)) (backToKw pos (keywordEach [] X.env)))) :
    PE X (.Call (.Attribute o m apos) [] [] pos) (tMethSD C m sp E ta tNil) := by
  refine ⟨fun pins s σ H Q I h => ?_⟩
  refine PySem.W.methodCall_KW (pl := pl) (thn (he.run pins s σ H _ I h) fun u s1 ⟨x, H1, I1, rx, a, dx, fs, ex, ea, l, q⟩ => ?_) ht
  subst ex
  obtain rfl : u = Value.ref a := rx
  refine getmeth_ok I1 ea c hm l ?_
  exact PySem.W.callWith_K0 (first := [.ref a]) I1.kIn hm.kp (run_fnSD (us := [.ref a]) (vs := [.ref a]) F hr hb .nil (hx σ) I1 (.cons rfl .nil) q)
theorem snd_mth (G : Good X Γ γ W P) (f : Nat) (c m : Str) (hb : Snd X γ W (den P b) (chk b Γ)) (ha : Snd X γ W (den P a) (chk a Γ)) : Snd X γ W (den P (.mth f c m b a)) (chk (.mth f c m b a) Γ) := by
  refine snd_ofV fun x h => ?_
  split at h
  case h_2 => cases h
  case h_1 v x apos es pos =>
    obtain ⟨h1, h8⟩ := band h
    obtain ⟨h1, h7⟩ := band h1
    obtain ⟨h1, h6⟩ := band h1
    obtain ⟨h1, h5⟩ := band h1
    obtain ⟨h1, h4⟩ := band h1
    obtain ⟨h1, h3⟩ := band h1
    obtain ⟨h0, h2⟩ := band h1
    have e1 := of_decide_eq_true h2
    subst e1
    have e5 := of_decide_eq_true h5
    obtain ⟨k, addr, fd, ps, C, F, hr, hc, cl, hm⟩ := G.fns h0 f _ (of_decide_eq_true h3)
    have bs := base_of b v h7 (plain_obj h6) x X.env
    have hform : methodCallForm (es.length + ([] : List Keyword).length) (backTo pos (starEach es X.env)) (backToKw pos (keywordEach [] X.env)) = true := by
      have := nostar a es h8 X.env pos
      have h9 : (backTo pos (starEach es X.env)).all (fun x => !x.1) = true := by
        rw [List.all_eq_true]
        intro y hy
        rw [List.any_eq_false] at this
        simpa using this y hy
      have e9 : backToKw pos (keywordEach [] X.env) = [] := rfl
      unfold methodCallForm
      rw [e9, h9]
      simpa using e5
    have ht := meth_tree bs hform h4
    refine ⟨?_, fun _ => rfl, fun _ _ _ z => nomatch z⟩
    have go : ∀ (b : Bool) {μ1 H1 σ ρ} {r : R D} {Q : VK}, PostR X.K γ W (relV X.K) μ1 H1 σ ρ (bif b then r else .bad) Q → b = true ∧ PostR X.K γ W (relV X.K) μ1 H1 σ ρ r Q := fun b {μ1 H1 σ ρ r Q} z => by
      cases b with
      | true => exact ⟨rfl, z⟩
      | false => exact z.elim
    have ins : ∀ {μ1 H1 σ ρ S1 d v}, Sim X.K μ1 σ H1 ρ S1 → RepV X.K H1 μ1 d v → mthOk S1 c x d = true → ∃ p dx gs, v = .ref p ∧ H1 p = some (.ins C dx gs) ∧ gs.lookup x = none := fun {μ1 H1 σ ρ S1 d v} s1 r1 ok => by
      unfold mthOk at ok
      split at ok
      case h_2 => cases ok
      case h_1 fs hi =>
        obtain ⟨n, p, C2, dx, gs, rfl, rfl, hS, hH, hc2, e3, r3, hm⟩ := s1.inst r1 hi
        have : C2 = C := by
          have := hc2.symm.trans hc
          cases this; rfl
        subst this
        exact ⟨p, dx, gs, rfl, hH, (lookup_rep x e3 r3).2 (Option.isNone_iff_eq_none.mp ok)⟩
    cases es with
    | nil =>
      have e0 : evs P a = fun ρ S => .ok [] S := by
        cases a <;> first | rfl | (exfalso; revert h8; simp [chk, Ck.ofE, Ck.no]; done)
      refine pe_imp (pe_mthSD0 (hb.e _ h7) cl hm F.ok hr F.bnd (fun σ => passAt G.tk σ) ht) fun σ H Q ⟨μ, ρ, S, s, q⟩ => ?_
      refine ⟨μ, ρ, S, s, (PostR.bind q).imp fun y H1 ⟨μ1, S1, d, le1, s1, r1, q1⟩ => ?_⟩
      obtain ⟨ok, q2⟩ := go _ q1
      obtain ⟨p, dx, gs, e2, e3, e4⟩ := ins s1 r1 ok
      refine ⟨p, dx, gs, e2, e3, e4, ?_⟩
      change PostR X.K γ W (relV X.K) μ1 H1 σ ρ ((evs P a ρ S1).bind fun ds S2 => P f (d :: ds) S2) Q at q2
      rw [e0] at q2
      exact sp_of F.len s1 (.cons r1 .nil) q2
    | cons e es =>
      obtain ⟨t1, t2⟩ := star_a a e es h8 X.env
      refine pe_imp (pe_mthSD (hb.e _ h7) cl hm F.ok hr F.bnd (fun σ => passAt G.tk σ) (ha.a _ h8) t1 (t2 pos) ht) fun σ H Q ⟨μ, ρ, S, s, q⟩ => ?_
      refine ⟨μ, ρ, S, s, (PostR.bind q).imp fun y H1 ⟨μ1, S1, d, le1, s1, r1, q1⟩ => ?_⟩
      obtain ⟨ok, q2⟩ := go _ q1
      obtain ⟨p, dx, gs, e2, e3, e4⟩ := ins s1 r1 ok
      exact ⟨p, dx, gs, e2, e3, e4, μ1, ρ, S1, s1, (PostR.bind q2).imp fun xs H2 ⟨μ2, S2, ds, le2, s2, r2, q3⟩ => sp_of F.len s2 (.cons (RepV.mono le2 r1) r2) q3⟩
end
end Ng

set_option Elab.async false
set_option linter.all false
set_option maxRecDepth 100000
set_option maxHeartbeats 4000000
/-! isinstance, range, comprehensions; the whole induction. -/
namespace Ng
open PySem PySem.Spec PyProof.Rows L2
section
variable {X : Cx} {γ : Nat → Value} {W : WX} {Γ : Gam} {P : Nat → List D → Store → R D} {a b c : E}
/-! ### isinstance -/
def tnames : List String := ["NoneType", "bool", "int", "str", "tuple", "list", "dict"]
theorem kit_tab : (tnames.all fun n => [Ty.int, .bool, .str, .tuple, .list, .dict].all fun t => decide (kitB n (tyName t) = some (n == tyName t || (n == "bool" && t == .int)))) = true := by decide +kernel
theorem kit_at {n : String} (hn : n ∈ tnames) (t : Ty) : kitB n (tyName t) = some (n == tyName t || (n == "bool" && t == .int)) := by
  have h := List.all_eq_true.mp kit_tab n hn
  have h2 := List.all_eq_true.mp h t (by cases t <;> decide)
  exact of_decide_eq_true h2
theorem ty_of {K : PySem.W.Frag} {μ : Mu} {H : Hp} {σ : L2.St} {ρ : Env} {S : Store} (s : Sim K μ σ H ρ S) {d : D} {v : V} (r : RepV K H μ d v) (hx : ∃ t b, isTy S t d = some b) :
    ∃ n, n ∈ tnames ∧ TyY K H v (.type n) ∧ ∀ t, isTy S t d = some (n == tyName t || (n == "bool" && t == .int)) := by
  obtain ⟨t0, b0, h0⟩ := hx
  cases r with
  | non => exact ⟨"NoneType", by decide, .x (.base .non), fun t => by cases t <;> rfl⟩
  | bl b => exact ⟨"bool", by decide, .x (.base (.bl b)), fun t => by cases t <;> rfl⟩
  | int i => exact ⟨"int", by decide, .x (.base (.int i)), fun t => by cases t <;> rfl⟩
  | str x => exact ⟨"str", by decide, .x (.base (.str x)), fun t => by cases t <;> rfl⟩
  | tup h r =>
    refine ⟨"tuple", by decide, ?_, fun t => by cases t <;> rfl⟩
    rcases h with (h | ⟨o, h⟩) | ⟨o, its, n, h, c, _⟩
    · exact .x (.base (.tup h))
    · exact .x (.fTuple h)
    · exact .x (.kTuple h c)
  | @ref n a hm =>
    simp only [isTy] at h0 ⊢
    split at h0
    · rename_i es e
      obtain ⟨vs, h1, _⟩ := s.s.cell n _ _ e hm
      exact ⟨"list", by decide, .x (.base (.lst h1)), fun t => by cases t <;> rfl⟩
    · rename_i es e
      obtain ⟨vs, h1, _⟩ := s.s.cell n _ _ e hm
      refine ⟨"list", by decide, ?_, fun t => by cases t <;> rfl⟩
      rcases h1 with ⟨o, h1⟩ | ⟨o, its, n, h1, c, _⟩
      · exact .x (.base (.frz h1))
      · exact .x (.kList h1 c)
    · rename_i es e
      obtain ⟨o, h1, h2⟩ := s.s.cell n _ _ e hm
      exact ⟨"dict", by decide, .dx (.inl h1), fun t => by cases t <;> rfl⟩
    · rename_i es e
      obtain ⟨o, h1, h2⟩ := s.s.cell n _ _ e hm
      cases o <;> first | exact h2.elim | skip
      exact ⟨"dict", by decide, .x (.base (.dK h1)), fun t => by cases t <;> rfl⟩
    · rename_i es e
      obtain ⟨o, xs, h1, h2⟩ := s.s.cell n _ _ e hm
      exact ⟨"dict", by decide, .dx (.inr ⟨o, h1⟩), fun t => by cases t <;> rfl⟩
    · cases h0
  | exc c a => cases h0
theorem kit_any {K : PySem.W.Frag} {S : Store} {d : D} {n : String} (hn : n ∈ tnames) (h : ∀ t, isTy S t d = some (n == tyName t || (n == "bool" && t == .int))) :
    ∀ (ts : List Ty) (b : Bool), isTys S d ts = some b → PySem.W.kitAny K (.type n) (ts.map fun t => Value.type (tyName t)) = some b
  | [], b, e => by cases e; rfl
  | t :: ts, b, e => by
    simp only [isTys, h t] at e
    split at e
    case h_2 => cases e
    case h_1 x y e1 e2 =>
      cases e1
      cases e
      have ih := kit_any (K := K) hn h ts y e2
      refine kitAny_cons (kit_ty (kit_at hn t)) (fun z => ?_) (fun z => ?_)
      · rw [z]; simpa using ih
      · rw [z]; rfl
theorem pe_ty {Γ : Gam} (G : Good X Γ γ W P) (t : Ty) : ∀ e, tyExpr Γ t e = true → PE X e (tC (.ty (tyName t))) := by
  intro e h
  unfold tyExpr at h
  split at h
  case h_2 => cases h
  case h_1 x p =>
    obtain ⟨h1, h2⟩ := band h
    have e1 := of_decide_eq_true h1
    subst e1
    obtain ⟨g1, g2⟩ := bl_of G h2
    cases t
    · exact pe_bltn g1 g2 (u := .type "int") (by decide +kernel) rfl
    · exact pe_bltn g1 g2 (u := .type "bool") (by decide +kernel) rfl
    · exact pe_bltn g1 g2 (u := .type "str") (by decide +kernel) rfl
    · exact pe_bltn g1 g2 (u := .type "tuple") (by decide +kernel) rfl
    · exact pe_bltn g1 g2 (u := .type "list") (by decide +kernel) rfl
    · exact pe_bltn g1 g2 (u := .type "dict") (by decide +kernel) rfl
theorem ty_star {t : Ty} {e : Expr} (h : tyExpr Γ t e = true) : ∀ es env, starEach (e :: es) env = (false, eval e env) :: starEach es env := by
  intro es env
  cases e <;> first | rfl | (exfalso; simp [tyExpr] at h)
theorem pa_tys (G : Good X Γ γ W P) : ∀ (ts : List Ty) (es : List Expr), tyExprs Γ ts es = true → PA X es (fun _ H Q => Q (ts.map fun t => V.ty (tyName t)) H)
  | [], [], _ => pa_nil
  | [], _ :: _, h => nomatch h
  | _ :: _, [], h => nomatch h
  | t :: ts, e :: es, h => by
    obtain ⟨h1, h2⟩ := band h
    exact pa_cons (pe_ty G t e h1) (pa_tys G ts es h2) (ty_star h1 es _)
theorem paired_ty (ts : List Ty) : Paired ClsV (ts.map fun t => V.ty (tyName t)) (ts.map fun t => Value.type (tyName t)) := by
  induction ts with
  | nil => exact .nil
  | cons t ts ih => exact .cons (.ty _) ih
theorem isTys_some {S : Store} {d : D} : ∀ {ts : List Ty} {b : Bool}, ts ≠ [] → isTys S d ts = some b → ∃ t b, isTy S t d = some b
  | [], _, h, _ => absurd rfl h
  | t :: ts, b, _, e => by
    simp only [isTys] at e
    split at e
    case h_1 x y e1 e2 => exact ⟨t, x, e1⟩
    case h_2 => cases e
theorem pe_cls (G : Good X Γ γ W P) {y : Str} {tbl : List Bool} {p : Pos} (h1 : glX Γ y = true) (h2 : nodbg y = true) (h3 : Γ.isa.lookup y = some tbl) :
    ∃ cv v, (∀ u, RelV v u → u = cv) ∧ PE X (.Name y p) (tC v) ∧ ∀ c b, tbl[c]? = some b → PySem.W.kitOne X.K (γ c) cv = some b ∧ PySem.W.exmOne X.K (γ c) cv = some b := by
  obtain ⟨cv, v, r1, r2, r3, r4⟩ := G.isa _ _ h3
  refine ⟨cv, v, r1, ?_, r4⟩
  have hg := gl_of G h1
  obtain ⟨hd, _, _⟩ := nodbg_of h2
  rcases r3 with r3 | ⟨r3, r5, r6⟩
  · exact pe_glob hg r3 r2 hd
  · exact pe_bltn hg r3 r5 r2 r6 hd
theorem snd_isx (G : Good X Γ γ W P) (y : Str) (tbl : List Bool) (ha : Snd X γ W (den P a) (chk a Γ)) : Snd X γ W (den P (.isx a y tbl)) (chk (.isx a y tbl) Γ) := by
  refine snd_ofV fun x h => ?_
  split at h
  case h_2 => cases h
  case h_1 x p z y' p2 pos =>
    obtain ⟨h, h8⟩ := band h
    obtain ⟨h, h7⟩ := band h
    obtain ⟨h, h6⟩ := band h
    obtain ⟨h, h5⟩ := band h
    obtain ⟨h, h4⟩ := band h
    obtain ⟨h, h3⟩ := band h
    obtain ⟨h1, h2⟩ := band h
    have e1 := of_decide_eq_true h2
    have e2 := of_decide_eq_true h4
    subst e1 e2
    obtain ⟨n1, n2⟩ := bl_of G h3
    obtain ⟨cv, v, c1, c2, c3⟩ := pe_cls G (p := p2) h5 h6 (of_decide_eq_true h7)
    refine ⟨⟨fun pins s σ H Q I h => ?_⟩, fun _ => rfl, fun _ _ _ z => nomatch z⟩
    obtain ⟨μ, ρ, S, sm, q⟩ := h
    refine wpAny_Call_Name_kw (ld_blt I n1 n2 PyProof.Rows.boot_isinstance ?_ (by decide) (by decide))
    have hA : PA X [z, .Name y' p2] (tCons (tE X.K γ W (den P a).v) (tCons (tC v) tNil)) := pa_cons (ha.e _ h8) (pa_cons c2 pa_nil rfl) (star1 a z h8 _ _)
    refine PyProof.Rows.callWith_builtin1 (thn (hA.run pos pins s σ H (fun vs H1 => ∃ x, vs = [x, v] ∧ ∃ μ1 S1 d, Sim X.K μ1 σ H1 ρ S1 ∧ RepV X.K H1 μ1 d x ∧ PostR X.K γ W (relV X.K) μ1 H1 σ ρ (isxR P tbl d S1) Q) I ⟨μ, ρ, S, sm, (PostR.bind q).imp fun x H1 ⟨μ1, S1, d, le1, s1, r1, q1⟩ => ?_⟩) fun us s1 ⟨vs, H1, I1, r1, hq⟩ => ?_) (star1 a z h8 _ _) rfl
    · exact ⟨x, rfl, μ1, S1, d, s1, r1, q1⟩
    · obtain ⟨x, rfl, μ1, S1, d, sm1, rd, q1⟩ := hq
      unfold isxR at q1
      split at q1
      case h_2 => exact q1.elim
      case h_1 c a' =>
        cases rd
        have hb : P hotq [.exc c a'] S1 ≠ .bad := fun e => by rw [e] at q1; exact q1
        obtain ⟨e, C, hC, hcall⟩ := G.hot h1 c a' S1 hb
        rw [e] at q1
        change PostR X.K γ W (relV X.K) μ1 H1 σ ρ (match tbl[c]? with | some b => .ok (.bl b) S1 | none => .bad) Q at q1
        split at q1
        case h_2 => exact q1.elim
        case h_1 b hb2 =>
          have k := (c3 c b hb2).1
          rw [hC] at k
          exact hcall pins s1 σ H1 _ us Q I1 r1 ⟨v, cv, b, rfl, c1, k, q1.here sm1 (.bl b)⟩
theorem snd_isi (G : Good X Γ γ W P) (ts : List Ty) (multi : Bool) (ha : Snd X γ W (den P a) (chk a Γ)) : Snd X γ W (den P (.isi a ts multi)) (chk (.isi a ts multi) Γ) := by
  refine snd_ofV fun x h => ?_
  split at h
  case h_2 => cases h
  case h_1 x p y z pos =>
    obtain ⟨h1, h4⟩ := band h
    obtain ⟨g1, h3⟩ := band h1
    obtain ⟨g2, h2⟩ := band g1
    obtain ⟨g3, h5⟩ := band g2
    obtain ⟨h6, h7⟩ := band h5
    have h8 := of_decide_eq_true h7
    have e1 := of_decide_eq_true g3
    clear h g1 h1 g2 g3 h5 h7
    subst e1
    obtain ⟨n1, n2⟩ := bl_of G h2
    refine ⟨?_, fun _ => rfl, fun _ _ _ z => nomatch z⟩
    cases multi with
    | false =>
      change tyExprs Γ ts [z] = true at h4
      have : ∃ t, ts = [t] ∧ tyExpr Γ t z = true := by
        cases ts with
        | nil => cases h4
        | cons t ts =>
          cases ts with
          | nil => exact ⟨t, rfl, (band h4).1⟩
          | cons => obtain ⟨_, h6⟩ := band h4; cases h6
      obtain ⟨t, rfl, ht⟩ := this
      refine pe_imp (pe_callB call_isiY n1 n2 PyProof.Rows.boot_isinstance (pa_cons (ha.e _ h3) (pa_cons (pe_ty G t z ht) pa_nil (ty_star ht _ _)) (star1 a y h3 _ _)) (by decide) (by decide) (star1 a y h3 _ _) (by rw [ty_star ht]; rfl)) fun σ H Q ⟨μ, ρ, S, s, q⟩ => ?_
      refine ⟨μ, ρ, S, s, (PostR.bind q).imp fun x H1 ⟨μ1, S1, d, le1, s1, r1, q1⟩ => ?_⟩
      unfold isiR at q1
      split at q1
      case h_2 => exact q1.elim
      case h_1 b e =>
        obtain ⟨n, hn, ty, hk⟩ := ty_of s1 r1 (isTys_some (by simp) e)
        refine ⟨x, .ty (tyName t), .type n, .type (tyName t), _, rfl, .ty _, ty, kit_ty (kit_at hn t), ?_⟩
        simp only [isTys, hk t] at e
        cases e
        simpa using q1.here s1 (.bl _)
    | true =>
      rw [cond_true] at h4
      split at h4
      case h_2 => cases h4
      case h_1 es kk pp =>
        refine pe_imp (pe_callB call_isiTY n1 n2 PyProof.Rows.boot_isinstance (pa_cons (ha.e _ h3) (pa_cons (pe_tup (pa_tys G ts es h4)) pa_nil rfl) (star1 a y h3 _ _)) (by decide) (by decide) (star1 a y h3 _ _) rfl) fun σ H Q ⟨μ, ρ, S, s, q⟩ => ?_
        refine ⟨μ, ρ, S, s, (PostR.bind q).imp fun x H1 ⟨μ1, S1, d, le1, s1, r1, q1⟩ => ?_⟩
        unfold isiR at q1
        split at q1
        case h_2 => exact q1.elim
        case h_1 b e =>
          refine ⟨?_, fun p hp => ?_⟩
          · rw [List.length_map]
            exact Nat.le_trans h8 (by decide)
          · cases ts with
            | nil => cases h6
            | cons t ts =>
              have s2 := s1.new (o := .tup ((t :: ts).map fun t => V.ty (tyName t))) hp
              obtain ⟨n, hn, ty, hk⟩ := ty_of s2 (RepV.mono (le_new hp) r1) (isTys_some (by simp) e)
              exact ⟨x, p, _, .type n, _, b, rfl, upd_same, paired_ty _, ty, kit_any hn hk _ b e, q1.later (le_new hp) s2 (.bl _)⟩
/-! ### range -/
theorem PostR.bindE {α α' β β' : Type} {K : PySem.W.Frag} {rel : Mu → Hp → α → β → Prop} {rel' : Mu → Hp → α' → β' → Prop} {μ : Mu} {H : Hp} {σ : L2.St} {ρ : Env} {r : R α} {k : α → Store → R α'} {Q : β' → Hp → Prop} (h : PostR K γ W rel' μ H σ ρ (r.bind k) Q) :
    PostR K γ W rel μ H σ ρ r fun b H1 => ∃ μ1 S1 a, r = .ok a S1 ∧ Le K μ H μ1 H1 ∧ Sim K μ1 σ H1 ρ S1 ∧ rel μ1 H1 a b ∧ PostR K γ W rel' μ1 H1 σ ρ (k a S1) Q := by
  cases r with
  | ok a S' => exact fun μ' H' b l s rl => ⟨μ', S', a, rfl, l, s, rl, PostR.base l h⟩
  | exc c fs S' => exact h
  | bad => exact h
theorem evs_len : ∀ (a : E) es, (chk a Γ).a es = true → ∀ {ρ S ds S'}, (den P a).a ρ S = .ok ds S' → ds.length = es.length
  | .nil, es, h, ρ, S, ds, S', e => by
    cases es with
    | nil => cases e; rfl
    | cons => cases h
  | .cons a as, es, h, ρ, S, ds, S', e => by
    cases es with
    | nil => cases h
    | cons x r =>
      obtain ⟨h1, h2⟩ := band h
      change ((den P a).v ρ S).bind (fun x S1 => ((den P as).a ρ S1).bind fun xs S2 => .ok (x :: xs) S2) = .ok ds S' at e
      cases e1 : (den P a).v ρ S with
      | ok d S1 =>
        rw [e1] at e
        change ((den P as).a ρ S1).bind (fun xs S2 => .ok (d :: xs) S2) = .ok ds S' at e
        cases e2 : (den P as).a ρ S1 with
        | ok ds2 S2 =>
          rw [e2] at e
          cases e
          have ih := evs_len as r h2 e2
          simp [ih]
        | exc c fs S2 => rw [e2] at e; cases e
        | bad => rw [e2] at e; cases e
      | exc c fs S2 => rw [e1] at e; cases e
      | bad => rw [e1] at e; cases e
  | .var _, _, h, _, _, _, _, _ => nomatch h
  | .non, _, h, _, _, _, _, _ => nomatch h
  | .bl _, _, h, _, _, _, _, _ => nomatch h
  | .int _, _, h, _, _, _, _, _ => nomatch h
  | .str _, _, h, _, _, _, _, _ => nomatch h
  | .glb _ _, _, h, _, _, _, _, _ => nomatch h
  | .bin _ _ _, _, h, _, _, _, _, _ => nomatch h
  | .neg _, _, h, _, _, _, _, _ => nomatch h
  | .cmp _ _ _, _, h, _, _, _, _, _ => nomatch h
  | .chain _ _ _ _ _, _, h, _, _, _, _, _ => nomatch h
  | .not _, _, h, _, _, _, _, _ => nomatch h
  | .and _ _, _, h, _, _, _, _, _ => nomatch h
  | .or _ _, _, h, _, _, _, _, _ => nomatch h
  | .ite _ _ _, _, h, _, _, _, _, _ => nomatch h
  | .tup _, _, h, _, _, _, _, _ => nomatch h
  | .lst _, _, h, _, _, _, _, _ => nomatch h
  | .ix _ _, _, h, _, _, _, _, _ => nomatch h
  | .slc _ _ _, _, h, _, _, _, _, _ => nomatch h
  | .call _ _, _, h, _, _, _, _, _ => nomatch h
  | .bi _ _, _, h, _, _, _, _, _ => nomatch h
  | .me _ _ _, _, h, _, _, _, _, _ => nomatch h
  | .isi _ _ _, _, h, _, _, _, _, _ => nomatch h
  | .rng _, _, h, _, _, _, _, _ => nomatch h
  | .enm _, _, h, _, _, _, _, _ => nomatch h
  | .zp _, _, h, _, _, _, _, _ => nomatch h
  | .dd0, _, h, _, _, _, _, _ => nomatch h
  | .kd0, _, h, _, _, _, _, _ => nomatch h
  | .kdd _ _, _, h, _, _, _, _, _ => nomatch h
  | .pop0 _, _, h, _, _, _, _, _ => nomatch h
  | .lk _ _, _, h, _, _, _, _, _ => nomatch h
  | .dc _ _ _ _ _ _, _, h, _, _, _, _, _ => nomatch h
  | .dc2 _ _ _ _ _ _ _ _, _, h, _, _, _, _, _ => nomatch h
  | .rpl6 _ _ _ _ _ _ _ _ _, _, h, _, _, _, _, _ => nomatch h
  | .dd1 _ _, _, h, _, _, _, _, _ => nomatch h
  | .dd2 _ _ _ _, _, h, _, _, _, _, _ => nomatch h
  | .bln _, _, h, _, _, _, _, _ => nomatch h
  | .gix _ _ _, _, h, _, _, _, _, _ => nomatch h
  | .fjs _, _, h, _, _, _, _, _ => nomatch h
  | .fmt _, _, h, _, _, _, _, _ => nomatch h
  | .sm _ _ _, _, h, _, _, _, _, _ => nomatch h
  | .sm0 _ _, _, h, _, _, _, _, _ => nomatch h
  | .gdx _ _ _, _, h, _, _, _, _, _ => nomatch h
  | .gdin _ _ _ _, _, h, _, _, _, _, _ => nomatch h
  | .giin _ _ _ _, _, h, _, _, _, _, _ => nomatch h
  | .lrv _, _, h, _, _, _, _, _ => nomatch h
  | .itm _, _, h, _, _, _, _, _ => nomatch h
  | .lc _ _ _ _ _, _, h, _, _, _, _, _ => nomatch h
theorem snd_rng (G : Good X Γ γ W P) (ha : Snd X γ W (den P a) (chk a Γ)) : Snd X γ W (den P (.rng a)) (chk (.rng a) Γ) where
  e := fun _ h => nomatch h
  t := fun _ h => nomatch h
  w := fun _ _ _ h => nomatch h
  a := fun _ h => nomatch h
  j := fun _ h => nomatch h
  k := fun _ h => nomatch h
  o := fun x h => by cases x <;> cases h
  i := fun x tg h => by
    simp only [chk] at h
    split at h
    case h_2 => cases h
    case h_1 x p es pos =>
      obtain ⟨h1, h4⟩ := band h
      obtain ⟨g1, h3⟩ := band h1
      obtain ⟨g2, h2⟩ := band g1
      have e1 := of_decide_eq_true g2
      clear h g1 h1 g2
      subst e1
      obtain ⟨n1, n2⟩ := bl_of G h2
      cases es with
      | nil => cases h3
      | cons e es =>
        obtain ⟨s1, s2⟩ := star_a a e es h4 X.env
        cases es with
        | nil =>
          refine pi_imp (pi_range1 n1 n2 (ha.a _ h4) (by rw [s1]; rfl)) fun σ H R ⟨μ, ρ, S, s, q⟩ => ?_
          refine ⟨μ, ρ, S, s, (PostR.bindE q).imp fun xs H1 ⟨μ1, S1, ds, eq, le1, s1, r1, q1⟩ => ?_⟩
          have hl := evs_len a _ h4 eq
          unfold rngR rgD at q1
          split at q1
          case h_2 => exact q1.elim
          case h_1 it e =>
            split at e
            · obtain ⟨v, rfl, rv⟩ := vs1 r1
              cases rv
              split at e
              case isFalse => cases e
              case isTrue hz =>
                cases e
                exact ⟨_, rfl, by omega, by omega, q1.here s1 wk_rng⟩
            · exfalso; simp at hl
            · exfalso; simp at hl
            · cases e
        | cons e2 es =>
          cases es with
          | cons e3 es =>
            cases es with
            | cons => simp at h3
            | nil =>
              obtain ⟨s3, s4, s5⟩ : starEach [e2, e3] X.env = [(false, eval e2 X.env), (false, eval e3 X.env)] ∧ starEach [e3] X.env = [(false, eval e3 X.env)] ∧ True := by
                cases a <;> first | (exfalso; revert h4; simp [chk, Ck.ofE, Ck.no]; done) | skip
                rename_i a1 a2
                obtain ⟨_, h5⟩ := band h4
                obtain ⟨s5, _⟩ := star_a a2 e2 [e3] h5 X.env
                cases a2 <;> first | (exfalso; revert h5; simp [chk, Ck.ofE, Ck.no]; done) | skip
                rename_i a3 a4
                obtain ⟨_, h6⟩ := band h5
                obtain ⟨s6, _⟩ := star_a a4 e3 [] h6 X.env
                exact ⟨by rw [s5, s6]; rfl, by rw [s6]; rfl, trivial⟩
              refine pi_imp (pi_range3 n1 n2 (ha.a _ h4) s1 (by rw [s3]; rfl)) fun σ H R ⟨μ, ρ, S, s, q⟩ => ?_
              refine ⟨μ, ρ, S, s, (PostR.bindE q).imp fun xs H1 ⟨μ1, S1, ds, eq, le1, s1, r1, q1⟩ => ?_⟩
              have hl := evs_len a _ h4 eq
              unfold rngR rgD at q1
              split at q1
              case h_2 => exact q1.elim
              case h_1 it e =>
                split at e
                · exfalso; simp at hl
                · exfalso; simp at hl
                · rename_i ia ib ic
                  cases r1 with
                  | cons rv rs =>
                    cases rs with
                    | cons ru rs =>
                      cases rs with
                      | cons rw' rs =>
                        cases rs
                        cases rv; cases ru; cases rw'
                        split at e
                        case isFalse => cases e
                        case isTrue hz =>
                          cases e
                          obtain ⟨rfl, hz⟩ := hz
                          exact ⟨_, _, _, _, rfl, RgC.neg (by omega) (by omega) (by omega) (by omega), q1.here s1 wk_rngN⟩
                · cases e
          | nil =>
            obtain ⟨s3, s4⟩ : starEach [e2] X.env = [(false, eval e2 X.env)] ∧ True := by
              cases a <;> first | (exfalso; revert h4; simp [chk, Ck.ofE, Ck.no]; done) | skip
              rename_i a1 a2
              obtain ⟨_, h5⟩ := band h4
              obtain ⟨s5, _⟩ := star_a a2 e2 [] h5 X.env
              exact ⟨by rw [s5]; rfl, trivial⟩
            refine pi_imp (pi_range2 n1 n2 (ha.a _ h4) (by rw [s1, s3]) s3) fun σ H R ⟨μ, ρ, S, s, q⟩ => ?_
            refine ⟨μ, ρ, S, s, (PostR.bindE q).imp fun xs H1 ⟨μ1, S1, ds, eq, le1, s1, r1, q1⟩ => ?_⟩
            have hl := evs_len a _ h4 eq
            unfold rngR rgD at q1
            split at q1
            case h_2 => exact q1.elim
            case h_1 it e =>
              split at e
              · exfalso; simp at hl
              · obtain ⟨v, u, rfl, rv, ru⟩ := vs2 r1
                cases rv; cases ru
                split at e
                case isFalse => cases e
                case isTrue hz =>
                  cases e
                  exact ⟨_, _, rfl, by omega, q1.here s1 wk_rng⟩
              · exfalso; simp at hl
              · cases e
theorem wk_zipT {K : PySem.W.Frag} {μ : Mu} {H : Hp} {ds es : List D} {vs ws : List V} {a b : Addr} (hq : SqT K H a vs) (r : RepVs K H μ ds vs) (hq2 : SqT K H b ws) (r2 : RepVs K H μ es ws) : Wk K μ H ⟨zipD ds es, none⟩ (RZ.ItzT K a b) := by
  intro μ1 σ H1 ρ S i le s _
  have hqa := le.tup _ _ hq
  have ra := r.mono le
  have hqb := le.tup _ _ hq2
  have rb := r2.mono le
  refine ⟨fun hn => ⟨vs, ws, hqa, hqb, ?_⟩, fun d hd => ?_⟩
  · have := List.getElem?_eq_none_iff.mp hn
    rw [r.length, r2.length]
    simp [zipD] at this
    omega
  · unfold zipD at hd
    rw [List.getElem?_map] at hd
    cases e : (ds.zip es)[i]? with
    | none => rw [e] at hd; cases hd
    | some p =>
      rw [e] at hd
      cases hd
      obtain ⟨p1, p2⟩ := p
      obtain ⟨e1, e2⟩ := List.getElem?_zip_eq_some.mp e
      obtain ⟨v, h1, h2⟩ := ra.get e1
      obtain ⟨u, h3, h4⟩ := rb.get e2
      refine ⟨⟨vs, ws, v, u, hqa, hqb, h1, h3⟩, fun x H' ⟨T, x1, y1, ex, hT, eH, hx, hy⟩ => ?_⟩
      subst ex eH
      have := hx vs hqa
      rw [h1] at this
      cases this
      have := hy ws hqb
      rw [h3] at this
      cases this
      exact ⟨μ1, le_new hT, s.new hT, .tup (.of upd_same) (.cons (h2.mono (le_new hT)) (.cons (h4.mono (le_new hT)) .nil))⟩
theorem wk_zipM {K : PySem.W.Frag} {μ : Mu} {H : Hp} {n : Nat} {ds es : List D} {ws : List V} {a b : Addr} (hm : μ[n]? = some a) (hq2 : SqT K H b ws) (r2 : RepVs K H μ es ws) : Wk K μ H ⟨zipD ds es, some (n, .lst ds)⟩ (ItzM K a b) := by
  intro μ1 σ H1 ρ S i le s hck
  have hS : S[n]? = some (.lst ds) := by simpa [ckS] using hck
  obtain ⟨vs, h1, ra⟩ := s.s.cell n _ _ hS (le.at hm)
  have hqa : SqL K H1 a vs := .of h1
  have hqb := le.tup _ _ hq2
  have rb := r2.mono le
  refine ⟨fun hn => ⟨vs, ws, hqa, hqb, ?_⟩, fun d hd => ?_⟩
  · have := List.getElem?_eq_none_iff.mp hn
    rw [ra.length, r2.length]
    simp [zipD] at this
    omega
  · unfold zipD at hd
    rw [List.getElem?_map] at hd
    cases e : (ds.zip es)[i]? with
    | none => rw [e] at hd; cases hd
    | some p =>
      rw [e] at hd
      cases hd
      obtain ⟨p1, p2⟩ := p
      obtain ⟨e1, e2⟩ := List.getElem?_zip_eq_some.mp e
      obtain ⟨v, h1', h2⟩ := ra.get e1
      obtain ⟨u, h3, h4⟩ := rb.get e2
      refine ⟨⟨vs, ws, v, u, hqa, hqb, h1', h3⟩, fun x H' ⟨T, x1, y1, ex, hT, eH, hx, hy⟩ => ?_⟩
      subst ex eH
      have := hx vs hqa
      rw [h1'] at this
      cases this
      have := hy ws hqb
      rw [h3] at this
      cases this
      exact ⟨μ1, le_new hT, s.new hT, .tup (.of upd_same) (.cons (h2.mono (le_new hT)) (.cons (h4.mono (le_new hT)) .nil))⟩
theorem enD_get : ∀ (ds : List D) (k i : Nat), (enD k ds)[i]? = (ds[i]?).map fun d => .tup [.int ((k + i : Nat) : Int), d]
  | [], k, i => by simp [enD]
  | d :: ds, k, 0 => by simp [enD]
  | d :: ds, k, i + 1 => by
    simp only [enD, List.getElem?_cons_succ]
    rw [enD_get ds (k + 1) i, show k + 1 + i = k + (i + 1) by omega]
theorem wk_enumT {K : PySem.W.Frag} {μ : Mu} {H : Hp} {ds : List D} {vs : List V} {a : Addr} (hq : SqT K H a vs) (r : RepVs K H μ ds vs) : Wk K μ H ⟨enD 0 ds, none⟩ (IteT K a) := by
  intro μ1 σ H1 ρ S i le s _
  have hqa := le.tup _ _ hq
  have ra := r.mono le
  refine ⟨fun hn => ⟨vs, hqa, ?_⟩, fun d hd => ?_⟩
  · rw [enD_get, Option.map_eq_none_iff, List.getElem?_eq_none_iff] at hn
    rw [r.length]; exact hn
  · rw [enD_get] at hd
    obtain ⟨x, e1, rfl⟩ := Option.map_eq_some_iff.mp hd
    obtain ⟨v, h1, h2⟩ := ra.get e1
    refine ⟨⟨vs, v, hqa, h1⟩, fun y H' ⟨T, x1, ex, hT, eH, hx⟩ => ?_⟩
    subst ex eH
    have := hx vs hqa
    rw [h1] at this
    cases this
    rw [Nat.zero_add]
    exact ⟨μ1, le_new hT, s.new hT, .tup (.of upd_same) (.cons (.int _) (.cons (h2.mono (le_new hT)) .nil))⟩
theorem wk_enumL {K : PySem.W.Frag} {μ : Mu} {H : Hp} {n : Nat} {ds : List D} {a : Addr} (hm : μ[n]? = some a) : Wk K μ H ⟨enD 0 ds, some (n, .lst ds)⟩ (Ite K a) := by
  intro μ1 σ H1 ρ S i le s hck
  have hS : S[n]? = some (.lst ds) := by simpa [ckS] using hck
  obtain ⟨vs, h1, ra⟩ := s.s.cell n _ _ hS (le.at hm)
  have hqa : SqL K H1 a vs := .of h1
  refine ⟨fun hn => ⟨vs, hqa, ?_⟩, fun d hd => ?_⟩
  · rw [enD_get, Option.map_eq_none_iff, List.getElem?_eq_none_iff] at hn
    rw [ra.length]; exact hn
  · rw [enD_get] at hd
    obtain ⟨x, e1, rfl⟩ := Option.map_eq_some_iff.mp hd
    obtain ⟨v, h1', h2⟩ := ra.get e1
    refine ⟨⟨vs, v, hqa, h1'⟩, fun y H' ⟨T, x1, ex, hT, eH, hx⟩ => ?_⟩
    subst ex eH
    have := hx vs hqa
    rw [h1'] at this
    cases this
    rw [Nat.zero_add]
    exact ⟨μ1, le_new hT, s.new hT, .tup (.of upd_same) (.cons (.int _) (.cons (h2.mono (le_new hT)) .nil))⟩
theorem star_2 : ∀ (a : E) e e2, (chk a Γ).a [e, e2] = true → ∀ env, starEach [e2] env = [(false, eval e2 env)] := by
  intro a e e2 h env
  cases a <;> first | (exfalso; revert h; simp [chk, Ck.ofE, Ck.no]; done) | skip
  rename_i a1 a2
  obtain ⟨_, h5⟩ := band h
  obtain ⟨s5, _⟩ := star_a a2 e2 [] h5 env
  rw [s5]; rfl
theorem snd_zp (G : Good X Γ γ W P) (ha : Snd X γ W (den P a) (chk a Γ)) : Snd X γ W (den P (.zp a)) (chk (.zp a) Γ) where
  e := fun _ h => nomatch h
  t := fun _ h => nomatch h
  w := fun _ _ _ h => nomatch h
  a := fun _ h => nomatch h
  j := fun _ h => nomatch h
  k := fun _ h => nomatch h
  o := fun x h => by cases x <;> cases h
  i := fun x tg h => by
    simp only [chk] at h
    split at h
    case h_2 => cases h
    case h_1 x p es pos =>
      obtain ⟨h1, h5⟩ := band h
      obtain ⟨h1, h4⟩ := band h1
      obtain ⟨g1, h3⟩ := band h1
      obtain ⟨g2, h2⟩ := band g1
      have e1 := of_decide_eq_true g2
      clear h g1 h1 g2
      subst e1
      obtain ⟨n1, n2⟩ := bl_of G h2
      match es, h3, h5 with
      | [e, e2], _, h5 =>
        obtain ⟨s1, s2⟩ := star_a a e [e2] h5 X.env
        have s3 := star_2 a e e2 h5 X.env
        cases tg <;> first | (cases h4; done) | skip
        refine pi_imp (pi_zipM n1 n2 (ha.a _ h5) s1 (s2 pos)) fun σ H R ⟨μ, ρ, S, s, q⟩ => ?_
        refine ⟨μ, ρ, S, s, (PostR.bindE q).imp fun xs H1 ⟨μ1, S1, ds, eq, le1, s1, r1, q1⟩ => ?_⟩
        unfold zipR at q1
        split at q1
        · obtain ⟨v, u, rfl, rv, ru⟩ := vs2 r1
          cases rv with
          | tup hv rvs =>
            cases ru with
            | tup hu rus => exact ⟨_, _, _, _, rfl, .inr ⟨hv, hu, q1.here s1 (wk_zipT hv rvs hu rus)⟩⟩
        · obtain ⟨v, u, rfl, rv, ru⟩ := vs2 r1
          split at q1
          case h_2 => exact q1.elim
          case h_1 xs e =>
            cases ru with
            | tup hu rus =>
              obtain ⟨p, vs, rfl, h6, r3, hm⟩ := s1.list rv e
              exact ⟨_, _, _, _, rfl, .inl ⟨.of h6, hu, q1.here s1 (wk_zipM hm hu rus)⟩⟩
        · exact q1.elim
theorem snd_enm (G : Good X Γ γ W P) (ha : Snd X γ W (den P a) (chk a Γ)) : Snd X γ W (den P (.enm a)) (chk (.enm a) Γ) where
  e := fun _ h => nomatch h
  t := fun _ h => nomatch h
  w := fun _ _ _ h => nomatch h
  a := fun _ h => nomatch h
  j := fun _ h => nomatch h
  k := fun _ h => nomatch h
  o := fun x h => by cases x <;> cases h
  i := fun x tg h => by
    simp only [chk] at h
    split at h
    case h_2 => cases h
    case h_1 x p es pos =>
      obtain ⟨h1, h5⟩ := band h
      obtain ⟨h1, h4⟩ := band h1
      obtain ⟨g1, h3⟩ := band h1
      obtain ⟨g2, h2⟩ := band g1
      have e1 := of_decide_eq_true g2
      clear h g1 h1 g2
      subst e1
      obtain ⟨n1, n2⟩ := bl_of G h2
      match es, h3, h5 with
      | [e], _, h5 =>
        obtain ⟨s1, s2⟩ := star_a a e [] h5 X.env
        cases tg <;> first | (cases h4; done) | skip
        refine pi_imp (pi_enumM n1 n2 (ha.a _ h5) s1) fun σ H R ⟨μ, ρ, S, s, q⟩ => ?_
        refine ⟨μ, ρ, S, s, (PostR.bindE q).imp fun xs H1 ⟨μ1, S1, ds, eq, le1, s1, r1, q1⟩ => ?_⟩
        unfold enmR at q1
        split at q1
        · obtain ⟨v, rfl, rv⟩ := vs1 r1
          cases rv with
          | tup hv rvs => exact ⟨_, _, rfl, .inr ⟨hv, q1.here s1 (wk_enumT hv rvs)⟩⟩
        · obtain ⟨v, rfl, rv⟩ := vs1 r1
          split at q1
          case h_2 => exact q1.elim
          case h_1 xs e =>
            obtain ⟨p, vs, rfl, h6, r3, hm⟩ := s1.list rv e
            exact ⟨_, _, rfl, .inl ⟨.of h6, q1.here s1 (wk_enumL hm)⟩⟩
        · exact q1.elim
theorem RepVs.reverse {K : PySem.W.Frag} {H : Hp} {μ : Mu} {ds : List D} {vs : List V} (r : RepVs K H μ ds vs) : RepVs K H μ ds.reverse vs.reverse := by
  induction ds generalizing vs with
  | nil => cases r; exact .nil
  | cons d ds ih =>
    cases r with
    | cons h r =>
      rw [List.reverse_cons, List.reverse_cons]
      exact (ih r).append (.cons h .nil)
theorem snd_bln (G : Good X Γ γ W P) (hb : Snd X γ W (den P b) (chk b Γ)) : Snd X γ W (den P (.bln b)) (chk (.bln b) Γ) := by
  refine snd_ofV fun x h => ?_
  split at h
  case h_2 => cases h
  case h_1 v x apos pos =>
    obtain ⟨h1, h4⟩ := band h
    obtain ⟨h1, h3⟩ := band h1
    obtain ⟨h1, h2⟩ := band h1
    have e1 := of_decide_eq_true h1
    subst e1
    refine ⟨?_, fun _ => rfl, fun _ _ _ z => nomatch z⟩
    have hp : ∀ f ks p, v ≠ .Call f [] ks p := plain_obj h3
    refine pe_imp (pe_bits (hb.e _ h4) (base_of b v h4 hp _ _) h2) fun σ H Q ⟨μ, ρ, S, s, q⟩ => ?_
    refine ⟨μ, ρ, S, s, (PostR.bind q).imp fun x H1 ⟨μ1, S1, d, le1, s1, r1, q1⟩ => ?_⟩
    unfold blnR at q1
    split at q1
    · cases r1
      exact ⟨_, rfl, q1.here s1 (.int _)⟩
    · exact q1.elim
theorem snd_lrv (G : Good X Γ γ W P) (hb : Snd X γ W (den P b) (chk b Γ)) : Snd X γ W (den P (.lrv b)) (chk (.lrv b) Γ) := by
  refine snd_ofV fun x h => ?_
  split at h
  case h_2 => cases h
  case h_1 x p y p2 e pos2 pos =>
    obtain ⟨k5, h6⟩ := band h
    obtain ⟨k4, h5⟩ := band k5
    obtain ⟨k3, h4⟩ := band k4
    obtain ⟨k2, h3⟩ := band k3
    obtain ⟨k1, h2⟩ := band k2
    clear h k5 k4 k3 k2
    have e1 := of_decide_eq_true h2
    have e2 := of_decide_eq_true h4
    subst e1 e2
    obtain ⟨n1, n2⟩ := bl_of G h3
    obtain ⟨n3, n4⟩ := bl_of G h5
    refine ⟨?_, fun _ => rfl, fun _ _ _ z => nomatch z⟩
    refine pe_imp (pe_lstRev (G.calm k1) n1 n2 n3 n4 (hb.e _ h6) (star1 b e h6 [] X.env)) fun σ H Q ⟨μ, ρ, S, s, q⟩ => ?_
    refine ⟨μ, ρ, S, s, (PostR.bind q).imp fun x H1 ⟨μ1, S1, d, le1, s1, r1, q1⟩ => ?_⟩
    unfold lrvR at q1
    split at q1
    · split at q1
      · rename_i ds e
        obtain ⟨p, vs, rfl, h7, r3, hm⟩ := s1.list r1 e
        exact ⟨_, _, rfl, .of h7, q1.newL s1 r3.reverse⟩
      · exact q1.elim
    · exact q1.elim
/-! ### targets -/
/-- what an assignment to names wants -/
def gT (K : PySem.W.Frag) (tg : E) : TG := fun v σ H Q => ∃ μ ρ S d ρ', Sim K μ σ H ρ S ∧ RepV K H μ d v ∧ asgT tg d ρ = some ρ' ∧
  ∀ σ', Sim K μ σ' H ρ' S → (∀ i, i ∉ tgSlots tg → σ'[i]? = σ[i]?) → Q σ' H
theorem RepE.set {K : PySem.W.Frag} {H : Hp} {μ : Mu} {σ : L2.St} {ρ : Env} {d : D} {v : V} (r : RepE K H μ σ ρ) (rv : RepV K H μ d v) (i : Nat) : RepE K H μ (σ.set i (some v)) (ρ.set i (some d)) := by
  refine ⟨by simp [r.1], fun j e h => ?_⟩
  by_cases hij : i = j
  · subst hij
    by_cases hi : i < ρ.length
    · rw [List.getElem?_set_self hi] at h
      cases h
      exact ⟨v, by rw [List.getElem?_set_self (by rw [r.1]; exact hi)], rv⟩
    · rw [List.getElem?_eq_none_iff.mpr (by simp; omega)] at h
      cases h
  · rw [List.getElem?_set_ne hij] at h
    obtain ⟨u, h1, h2⟩ := r.2 j e h
    exact ⟨u, by rw [List.getElem?_set_ne hij]; exact h1, h2⟩
theorem pg_nm (G : Good X Γ γ W P) {i : Nat} {x : Str} {p : Pos} (h : ckName Γ i x = true) : PG X (.Name x p) (gName i) := by
  obtain ⟨h1, h2⟩ := band h
  have hN : X.N[i]? = some x := by rw [G.N]; exact of_decide_eq_true h1
  have hs : X.env.scope.names = Γ.sc.names := by rw [G.sc]
  split at h2
  · rename_i e
    exact pg_name G.nd hN (.inl (by rw [hs]; exact e)) (.inr (by rw [hs]; exact e))
  · rename_i e
    exact pg_name G.nd hN (.inr (by rw [hs]; exact e)) (.inl (G.fn x h2))
  · cases h2
theorem pgs_nm (G : Good X Γ γ W P) : ∀ (ts : E) (es : List Expr), ckGs Γ ts es = true → ∃ t, PGs X es t ∧ (∀ vs σ H Q μ ρ S ds ρ', Sim X.K μ σ H ρ S → RepVs X.K H μ ds vs → asgT.asgTs ts ds ρ = some ρ' →
    (∀ σ', Sim X.K μ σ' H ρ' S → (∀ i, i ∉ tgSlots ts → σ'[i]? = σ[i]?) → Q σ' H) → t vs σ H Q) ∧ (assignEach es X.env).length = es.length ∧ (assignEach es X.env).findIdx? (·.1) = none ∧ ∀ ds ρ ρ', asgT.asgTs ts ds ρ = some ρ' → ds.length = es.length := by
  intro ts es
  induction es generalizing ts with
  | nil =>
    intro h
    unfold ckGs at h
    split at h <;> first | (cases h; done) | skip
    · refine ⟨gNil, pgs_nil, fun vs σ H Q μ ρ S ds ρ' s r e q => ?_, rfl, rfl, fun ds ρ ρ' e => ?_⟩
      · cases r with
        | nil => simp only [asgT.asgTs, Option.some.injEq] at e; subst e; exact ⟨rfl, q σ s fun _ _ => rfl⟩
        | cons => simp [asgT.asgTs] at e
      · cases ds with
        | nil => rfl
        | cons => simp [asgT.asgTs] at e
    · rename_i h1; cases h1
  | cons e es ih =>
    intro h
    unfold ckGs at h
    split at h <;> first | (cases h; done) | skip
    · rename_i h1; cases h1
    · rename_i i ts x p es' heq
      cases heq
      obtain ⟨h1, h2⟩ := band h
      obtain ⟨t, pt, ht, hl, hf, hd⟩ := ih ts h2
      refine ⟨gCons (gName i) t, pgs_cons (pg_nm G h1) pt, fun vs σ H Q μ ρ S ds ρ' s r e q => ?_, ?_, ?_, fun ds ρ ρ' e => ?_⟩
      · cases r with
        | nil => simp [asgT.asgTs] at e
        | cons rv rs =>
          simp only [asgT.asgTs] at e
          refine ⟨_, _, rfl, ht _ _ H Q μ _ S _ ρ' ⟨s.e.set rv i, s.s⟩ rs e fun σ' s' hs => q σ' s' fun j hj => ?_⟩
          simp only [tgSlots, List.mem_cons, not_or] at hj
          rw [hs j hj.2, List.getElem?_set_ne (Ne.symm hj.1)]
      · show (assignEach es X.env).length + 1 = _
        rw [hl]; rfl
      · show List.findIdx? (·.1) ((false, _) :: assignEach es X.env) = none
        rw [List.findIdx?_cons]
        simp [hf]
      · cases ds with
        | nil => simp [asgT.asgTs] at e
        | cons d ds =>
          simp only [asgT.asgTs] at e
          simp [hd ds _ ρ' e]
theorem pg_all (G : Good X Γ γ W P) (tg : E) (e : Expr) (h : ckG Γ tg e = true) : PG X e (gT X.K tg) := by
  unfold ckG at h
  split at h
  · rename_i i x p
    refine ⟨fun pins s σ H v u Q I r ⟨μ, ρ, S, d, ρ', s1, rv, e, q⟩ => (pg_nm G h).run pins s σ H v u Q I r ?_⟩
    simp only [asgT, Option.some.injEq] at e
    subst e
    exact q _ ⟨s1.e.set rv i, s1.s⟩ fun j hj => by rw [List.getElem?_set_ne (by simpa [tgSlots, eq_comm] using hj)]
  · rename_i ts es k p
    obtain ⟨h1, h2⟩ := band h
    obtain ⟨t, pt, ht, hl, hf, hd⟩ := pgs_nm G ts es h2
    refine ⟨fun pins s σ H v u Q I r ⟨μ, ρ, S, d, ρ', s1, rv, e, q⟩ => (pg_tup (n := es.length) (G.calm h1) pt hl hf).run pins s σ H v u Q I r ?_⟩
    cases rv with
    | tup g1 g2 => exact ⟨_, _, rfl, g1, by rw [g2.length]; exact hd _ ρ ρ' e, ht _ σ H Q μ ρ S _ ρ' s1 g2 e q⟩
    | _ => cases e
  · cases h
/-! ### comprehensions -/
theorem wipe_same {σ2 σ : L2.St} : ∀ {own : List Nat}, σ2.length = σ.length → (∀ i, i ∉ own → σ2[i]? = σ[i]?) → wipe σ2 own = wipe σ own := by
  intro own hl h
  apply List.ext_getElem?
  intro i
  have key : ∀ (τ : L2.St) (vs : List Nat), (wipe τ vs)[i]? = if i ∈ vs then (if i < τ.length then some none else none) else τ[i]? := by
    intro τ vs
    induction vs with
    | nil => simp [wipe]
    | cons v vs ih =>
      show ((wipe τ vs).set v none)[i]? = _
      by_cases e : v = i
      · subst e
        simp only [List.mem_cons, true_or, if_true]
        by_cases hi : v < τ.length
        · rw [List.getElem?_set_self (by rw [wipe_length]; exact hi), if_pos hi]
        · rw [List.getElem?_eq_none_iff.mpr (by simp [wipe_length]; omega), if_neg hi]
      · rw [List.getElem?_set_ne e, ih]
        simp [Ne.symm e]
  rw [key, key]
  by_cases hi : i ∈ own
  · rw [if_pos hi, if_pos hi, hl]
  · rw [if_neg hi, if_neg hi, h i hi]
theorem RepE.wipe {K : PySem.W.Frag} {H : Hp} {μ : Mu} {σ : L2.St} {ρ : Env} (r : RepE K H μ σ ρ) : ∀ own : List Nat, RepE K H μ (L2.wipe σ own) (wipeE ρ own)
  | [] => r
  | v :: vs => by
    have ih := RepE.wipe r vs
    refine ⟨by simp [L2.wipe, wipeE, ih.1], fun i d h => ?_⟩
    change ((wipeE ρ vs).set v none)[i]? = _ at h
    show ∃ u, ((L2.wipe σ vs).set v none)[i]? = some (some u) ∧ _
    by_cases e : v = i
    · subst e
      by_cases hi : v < (wipeE ρ vs).length
      · rw [List.getElem?_set_self hi] at h; cases h
      · rw [List.getElem?_eq_none_iff.mpr (by simp; omega)] at h; cases h
    · rw [List.getElem?_set_ne e] at h ⊢
      exact ih.2 i d h
theorem relabel_eq {scope : Scope} {env : PySem.Env} (h : env.scope = Γ.sc) : (relabel scope env) = relS scope Γ.sc := by
  rw [← h]; rfl
theorem good_blk (G : Good X Γ γ W P) (scope : Scope) (s : Shared) (H : Hp) (Cc : Addr) (cl : List (Str × Addr)) (fp : List Addr) :
    Good (X.blk s H scope (compEnvC scope cl Cc X.env) fp) (Γ.blk scope) γ (fun _ _ _ _ => False) P where
  N := G.N
  nd := G.nd
  sc := relabel_eq G.sc
  fn := fun x h => h
  calm := G.calm
  un := G.un
  glb := G.glb
  blt := G.blt
  tk := fun u s' ⟨_, _, _, _, _, _, _, _, _, _, _, _, _, _, _, _, w⟩ => w
  fns := G.fns
  atr := G.atr
  isa := G.isa
  hot := fun h => nomatch h
theorem drop_at {α : Type} {l : List α} {i : Nat} {x : α} (h : l[i]? = some x) : l.drop i = x :: l.drop (i + 1) := by
  obtain ⟨hi, e⟩ := List.getElem?_eq_some_iff.mp h
  rw [List.drop_eq_getElem_cons hi, e]
theorem PostR.cond {α β : Type} {K : PySem.W.Frag} {rel : Mu → Hp → α → β → Prop} {μ : Mu} {H : Hp} {σ : L2.St} {ρ : Env} {b : Bool} {r : R α} {Q : β → Hp → Prop} (h : PostR K γ W rel μ H σ ρ (bif b then r else .bad) Q) : b = true ∧ PostR K γ W rel μ H σ ρ r Q := by
  cases b with
  | true => exact ⟨rfl, h⟩
  | false => exact h.elim
theorem wipeE_length (ρ : Env) : ∀ own : List Nat, (wipeE ρ own).length = ρ.length
  | [] => rfl
  | v :: vs => by
    show ((wipeE ρ vs).set v none).length = _
    rw [List.length_set, wipeE_length ρ vs]
theorem asgs_len : ∀ (ds : List D) (ts : E) (ρ ρ' : Env), asgT.asgTs ts ds ρ = some ρ' → ρ'.length = ρ.length := by
  intro ds
  induction ds with
  | nil =>
    intro ts ρ ρ' h
    unfold asgT.asgTs at h
    split at h
    · cases h; rfl
    · rename_i h1; cases h1
    · cases h
  | cons d ds ih =>
    intro ts ρ ρ' h
    unfold asgT.asgTs at h
    split at h
    · rename_i h1; cases h1
    · rename_i i ts' d' ds' heq
      cases heq
      rw [ih _ _ _ h, List.length_set]
    · cases h
theorem asg_len {tg : E} {d : D} {ρ ρ' : Env} (h : asgT tg d ρ = some ρ') : ρ'.length = ρ.length := by
  unfold asgT at h
  split at h
  · cases h; simp
  · exact asgs_len _ _ _ _ h
  · cases h
theorem lc_turn {K : PySem.W.Frag} {μ : Mu} {H : Hp} {σ : L2.St} {ρ : Env} {b : Bool} {r : R Unit} {n : Nat} {Q : VK} (h : PostR K γ W (relV K) μ H σ ρ ((bif b then r else .bad).bind fun _ S4 => .ok (.ref n) S4) Q) :
    b = true ∧ PostR K γ W (relV K) μ H σ ρ (r.bind fun _ S4 => .ok (.ref n) S4) Q := by
  cases b with
  | true => exact ⟨rfl, h⟩
  | false => exact h.elim
/-- what a comprehension's text brings -/
structure LcParts (X : Cx) (γ : Nat → Value) (W : WX) (v : Env → Store → R D) (el t it : Expr) (ifs : List Expr) (scope : Scope) (own : List (Str × Nat)) (wi : TI) (g : TG) (tt : TT) (te : TE) : Prop where
  hi : PI X t it wi
  ok : BlkOk X.N X.env.scope scope own
  hg : ∀ (s : Shared) (H : Hp) (Cc : Addr) (cl : List (Str × Addr)) (fp : List Addr), PG (X.blk s H scope (compEnvC scope cl Cc X.env) fp) t g
  ht : ∀ (s : Shared) (H : Hp) (Cc : Addr) (cl : List (Str × Addr)) (fp : List Addr), PTs (X.blk s H scope (compEnvC scope cl Cc X.env) fp) ifs tt
  he : ∀ (s : Shared) (H : Hp) (Cc : Addr) (cl : List (Str × Addr)) (fp : List Addr), PE (X.blk s H scope (compEnvC scope cl Cc X.env) fp) el te
  hs : ∀ x, foldedSetIterable it X.env x = pure x
  imp : ∀ σ H Q, tE X.K γ W v σ H Q → tLc wi g tt te (own.map (·.2)) σ H Q
theorem lc_parts (G : Good X Γ γ W P) (own : List Nat) {tg src cond elt : E} (hsrc : Snd X γ W (den P src) (chk src Γ))
    (hcond : ∀ {X : Cx} {Γ : Gam} {W : WX}, Good X Γ γ W P → Snd X γ W (den P cond) (chk cond Γ)) (helt : ∀ {X : Cx} {Γ : Gam} {W : WX}, Good X Γ γ W P → Snd X γ W (den P elt) (chk elt Γ))
    {x : Expr} (h : (chk (.lc own tg src cond elt) Γ).e x = true) : ∃ el t it ifs scope pos wi g tt te, x = .ListComp el [⟨t, it, ifs, 0⟩] scope pos ∧ Γ.calm = true ∧ LcParts X γ W (den P (.lc own tg src cond elt)).v el t it ifs scope (ownOf Γ.N own) wi g tt te := by
  simp only [chk, Ck.ofE] at h
  split at h
  case h_2 => cases h
  case h_1 el t it ifs scope pos =>
    obtain ⟨g1, h9⟩ := band h
    obtain ⟨g2, h8⟩ := band g1
    obtain ⟨g3, h7⟩ := band g2
    obtain ⟨g4, h6⟩ := band g3
    obtain ⟨g5, h5⟩ := band g4
    obtain ⟨g6, h4⟩ := band g5
    obtain ⟨g7, h3⟩ := band g6
    obtain ⟨h1, h2⟩ := band g7
    clear h g1 g2 g3 g4 g5 g6 g7
    have hown := of_decide_eq_true h5
    have hset : ∀ x, foldedSetIterable it X.env x = pure x := fun x => by
      cases it <;> first | rfl | simp [isSet] at h3
    have pts : ∀ (s : Shared) (H : Hp) (Cc : Addr) (cl : List (Str × Addr)) (fp : List Addr), PTs (X.blk s H scope (compEnvC scope cl Cc X.env) fp) ifs (tT X.K γ (fun _ _ _ _ => False) (den P cond).t) := fun s H Cc cl fp => by
      split at h8
      · split at h8
        · refine ⟨fun pins s σ H Q I ⟨μ, ρ, S, s1, q⟩ => pts_nil.run pins s σ H Q I ?_⟩
          exact q.here s1 rfl
        · cases h8
      · exact pts_one ((hcond (good_blk G scope s H Cc cl fp)).t _ h8)
      · cases h8
    refine ⟨el, t, it, ifs, scope, pos, tI X.K γ W (den P src).i, gT X.K tg, tT X.K γ (fun _ _ _ _ => False) (den P cond).t, tE X.K γ (fun _ _ _ _ => False) (den P elt).v, rfl, h1, hsrc.i _ t h2, by rw [G.N, G.sc]; exact blkOk_by h4,
      fun s H Cc cl fp => pg_all (good_blk G scope s H Cc cl fp) tg t h6, pts, fun s H Cc cl fp => (helt (good_blk G scope s H Cc cl fp)).e _ h9, hset, fun σ H Q ⟨μ, ρ, S, s, q⟩ => ?_⟩
    rw [hown]
    refine ⟨μ, ρ, S, s, (PostR.bind (rel := Wk X.K) q).imp fun J H1 ⟨μ1, S1, w, le1, s1, hw, q1⟩ D hD => ?_⟩
    have s2 := s1.alloc (c := .lst []) (o := .lst []) hD ⟨[], upd_same, .nil⟩
    have le2 : Le X.K μ1 H1 (μ1 ++ [D]) (upd H1 D (.lst [])) := le_newP hD
    refine ⟨fun i m Hh => m = w.ds.length - i ∧ ∃ μ' S', Le X.K (μ1 ++ [D]) (upd H1 D (.lst [])) μ' Hh ∧ Sim X.K μ' σ Hh ρ S' ∧ PostR X.K γ W (relV X.K) μ' Hh σ ρ ((lcL S1.length (ckS w.lk) (lcF own tg (den P cond).t (den P elt).v ρ) (w.ds.drop i) S').bind fun _ S4 => .ok (.ref S1.length) S4) Q,
      ⟨_, rfl, μ1 ++ [D], S1 ++ [.lst []], .refl, s2, by rw [List.drop_zero]; exact PostR.base le2 q1⟩, ?_⟩
    rintro i m Hh ⟨rfl, μ', S', le', s', q'⟩
    have hD' : μ'[S1.length]? = some D := le'.at (s1.ref D)
    cases hd : w.ds[i]? with
    | none =>
      rw [List.drop_eq_nil_iff.mpr (List.getElem?_eq_none_iff.mp hd)] at q'
      obtain ⟨hck, q2⟩ := lc_turn q'
      obtain ⟨h10, _⟩ := hw μ' σ Hh ρ S' i (le2.trans le') s' hck
      exact .inl ⟨h10 hd, q2.here s' (.ref hD')⟩
    | some d =>
      rw [drop_at hd] at q'
      obtain ⟨hck, q2⟩ := lc_turn q'
      obtain ⟨_, h11⟩ := hw μ' σ Hh ρ S' i (le2.trans le') s' hck
      obtain ⟨hgo, hy⟩ := h11 d hd
      refine .inr ⟨hgo, fun H'' => ∃ m', m' < w.ds.length - i ∧ m' = w.ds.length - (i + 1) ∧ ∃ μ' S', Le X.K (μ1 ++ [D]) (upd H1 D (.lst [])) μ' H'' ∧ Sim X.K μ' σ H'' ρ S' ∧ PostR X.K γ W (relV X.K) μ' H'' σ ρ ((lcL S1.length (ckS w.lk) (lcF own tg (den P cond).t (den P elt).v ρ) (w.ds.drop (i + 1)) S').bind fun _ S4 => .ok (.ref S1.length) S4) Q,
        fun H'' ⟨m', a1, a2, a3⟩ => ⟨m', a1, a2, a3⟩, fun x H2 hx => ?_⟩
      have hlt : w.ds.length - (i + 1) < w.ds.length - i := by
        have := (List.getElem?_eq_some_iff.mp hd).1
        omega
      obtain ⟨μ2, le3, s3, rx⟩ := hy x H2 hx
      unfold lcF at q2
      cases ea : asgT tg d (wipeE ρ own) with
      | none => rw [ea] at q2; exact q2.elim
      | some ρ2 =>
        rw [ea] at q2
        refine ⟨μ2, wipeE ρ own, S', d, ρ2, ⟨RepE.wipe s3.e own, s3.s⟩, rx, ea, fun σ' s4 hs => ⟨wipe_same (by rw [s4.e.1, asg_len ea, wipeE_length, ← s'.e.1]) fun j hj => ?_, μ2, ρ2, S', s4, ?_⟩⟩
        · rw [hs j fun hm => hj (by simpa using List.all_eq_true.mp h7 j hm), wipe_out hj]
        · change PostR X.K γ W (relV X.K) μ' Hh σ ρ (((match ((den P cond).t ρ2 S').bind (fun b S2 => bif b then ((den P elt).v ρ2 S2).bind fun d S3 => .ok (some d) S3 else .ok none S2) with
            | .ok none S' => lcL S1.length (ckS w.lk) (lcF own tg (den P cond).t (den P elt).v ρ) (w.ds.drop (i + 1)) S'
            | .ok (some d) S' => match S'[S1.length]? with
              | some (.lst acc) => if acc.length < linesz then lcL S1.length (ckS w.lk) (lcF own tg (den P cond).t (den P elt).v ρ) (w.ds.drop (i + 1)) (S'.set S1.length (.lst (acc ++ [d]))) else .bad
              | _ => .bad
            | _ => .bad) : R Unit).bind fun _ S4 => .ok (.ref S1.length) S4) Q at q2
          cases ec : (den P cond).t ρ2 S' with
          | bad => rw [ec] at q2; exact q2.elim
          | exc c fs S2 => rw [ec] at q2; exact q2.elim
          | ok b S2 =>
            rw [ec] at q2
            intro μ3 H3 b' le4 s5 rb
            have e1 : b = b' := rb
            subst e1
            cases b with
            | false =>
              rw [if_neg Bool.false_ne_true]
              exact ⟨_, hlt, rfl, μ3, S2, (le'.trans le3).trans le4, ⟨(s'.e.mono le3).mono le4, s5.s⟩, q2.base (le3.trans le4)⟩
            | true =>
              rw [if_pos rfl]
              refine ⟨μ3, ρ2, S2, s5, ?_⟩
              change PostR X.K γ W (relV X.K) μ' Hh σ ρ (((match ((den P elt).v ρ2 S2).bind (fun d S3 => Ng.R.ok (some d) S3) with
                | .ok none S' => lcL S1.length (ckS w.lk) (lcF own tg (den P cond).t (den P elt).v ρ) (w.ds.drop (i + 1)) S'
                | .ok (some d) S' => match S'[S1.length]? with
                  | some (.lst acc) => if acc.length < linesz then lcL S1.length (ckS w.lk) (lcF own tg (den P cond).t (den P elt).v ρ) (w.ds.drop (i + 1)) (S'.set S1.length (.lst (acc ++ [d]))) else .bad
                  | _ => .bad
                | _ => .bad) : R Unit).bind fun _ S4 => .ok (.ref S1.length) S4) Q at q2
              cases ee : (den P elt).v ρ2 S2 with
              | bad => rw [ee] at q2; exact q2.elim
              | exc c fs S3 => rw [ee] at q2; exact q2.elim
              | ok y S3 =>
                rw [ee] at q2
                intro μ4 H4 yv le5 s6 ry
                have hD4 : μ4[S1.length]? = some D := le5.at (le4.at (le3.at hD'))
                change PostR X.K γ W (relV X.K) μ' Hh σ ρ (((match S3[S1.length]? with
                  | some (.lst acc) => if acc.length < linesz then lcL S1.length (ckS w.lk) (lcF own tg (den P cond).t (den P elt).v ρ) (w.ds.drop (i + 1)) (S3.set S1.length (.lst (acc ++ [y]))) else .bad
                  | _ => .bad) : R Unit).bind fun _ S4 => .ok (.ref S1.length) S4) Q at q2
                split at q2
                case h_2 => exact q2.elim
                case h_1 acc hacc =>
                  split at q2
                  case isFalse => exact q2.elim
                  case isTrue hz =>
                    obtain ⟨vs, h12, r12⟩ := s6.s.cell _ _ _ hacc hD4
                    have le6 := (le3.trans le4).trans le5
                    refine ⟨vs, h12, by rw [r12.length, ← linesz_eq]; exact hz, _, hlt, rfl, μ4, _, (le'.trans le6).trans (le_upd h12), ?_, q2.base (le6.trans (le_upd h12))⟩
                    have s7 : Sim X.K μ4 σ H4 ρ S3 := ⟨s'.e.mono le6, s6.s⟩
                    exact s7.write hacc hD4 h12 (r12.append (.cons ry .nil))
theorem snd_lc (G : Good X Γ γ W P) (own : List Nat) {tg src cond elt : E} (hsrc : Snd X γ W (den P src) (chk src Γ))
    (hcond : ∀ {X : Cx} {Γ : Gam} {W : WX}, Good X Γ γ W P → Snd X γ W (den P cond) (chk cond Γ)) (helt : ∀ {X : Cx} {Γ : Gam} {W : WX}, Good X Γ γ W P → Snd X γ W (den P elt) (chk elt Γ)) :
    Snd X γ W (den P (.lc own tg src cond elt)) (chk (.lc own tg src cond elt) Γ) := by
  refine snd_ofV fun x h => ?_
  obtain ⟨el, t, it, ifs, scope, pos, wi, g, tt, te, rfl, h1, L⟩ := lc_parts G own hsrc hcond helt h
  exact ⟨pe_imp (pe_lc (G.calm h1) G.nd L.hi L.ok L.hg L.ht L.he L.hs) L.imp, fun _ => rfl, fun _ _ _ z => nomatch z⟩
theorem thenU_some {K : PySem.W.Frag} {μ : Mu} {H : Hp} {σ : L2.St} {ρ : Env} {n : Nat} {r : R Unit} {k : Store → R Unit} {Q : VK} (h : PostR K γ W (relV K) μ H σ ρ ((thenU r k).bind fun _ S4 => .ok (.ref n) S4) Q) :
    ∃ S', r = .ok () S' ∧ PostR K γ W (relV K) μ H σ ρ ((k S').bind fun _ S4 => .ok (.ref n) S4) Q := by
  cases r with
  | ok a S' => exact ⟨S', rfl, h⟩
  | exc => exact h.elim
  | bad => exact h.elim
/-- the second clause's turns, then the rest -/
def lcK (n : Nat) (ck : Store → Bool) (f : D → Store → R (Option D)) (k : Store → R Unit) (ds : List D) (S : Store) : R D := (thenU (lcL n ck f ds S) k).bind fun _ S4 => .ok (.ref n) S4
/-- what a comprehension of two clauses brings -/
structure Lc2Parts (X : Cx) (γ : Nat → Value) (W : WX) (v : Env → Store → R D) (el t it t2 it2 : Expr) (scope : Scope) (own : List (Str × Nat)) (own2 : List Nat) (wi : TI) (g : TG) (wi1 : TI) (g1 : TG) (te : TE) : Prop where
  hi : PI X t it wi
  ok : BlkOk X.N X.env.scope scope own
  hv : ∀ i ∈ own2, i ∈ own.map (·.2)
  hg : ∀ (s : Shared) (H : Hp) (Cc : Addr) (cl : List (Str × Addr)) (fp : List Addr), PG (X.blk s H scope (compEnvC scope cl Cc X.env) fp) t g
  hi1 : ∀ (s : Shared) (H : Hp) (Cc : Addr) (cl : List (Str × Addr)) (fp : List Addr), PI (X.blk s H scope (compEnvC scope cl Cc X.env) fp) t2 it2 wi1
  hg1 : ∀ (s : Shared) (H : Hp) (Cc : Addr) (cl : List (Str × Addr)) (fp : List Addr), PG (X.blk s H scope (compEnvC scope cl Cc X.env) fp) t2 g1
  he : ∀ (s : Shared) (H : Hp) (Cc : Addr) (cl : List (Str × Addr)) (fp : List Addr), PE (X.blk s H scope (compEnvC scope cl Cc X.env) fp) el te
  hs : ∀ x, foldedSetIterable it X.env x = pure x
  hs1 : ∀ env x, foldedSetIterable it2 env x = pure x
  imp : ∀ σ H Q, tE X.K γ W v σ H Q → tLc2 wi g (fun _ H Q => Q true H) wi1 g1 (fun _ H Q => Q true H) te (own.map (·.2)) own2 σ H Q
theorem lc2_parts (G : Good X Γ γ W P) (own own2 : List Nat) {tg src tg2 src2 elt : E} (hsrc : Snd X γ W (den P src) (chk src Γ))
    (hsrc2 : ∀ {X : Cx} {Γ : Gam} {W : WX}, Good X Γ γ W P → Snd X γ W (den P src2) (chk src2 Γ)) (helt : ∀ {X : Cx} {Γ : Gam} {W : WX}, Good X Γ γ W P → Snd X γ W (den P elt) (chk elt Γ)) {x : Expr} (h : (chk (.lc2 own own2 tg src tg2 src2 elt) Γ).e x = true) :
    ∃ el t it t2 it2 scope pos wi g wi1 g1 te, x = .ListComp el [⟨t, it, [], 0⟩, ⟨t2, it2, [], 0⟩] scope pos ∧ Γ.calm = true ∧ Lc2Parts X γ W (den P (.lc2 own own2 tg src tg2 src2 elt)).v el t it t2 it2 scope (ownOf Γ.N own) own2 wi g wi1 g1 te := by
  simp only [chk, Ck.ofE] at h
  split at h
  case h_2 => cases h
  case h_1 el t it t2 it2 scope pos =>
    obtain ⟨g0, g13⟩ := band h
    obtain ⟨g0, g12⟩ := band g0
    obtain ⟨g0, g11⟩ := band g0
    obtain ⟨g0, g10⟩ := band g0
    obtain ⟨g0, g9⟩ := band g0
    obtain ⟨g0, g8⟩ := band g0
    obtain ⟨g0, g7⟩ := band g0
    obtain ⟨g0, g6⟩ := band g0
    obtain ⟨g0, g5⟩ := band g0
    obtain ⟨g0, g4⟩ := band g0
    obtain ⟨g0, g3⟩ := band g0
    obtain ⟨g1, g2⟩ := band g0
    clear h g0
    have hown := of_decide_eq_true g5
    have hset : ∀ x, foldedSetIterable it X.env x = pure x := fun x => by
      cases it <;> first | rfl | simp [isSet] at g3
    have hset2 : ∀ env x, foldedSetIterable it2 env x = pure x := fun env x => by
      cases it2 <;> first | rfl | simp [isSet] at g9
    refine ⟨el, t, it, t2, it2, scope, pos, tI X.K γ W (den P src).i, gT X.K tg, tI X.K γ (fun _ _ _ _ => False) (den P src2).i, gT X.K tg2, tE X.K γ (fun _ _ _ _ => False) (den P elt).v, rfl, g1, hsrc.i _ t g2, by rw [G.N, G.sc]; exact blkOk_by g4, (fun i hi => by rw [hown]; simpa using List.all_eq_true.mp g12 i hi),
      (fun s H Cc cl fp => pg_all (good_blk G scope s H Cc cl fp) tg t g6), (fun s H Cc cl fp => (hsrc2 (good_blk G scope s H Cc cl fp)).i _ t2 g8), (fun s H Cc cl fp => pg_all (good_blk G scope s H Cc cl fp) tg2 t2 g10),
      (fun s H Cc cl fp => (helt (good_blk G scope s H Cc cl fp)).e _ g13), hset, hset2, fun σ H Q ⟨μ, ρ, S, s, q⟩ => ?_⟩
    rw [hown]
    refine ⟨μ, ρ, S, s, (PostR.bind (rel := Wk X.K) q).imp fun J H1 ⟨μ1, S1, w, le1, s1, hw, q1⟩ D hD => ?_⟩
    have s2 := s1.alloc (c := .lst []) (o := .lst []) hD ⟨[], upd_same, .nil⟩
    have le2 : Le X.K μ1 H1 (μ1 ++ [D]) (upd H1 D (.lst [])) := le_newP hD
    refine ⟨fun i m Hh => m = w.ds.length - i ∧ ∃ μ' S', Le X.K (μ1 ++ [D]) (upd H1 D (.lst [])) μ' Hh ∧ Sim X.K μ' σ Hh ρ S' ∧ PostR X.K γ W (relV X.K) μ' Hh σ ρ ((lc2L (ckS w.lk) (lc2G S1.length own own2 tg tg2 (den P src2).i (den P elt).v ρ) (w.ds.drop i) S').bind fun _ S4 => .ok (.ref S1.length) S4) Q,
      ⟨_, rfl, μ1 ++ [D], S1 ++ [.lst []], .refl, s2, by rw [List.drop_zero]; exact PostR.base le2 q1⟩, ?_⟩
    rintro i m Hh ⟨rfl, μ', S', le', s', q'⟩
    have hD' : μ'[S1.length]? = some D := le'.at (s1.ref D)
    cases hd : w.ds[i]? with
    | none =>
      rw [List.drop_eq_nil_iff.mpr (List.getElem?_eq_none_iff.mp hd)] at q'
      obtain ⟨hck, q2⟩ := lc_turn q'
      obtain ⟨h10, _⟩ := hw μ' σ Hh ρ S' i (le2.trans le') s' hck
      exact .inl ⟨h10 hd, q2.here s' (.ref hD')⟩
    | some d =>
      rw [drop_at hd] at q'
      obtain ⟨hck, q2⟩ := lc_turn q'
      obtain ⟨_, h11⟩ := hw μ' σ Hh ρ S' i (le2.trans le') s' hck
      obtain ⟨hgo, hy⟩ := h11 d hd
      have hlt : w.ds.length - (i + 1) < w.ds.length - i := by
        have := (List.getElem?_eq_some_iff.mp hd).1
        omega
      refine .inr ⟨hgo, fun H'' => ∃ m', m' < w.ds.length - i ∧ m' = w.ds.length - (i + 1) ∧ ∃ μ' S', Le X.K (μ1 ++ [D]) (upd H1 D (.lst [])) μ' H'' ∧ Sim X.K μ' σ H'' ρ S' ∧ PostR X.K γ W (relV X.K) μ' H'' σ ρ ((lc2L (ckS w.lk) (lc2G S1.length own own2 tg tg2 (den P src2).i (den P elt).v ρ) (w.ds.drop (i + 1)) S').bind fun _ S4 => .ok (.ref S1.length) S4) Q,
        fun H'' ⟨m', a1, a2, a3⟩ => ⟨m', a1, a2, a3⟩, fun x H2 hx => ?_⟩
      obtain ⟨μ2, le3, s3, rx⟩ := hy x H2 hx
      generalize hk : lc2L (ckS w.lk) (lc2G S1.length own own2 tg tg2 (den P src2).i (den P elt).v ρ) (w.ds.drop (i + 1)) = kk at q2 ⊢
      obtain ⟨S9, e9, _⟩ := thenU_some q2
      unfold lc2G at q2 e9
      cases ea : asgT tg d (wipeE ρ own) with
      | none => rw [ea] at e9; cases e9
      | some ρ2 =>
        rw [ea] at q2 e9
        change lc2F S1.length own2 tg2 (den P src2).i (den P elt).v ρ2 S' = _ at e9
        change PostR X.K γ W (relV X.K) μ' Hh σ ρ ((thenU (lc2F S1.length own2 tg2 (den P src2).i (den P elt).v ρ2 S') kk).bind fun _ S4 => .ok (.ref S1.length) S4) Q at q2
        refine ⟨μ2, wipeE ρ own, S', d, ρ2, ⟨RepE.wipe s3.e own, s3.s⟩, rx, ea, fun σ2 s4 hs => ⟨wipe_same (by rw [s4.e.1, asg_len ea, wipeE_length, ← s'.e.1]) fun j hj => ?_, ?_⟩⟩
        · rw [hs j fun hm => hj (by simpa using List.all_eq_true.mp g7 j hm), wipe_out hj]
        · show if (true : Bool) = true then _ else _
          rw [if_pos rfl]
          refine ⟨μ2, ρ2, S', s4, ?_⟩
          cases ec : (den P src2).i ρ2 S' with
          | bad =>
            rw [show lc2F S1.length own2 tg2 (den P src2).i (den P elt).v ρ2 S' = .bad from by unfold lc2F; rw [ec]; rfl] at e9
            cases e9
          | exc c fs S2 =>
            rw [show lc2F S1.length own2 tg2 (den P src2).i (den P elt).v ρ2 S' = .exc c fs S2 from by unfold lc2F; rw [ec]; rfl] at e9
            cases e9
          | ok w1 S2 =>
            rw [show lc2F S1.length own2 tg2 (den P src2).i (den P elt).v ρ2 S' = lcL S1.length (ckS w1.lk) (lcF own2 tg2 (fun _ S => .ok true S) (den P elt).v ρ2) w1.ds S2 from by unfold lc2F; rw [ec]; rfl] at q2
            change PostR X.K γ W (relV X.K) μ' Hh σ ρ (lcK S1.length (ckS w1.lk) (lcF own2 tg2 (fun _ S => .ok true S) (den P elt).v ρ2) kk w1.ds S2) Q at q2
            intro μ3 H3 J1 le4 s5 hw1
            refine ⟨fun j k Hj => k = w1.ds.length - j ∧ ∃ μ' S', Le X.K μ3 H3 μ' Hj ∧ RepS X.K Hj μ' S' ∧ PostR X.K γ W (relV X.K) μ' Hj σ ρ (lcK S1.length (ckS w1.lk) (lcF own2 tg2 (fun _ S => .ok true S) (den P elt).v ρ2) kk (w1.ds.drop j) S') Q,
              ⟨_, rfl, μ3, S2, .refl, s5.s, by rw [List.drop_zero]; exact q2.base (le3.trans le4)⟩, ?_⟩
            rintro j k Hj ⟨rfl, μ4, S4, le5, r4, q4⟩
            have leA := (le3.trans le4).trans le5
            have sj : Sim X.K μ4 σ Hj ρ S4 := ⟨s'.e.mono leA, r4⟩
            have hD4 : μ4[S1.length]? = some D := leA.at hD'
            obtain ⟨S8, e8, _⟩ := thenU_some q4
            cases hd1 : w1.ds[j]? with
            | none =>
              rw [List.drop_eq_nil_iff.mpr (List.getElem?_eq_none_iff.mp hd1)] at q4 e8
              have hck1 : ckS w1.lk S4 = true := by
                cases h : ckS w1.lk S4 with
                | true => rfl
                | false => unfold lcL at e8; rw [h] at e8; cases e8
              have q5 : PostR X.K γ W (relV X.K) μ4 Hj σ ρ ((kk S4).bind fun _ S4 => .ok (.ref S1.length) S4) Q := by
                unfold lcK lcL at q4
                rw [hck1] at q4
                exact q4
              obtain ⟨h12, _⟩ := hw1 μ4 σ Hj ρ S4 j le5 sj hck1
              exact .inl ⟨h12 hd1, _, hlt, rfl, μ4, S4, le'.trans leA, sj, q5⟩
            | some d1 =>
              rw [drop_at hd1] at q4 e8
              have hck1 : ckS w1.lk S4 = true := by
                cases h : ckS w1.lk S4 with
                | true => rfl
                | false => unfold lcL at e8; rw [h] at e8; cases e8
              obtain ⟨_, h13⟩ := hw1 μ4 σ Hj ρ S4 j le5 sj hck1
              obtain ⟨hgo1, hy1⟩ := h13 d1 hd1
              have hlt1 : w1.ds.length - (j + 1) < w1.ds.length - j := by
                have := (List.getElem?_eq_some_iff.mp hd1).1
                omega
              refine .inr ⟨hgo1, fun Hn => ∃ m', m' < w1.ds.length - j ∧ m' = w1.ds.length - (j + 1) ∧ ∃ μ' S', Le X.K μ3 H3 μ' Hn ∧ RepS X.K Hn μ' S' ∧ PostR X.K γ W (relV X.K) μ' Hn σ ρ (lcK S1.length (ckS w1.lk) (lcF own2 tg2 (fun _ S => .ok true S) (den P elt).v ρ2) kk (w1.ds.drop (j + 1)) S') Q,
                fun Hn ⟨m', a1, a2, a3⟩ => ⟨m', a1, a2, a3⟩, fun x1 H5 hx1 => ?_⟩
              obtain ⟨μ5, le6, s6, rx1⟩ := hy1 x1 H5 hx1
              unfold lcL at e8
              rw [hck1, cond_true] at e8
              unfold lcK lcL at q4
              rw [hck1, cond_true] at q4
              unfold lcF at q4 e8
              cases ea1 : asgT tg2 d1 (wipeE ρ2 own2) with
              | none => rw [ea1] at e8; cases e8
              | some ρ3 =>
                rw [ea1] at q4 e8
                have sw : Sim X.K μ5 (wipe σ2 own2) H5 (wipeE ρ2 own2) S4 := ⟨RepE.wipe ((s5.e.mono le5).mono le6) own2, s6.s⟩
                refine ⟨μ5, wipeE ρ2 own2, S4, d1, ρ3, sw, rx1, ea1, fun σ3 s7 hs3 => ⟨wipe_same (by rw [s7.e.1, asg_len ea1, wipeE_length, ← s5.e.1]) fun j' hj' => ?_, ?_⟩⟩
                · rw [hs3 j' fun hm => hj' (by simpa using List.all_eq_true.mp g11 j' hm), wipe_out hj']
                · show if (true : Bool) = true then _ else _
                  rw [if_pos rfl]
                  refine ⟨μ5, ρ3, S4, s7, ?_⟩
                  cases ee : (den P elt).v ρ3 S4 with
                  | bad => simp only [R.bind, ee, cond_true] at e8; cases e8
                  | exc c fs S3 => simp only [R.bind, ee, cond_true] at e8; cases e8
                  | ok y S3 =>
                    simp only [R.bind, ee, cond_true] at e8 q4
                    intro μ6 H6 yv le7 s8 ry
                    have hD6 : μ6[S1.length]? = some D := le7.at (le6.at hD4)
                    split at e8
                    case h_2 => cases e8
                    case h_1 acc hacc =>
                      split at e8
                      case isFalse => cases e8
                      case isTrue hz =>
                        obtain ⟨vs, h14, r14⟩ := s8.s.cell _ _ _ hacc hD6
                        have leB := le6.trans le7
                        refine ⟨vs, h14, by rw [r14.length, ← linesz_eq]; exact hz, _, hlt1, rfl, μ6, _, (le5.trans leB).trans (le_upd h14), s8.s.write hacc hD6 h14 (r14.append (.cons ry .nil)), ?_⟩
                        have q5 := PostR.base (leB.trans (le_upd (o := .lst (vs ++ [yv])) h14)) q4
                        rw [hacc] at q5
                        simp only [if_pos hz] at q5
                        exact q5
theorem snd_lc2 (G : Good X Γ γ W P) (own own2 : List Nat) {tg src tg2 src2 elt : E} (hsrc : Snd X γ W (den P src) (chk src Γ))
    (hsrc2 : ∀ {X : Cx} {Γ : Gam} {W : WX}, Good X Γ γ W P → Snd X γ W (den P src2) (chk src2 Γ)) (helt : ∀ {X : Cx} {Γ : Gam} {W : WX}, Good X Γ γ W P → Snd X γ W (den P elt) (chk elt Γ)) :
    Snd X γ W (den P (.lc2 own own2 tg src tg2 src2 elt)) (chk (.lc2 own own2 tg src tg2 src2 elt) Γ) := by
  refine snd_ofV fun x h => ?_
  obtain ⟨el, t, it, t2, it2, scope, pos, wi, g, wi1, g1, te, rfl, h1, L⟩ := lc2_parts G own own2 hsrc hsrc2 helt h
  exact ⟨pe_imp (pe_lc2 (G.calm h1) G.nd L.hi L.ok L.hv L.hg (fun _ _ _ _ _ => pts_nil) L.hi1 L.hg1 (fun _ _ _ _ _ => pts_nil) L.he L.hs L.hs1) L.imp, fun _ => rfl, fun _ _ _ z => nomatch z⟩
/-- what a dict comprehension's text brings -/
structure DcParts (X : Cx) (γ : Nat → Value) (W : WX) (v : Env → Store → R D) (ke ve t it : Expr) (ifs : List Expr) (scope : Scope) (own : List (Str × Nat)) (wi : TI) (g : TG) (tt : TT) (tk tv : TE) : Prop where
  hi : PI X t it wi
  ok : BlkOk X.N X.env.scope scope own
  ps : ∀ (s' : Shared) (H' : Hp) (C : Addr) (cl : List (Str × Addr)) (fps : List Addr), PG (X.blk s' H' scope (compEnvC scope cl C X.env) fps) t g ∧ PTs (X.blk s' H' scope (compEnvC scope cl C X.env) fps) ifs tt ∧ PE (X.blk s' H' scope (compEnvC scope cl C X.env) fps) ke tk ∧ PE (X.blk s' H' scope (compEnvC scope cl C X.env) fps) ve tv
  hs : ∀ x, foldedSetIterable it X.env x = pure x
  imp : ∀ σ H Q, tE X.K γ W v σ H Q → tDcX X.K wi g tt tk tv (own.map (·.2)) σ H Q
theorem dc_parts (G : Good X Γ γ W P) (own : List Nat) {tg src cond kx vx : E} (hsrc : Snd X γ W (den P src) (chk src Γ))
    (hcond : ∀ {X : Cx} {Γ : Gam} {W : WX}, Good X Γ γ W P → Snd X γ W (den P cond) (chk cond Γ)) (hkx : ∀ {X : Cx} {Γ : Gam} {W : WX}, Good X Γ γ W P → Snd X γ W (den P kx) (chk kx Γ)) (hvx : ∀ {X : Cx} {Γ : Gam} {W : WX}, Good X Γ γ W P → Snd X γ W (den P vx) (chk vx Γ))
    {x : Expr} (h : (chk (.dc own tg src cond kx vx) Γ).e x = true) : ∃ ke ve t it ifs scope pos wi g tt tk tv, x = .DictComp ke ve [⟨t, it, ifs, 0⟩] scope pos ∧ Γ.calm = true ∧ DcParts X γ W (den P (.dc own tg src cond kx vx)).v ke ve t it ifs scope (ownOf Γ.N own) wi g tt tk tv := by
  simp only [chk, Ck.ofE] at h
  split at h
  case h_2 => cases h
  case h_1 ke ve t it ifs scope pos =>
    obtain ⟨g1, h9⟩ := band h
    obtain ⟨h9, h10⟩ := band h9
    obtain ⟨g2, h8⟩ := band g1
    obtain ⟨g3, h7⟩ := band g2
    obtain ⟨g4, h6⟩ := band g3
    obtain ⟨g5, h5⟩ := band g4
    obtain ⟨g6, h4⟩ := band g5
    obtain ⟨g7, h3⟩ := band g6
    obtain ⟨h1, h2⟩ := band g7
    clear h g1 g2 g3 g4 g5 g6 g7
    have hown := of_decide_eq_true h5
    have hset : ∀ x, foldedSetIterable it X.env x = pure x := fun x => by
      cases it <;> first | rfl | simp [isSet] at h3
    have pts : ∀ (s : Shared) (H : Hp) (Cc : Addr) (cl : List (Str × Addr)) (fp : List Addr), PTs (X.blk s H scope (compEnvC scope cl Cc X.env) fp) ifs (tT X.K γ (fun _ _ _ _ => False) (den P cond).t) := fun s H Cc cl fp => by
      split at h8
      · split at h8
        · refine ⟨fun pins s σ H Q I ⟨μ, ρ, S, s1, q⟩ => pts_nil.run pins s σ H Q I ?_⟩
          exact q.here s1 rfl
        · cases h8
      · exact pts_one ((hcond (good_blk G scope s H Cc cl fp)).t _ h8)
      · cases h8
    refine ⟨ke, ve, t, it, ifs, scope, pos, tI X.K γ W (den P src).i, gT X.K tg, tT X.K γ (fun _ _ _ _ => False) (den P cond).t, tE X.K γ (fun _ _ _ _ => False) (den P kx).v, tE X.K γ (fun _ _ _ _ => False) (den P vx).v, rfl, h1, hsrc.i _ t h2, by rw [G.N, G.sc]; exact blkOk_by h4,
      fun s H Cc cl fp => ⟨pg_all (good_blk G scope s H Cc cl fp) tg t h6, pts s H Cc cl fp, (hkx (good_blk G scope s H Cc cl fp)).e _ h9, (hvx (good_blk G scope s H Cc cl fp)).e _ h10⟩, hset, fun σ H Q ⟨μ, ρ, S, s, q⟩ => ?_⟩
    rw [hown]
    refine ⟨μ, ρ, S, s, (PostR.bind (rel := Wk X.K) q).imp fun J H1 ⟨μ1, S1, w, le1, s1, hw, q1⟩ D hD => ?_⟩
    have s2 := s1.alloc (c := .dct []) (o := DX D []) hD ⟨[], upd_same, .nil⟩
    have le2 : Le X.K μ1 H1 (μ1 ++ [D]) (upd H1 D (DX D [])) := le_newP hD
    refine ⟨fun i m Hh => m = w.ds.length - i ∧ ∃ μ' S', Le X.K (μ1 ++ [D]) (upd H1 D (DX D [])) μ' Hh ∧ Sim X.K μ' σ Hh ρ S' ∧ PostR X.K γ W (relV X.K) μ' Hh σ ρ ((dcL S1.length (ckS w.lk) (dcF own tg (den P cond).t (den P kx).v (den P vx).v ρ) (w.ds.drop i) S').bind fun _ S4 => .ok (.ref S1.length) S4) Q,
      ⟨_, rfl, μ1 ++ [D], S1 ++ [.dct []], .refl, s2, by rw [List.drop_zero]; exact PostR.base le2 q1⟩, ?_⟩
    rintro i m Hh ⟨rfl, μ', S', le', s', q'⟩
    have hD' : μ'[S1.length]? = some D := le'.at (s1.ref D)
    cases hd : w.ds[i]? with
    | none =>
      rw [List.drop_eq_nil_iff.mpr (List.getElem?_eq_none_iff.mp hd)] at q'
      obtain ⟨hck, q2⟩ := lc_turn q'
      obtain ⟨h10, _⟩ := hw μ' σ Hh ρ S' i (le2.trans le') s' hck
      exact .inl ⟨h10 hd, q2.here s' (.ref hD')⟩
    | some d =>
      rw [drop_at hd] at q'
      obtain ⟨hck, q2⟩ := lc_turn q'
      obtain ⟨_, h11⟩ := hw μ' σ Hh ρ S' i (le2.trans le') s' hck
      obtain ⟨hgo, hy⟩ := h11 d hd
      refine .inr ⟨hgo, fun H'' => ∃ m', m' < w.ds.length - i ∧ m' = w.ds.length - (i + 1) ∧ ∃ μ' S', Le X.K (μ1 ++ [D]) (upd H1 D (DX D [])) μ' H'' ∧ Sim X.K μ' σ H'' ρ S' ∧ PostR X.K γ W (relV X.K) μ' H'' σ ρ ((dcL S1.length (ckS w.lk) (dcF own tg (den P cond).t (den P kx).v (den P vx).v ρ) (w.ds.drop (i + 1)) S').bind fun _ S4 => .ok (.ref S1.length) S4) Q,
        fun H'' ⟨m', a1, a2, a3⟩ => ⟨m', a1, a2, a3⟩, fun x H2 hx => ?_⟩
      have hlt : w.ds.length - (i + 1) < w.ds.length - i := by
        have := (List.getElem?_eq_some_iff.mp hd).1
        omega
      obtain ⟨μ2, le3, s3, rx⟩ := hy x H2 hx
      generalize hrest : dcL S1.length (ckS w.lk) (dcF own tg (den P cond).t (den P kx).v (den P vx).v ρ) (w.ds.drop (i + 1)) = rest at q2 ⊢
      unfold dcF at q2
      cases ea : asgT tg d (wipeE ρ own) with
      | none => rw [ea] at q2; exact q2.elim
      | some ρ2 =>
        rw [ea] at q2
        refine ⟨μ2, wipeE ρ own, S', d, ρ2, ⟨RepE.wipe s3.e own, s3.s⟩, rx, ea, fun σ' s4 hs => ⟨wipe_same (by rw [s4.e.1, asg_len ea, wipeE_length, ← s'.e.1]) fun j hj => ?_, μ2, ρ2, S', s4, ?_⟩⟩
        · rw [hs j fun hm => hj (by simpa using List.all_eq_true.mp h7 j hm), wipe_out hj]
        · change PostR X.K γ W (relV X.K) μ' Hh σ ρ ((dcT S1.length rest (((den P cond).t ρ2 S').bind fun b S2 => bif b then ((den P kx).v ρ2 S2).bind fun k S3 => ((den P vx).v ρ2 S3).bind fun d S4 => .ok (some (k, d)) S4 else .ok none S2)).bind fun _ S4 => .ok (.ref S1.length) S4) Q at q2
          cases ec : (den P cond).t ρ2 S' with
          | bad => rw [ec] at q2; exact q2.elim
          | exc c fs S2 => rw [ec] at q2; exact q2.elim
          | ok b S2 =>
            rw [ec] at q2
            intro μ3 H3 b' le4 s5 rb
            have e1 : b = b' := rb
            subst e1
            cases b with
            | false =>
              rw [if_neg Bool.false_ne_true]
              subst hrest
              exact ⟨_, hlt, rfl, μ3, S2, (le'.trans le3).trans le4, ⟨(s'.e.mono le3).mono le4, s5.s⟩, PostR.base (r := (dcL S1.length (ckS w.lk) (dcF own tg (den P cond).t (den P kx).v (den P vx).v ρ) (w.ds.drop (i + 1)) S2).bind fun _ S4 => R.ok (Ng.D.ref S1.length) S4) (le3.trans le4) q2⟩
            | true =>
              rw [if_pos rfl]
              refine ⟨μ3, ρ2, S2, s5, ?_⟩
              change PostR X.K γ W (relV X.K) μ' Hh σ ρ ((dcT S1.length rest (((den P kx).v ρ2 S2).bind fun k S3 => ((den P vx).v ρ2 S3).bind fun d S4 => .ok (some (k, d)) S4)).bind fun _ S4 => .ok (.ref S1.length) S4) Q at q2
              cases ek : (den P kx).v ρ2 S2 with
              | bad => rw [ek] at q2; exact q2.elim
              | exc c fs S3 => rw [ek] at q2; exact q2.elim
              | ok yk S3 =>
                rw [ek] at q2
                intro μ4 H4 kv le5 s6 rk
                refine ⟨μ4, ρ2, S3, s6, ?_⟩
                change PostR X.K γ W (relV X.K) μ' Hh σ ρ ((dcT S1.length rest (((den P vx).v ρ2 S3).bind fun d S4 => .ok (some (yk, d)) S4)).bind fun _ S4 => .ok (.ref S1.length) S4) Q at q2
                cases ev : (den P vx).v ρ2 S3 with
                | bad => rw [ev] at q2; exact q2.elim
                | exc c fs S4 => rw [ev] at q2; exact q2.elim
                | ok yv S4 =>
                  rw [ev] at q2
                  intro μ5 H5 vv le6 s7 rv
                  have hD5 : μ5[S1.length]? = some D := le6.at (le5.at (le4.at (le3.at hD')))
                  change PostR X.K γ W (relV X.K) μ' Hh σ ρ ((match S4[S1.length]?, keyI yk with
                    | some (.dct kvs), some ks => if kvs.length < linesz then rest (S4.set S1.length (.dct (dPut kvs ks yv))) else .bad
                    | _, _ => .bad : R Unit).bind fun _ S4 => .ok (.ref S1.length) S4) Q at q2
                  split at q2
                  case h_2 => exact q2.elim
                  case h_1 kvs ks hS4 hks =>
                    split at q2
                    case isFalse => exact q2.elim
                    case isTrue hz =>
                      obtain ⟨xs, h12, r12⟩ := s7.s.cell _ _ _ hS4 hD5
                      obtain ⟨b, rfl, hb⟩ := key_rep (RepV.mono le6 rk) hks
                      have le7 := ((le3.trans le4).trans le5).trans le6
                      refine ⟨b, xs, ks, rfl, h12, r12.kx, hb, by rw [← r12.length, ← linesz_eq]; exact hz, fun u ru => ?_⟩
                      have le8 : Le X.K μ5 H5 μ5 (upd H5 D (DX D (storedH xs ks b u))) := le_updC h12 nt_dx
                      refine ⟨_, hlt, rfl, μ5, S4.set S1.length (.dct (dPut kvs ks yv)), (le'.trans le7).trans le8, ⟨((s'.e.mono le7)).mono le8, s7.s.writeC hS4 hD5 h12 nt_dx rfl rfl ⟨_, upd_same, ?_⟩⟩, by subst hrest; exact q2.base (le7.trans le8)⟩
                      exact (r12.put hb rv ru).mono le8
theorem snd_dc (G : Good X Γ γ W P) (own : List Nat) {tg src cond kx vx : E} (hsrc : Snd X γ W (den P src) (chk src Γ))
    (hcond : ∀ {X : Cx} {Γ : Gam} {W : WX}, Good X Γ γ W P → Snd X γ W (den P cond) (chk cond Γ)) (hkx : ∀ {X : Cx} {Γ : Gam} {W : WX}, Good X Γ γ W P → Snd X γ W (den P kx) (chk kx Γ)) (hvx : ∀ {X : Cx} {Γ : Gam} {W : WX}, Good X Γ γ W P → Snd X γ W (den P vx) (chk vx Γ)) :
    Snd X γ W (den P (.dc own tg src cond kx vx)) (chk (.dc own tg src cond kx vx) Γ) := by
  refine snd_ofV fun x h => ?_
  obtain ⟨ke, ve, t, it, ifs, scope, pos, wi, g, tt, tk, tv, rfl, h1, L⟩ := dc_parts G own hsrc hcond hkx hvx h
  exact ⟨pe_imp (pe_dcX (by have := G.un; omega) (G.calm h1) G.nd L.hi L.ok L.hs L.ps) L.imp, fun _ => rfl, fun _ _ _ z => nomatch z⟩
/-- the second clause's turns, then the rest -/
def dcK (n : Nat) (ck : Store → Bool) (f : D → Store → R (Option (D × D))) (k : Store → R Unit) (ds : List D) (S : Store) : R D := (thenU (dcL n ck f ds S) k).bind fun _ S4 => .ok (.ref n) S4
/-- what a dict comprehension of two clauses brings -/
structure Dc2Parts (X : Cx) (γ : Nat → Value) (W : WX) (v : Env → Store → R D) (ke ve t it t2 it2 : Expr) (scope : Scope) (own : List (Str × Nat)) (own2 : List Nat) (wi : TI) (g : TG) (wi1 : TI) (g1 : TG) (tk tv : TE) : Prop where
  hi : PI X t it wi
  ok : BlkOk X.N X.env.scope scope own
  hv : ∀ i ∈ own2, i ∈ own.map (·.2)
  ps : ∀ (s : Shared) (H : Hp) (Cc : Addr) (cl : List (Str × Addr)) (fp : List Addr), PG (X.blk s H scope (compEnvC scope cl Cc X.env) fp) t g ∧ PI (X.blk s H scope (compEnvC scope cl Cc X.env) fp) t2 it2 wi1 ∧ PG (X.blk s H scope (compEnvC scope cl Cc X.env) fp) t2 g1 ∧ PE (X.blk s H scope (compEnvC scope cl Cc X.env) fp) ke tk ∧ PE (X.blk s H scope (compEnvC scope cl Cc X.env) fp) ve tv
  hs : ∀ x, foldedSetIterable it X.env x = pure x
  hs1 : ∀ env x, foldedSetIterable it2 env x = pure x
  imp : ∀ σ H Q, tE X.K γ W v σ H Q → tDcX2 X.K wi g wi1 g1 tk tv (own.map (·.2)) own2 σ H Q
theorem dc2_parts (G : Good X Γ γ W P) (own own2 : List Nat) {tg src tg2 src2 kx vx : E} (hsrc : Snd X γ W (den P src) (chk src Γ))
    (hsrc2 : ∀ {X : Cx} {Γ : Gam} {W : WX}, Good X Γ γ W P → Snd X γ W (den P src2) (chk src2 Γ)) (hkx : ∀ {X : Cx} {Γ : Gam} {W : WX}, Good X Γ γ W P → Snd X γ W (den P kx) (chk kx Γ)) (hvx : ∀ {X : Cx} {Γ : Gam} {W : WX}, Good X Γ γ W P → Snd X γ W (den P vx) (chk vx Γ)) {x : Expr} (h : (chk (.dc2 own own2 tg src tg2 src2 kx vx) Γ).e x = true) :
    ∃ ke ve t it t2 it2 scope pos wi g wi1 g1 tk tv, x = .DictComp ke ve [⟨t, it, [], 0⟩, ⟨t2, it2, [], 0⟩] scope pos ∧ Γ.calm = true ∧ Dc2Parts X γ W (den P (.dc2 own own2 tg src tg2 src2 kx vx)).v ke ve t it t2 it2 scope (ownOf Γ.N own) own2 wi g wi1 g1 tk tv := by
  simp only [chk, Ck.ofE] at h
  split at h
  case h_2 => cases h
  case h_1 ke ve t it t2 it2 scope pos =>
    obtain ⟨g0, g13⟩ := band h
    obtain ⟨g13, g14⟩ := band g13
    obtain ⟨g0, g12⟩ := band g0
    obtain ⟨g0, g11⟩ := band g0
    obtain ⟨g0, g10⟩ := band g0
    obtain ⟨g0, g9⟩ := band g0
    obtain ⟨g0, g8⟩ := band g0
    obtain ⟨g0, g7⟩ := band g0
    obtain ⟨g0, g6⟩ := band g0
    obtain ⟨g0, g5⟩ := band g0
    obtain ⟨g0, g4⟩ := band g0
    obtain ⟨g0, g3⟩ := band g0
    obtain ⟨g1, g2⟩ := band g0
    clear h g0
    have hown := of_decide_eq_true g5
    have hset : ∀ x, foldedSetIterable it X.env x = pure x := fun x => by
      cases it <;> first | rfl | simp [isSet] at g3
    have hset2 : ∀ env x, foldedSetIterable it2 env x = pure x := fun env x => by
      cases it2 <;> first | rfl | simp [isSet] at g9
    refine ⟨ke, ve, t, it, t2, it2, scope, pos, tI X.K γ W (den P src).i, gT X.K tg, tI X.K γ (fun _ _ _ _ => False) (den P src2).i, gT X.K tg2, tE X.K γ (fun _ _ _ _ => False) (den P kx).v, tE X.K γ (fun _ _ _ _ => False) (den P vx).v, rfl, g1, hsrc.i _ t g2, by rw [G.N, G.sc]; exact blkOk_by g4, (fun i hi => by rw [hown]; simpa using List.all_eq_true.mp g12 i hi),
      (fun s H Cc cl fp => ⟨pg_all (good_blk G scope s H Cc cl fp) tg t g6, (hsrc2 (good_blk G scope s H Cc cl fp)).i _ t2 g8, pg_all (good_blk G scope s H Cc cl fp) tg2 t2 g10, (hkx (good_blk G scope s H Cc cl fp)).e _ g13, (hvx (good_blk G scope s H Cc cl fp)).e _ g14⟩), hset, hset2, fun σ H Q ⟨μ, ρ, S, s, q⟩ => ?_⟩
    rw [hown]
    refine ⟨μ, ρ, S, s, (PostR.bind (rel := Wk X.K) q).imp fun J H1 ⟨μ1, S1, w, le1, s1, hw, q1⟩ D hD => ?_⟩
    have s2 := s1.alloc (c := .dct []) (o := DX D []) hD ⟨[], upd_same, .nil⟩
    have le2 : Le X.K μ1 H1 (μ1 ++ [D]) (upd H1 D (DX D [])) := le_newP hD
    refine ⟨fun i m Hh => m = w.ds.length - i ∧ ∃ μ' S', Le X.K (μ1 ++ [D]) (upd H1 D (DX D [])) μ' Hh ∧ Sim X.K μ' σ Hh ρ S' ∧ PostR X.K γ W (relV X.K) μ' Hh σ ρ ((lc2L (ckS w.lk) (dc2G S1.length own own2 tg tg2 (den P src2).i (den P kx).v (den P vx).v ρ) (w.ds.drop i) S').bind fun _ S4 => .ok (.ref S1.length) S4) Q,
      ⟨_, rfl, μ1 ++ [D], S1 ++ [.dct []], .refl, s2, by rw [List.drop_zero]; exact PostR.base le2 q1⟩, ?_⟩
    rintro i m Hh ⟨rfl, μ', S', le', s', q'⟩
    have hD' : μ'[S1.length]? = some D := le'.at (s1.ref D)
    cases hd : w.ds[i]? with
    | none =>
      rw [List.drop_eq_nil_iff.mpr (List.getElem?_eq_none_iff.mp hd)] at q'
      obtain ⟨hck, q2⟩ := lc_turn q'
      obtain ⟨h10, _⟩ := hw μ' σ Hh ρ S' i (le2.trans le') s' hck
      exact .inl ⟨h10 hd, q2.here s' (.ref hD')⟩
    | some d =>
      rw [drop_at hd] at q'
      obtain ⟨hck, q2⟩ := lc_turn q'
      obtain ⟨_, h11⟩ := hw μ' σ Hh ρ S' i (le2.trans le') s' hck
      obtain ⟨hgo, hy⟩ := h11 d hd
      have hlt : w.ds.length - (i + 1) < w.ds.length - i := by
        have := (List.getElem?_eq_some_iff.mp hd).1
        omega
      refine .inr ⟨hgo, fun H'' => ∃ m', m' < w.ds.length - i ∧ m' = w.ds.length - (i + 1) ∧ ∃ μ' S', Le X.K (μ1 ++ [D]) (upd H1 D (DX D [])) μ' H'' ∧ Sim X.K μ' σ H'' ρ S' ∧ PostR X.K γ W (relV X.K) μ' H'' σ ρ ((lc2L (ckS w.lk) (dc2G S1.length own own2 tg tg2 (den P src2).i (den P kx).v (den P vx).v ρ) (w.ds.drop (i + 1)) S').bind fun _ S4 => .ok (.ref S1.length) S4) Q,
        fun H'' ⟨m', a1, a2, a3⟩ => ⟨m', a1, a2, a3⟩, fun x H2 hx => ?_⟩
      obtain ⟨μ2, le3, s3, rx⟩ := hy x H2 hx
      generalize hk : lc2L (ckS w.lk) (dc2G S1.length own own2 tg tg2 (den P src2).i (den P kx).v (den P vx).v ρ) (w.ds.drop (i + 1)) = kk at q2 ⊢
      obtain ⟨S9, e9, _⟩ := thenU_some q2
      unfold dc2G at q2 e9
      cases ea : asgT tg d (wipeE ρ own) with
      | none => rw [ea] at e9; cases e9
      | some ρ2 =>
        rw [ea] at q2 e9
        change dc2F S1.length own2 tg2 (den P src2).i (den P kx).v (den P vx).v ρ2 S' = _ at e9
        change PostR X.K γ W (relV X.K) μ' Hh σ ρ ((thenU (dc2F S1.length own2 tg2 (den P src2).i (den P kx).v (den P vx).v ρ2 S') kk).bind fun _ S4 => .ok (.ref S1.length) S4) Q at q2
        refine ⟨μ2, wipeE ρ own, S', d, ρ2, ⟨RepE.wipe s3.e own, s3.s⟩, rx, ea, fun σ2 s4 hs => ⟨wipe_same (by rw [s4.e.1, asg_len ea, wipeE_length, ← s'.e.1]) fun j hj => ?_, ?_⟩⟩
        · rw [hs j fun hm => hj (by simpa using List.all_eq_true.mp g7 j hm), wipe_out hj]
        · refine ⟨μ2, ρ2, S', s4, ?_⟩
          cases ec : (den P src2).i ρ2 S' with
          | bad =>
            rw [show dc2F S1.length own2 tg2 (den P src2).i (den P kx).v (den P vx).v ρ2 S' = .bad from by unfold dc2F; rw [ec]; rfl] at e9
            cases e9
          | exc c fs S2 =>
            rw [show dc2F S1.length own2 tg2 (den P src2).i (den P kx).v (den P vx).v ρ2 S' = .exc c fs S2 from by unfold dc2F; rw [ec]; rfl] at e9
            cases e9
          | ok w1 S2 =>
            rw [show dc2F S1.length own2 tg2 (den P src2).i (den P kx).v (den P vx).v ρ2 S' = dcL S1.length (ckS w1.lk) (dcF own2 tg2 (fun _ S => .ok true S) (den P kx).v (den P vx).v ρ2) w1.ds S2 from by unfold dc2F; rw [ec]; rfl] at q2
            change PostR X.K γ W (relV X.K) μ' Hh σ ρ (dcK S1.length (ckS w1.lk) (dcF own2 tg2 (fun _ S => .ok true S) (den P kx).v (den P vx).v ρ2) kk w1.ds S2) Q at q2
            intro μ3 H3 J1 le4 s5 hw1
            refine ⟨fun j k Hj => k = w1.ds.length - j ∧ ∃ μ' S', Le X.K μ3 H3 μ' Hj ∧ RepS X.K Hj μ' S' ∧ PostR X.K γ W (relV X.K) μ' Hj σ ρ (dcK S1.length (ckS w1.lk) (dcF own2 tg2 (fun _ S => .ok true S) (den P kx).v (den P vx).v ρ2) kk (w1.ds.drop j) S') Q,
              ⟨_, rfl, μ3, S2, .refl, s5.s, by rw [List.drop_zero]; exact q2.base (le3.trans le4)⟩, ?_⟩
            rintro j k Hj ⟨rfl, μ4, S4, le5, r4, q4⟩
            have leA := (le3.trans le4).trans le5
            have sj : Sim X.K μ4 σ Hj ρ S4 := ⟨s'.e.mono leA, r4⟩
            have hD4 : μ4[S1.length]? = some D := leA.at hD'
            obtain ⟨S8, e8, _⟩ := thenU_some q4
            cases hd1 : w1.ds[j]? with
            | none =>
              rw [List.drop_eq_nil_iff.mpr (List.getElem?_eq_none_iff.mp hd1)] at q4 e8
              have hck1 : ckS w1.lk S4 = true := by
                cases h : ckS w1.lk S4 with
                | true => rfl
                | false => unfold dcL at e8; rw [h] at e8; cases e8
              have q5 : PostR X.K γ W (relV X.K) μ4 Hj σ ρ ((kk S4).bind fun _ S4 => .ok (.ref S1.length) S4) Q := by
                unfold dcK dcL at q4
                rw [hck1] at q4
                exact q4
              obtain ⟨h12, _⟩ := hw1 μ4 σ Hj ρ S4 j le5 sj hck1
              exact .inl ⟨h12 hd1, _, hlt, rfl, μ4, S4, le'.trans leA, sj, q5⟩
            | some d1 =>
              rw [drop_at hd1] at q4 e8
              have hck1 : ckS w1.lk S4 = true := by
                cases h : ckS w1.lk S4 with
                | true => rfl
                | false => unfold dcL at e8; rw [h] at e8; cases e8
              obtain ⟨_, h13⟩ := hw1 μ4 σ Hj ρ S4 j le5 sj hck1
              obtain ⟨hgo1, hy1⟩ := h13 d1 hd1
              have hlt1 : w1.ds.length - (j + 1) < w1.ds.length - j := by
                have := (List.getElem?_eq_some_iff.mp hd1).1
                omega
              refine .inr ⟨hgo1, fun Hn => ∃ m', m' < w1.ds.length - j ∧ m' = w1.ds.length - (j + 1) ∧ ∃ μ' S', Le X.K μ3 H3 μ' Hn ∧ RepS X.K Hn μ' S' ∧ PostR X.K γ W (relV X.K) μ' Hn σ ρ (dcK S1.length (ckS w1.lk) (dcF own2 tg2 (fun _ S => .ok true S) (den P kx).v (den P vx).v ρ2) kk (w1.ds.drop (j + 1)) S') Q,
                fun Hn ⟨m', a1, a2, a3⟩ => ⟨m', a1, a2, a3⟩, fun x1 H5 hx1 => ?_⟩
              obtain ⟨μ5, le6, s6, rx1⟩ := hy1 x1 H5 hx1
              unfold dcL at e8
              rw [hck1, cond_true] at e8
              unfold dcK dcL at q4
              rw [hck1, cond_true] at q4
              unfold dcF at q4 e8
              cases ea1 : asgT tg2 d1 (wipeE ρ2 own2) with
              | none => rw [ea1] at e8; cases e8
              | some ρ3 =>
                rw [ea1] at q4 e8
                have sw : Sim X.K μ5 (wipe σ2 own2) H5 (wipeE ρ2 own2) S4 := ⟨RepE.wipe ((s5.e.mono le5).mono le6) own2, s6.s⟩
                refine ⟨μ5, wipeE ρ2 own2, S4, d1, ρ3, sw, rx1, ea1, fun σ3 s7 hs3 => ⟨wipe_same (by rw [s7.e.1, asg_len ea1, wipeE_length, ← s5.e.1]) fun j' hj' => ?_, ?_⟩⟩
                · rw [hs3 j' fun hm => hj' (by simpa using List.all_eq_true.mp g11 j' hm), wipe_out hj']
                · refine ⟨μ5, ρ3, S4, s7, ?_⟩
                  cases ek : (den P kx).v ρ3 S4 with
                  | bad => simp only [R.bind, ek, cond_true, dcT] at e8; cases e8
                  | exc c fs S3 => simp only [R.bind, ek, cond_true, dcT] at e8; cases e8
                  | ok yk S3 =>
                    simp only [R.bind, ek, cond_true] at e8 q4
                    intro μ6 H6 kv le7 s8 rk
                    refine ⟨μ6, ρ3, S3, s8, ?_⟩
                    cases ev : (den P vx).v ρ3 S3 with
                    | bad => simp only [ev, dcT] at e8; cases e8
                    | exc c fs S5 => simp only [ev, dcT] at e8; cases e8
                    | ok yv S5 =>
                      simp only [ev, dcT] at e8 q4
                      intro μ7 H7 vv le8 s9 rv
                      have hD7 : μ7[S1.length]? = some D := le8.at (le7.at (le6.at hD4))
                      split at e8
                      case h_2 => cases e8
                      case h_1 kvs ks hS5 hks =>
                        split at e8
                        case isFalse => cases e8
                        case isTrue hz =>
                          obtain ⟨xs, h14, r14⟩ := s9.s.cell _ _ _ hS5 hD7
                          obtain ⟨b, rfl, hb⟩ := key_rep (RepV.mono le8 rk) hks
                          have leB := (le6.trans le7).trans le8
                          refine ⟨b, xs, ks, rfl, h14, r14.kx, hb, by rw [← r14.length, ← linesz_eq]; exact hz, fun u ru => ?_⟩
                          have leC : Le X.K μ7 H7 μ7 (upd H7 D (DX D (storedH xs ks b u))) := le_updC h14 nt_dx
                          refine ⟨_, hlt1, rfl, μ7, S5.set S1.length (.dct (dPut kvs ks yv)), (le5.trans leB).trans leC, s9.s.writeC hS5 hD7 h14 nt_dx rfl rfl ⟨_, upd_same, (r14.put hb rv ru).mono leC⟩, ?_⟩
                          have q5 := PostR.base (leB.trans leC) q4
                          rw [hS5, hks] at q5
                          simp only [if_pos hz] at q5
                          exact q5
theorem snd_dc2 (G : Good X Γ γ W P) (own own2 : List Nat) {tg src tg2 src2 kx vx : E} (hsrc : Snd X γ W (den P src) (chk src Γ))
    (hsrc2 : ∀ {X : Cx} {Γ : Gam} {W : WX}, Good X Γ γ W P → Snd X γ W (den P src2) (chk src2 Γ)) (hkx : ∀ {X : Cx} {Γ : Gam} {W : WX}, Good X Γ γ W P → Snd X γ W (den P kx) (chk kx Γ)) (hvx : ∀ {X : Cx} {Γ : Gam} {W : WX}, Good X Γ γ W P → Snd X γ W (den P vx) (chk vx Γ)) :
    Snd X γ W (den P (.dc2 own own2 tg src tg2 src2 kx vx)) (chk (.dc2 own own2 tg src tg2 src2 kx vx) Γ) := by
  refine snd_ofV fun x h => ?_
  obtain ⟨ke, ve, t, it, t2, it2, scope, pos, wi, g, wi1, g1, tk, tv, rfl, h1, L⟩ := dc2_parts G own own2 hsrc hsrc2 hkx hvx h
  exact ⟨pe_imp (pe_dcX2 (by have := G.un; omega) (G.calm h1) G.nd L.hi L.ok L.hv L.hs L.hs1 L.ps) L.imp, fun _ => rfl, fun _ _ _ z => nomatch z⟩
theorem rep1_rep {K : PySem.W.Frag} {μ : Mu} {H : Hp} {σ : L2.St} {ρ : Env} {S : Store} {y z : Str} {a : D} {av : V} {β : Type} {rel' : Mu → Hp → D → β → Prop} {k : D → Store → R D} {Q : β → Hp → Prop} (s : Sim K μ σ H ρ S) (r : RepV K H μ a av) (q : PostR K γ W rel' μ H σ ρ ((rep1R y z a S).bind k) Q) :
    ∃ x, av = .str x ∧ x.length + z.length ≤ 16777216 ∧ PostR K γ W rel' μ H σ ρ (k (.str (rep1 x y z)) S) Q := by
  cases a <;> first | (exfalso; exact q) | skip
  rename_i x
  cases r
  by_cases h : x.length + z.length ≤ 16777216
  · refine ⟨x, rfl, h, ?_⟩
    simp only [rep1R, if_pos h] at q
    exact q
  · simp only [rep1R, if_neg h] at q
    exact q.elim
theorem snd_rpl6 (x : Str) (y1 z1 y2 z2 : Str) {f b c d : E} (hf : Snd X γ W (den P f) (chk f Γ)) (hb : Snd X γ W (den P b) (chk b Γ)) (hc : Snd X γ W (den P c) (chk c Γ)) (hd : Snd X γ W (den P d) (chk d Γ)) :
    Snd X γ W (den P (.rpl6 x f b c y1 z1 y2 z2 d)) (chk (.rpl6 x f b c y1 z1 y2 z2 d) Γ) := by
  refine snd_ofV fun w h => ?_
  split at h
  case h_2 => cases h
  case h_1 x' j0 c0 op f0 p0 eb ec o1 m1 ap1 a1 k1 d1 b1 k2 d2 n1 k3 d3 ps1 o2 m2 ap2 a2 l1 g1 b2 l2 g2 n2 l3 g3 ps2 ed pos =>
    obtain ⟨hA, hB⟩ := band h
    obtain ⟨hA, e6⟩ := band hA
    obtain ⟨hA, e5⟩ := band hA
    obtain ⟨hA, e4⟩ := band hA
    obtain ⟨hA, e3⟩ := band hA
    obtain ⟨e1, e2⟩ := band hA
    obtain ⟨hB, hC⟩ := band hB
    obtain ⟨hB, u8⟩ := band hB
    obtain ⟨hB, u7⟩ := band hB
    obtain ⟨hB, u6⟩ := band hB
    obtain ⟨hB, u5⟩ := band hB
    obtain ⟨hB, u4⟩ := band hB
    obtain ⟨hB, u3⟩ := band hB
    obtain ⟨u1, u2⟩ := band hB
    obtain ⟨hC, v8⟩ := band hC
    obtain ⟨hC, v7⟩ := band hC
    obtain ⟨hC, v6⟩ := band hC
    obtain ⟨hC, v5⟩ := band hC
    obtain ⟨hC, v4⟩ := band hC
    obtain ⟨hC, v3⟩ := band hC
    obtain ⟨v1, v2⟩ := band hC
    have i1 := of_decide_eq_true e1
    have i2 := of_decide_eq_true e2
    have i3 := of_decide_eq_true u1
    have i4 := of_decide_eq_true u2
    have i5 := of_decide_eq_true u3
    have i6 := of_decide_eq_true u4
    have i7 := of_decide_eq_true v1
    have i8 := of_decide_eq_true v2
    have i9 := of_decide_eq_true v3
    have i10 := of_decide_eq_true v4
    subst i1 i2 i3 i4 i5 i6 i7 i8 i9 i10
    have po : ∀ {o : Expr}, plainObj o = true → ∀ g ks p, o ≠ .Call g [] ks p := fun h g ks p z => by subst z; simp [plainObj] at h
    have r1 : PET X (.Call (.Attribute o1 "replace" ap1) [.Constant (.str a1) k1 d1, .Constant (.str b1) k2 d2, .Constant (.int 1) k3 d3] [] ps1) (tRep1 (tE X.K γ W (den P f).v) a1 b1) := pet_rep1 (hf.e _ u6) (by simpa using u8) rfl (base_of f o1 u6 (po u7) _ _) u5
    have r2 : PET X (.Call (.Attribute o2 "replace" ap2) [.Constant (.str a2) l1 g1, .Constant (.str b2) l2 g2, .Constant (.int 1) l3 g3] [] ps2) (tRep1 (tE X.K γ W (den P f).v) a2 b2) := pet_rep1 (hf.e _ v6) (by simpa using v8) rfl (base_of f o2 v6 (po v7) _ _) v5
    have pd := pat_cons (CwR.PET.of (hd.e _ e6)) pat_nil (star1 d ed e6 [] X.env)
    have p2 := pat_cons r2 pd rfl
    have p1 := pat_cons r1 p2 rfl
    have pc := pat_cons (CwR.PET.of (hc.e _ e5)) p1 (star1 c ec e5 _ X.env)
    have pb := pat_cons (CwR.PET.of (hb.e _ e4)) pc (star1 b eb e4 _ X.env)
    refine ⟨pe_imp (pe_lst (pa_first (bin_all (γ := γ) (W := W) .add) (hf.e _ e3) pb rfl)) fun σ H Q ⟨μ, ρ, S, s, q⟩ => ?_, fun _ => rfl, fun _ _ _ z => nomatch z⟩
    refine ⟨μ, ρ, S, s, (PostR.bind q).imp fun av H1 ⟨μ1, S1, a, le1, s1, t1, q1⟩ => ?_⟩
    refine ⟨μ1, σ, ρ, S1, .str x', a, s1, .str x', t1, (PostR.bind q1).imp fun w1 H2 ⟨μ2, S2, d1, le2, s2, t2, q2⟩ => ?_⟩
    refine ⟨μ2, ρ, S2, s2, (PostR.bind q2).imp fun w2 H3 ⟨μ3, S3, d2, le3, s3, t3, q3⟩ => ?_⟩
    refine ⟨μ3, ρ, S3, s3, (PostR.bind q3).imp fun w3 H4 ⟨μ4, S4, d3, le4, s4, t4, q4⟩ => ?_⟩
    refine ⟨μ4, ρ, S4, s4, (PostR.bind q4).imp fun w4 H5 ⟨μ5, S5, d4, le5, s5, t5, q5⟩ => ?_⟩
    obtain ⟨x4, rfl, l4, q5⟩ := rep1_rep s5 t5 q5
    refine ⟨x4, rfl, l4, μ5, ρ, S5, s5, (PostR.bind q5).imp fun w5 H6 ⟨μ6, S6, d5, le6, s6, t6, q6⟩ => ?_⟩
    obtain ⟨x5, rfl, l5, q6⟩ := rep1_rep s6 t6 q6
    refine ⟨x5, rfl, l5, μ6, ρ, S6, s6, (PostR.bind q6).imp fun w6 H7 ⟨μ7, S7, d6, le7, s7, t7, q7⟩ => ?_⟩
    have rr : RepVs X.K H7 μ7 [d1, d2, d3, .str (rep1 x4 a1 b1), .str (rep1 x5 a2 b2), d6] [w1, w2, w3, .str (rep1 x4 a1 b1), .str (rep1 x5 a2 b2), w6] :=
      .cons (((((t2.mono le3).mono le4).mono le5).mono le6).mono le7) (.cons ((((t3.mono le4).mono le5).mono le6).mono le7) (.cons (((t4.mono le5).mono le6).mono le7) (.cons (.str _) (.cons (.str _) (.cons t7 .nil)))))
    unfold lstR at q7
    split at q7
    case isTrue hz => exact ⟨by rw [← linesz_eq]; exact hz, q7.newL s7 rr⟩
    case isFalse => exact q7.elim
/-- EVERY EXPRESSION -/
theorem snd_all : ∀ (e : E) {X : Cx} {Γ : Gam} {W : WX}, Good X Γ γ W P → Snd X γ W (den P e) (chk e Γ)
  | .var i, _, _, _, G => snd_var G i
  | .non, _, _, _, G => snd_lit fun x h => by
      split at h
      · exact ⟨⟨.non, pe_non, fun _ _ => .non⟩, fun _ => rfl, fun _ _ _ z => nomatch z⟩
      · cases h
  | .bl b, _, _, _, G => snd_lit fun x h => by
      split at h
      · have e := eq_of_beq h
        subst e
        exact ⟨⟨.bl b, pe_bl, fun _ _ => .bl b⟩, fun _ => rfl, fun _ _ _ z => nomatch z⟩
      · cases h
  | .int i, _, _, _, G => snd_lit fun x h => by
      split at h
      · have e := eq_of_beq h
        subst e
        exact ⟨⟨.int i, pe_int, fun _ _ => .int i⟩, fun _ => rfl, fun _ _ _ z => nomatch z⟩
      · cases h
  | .str s, _, _, _, G => snd_lit fun x h => by
      split at h
      · have e := of_decide_eq_true h
        subst e
        exact ⟨⟨.str s, pe_str, fun _ _ => .str s⟩, fun _ => rfl, fun _ _ _ z => nomatch z⟩
      · cases h
  | .glb y d, _, _, _, G => snd_glb G y d
  | .bin o a b, _, _, _, G => snd_bin o (snd_all a G) (snd_all b G)
  | .neg a, _, _, _, G => snd_neg (snd_all a G)
  | .cmp o a b, _, _, _, G => snd_cmp G o (snd_all a G) (snd_all b G)
  | .chain o1 o2 a b c, _, _, _, G => snd_chain G o1 o2 (snd_all a G) (snd_all b G) (snd_all c G)
  | .not a, _, _, _, G => snd_not (snd_all a G)
  | .and a b, _, _, _, G => snd_and (snd_all a G) (snd_all b G)
  | .or a b, _, _, _, G => snd_or (snd_all a G) (snd_all b G)
  | .ite c a b, _, _, _, G => snd_ite (snd_all c G) (snd_all a G) (snd_all b G)
  | .tup a, _, _, _, G => snd_tup (snd_all a G)
  | .lst a, _, _, _, G => snd_lst (snd_all a G)
  | .nil, _, _, _, _ => snd_nil
  | .cons a b, _, _, _, G => snd_cons (snd_all a G) (snd_all b G)
  | .ix a b, _, _, _, G => snd_ix G (snd_all a G) (snd_all b G)
  | .dd0, _, _, _, G => snd_dd0
  | .kd0, _, _, _, G => snd_kd0
  | .kdd ks vs, _, _, _, G => snd_kdd ks (snd_all vs G)
  | .pop0 o, _, _, _, G => snd_pop0 (snd_all o G)
  | .lk o e, _, _, _, G => snd_lk o (snd_all e G)
  | .dd1 k v, _, _, _, G => snd_dd1 G (snd_all k G) (snd_all v G)
  | .dd2 k v k2 v2, _, _, _, G => snd_dd2 G (snd_all k G) (snd_all v G) (snd_all k2 G) (snd_all v2 G)
  | .slc a l h, _, _, _, G => snd_slc (snd_all a G) (snd_all l G) (snd_all h G)
  | .isx a y tbl, _, _, _, G => snd_isx G y tbl (snd_all a G)
  | .call f a, _, _, _, G => snd_call G f (snd_all a G)
  | .bi f a, _, _, _, G => snd_bi G f (snd_all a G)
  | .me m b a, _, _, _, G => snd_me G m (snd_all b G) (snd_all a G)
  | .isi a ts m, _, _, _, G => snd_isi G ts m (snd_all a G)
  | .rng a, _, _, _, G => snd_rng G (snd_all a G)
  | .enm a, _, _, _, G => snd_enm G (snd_all a G)
  | .zp a, _, _, _, G => snd_zp G (snd_all a G)
  | .fjs a, _, _, _, G => snd_fjs (snd_all a G)
  | .fmt a, _, _, _, G => snd_fmt (snd_all a G)
  | .sm m o a, _, _, _, G => snd_sm m (snd_all o G) (snd_all a G)
  | .sm0 m o, _, _, _, G => snd_sm0 m (snd_all o G)
  | .gix y kvs a, _, _, _, G => snd_gix G y kvs (snd_all a G)
  | .gdx y kvs a, _, _, _, G => snd_gdx G y kvs (snd_all a G)
  | .gdin y kvs neg a, _, _, _, G => snd_gdin G y kvs neg (snd_all a G)
  | .giin y kvs neg a, _, _, _, G => snd_giin G y kvs neg (snd_all a G)
  | .bln a, _, _, _, G => snd_bln G (snd_all a G)
  | .lrv a, _, _, _, G => snd_lrv G (snd_all a G)
  | .itm _, _, _, _, _ => snd_no
  | .fld c f a, _, _, _, G => snd_fld G c f (snd_all a G)
  | .mth f c m b a, _, _, _, G => snd_mth G f c m (snd_all b G) (snd_all a G)
  | .lc2 own own2 tg src tg2 src2 elt, _, _, _, G => snd_lc2 G own own2 (snd_all src G) (snd_all src2) (snd_all elt)
  | .lc own tg src cond elt, _, _, _, G => snd_lc G own (snd_all src G) (snd_all cond) (snd_all elt)
  | .dc own tg src cond kx vx, _, _, _, G => snd_dc G own (snd_all src G) (snd_all cond) (snd_all kx) (snd_all vx)
  | .rpl6 x f b c y1 z1 y2 z2 d, _, _, _, G => snd_rpl6 x y1 z1 y2 z2 (snd_all f G) (snd_all b G) (snd_all c G) (snd_all d G)
  | .dc2 own own2 tg src tg2 src2 kx vx, _, _, _, G => snd_dc2 G own own2 (snd_all src G) (snd_all src2) (snd_all kx) (snd_all vx)
end
end Ng

set_option Elab.async false
set_option linter.all false
set_option maxRecDepth 100000
set_option maxHeartbeats 4000000
/-! Statements: what the text must be; that the engine reads it. -/
namespace Ng
open PySem PySem.Spec PyProof.Rows L2

structure CkS where
  s : Stmt → Bool
  b : List Stmt → Bool
def CkS.ofS (f : Stmt → Bool) : CkS := { s := f, b := fun _ => false }
/-- neither a comprehension nor what else is stored in another way -/
def plainVal : Expr → Bool
  | .ListComp .. => false
  | .SetComp .. => false
  | .DictComp .. => false
  | _ => true
def isTup : Expr → Bool
  | .Tuple .. => true
  | .List .. => true
  | _ => false
def isLc : E → Bool
  | .lc .. => true
  | .lc2 .. => true
  | .dc .. => true
  | .dc2 .. => true
  | _ => false
/-- a comprehension bound to a local name on its own line -/
def lcSame (Γ : Gam) (x : Str) (px : Pos) : Expr → Bool
  | .ListComp _ _ scope pos => (match Γ.sc.kind with | .function => true | _ => false) && decide (Γ.sc.names.lookup x = some .local) && (px.line == pos.line) && !(scope.names.any fun (n, k) => n == x && (k == .local || k == .cell))
  | .DictComp _ _ _ scope pos => (match Γ.sc.kind with | .function => true | _ => false) && decide (Γ.sc.names.lookup x = some .local) && (px.line == pos.line) && !(scope.names.any fun (n, k) => n == x && (k == .local || k == .cell))
  | _ => false
def par2 (Γ : Gam) (ts vs : List Expr) : Bool := match ts, vs with
  | [.Name x px, .Name y py], [_, _] => decide (Γ.sc.names.lookup x = some .local) && decide (Γ.sc.names.lookup y = some .local) && (px.line == py.line) && decide (x ≠ y) && !(vs.all (foldedForSure 8)) && !(vs.all (constantsAlone 8)) && !(vs.any fun | .Starred .. => true | _ => false)
  | _, _ => false
def notLoc (sc : Scope) (ts : List Expr) : Bool := ts.any fun e => match e with
  | .Name id _ => !decide (sc.names.lookup id = some .local)
  | _ => true
/-- a tuple of constants -/
def fold2 : Expr → Bool
  | .Tuple vs _ _ => vs.all (foldedForSure 8)
  | _ => false
def asgC (Γ : Gam) (ckv : Ck) (cka : E → Ck) (tg e : E) : Stmt → Bool
  | .Assign [t] v _ => (match tg, t with
    | .var i, .Name x p => ckName Γ i x && ckv.e v && ((plainVal v || !decide (Γ.sc.names.lookup x = some .local)) || (isLc e && lcSame Γ x p v))
    | .tup ts, .Tuple es _ _ => ckG Γ tg t && ckv.e v && plainVal v && (!(isTup v) || (decide (4 ≤ es.length) || notLoc Γ.sc es || fold2 v) || (match e, v with
      | .tup as, .Tuple vs _ _ => Γ.calm && (match Γ.sc.kind with | .function => true | _ => false) && par2 Γ es vs && (cka as).a vs
      | _, _ => false))
    | _, _ => false)
  | _ => false
def chkC : C → Gam → CkS
  | .skip, _ => { s := fun _ => false, b := fun x => match x with | [] => true | _ => false }
  | .seq a r, Γ => { s := fun _ => false, b := fun x => match x with | [] => false | st :: rest => (chkC a Γ).s st && (chkC r Γ).b rest }
  | .pass, _ => CkS.ofS fun x => match x with | .Pass _ => true | .Expr (.Constant (.str _) _ _) _ => true | _ => false
  | .ex e, Γ => CkS.ofS fun x => match x with | .Expr v _ => (chk e Γ).e v && plainVal v | _ => false
  | .asg tg e, Γ => CkS.ofS (asgC Γ (chk e Γ) (fun a => chk a Γ) tg e)
  | .any, _ => { s := fun _ => true, b := fun _ => true }
  | .asg2 i j e, Γ => CkS.ofS fun x => match x with | .Assign [.Name x _, .Name y _] v _ => ckName Γ i x && ckName Γ j y && (chk e Γ).e v | _ => false
  | .aug i o e, Γ => CkS.ofS fun x => match x with | .AugAssign (.Name x _) op v _ => ckName Γ i x && decide (op = opOf o) && (chk e Γ).e v | _ => false
  | .ret e, Γ => CkS.ofS fun x => match x with | .Return (some v) _ => (chk e Γ).e v | _ => false
  | .retN, _ => CkS.ofS fun x => match x with | .Return none _ => true | _ => false
  | .ite c a b, Γ => CkS.ofS fun x => match x with | .If t y z _ => (chk c Γ).e t && (chkC a Γ).b y && (chkC b Γ).b z | _ => false
  | .whl _ c b, Γ => CkS.ofS fun x => match x with | .While t y [] _ => (chk c Γ).e t && (chkC b Γ).b y | _ => false
  | .for tg it b, Γ => CkS.ofS fun x => match x with | .For t i y [] _ => Γ.calm && ckG Γ tg t && (chk it Γ).i i t && !(isSet i) && (chkC b Γ).b y | _ => false
  | .brk, _ => CkS.ofS fun x => match x with | .Break _ => true | _ => false
  | .cnt, _ => CkS.ofS fun x => match x with | .Continue _ => true | _ => false
  | .raise c, Γ => CkS.ofS fun x => match x with
    | .Raise (some (.Call (.Name x _) [.Constant (.str _) _ _] [] _)) none _ => Γ.calm && glX Γ x && nodbg x && decide (Γ.exs[c]? = some x)
    | _ => false
  | .fst c f o e, Γ => CkS.ofS fun x => match x with
    | .Assign [.Attribute ov x _] v _ => decide (x = f) && Γ.atr.contains (c, f) && (chk o Γ).e ov && (chk e Γ).e v && plainVal v
    | _ => false
  | .ist o i e, Γ => CkS.ofS fun x => match x with
    | .Assign [.Subscript ov iv _] v _ => (chk o Γ).e ov && (chk i Γ).e iv && (chk e Γ).e v && plainVal v
    | _ => false
  | .fst2 c f g o e, Γ => CkS.ofS fun x => match x with
    | .Assign [.Tuple [.Attribute ov x _, .Attribute ow y _] _ _] v _ => Γ.calm && decide (x = f) && decide (y = g) && Γ.atr.contains (c, f) && Γ.atr.contains (c, g) && (chk o Γ).e ov && (chk o Γ).e ow && (chk e Γ).e v && plainVal v && !(isTup v)
    | _ => false
  | .lk _ b, Γ => CkS.ofS fun x => match x with | .For t i y e p => (chkC b Γ).s (.For t i y e p) | .Assign ts v p => (chkC b Γ).s (.Assign ts v p) | .Return v p => (chkC b Γ).s (.Return v p) | _ => false
  | .fau c f o q e, Γ => CkS.ofS fun x => match x with
    | .AugAssign (.Attribute ov x _) op v _ => decide (x = f) && Γ.atr.contains (c, f) && decide (op = opOf q) && (chk o Γ).e ov && (chk e Γ).e v
    | _ => false
  | .del o i, Γ => CkS.ofS fun x => match x with
    | .Delete [.Subscript ov iv _] _ => (chk o Γ).e ov && (chk i Γ).e iv
    | _ => false
  | .dsp i x tbl e as, Γ => { s := fun _ => false, b := fun st => match st with
    | [.Assign [.Name v _] (.Subscript (.Name y _) ei _) _, .Return (some (.Call (.Name v2 _) (a :: es) [] _)) _] => Γ.calm && decide (v2 = v) && ckName Γ i v && decide (y = x) && glX Γ y && nodbg y && decide (Γ.glb.lookup y = some (.f tbl)) && tbl.all (fun p => decide (Γ.fns[p.2.2]? = some (.fn p.2.1))) && (chk e Γ).e ei && (chk as Γ).a (a :: es) && nodbg v && visX Γ v
    | _ => false }
  | .tryAs b y tbl i s, Γ => CkS.ofS fun x => match x with
    | .Try body [.ExceptHandler (some (.Name z _)) (some n) (b₀ :: r) _] [] [] _ => !Γ.hot && decide (z = y) && glX Γ y && nodbg y && decide (Γ.isa.lookup y = some tbl) && decide (tbl.length ≤ Γ.exs.length) && decide (Γ.N[i]? = some n) && decide (Γ.sc.names.lookup n = some .local) && (chkC b Γ).b body && (chkC s Γ.suite).b (b₀ :: r)
    | _ => false
  | .tryOn b y tbl s, Γ => CkS.ofS fun x => match x with
    | .Try body [.ExceptHandler (some (.Name z _)) none (b₀ :: r) _] [] [] _ => !Γ.hot && decide (z = y) && glX Γ y && nodbg y && decide (Γ.isa.lookup y = some tbl) && decide (tbl.length ≤ Γ.exs.length) && (chkC b Γ).b body && (chkC s Γ.suite).b (b₀ :: r)
    | _ => false
  | .tryAs2 b y1 tbl1 y2 tbl2 i s1 s2, Γ => CkS.ofS fun x => match x with
    | .Try body [.ExceptHandler (some (.Name z1 _)) (some n1) (b1 :: r1) _, .ExceptHandler (some (.Name z2 _)) (some n2) (b2 :: r2) _] [] [] _ =>
      (!Γ.hot && decide (z1 = y1) && glX Γ y1 && nodbg y1 && decide (Γ.isa.lookup y1 = some tbl1) && decide (tbl1.length ≤ Γ.exs.length) && decide (Γ.N[i]? = some n1) && decide (Γ.sc.names.lookup n1 = some .local)) &&
      ((decide (n2 = n1) && decide (z2 = y2) && glX Γ y2 && nodbg y2 && decide (Γ.isa.lookup y2 = some tbl2) && decide (tbl2.length ≤ Γ.exs.length)) && ((chkC b Γ).b body && (chkC s1 Γ.suite).b (b1 :: r1) && (chkC s2 Γ.suite).b (b2 :: r2)))
    | _ => false

section
variable (K : PySem.W.Frag) (γ : Nat → Value) (W : WX)
def PostO (μ : Mu) (H : Hp) (o : O) (D : Ends) : Prop :=
  match o with
  | .nx ρ' S' => ∀ μ' H' σ', Le K μ H μ' H' → Sim K μ' σ' H' ρ' S' → D.nx σ' H'
  | .bk ρ' S' => ∀ μ' H' σ', Le K μ H μ' H' → Sim K μ' σ' H' ρ' S' → D.bk σ' H'
  | .ct ρ' S' => ∀ μ' H' σ', Le K μ H μ' H' → Sim K μ' σ' H' ρ' S' → D.ct σ' H'
  | .ret d S' => ∀ μ' H' v, Le K μ H μ' H' → RepS K H' μ' S' → RepV K H' μ' d v → D.rt v H'
  | .exc c fs ρ' S' => ∀ μ' H' σ' dx, Le K μ H μ' H' → Sim K μ' σ' H' ρ' S' → XD K H' μ' fs dx → W (γ c) dx σ' H'
  | .bad => False
def sR (f : Env → Store → O) : TS := fun D σ H => ∃ μ ρ S, Sim K μ σ H ρ S ∧ PostO K γ W μ H (f ρ S) D
end
structure SndS (X : Cx) (γ : Nat → Value) (W : WX) (f : Env → Store → O) (ck : CkS) : Prop where
  s : ∀ st, ck.s st = true → PS X st (sR X.K γ W f)
  b : ∀ sts, ck.b sts = true → PSs X sts (sR X.K γ W f)
/-- what is known of an exception's class -/
def ExcF (K : PySem.W.Frag) (mg : Str → Option Value) (γ : Nat → Value) (c : Nat) (x : Str) : Prop :=
  ∃ C bmB B newId initId, γ c = .ref C ∧ ExcBaseFacts B newId initId bmB ∧ PySem.W.excIn K C bmB newId = true ∧ mg x = some (.ref C) ∧ PySem.W.keepIn K (.ref C) = true ∧
    PySem.W.subIn K (.ref C) (.type "BaseException") = some true ∧ PySem.W.typeIn K (.ref C) = some (.type "type") ∧ ExcC K C
structure GoodS (X : Cx) (Γ : Gam) (γ : Nat → Value) (W : WX) (P : Nat → List D → Store → R D) : Prop extends Good X Γ γ W P where
  own : PassesOwn (model X.prog X.w) X.A X.env X.xe
  stk : X.stack = X.env :: X.outer
  frm : X.env.frame = some X.env.locals
  exs : ∀ c x, Γ.exs[c]? = some x → ExcF X.K X.mg γ c x
section
variable {X : Cx} {γ : Nat → Value} {W : WX} {Γ : Gam} {P : Nat → List D → Store → R D} {K : PySem.W.Frag} {μ μ1 : Mu} {H H1 : Hp} {σ : L2.St} {ρ : Env} {S : Store}
theorem PostO.base {o : O} {D : Ends} (l : Le K μ H μ1 H1) (h : PostO K γ W μ H o D) : PostO K γ W μ1 H1 o D := by
  cases o with
  | nx => exact fun μ' H' s l' => h μ' H' s (l.trans l')
  | bk => exact fun μ' H' s l' => h μ' H' s (l.trans l')
  | ct => exact fun μ' H' s l' => h μ' H' s (l.trans l')
  | ret => exact fun μ' H' s l' => h μ' H' s (l.trans l')
  | exc => exact fun μ' H' s d l' => h μ' H' s d (l.trans l')
  | bad => exact h
theorem PostO.of {α β : Type} {rel : Mu → Hp → α → β → Prop} {r : R α} {k : α → Store → O} {D : Ends} (h : PostO K γ W μ H (O.of ρ r k) D) :
    PostR K γ W rel μ H σ ρ r fun b H1 => ∃ μ1 S1 a, r = .ok a S1 ∧ Le K μ H μ1 H1 ∧ Sim K μ1 σ H1 ρ S1 ∧ rel μ1 H1 a b ∧ PostO K γ W μ1 H1 (k a S1) D := by
  cases r with
  | ok a S' => exact fun μ' H' b l s rl => ⟨μ', S', a, rfl, l, s, rl, PostO.base l h⟩
  | exc c fs S' => exact fun μ' H' d l s x => h μ' H' σ d l s x
  | bad => exact h
theorem PostO.seq {o : O} {k : Env → Store → O} {D : Ends} (h : PostO K γ W μ H (o.seq k) D) :
    PostO K γ W μ H o { D with nx := fun σ' H' => ∃ μ' ρ' S', Le K μ H μ' H' ∧ Sim K μ' σ' H' ρ' S' ∧ PostO K γ W μ' H' (k ρ' S') D } := by
  cases o with
  | nx ρ' S' => exact fun μ' H' σ' l s => ⟨μ', ρ', S', l, s, PostO.base l h⟩
  | bk => exact h
  | ct => exact h
  | ret => exact h
  | exc => exact h
  | bad => exact h
theorem snd_ofS {f : Env → Store → O} {ck : Stmt → Bool} (h : ∀ st, ck st = true → PS X st (sR X.K γ W f)) : SndS X γ W f (CkS.ofS ck) := ⟨h, (fun _ h => nomatch h)⟩
/-! ### blocks, small statements -/
theorem ss_skip : SndS X γ W (run P .skip) (chkC .skip Γ) := by
  refine ⟨(fun _ h => nomatch h), fun sts h => ?_⟩
  cases sts with
  | nil => exact pss_imp pss_nil fun D σ H ⟨μ, ρ, S, s, q⟩ => q μ H σ .refl s
  | cons => cases h
theorem ss_seq {a b : C} (ha : SndS X γ W (run P a) (chkC a Γ)) (hb : SndS X γ W (run P b) (chkC b Γ)) : SndS X γ W (run P (.seq a b)) (chkC (.seq a b) Γ) := by
  refine ⟨(fun _ h => nomatch h), fun sts h => ?_⟩
  cases sts with
  | nil => cases h
  | cons st rest =>
    obtain ⟨h1, h2⟩ := band h
    refine pss_imp (pss_cons (ha.s _ h1) (hb.b _ h2)) fun D σ H ⟨μ, ρ, S, s, q⟩ => ?_
    refine ⟨μ, ρ, S, s, ?_⟩
    have q1 := PostO.seq q
    cases e : run P a ρ S with
    | nx ρ' S' =>
      rw [e] at q1
      exact fun μ' H' σ' l s => let ⟨μ2, ρ2, S2, _, s2, q2⟩ := q1 μ' H' σ' l s; ⟨μ2, ρ2, S2, s2, q2⟩
    | bk => rw [e] at q1; exact q1
    | ct => rw [e] at q1; exact q1
    | ret => rw [e] at q1; exact q1
    | exc => rw [e] at q1; exact q1
    | bad => rw [e] at q1; exact q1
theorem ss_pass : SndS X γ W (run P .pass) (chkC .pass Γ) := by
  refine snd_ofS fun st h => ?_
  split at h
  · exact ps_imp ps_pass fun D σ H ⟨μ, ρ, S, s, q⟩ => q μ H σ .refl s
  · exact ps_imp ps_doc fun D σ H ⟨μ, ρ, S, s, q⟩ => q μ H σ .refl s
  · cases h
theorem ss_brk : SndS X γ W (run P .brk) (chkC .brk Γ) := by
  refine snd_ofS fun st h => ?_
  split at h
  · exact ps_imp ps_break fun D σ H ⟨μ, ρ, S, s, q⟩ => q μ H σ .refl s
  · cases h
theorem ss_cnt : SndS X γ W (run P .cnt) (chkC .cnt Γ) := by
  refine snd_ofS fun st h => ?_
  split at h
  · exact ps_imp ps_continue fun D σ H ⟨μ, ρ, S, s, q⟩ => q μ H σ .refl s
  · cases h
theorem ss_ret (G : Good X Γ γ W P) (e : E) : SndS X γ W (run P (.ret e)) (chkC (.ret e) Γ) := by
  refine snd_ofS fun st h => ?_
  split at h
  · refine ps_imp (ps_ret ((snd_all e G).e _ h)) fun D σ H ⟨μ, ρ, S, s, q⟩ => ?_
    exact ⟨μ, ρ, S, s, (PostO.of q).imp fun v H1 ⟨μ1, S1, d, _, le1, s1, r1, q1⟩ => q1 μ1 H1 v .refl s1.s r1⟩
  · cases h
theorem ss_retN : SndS X γ W (run P .retN) (chkC .retN Γ) := by
  refine snd_ofS fun st h => ?_
  split at h
  · exact ps_imp ps_retN fun D σ H ⟨μ, ρ, S, s, q⟩ => q μ H .non .refl s.s .non
  · cases h
theorem sw_plain {v : Expr} (h : plainVal v = true) (t : Option Expr) (l : Nat) (env : PySem.Env) : swapsWith v t l env = pure false := by
  cases v <;> first | rfl | cases h
theorem sw_pn {v : Expr} {x : Str} {Γ : Gam} {q : Pos} (l : Nat) {env : PySem.Env} (he : env.scope = Γ.sc) (h : (plainVal v || !decide (Γ.sc.names.lookup x = some .local)) = true) : swapsWith v (some (.Name x q)) l env = pure false := by
  rw [Bool.or_eq_true] at h
  rcases h with h | h
  · exact sw_plain h _ _ _
  · have h1 : ¬ env.kindOf x = some .local := by unfold Env.kindOf; rw [he]; simpa using h
    have h2 : (env.kindOf x == some .local) = false := by
      cases e : (env.kindOf x == some NameKind.local) with
      | false => rfl
      | true => exact absurd (eq_of_beq e) h1
    cases v <;> first | rfl | (simp only [swapsWith, h2, Bool.and_false, Bool.false_and]; done) | skip
theorem ss_ex (G : Good X Γ γ W P) (e : E) : SndS X γ W (run P (.ex e)) (chkC (.ex e) Γ) := by
  refine snd_ofS fun st h => ?_
  split at h
  · obtain ⟨h1, h2⟩ := band h
    refine ps_imp (ps_expr ((snd_all e G).e _ h1) (sw_plain h2 _ _ _)) fun D σ H ⟨μ, ρ, S, s, q⟩ => ?_
    exact ⟨μ, ρ, S, s, (PostO.of q).imp fun v H1 ⟨μ1, S1, d, _, le1, s1, r1, q1⟩ => q1 μ1 H1 σ .refl s1⟩
  · cases h
theorem ss_ite (G : Good X Γ γ W P) (c : E) {a b : C} (ha : SndS X γ W (run P a) (chkC a Γ)) (hb : SndS X γ W (run P b) (chkC b Γ)) : SndS X γ W (run P (.ite c a b)) (chkC (.ite c a b) Γ) := by
  refine snd_ofS fun st h => ?_
  split at h
  · obtain ⟨h1, h3⟩ := band h
    obtain ⟨h1, h2⟩ := band h1
    refine ps_imp (ps_if ((snd_all c G).t _ h1) (ha.b _ h2) (hb.b _ h3)) fun D σ H ⟨μ, ρ, S, s, q⟩ => ?_
    refine ⟨μ, ρ, S, s, (PostO.of q).imp fun v H1 ⟨μ1, S1, d, _, le1, s1, r1, q1⟩ => ?_⟩
    have e1 : d = v := r1
    subst e1
    cases d with
    | true => rw [if_pos rfl]; exact ⟨μ1, ρ, S1, s1, q1⟩
    | false => rw [if_neg Bool.false_ne_true]; exact ⟨μ1, ρ, S1, s1, q1⟩
  · cases h
/-! ### stores -/
theorem aug_ok (o : B2) : OpR X (inplaceOp (opOf o)) (opV X.K γ W (augB o)) := by
  cases o with
  | add =>
    refine opR_imp (iop_add.or iop_add_str) fun x y H Q ⟨μ, σ, ρ, S, d, e, s, rx, ry, h⟩ => ?_
    unfold augB at h
    split at h <;> first | contradiction | (exfalso; exact h) | skip
    · cases rx; cases ry; exact .inl ⟨_, _, rfl, rfl, h.here s (.int _)⟩
    · cases rx; cases ry
      split at h
      case isTrue hz => exact .inr ⟨_, _, rfl, rfl, by rw [← linesz_eq]; exact hz, h.here s (.str _)⟩
      case isFalse => exact h.elim
  | sub =>
    refine opR_imp iop_sub fun x y H Q ⟨μ, σ, ρ, S, d, e, s, rx, ry, h⟩ => ?_
    unfold augB at h
    split at h <;> first | contradiction | (exfalso; exact h) | skip
    cases rx; cases ry; exact ⟨_, _, rfl, rfl, h.here s (.int _)⟩
  | _ =>
    intro pins s σ H x y v u Q I rx ry ⟨μ, σ', ρ, S, d, e, s, r1, r2, h⟩
    exfalso
    cases d <;> cases e <;> exact h
theorem ck_name (G : Good X Γ γ W P) {i : Nat} {x : Str} (h : ckName Γ i x = true) : X.N[i]? = some x ∧ Loc X.env.scope x ∧ (X.fn x = true ∨ X.env.scope.names.lookup x = some .local) := by
  obtain ⟨h1, h2⟩ := band h
  have hN : X.N[i]? = some x := by rw [G.N]; exact of_decide_eq_true h1
  have hs : X.env.scope.names = Γ.sc.names := by rw [G.sc]
  split at h2
  · rename_i e
    exact ⟨hN, .inl (by rw [hs]; exact e), .inr (by rw [hs]; exact e)⟩
  · rename_i e
    exact ⟨hN, .inr (by rw [hs]; exact e), .inl (G.fn x h2)⟩
  · cases h2
theorem ss_aug (G : Good X Γ γ W P) (i : Nat) (o : B2) (e : E) : SndS X γ W (run P (.aug i o e)) (chkC (.aug i o e) Γ) := by
  refine snd_ofS fun st h => ?_
  split at h
  · rename_i x p op v pos
    obtain ⟨h0, h3⟩ := band h
    obtain ⟨h1, h2⟩ := band h0
    have e1 := of_decide_eq_true h2
    obtain ⟨n1, n2, n3⟩ := ck_name G h1
    subst e1
    have ho : PIp X (opOf o) (opV X.K γ W (augB o)) := fun pins s σ H x y v u Q I r1 r2 h => aug_ok o pins s σ H x y v u Q I r1 r2 h
    refine ps_imp (ps_aug G.nd n1 n2 ((snd_all e G).e _ h3) ho n3) fun D σ H ⟨μ, ρ, S, s, q⟩ => ?_
    change PostO X.K γ W μ H (match ρ[i]? with
      | some (some x) => O.of ρ (ev P e ρ S) fun d S1 => O.of ρ (augB o x d S1) fun z S2 => .nx (ρ.set i (some z)) S2
      | _ => .bad) D at q
    split at q
    case h_2 => exact q.elim
    case h_1 x0 hx =>
      obtain ⟨v, hv, rv⟩ := s.e.2 i x0 hx
      refine ⟨v, hv, μ, ρ, S, s, (PostO.of q).imp fun y H1 ⟨μ1, S1, d, _, le1, s1, r1, q1⟩ => ?_⟩
      refine ⟨μ1, σ, ρ, S1, x0, d, s1, rv.mono le1, r1, (PostO.of q1).imp fun z H2 ⟨μ2, S2, d2, _, le2, s2, r2, q2⟩ => ?_⟩
      exact q2 μ2 H2 _ .refl ⟨s2.e.set r2 i, s2.s⟩
  · cases h
theorem sw_none1 {ts : List Expr} {k : Nat} {p : Pos} {v : Expr} {env : PySem.Env} (h : isTup v = false) : swappedStores [.Tuple ts k p] v env = pure none := by
  cases v <;> first | rfl | cases h
theorem sw_none2 {ts : List Expr} {k : Nat} {p : Pos} {v : Expr} {env : PySem.Env} (h : 4 ≤ ts.length) : swappedStores [.Tuple ts k p] v env = pure none := by
  have e : (!(ts.length == 2 || ts.length == 3)) = true := by
    have h2 : (ts.length == 2) = false := by simp; omega
    have h3 : (ts.length == 3) = false := by simp; omega
    rw [h2, h3]; rfl
  cases v <;> first | rfl | skip
  rename_i vs k2 p2
  simp only [swappedStores, e, Bool.true_or, if_true]
theorem fm_lt {env : PySem.Env} {line : Nat} : ∀ {ts : List Expr}, notLoc env.scope ts = true → (ts.filterMap fun
    | .Name id pos => if env.kindOf id == some .local && pos.line == line then some id else none
    | _ => none).length < ts.length
  | [], h => by simp [notLoc] at h
  | e :: r, h => by
    have hle := List.length_filterMap_le (fun
      | Expr.Name id pos => if env.kindOf id == some .local && pos.line == line then some id else none
      | _ => none) r
    rw [List.filterMap_cons]
    split
    · simp only [List.length_cons]; omega
    · rename_i b hb
      have h2 : notLoc env.scope r = true := by
        simp only [notLoc, List.any_cons, Bool.or_eq_true] at h
        rcases h with h | h
        · exfalso
          cases e <;> first | (cases hb; done) | skip
          rename_i id pos
          simp only [Bool.not_eq_true', decide_eq_false_iff_not] at h
          by_cases hc : (env.kindOf id == some NameKind.local && pos.line == line) = true
          · rw [Bool.and_eq_true] at hc
            exact h (eq_of_beq hc.1)
          · change (if (env.kindOf id == some NameKind.local && pos.line == line) = true then some id else none) = some b at hb
            rw [if_neg hc] at hb
            cases hb
        · exact h
      have := fm_lt (env := env) (line := line) h2
      simp only [List.length_cons]
      omega
theorem sw_none3 {ts : List Expr} {k : Nat} {p : Pos} {v : Expr} {env : PySem.Env} (h : notLoc env.scope ts = true) : swappedStores [.Tuple ts k p] v env = pure none := by
  cases v <;> first | rfl | skip
  all_goals
    rename_i vs k2 p2
    have hn := fm_lt (env := env) (line := (ts.head?.map (·.pos.line)).getD 0) h
    simp only [swappedStores]
    split
    · rfl
    · split
      · rfl
      · exact if_pos (by rw [Bool.or_eq_true]; exact .inl (bne_iff_ne.mpr (Nat.ne_of_lt hn)))
theorem sw_none4 {ts : List Expr} {k : Nat} {p : Pos} {v : Expr} {env : PySem.Env} (h : fold2 v = true) : swappedStores [.Tuple ts k p] v env = pure none := by
  cases v <;> first | (cases h; done) | skip
  rename_i vs k2 p2
  simp only [swappedStores]
  split
  · rfl
  · split
    · rfl
    · split
      · rfl
      · exact if_pos h
theorem par_some {x y : Str} {px py p p2 : Pos} {k k2 : Nat} {a b : Expr} {env : PySem.Env} (hk : env.scope.kind = .function) (hx : env.scope.names.lookup x = some .local) (hy : env.scope.names.lookup y = some .local) (hl : (px.line == py.line) = true) (hxy : x ≠ y)
    (h1 : ([a, b].all (foldedForSure 8)) = false) (h2 : ([a, b].all (constantsAlone 8)) = false) (h3 : ([a, b].any fun | .Starred .. => true | _ => false) = false) :
    swappedStores [.Tuple [.Name x px, .Name y py] k p] (.Tuple [a, b] k2 p2) env = pure (some [x, y]) := by
  have hl2 : px.line = py.line := eq_of_beq hl
  have e2 : (Option.map (fun (z : Expr) => z.pos.line) [Expr.Name x px, Expr.Name y py].head?).getD 0 = py.line := by
    show px.line = py.line
    exact hl2
  have e3 : ([x, y] : List Str).eraseDups.length = 2 := by
    have : (y == x) = false := by simpa using Ne.symm hxy
    simp [List.eraseDups_cons, this]
  have e4 : (env.blockKind != .function) = false := by
    unfold Env.blockKind
    rw [hk]; rfl
  have e5 : (y == x) = false := by simpa using Ne.symm hxy
  unfold swappedStores
  simp only [e4, e2]
  refine (if_neg (by simp)).trans ?_
  refine (if_neg (fun z => Bool.noConfusion (z.symm.trans h3))).trans ?_
  simp only [List.filterMap_cons, List.filterMap_nil, Env.kindOf, hx, hy, hl2]
  simp only [beq_self_eq_true, Bool.and_self, if_true]
  refine (if_neg (by rw [e3]; simp)).trans ?_
  refine (if_neg (fun z => Bool.noConfusion (z.symm.trans h1))).trans ?_
  refine (if_neg (fun z => Bool.noConfusion (z.symm.trans h2))).trans ?_
  rfl
theorem par2_of {es vs : List Expr} (h : par2 Γ es vs = true) : ∃ x px y py a b, es = [.Name x px, .Name y py] ∧ vs = [a, b] ∧ Γ.sc.names.lookup x = some .local ∧ Γ.sc.names.lookup y = some .local ∧ (px.line == py.line) = true ∧ x ≠ y ∧
    ([a, b].all (foldedForSure 8)) = false ∧ ([a, b].all (constantsAlone 8)) = false ∧ ([a, b].any fun | .Starred .. => true | _ => false) = false := by
  unfold par2 at h
  split at h
  case h_2 => cases h
  case h_1 =>
    obtain ⟨h, g7⟩ := band h
    obtain ⟨h, g6⟩ := band h
    obtain ⟨h, g5⟩ := band h
    obtain ⟨h, g4⟩ := band h
    obtain ⟨h, g3⟩ := band h
    obtain ⟨g1, g2⟩ := band h
    exact ⟨_, _, _, _, _, _, rfl, rfl, of_decide_eq_true g1, of_decide_eq_true g2, g3, of_decide_eq_true g4, (Bool.not_eq_true' _).mp g5, (Bool.not_eq_true' _).mp g6, (Bool.not_eq_true' _).mp g7⟩
theorem ckGs1 {ts : E} {x : Str} {px : Pos} {es : List Expr} (h : ckGs Γ ts (.Name x px :: es) = true) : ∃ i ts', ts = .cons (.var i) ts' ∧ ckName Γ i x = true ∧ ckGs Γ ts' es = true := by
  cases ts <;> first | (simp [ckGs] at h; done) | skip
  rename_i a r
  cases a <;> first | (simp [ckGs] at h; done) | skip
  obtain ⟨h1, h2⟩ := band h
  exact ⟨_, _, rfl, h1, h2⟩
theorem ckGs0 {ts : E} (h : ckGs Γ ts [] = true) : ts = .nil := by
  cases ts <;> first | rfl | (simp [ckGs] at h; done)
theorem ckGs2 {ts : E} {x y : Str} {px py : Pos} (h : ckGs Γ ts [.Name x px, .Name y py] = true) : ∃ i j, ts = .cons (.var i) (.cons (.var j) .nil) ∧ ckName Γ i x = true ∧ ckName Γ j y = true := by
  obtain ⟨i, t1, rfl, h1, h2⟩ := ckGs1 h
  obtain ⟨j, t2, rfl, h3, h4⟩ := ckGs1 h2
  rw [ckGs0 h4]
  exact ⟨i, j, rfl, h1, h3⟩
theorem ss_asg (G : Good X Γ γ W P) (tg e : E) : SndS X γ W (run P (.asg tg e)) (chkC (.asg tg e) Γ) := by
  refine snd_ofS fun st h => ?_
  unfold asgC at h
  split at h
  case h_2 => cases h
  case h_1 t v pos =>
    split at h
    · -- name = value
      rename_i i x p
      obtain ⟨h1, h3⟩ := band h
      obtain ⟨h1, h2⟩ := band h1
      obtain ⟨n1, n2, n3⟩ := ck_name G h1
      rw [Bool.or_eq_true] at h3
      rcases h3 with h3 | h3
      · refine ps_imp (ps_set G.nd n1 n2 ((snd_all e G).e _ h2) (sw_pn _ G.sc h3) n3) fun D σ H ⟨μ, ρ, S, s, q⟩ => ?_
        refine ⟨μ, ρ, S, s, (PostO.of q).imp fun v H1 ⟨μ1, S1, d, _, le1, s1, r1, q1⟩ => ?_⟩
        exact q1 μ1 H1 _ .refl ⟨s1.e.set r1 i, s1.s⟩
      · obtain ⟨h4, h5⟩ := band h3
        cases e <;> first | (cases h4; done) | skip
        · rename_i own tg src cond elt
          obtain ⟨el, t, it, ifs, scope, pos2, wi, g, tt, te, rfl, h1, L⟩ := lc_parts G own (snd_all src G) (snd_all cond) (snd_all elt) h2
          unfold lcSame at h5
          obtain ⟨h5, h9⟩ := band h5
          obtain ⟨h5, h8⟩ := band h5
          obtain ⟨h6, h7⟩ := band h5
          have hk : X.env.scope.kind = .function := by
            rw [G.sc]
            split at h6
            · assumption
            · cases h6
          have hloc : X.env.scope.names.lookup x = some .local := by rw [G.sc]; exact of_decide_eq_true h7
          refine ps_imp (ps_setLc (G.calm h1) G.nd n1 hloc (sw_true hk hloc h8 (by simpa using h9)) L.hi L.ok L.hg L.ht L.he L.hs) fun D σ H ⟨μ, ρ, S, s, q⟩ => ?_
          refine L.imp σ H _ ⟨μ, ρ, S, s, (PostO.of q).imp fun v H1 ⟨μ1, S1, d, _, le1, s1, r1, q1⟩ => ?_⟩
          exact q1 μ1 H1 _ .refl ⟨s1.e.set r1 i, s1.s⟩
        · rename_i own own2 tg src tg2 src2 elt
          obtain ⟨el, t, it, t2, it2, scope, pos2, wi, g, wi1, g1, te, rfl, h1, L⟩ := lc2_parts G own own2 (snd_all src G) (snd_all src2) (snd_all elt) h2
          unfold lcSame at h5
          obtain ⟨h5, h9⟩ := band h5
          obtain ⟨h5, h8⟩ := band h5
          obtain ⟨h6, h7⟩ := band h5
          have hk : X.env.scope.kind = .function := by
            rw [G.sc]
            split at h6
            · assumption
            · cases h6
          have hloc : X.env.scope.names.lookup x = some .local := by rw [G.sc]; exact of_decide_eq_true h7
          refine ps_imp (ps_setLc2 (G.calm h1) G.nd n1 hloc (sw_true hk hloc h8 (by simpa using h9)) L.hi L.ok L.hv L.hg (fun _ _ _ _ _ => pts_nil) L.hi1 L.hg1 (fun _ _ _ _ _ => pts_nil) L.he L.hs L.hs1) fun D σ H ⟨μ, ρ, S, s, q⟩ => ?_
          refine L.imp σ H _ ⟨μ, ρ, S, s, (PostO.of q).imp fun v H1 ⟨μ1, S1, d, _, le1, s1, r1, q1⟩ => ?_⟩
          exact q1 μ1 H1 _ .refl ⟨s1.e.set r1 i, s1.s⟩
        · rename_i own tg src cond kx vx
          obtain ⟨ke, ve, t, it, ifs, scope, pos2, wi, g, tt, tk, tv, rfl, h1, L⟩ := dc_parts G own (snd_all src G) (snd_all cond) (snd_all kx) (snd_all vx) h2
          unfold lcSame at h5
          obtain ⟨h5, h9⟩ := band h5
          obtain ⟨h5, h8⟩ := band h5
          obtain ⟨h6, h7⟩ := band h5
          have hk : X.env.scope.kind = .function := by
            rw [G.sc]
            split at h6
            · assumption
            · cases h6
          have hloc : X.env.scope.names.lookup x = some .local := by rw [G.sc]; exact of_decide_eq_true h7
          refine ps_imp (ps_setDcX (by have := G.un; omega) (G.calm h1) G.nd n1 hloc (sw_trueD hk hloc h8 (by simpa using h9)) L.hi L.ok L.hs L.ps) fun D σ H ⟨μ, ρ, S, s, q⟩ => ?_
          refine L.imp σ H _ ⟨μ, ρ, S, s, (PostO.of q).imp fun v H1 ⟨μ1, S1, d, _, le1, s1, r1, q1⟩ => ?_⟩
          exact q1 μ1 H1 _ .refl ⟨s1.e.set r1 i, s1.s⟩
        · rename_i own own2 tg src tg2 src2 kx vx
          obtain ⟨ke, ve, t, it, t2, it2, scope, pos2, wi, g, wi1, g1, tk, tv, rfl, h1, L⟩ := dc2_parts G own own2 (snd_all src G) (snd_all src2) (snd_all kx) (snd_all vx) h2
          unfold lcSame at h5
          obtain ⟨h5, h9⟩ := band h5
          obtain ⟨h5, h8⟩ := band h5
          obtain ⟨h6, h7⟩ := band h5
          have hk : X.env.scope.kind = .function := by
            rw [G.sc]
            split at h6
            · assumption
            · cases h6
          have hloc : X.env.scope.names.lookup x = some .local := by rw [G.sc]; exact of_decide_eq_true h7
          refine ps_imp (ps_setDcX2 (by have := G.un; omega) (G.calm h1) G.nd n1 hloc (sw_trueD hk hloc h8 (by simpa using h9)) L.hi L.ok L.hv L.hs L.hs1 L.ps) fun D σ H ⟨μ, ρ, S, s, q⟩ => ?_
          refine L.imp σ H _ ⟨μ, ρ, S, s, (PostO.of q).imp fun v H1 ⟨μ1, S1, d, _, le1, s1, r1, q1⟩ => ?_⟩
          exact q1 μ1 H1 _ .refl ⟨s1.e.set r1 i, s1.s⟩
    · -- a, b = value
      rename_i ts es kk p
      obtain ⟨h1, h4⟩ := band h
      obtain ⟨h1, h3⟩ := band h1
      obtain ⟨h1, h2⟩ := band h1
      have plain : swappedStores [.Tuple es kk p] v X.env = pure none → PS X (.Assign [.Tuple es kk p] v pos) (sR X.K γ W (run P (.asg (.tup ts) e))) := fun hw => by
        refine ps_imp (ps_asg ((snd_all e G).e _ h2) (pg_all G (.tup ts) _ h1) (show swapsWithSole [Expr.Tuple es kk p] v pos.line X.env = pure false from sw_plain h3 (some (Expr.Tuple es kk p)) pos.line X.env) hw) fun D σ H ⟨μ, ρ, S, s, q⟩ => ?_
        refine ⟨μ, ρ, S, s, (PostO.of q).imp fun v H1 ⟨μ1, S1, d, _, le1, s1, r1, q1⟩ => ?_⟩
        unfold asgO at q1
        split at q1
        case h_2 => exact q1.elim
        case h_1 ρ' ea => exact ⟨μ1, ρ, S1, d, ρ', s1, r1, ea, fun σ' s2 _ => q1 μ1 H1 σ' .refl s2⟩
      rw [Bool.or_eq_true, Bool.or_eq_true] at h4
      rcases h4 with (h4 | h4) | h4
      · exact plain (sw_none1 (by simpa using h4))
      · rw [Bool.or_eq_true, Bool.or_eq_true] at h4
        rcases h4 with (h4 | h4) | h4
        · exact plain (sw_none2 (of_decide_eq_true h4))
        · exact plain (sw_none3 (by rw [G.sc]; exact h4))
        · exact plain (sw_none4 h4)
      · split at h4
        case h_2 => cases h4
        case h_1 =>
          rename_i as vs k2 p2 _
          obtain ⟨h4, h8⟩ := band h4
          obtain ⟨h4, h7⟩ := band h4
          obtain ⟨h5, h6⟩ := band h4
          have hk : X.env.scope.kind = .function := by
            rw [G.sc]
            split at h6
            · assumption
            · cases h6
          obtain ⟨x, px, y, py, a, b, rfl, rfl, g1, g2, g3, g4, g5, g6, g7⟩ := par2_of h7
          have hx : X.env.scope.names.lookup x = some .local := by rw [G.sc]; exact g1
          have hy : X.env.scope.names.lookup y = some .local := by rw [G.sc]; exact g2
          have hw := par_some (p := p) (p2 := p2) (k := kk) (k2 := k2) hk hx hy g3 g4 g5 g6 g7
          have h0 : ckG Γ (.tup ts) (.Tuple [.Name x px, .Name y py] kk p) = true := by assumption
          obtain ⟨i, j, rfl, c1, c2⟩ := ckGs2 (show ckGs Γ ts [.Name x px, .Name y py] = true from (band h0).2)
          obtain ⟨n1, _, _⟩ := ck_name G c1
          obtain ⟨m1, _, _⟩ := ck_name G c2
          have hij : i ≠ j := fun e => by
            subst e
            rw [n1] at m1
            exact g4 (Option.some.inj m1)
          have hsw : swapsWithSole [.Tuple [.Name x px, .Name y py] kk p] (.Tuple [a, b] k2 p2) pos.line X.env = pure false := rfl
          refine ps_imp (ps_par (G.calm h5) G.nd n1 m1 hij hx hy ((snd_all as G).a _ h8) hw hsw) fun D σ H ⟨μ, ρ, S, s, q⟩ => ?_
          change PostO X.K γ W μ H (O.of ρ (((den P as).a ρ S).bind tupR) fun d S1 => asgO _ d ρ S1) D at q
          refine ⟨μ, ρ, S, s, ?_⟩
          cases ee : (den P as).a ρ S with
          | bad => rw [ee] at q; exact q
          | exc c fs S1 => rw [ee] at q; exact fun μ' H' d l s x => q μ' H' σ d l s x
          | ok ds S1 =>
            rw [ee] at q
            change PostO X.K γ W μ H (O.of ρ (tupR ds S1) fun d S1 => asgO _ d ρ S1) D at q
            have hl := evs_len as _ h8 ee
            intro μ1 H1 vs le s1 r
            unfold tupR at q
            split at q
            case isFalse => exact q.elim
            case isTrue =>
              match ds, hl, r, q with
              | [d1, d2], _, r, q =>
                obtain ⟨v1, v2, rfl, r1, r2⟩ := vs2 r
                exact ⟨v1, v2, rfl, q μ1 H1 _ le ⟨(s1.e.set r1 i).set r2 j, s1.s⟩⟩
    · cases h
/-! ### loops -/
theorem ss_any : SndS X γ W (run P .any) (chkC .any Γ) :=
  ⟨fun st _ => ⟨fun pins s σ H D I ⟨μ, ρ, S, sm, q⟩ => False.elim q⟩, fun sts _ => ⟨fun pins s σ H D I ⟨μ, ρ, S, sm, q⟩ => False.elim q⟩⟩
theorem ss_asg2 (G : Good X Γ γ W P) (i j : Nat) (e : E) : SndS X γ W (run P (.asg2 i j e)) (chkC (.asg2 i j e) Γ) := by
  refine snd_ofS fun st h => ?_
  split at h
  case h_2 => cases h
  case h_1 x px y py v pos =>
    obtain ⟨h, hv⟩ := band h
    obtain ⟨hx, hy⟩ := band h
    obtain ⟨n1, n2, n3⟩ := ck_name G hx
    obtain ⟨m1, m2, m3⟩ := ck_name G hy
    refine ps_imp (ps_asg2 ((snd_all e G).e _ hv) (pg_name G.nd n1 n2 n3) (pg_name G.nd m1 m2 m3)) fun D σ H ⟨μ, ρ, S, s, q⟩ => ?_
    refine ⟨μ, ρ, S, s, (PostO.of q).imp fun v H1 ⟨μ1, S1, d, _, le1, s1, r1, q1⟩ => ?_⟩
    exact q1 μ1 H1 _ .refl ⟨(s1.e.set r1 i).set r1 j, s1.s⟩
theorem PostO.cond {b : Bool} {o : O} {D : Ends} (h : PostO K γ W μ H (bif b then o else .bad) D) : b = true ∧ PostO K γ W μ H o D := by
  cases b with
  | true => exact ⟨rfl, h⟩
  | false => exact h.elim
theorem ss_whl (G : GoodS X Γ γ W P) (n : Nat) (c : E) {b : C} (hb : SndS X γ W (run P b) (chkC b Γ)) : SndS X γ W (run P (.whl n c b)) (chkC (.whl n c b) Γ) := by
  refine snd_ofS fun st h => ?_
  split at h
  case h_2 => cases h
  case h_1 t y pos =>
    obtain ⟨h1, h2⟩ := band h
    refine ps_imp (ps_while G.own ((snd_all c G.toGood).t _ h1) (hb.b _ h2)) fun D σ H ⟨μ, ρ, S, s, q⟩ => ?_
    refine ⟨fun m σ' H' => ∃ μ' ρ' S', Sim X.K μ' σ' H' ρ' S' ∧ PostO X.K γ W μ' H' (whlL (tst P c) (run P b) m ρ' S') D, ⟨n, μ, ρ, S, s, q⟩, ?_⟩
    rintro m σ' H' ⟨μ', ρ', S', s', q'⟩
    cases m with
    | zero => exact q'.elim
    | succ m =>
      refine ⟨μ', ρ', S', s', (PostO.of q').imp fun v H1 ⟨μ1, S1, d, _, le1, s1, r1, q1⟩ => ?_⟩
      have e1 : d = v := r1
      subst e1
      cases d with
      | false =>
        rw [if_neg Bool.false_ne_true]
        exact q1 μ1 H1 σ' .refl s1
      | true =>
        rw [if_pos rfl]
        refine ⟨fun σ2 H2 => ∃ μ' ρ' S', Sim X.K μ' σ2 H2 ρ' S' ∧ PostO X.K γ W μ' H2 (whlL (tst P c) (run P b) m ρ' S') D, fun σ2 H2 z => ⟨m, Nat.lt_succ_self m, z⟩, μ1, ρ', S1, s1, ?_⟩
        change PostO X.K γ W μ1 H1 (match run P b ρ' S1 with
          | .nx ρ' S' => whlL (tst P c) (run P b) m ρ' S'
          | .ct ρ' S' => whlL (tst P c) (run P b) m ρ' S'
          | .bk ρ' S' => .nx ρ' S'
          | o => o) D at q1
        cases e : run P b ρ' S1 with
        | nx ρ2 S2 => rw [e] at q1; exact fun μ2 H2 σ2 l s2 => ⟨μ2, ρ2, S2, s2, q1.base l⟩
        | ct ρ2 S2 => rw [e] at q1; exact fun μ2 H2 σ2 l s2 => ⟨μ2, ρ2, S2, s2, q1.base l⟩
        | bk ρ2 S2 => rw [e] at q1; exact q1
        | ret => rw [e] at q1; exact q1
        | exc => rw [e] at q1; exact q1
        | bad => rw [e] at q1; exact q1
theorem ss_for (G : GoodS X Γ γ W P) (tg it : E) {b : C} (hb : SndS X γ W (run P b) (chkC b Γ)) : SndS X γ W (run P (.for tg it b)) (chkC (.for tg it b) Γ) := by
  refine snd_ofS fun st h => ?_
  split at h
  case h_2 => cases h
  case h_1 t i y pos =>
    obtain ⟨h4, h5⟩ := band h
    obtain ⟨g1, h4⟩ := band h4
    obtain ⟨g1, h3⟩ := band g1
    obtain ⟨h1, h2⟩ := band g1
    clear g1 h
    have hset : ∀ x, foldedSetIterable i X.env x = pure x := fun x => by
      cases i <;> first | rfl | simp [isSet] at h4
    refine ps_imp (ps_for G.own (G.calm h1) ((snd_all it G.toGood).i i t h3) (pg_all G.toGood tg t h2) (hb.b _ h5) hset) fun D σ H ⟨μ, ρ, S, s, q⟩ => ?_
    refine ⟨μ, ρ, S, s, (PostO.of q).imp fun J H1 ⟨μ1, S1, w, _, le1, s1, hw, q1⟩ => ?_⟩
    refine ⟨fun k m σ' H' => m = w.ds.length - k ∧ ∃ μ' ρ' S', Le X.K μ1 H1 μ' H' ∧ Sim X.K μ' σ' H' ρ' S' ∧ PostO X.K γ W μ' H' (forL (ckS w.lk) (fun x ρ S => (asgO tg x ρ S).seq (run P b)) (w.ds.drop k) ρ' S') D,
      ⟨_, rfl, μ1, ρ, S1, .refl, s1, by rw [List.drop_zero]; exact q1⟩, ?_⟩
    rintro k m σ' H' ⟨rfl, μ', ρ', S', le', s', q'⟩
    cases hd : w.ds[k]? with
    | none =>
      rw [List.drop_eq_nil_iff.mpr (List.getElem?_eq_none_iff.mp hd)] at q'
      obtain ⟨hck, q2⟩ := PostO.cond q'
      obtain ⟨h10, _⟩ := hw μ' σ' H' ρ' S' k le' s' hck
      exact .inl ⟨h10 hd, q2 μ' H' σ' .refl s'⟩
    | some d =>
      rw [drop_at hd] at q'
      obtain ⟨hck, q2⟩ := PostO.cond q'
      obtain ⟨_, h11⟩ := hw μ' σ' H' ρ' S' k le' s' hck
      obtain ⟨hgo, hy⟩ := h11 d hd
      have hlt : w.ds.length - (k + 1) < w.ds.length - k := by
        have := (List.getElem?_eq_some_iff.mp hd).1
        omega
      refine .inr ⟨hgo, fun σ2 H2 => ∃ μ' ρ' S', Le X.K μ1 H1 μ' H2 ∧ Sim X.K μ' σ2 H2 ρ' S' ∧ PostO X.K γ W μ' H2 (forL (ckS w.lk) (fun x ρ S => (asgO tg x ρ S).seq (run P b)) (w.ds.drop (k + 1)) ρ' S') D,
        fun σ2 H2 z => ⟨_, hlt, rfl, z⟩, fun x H2 hx => ?_⟩
      obtain ⟨μ2, le3, s3, rx⟩ := hy x H2 hx
      change PostO X.K γ W μ' H' (match (asgO tg d ρ' S').seq (run P b) with
          | .nx ρ' S' => forL (ckS w.lk) (fun x ρ S => (asgO tg x ρ S).seq (run P b)) (w.ds.drop (k + 1)) ρ' S'
          | .ct ρ' S' => forL (ckS w.lk) (fun x ρ S => (asgO tg x ρ S).seq (run P b)) (w.ds.drop (k + 1)) ρ' S'
          | .bk ρ' S' => .nx ρ' S'
          | o => o) D at q2
      cases ea : asgT tg d ρ' with
      | none => rw [show asgO tg d ρ' S' = .bad from by unfold asgO; rw [ea]] at q2; exact q2.elim
      | some ρ2 =>
        rw [show asgO tg d ρ' S' = .nx ρ2 S' from by unfold asgO; rw [ea]] at q2
        change PostO X.K γ W μ' H' (match run P b ρ2 S' with
          | .nx ρ' S' => forL (ckS w.lk) (fun x ρ S => (asgO tg x ρ S).seq (run P b)) (w.ds.drop (k + 1)) ρ' S'
          | .ct ρ' S' => forL (ckS w.lk) (fun x ρ S => (asgO tg x ρ S).seq (run P b)) (w.ds.drop (k + 1)) ρ' S'
          | .bk ρ' S' => .nx ρ' S'
          | o => o) D at q2
        refine ⟨μ2, ρ', S', d, ρ2, s3, rx, ea, fun σ2 s4 _ => ⟨μ2, ρ2, S', s4, ?_⟩⟩
        have q3 := PostO.base le3 q2
        cases e : run P b ρ2 S' with
        | nx ρ3 S3 => rw [e] at q3; exact fun μ3 H3 σ3 l s5 => ⟨μ3, ρ3, S3, (le'.trans le3).trans l, s5, q3.base l⟩
        | ct ρ3 S3 => rw [e] at q3; exact fun μ3 H3 σ3 l s5 => ⟨μ3, ρ3, S3, (le'.trans le3).trans l, s5, q3.base l⟩
        | bk ρ3 S3 => rw [e] at q3; exact q3
        | ret => rw [e] at q3; exact q3
        | exc => rw [e] at q3; exact q3
        | bad => rw [e] at q3; exact q3
theorem ss_fst (G : Good X Γ γ W P) (c f : Str) (o e : E) : SndS X γ W (run P (.fst c f o e)) (chkC (.fst c f o e) Γ) := by
  refine snd_ofS fun st h => ?_
  split at h
  case h_2 => cases h
  case h_1 ov x p v pos =>
    obtain ⟨h, h5⟩ := band h
    obtain ⟨h, h4⟩ := band h
    obtain ⟨h, h3⟩ := band h
    obtain ⟨h1, h2⟩ := band h
    have e1 := of_decide_eq_true h1
    subst e1
    obtain ⟨C, hc, cl, na⟩ := G.atr c x h2
    refine ps_imp (ps_fld ((snd_all o G).e _ h3) ((snd_all e G).e _ h4) (sw_plain h5 _ _ _)) fun D σ H ⟨μ, ρ, S, s, q⟩ => ?_
    refine ⟨μ, ρ, S, s, (PostO.of q).imp fun y H1 ⟨μ1, S1, d, _, le1, s1, r1, q1⟩ => ⟨μ1, ρ, S1, s1, (PostO.of q1).imp fun z H2 ⟨μ2, S2, d2, _, le2, s2, r2, q2⟩ => ?_⟩⟩
    unfold fstO at q2
    split at q2
    case h_2 => exact q2.elim
    case h_1 n =>
      split at q2
      case h_2 => exact q2.elim
      case h_1 fs hi =>
        split at q2
        case isFalse => exact q2.elim
        case isTrue hl =>
          obtain ⟨n', p, C2, dx, gs, e0, rfl, hS, hH, hc2, e3, r3, hm⟩ := s2.inst r2 hi
          cases e0
          have : C2 = C := by
            have := hc2.symm.trans hc
            cases this; rfl
          subst this
          have hlen : gs.length = fs.length := by
            have := congrArg List.length e3
            simpa using this
          refine ⟨p, C2, dx, gs, rfl, hH, cl, na, by rw [hlen]; exact hl, ?_⟩
          have nt : NT (.ins C2 dx gs) := ⟨(fun _ z => nomatch z), (fun _ _ z => nomatch z)⟩
          obtain ⟨p1, p2⟩ := put_rep (f := x) (RepV.mono le2 r1) e3 r3
          have le3 : Le X.K μ2 H2 μ2 (upd H2 p (.ins C2 dx (putF x y gs))) := le_updC hH nt
          exact q2 μ2 _ σ le3 ⟨s2.e.mono le3, s2.s.writeC hS hm hH nt rfl rfl ⟨_, upd_same, hc, p1, p2.mono le3⟩⟩
def gAtt (K : PySem.W.Frag) (to : TE) (f : Str) : TG := fun v σ H Q => to σ H fun x H1 => ∃ (a C dx : Addr) (fs : List (Str × V)), x = .ref a ∧ H1 a = some (.ins C dx fs) ∧ Cls K C ∧ NoAttr K C f ∧ fs.length < 1000 ∧ Q σ (upd H1 a (.ins C dx (putF f v fs)))
theorem pg_att {o : Expr} {f : Str} {pos : Pos} {to : TE} (ho : PE X o to) : PG X (.Attribute o f pos) (gAtt X.K to f) := by
  refine ⟨fun pins s σ H v u Q I r h => ?_⟩
  rw [assign_Attribute]
  refine wpAny_bind (wpAny_holding (thn (ho.run pins s σ H _ I h) fun ov s1 ⟨x, H1, I1, r1, a, C, dx, fs, ex, hH, cl, na, hl, q⟩ => ?_))
  subst ex
  obtain rfl : ov = Value.ref a := r1
  refine wpAny_bind (wpAny_standAt (wpAny_bind (wpAny_holding (setattr_ok I1 hH cl na hl r fun s' I' => wpAny_release ⟨σ, _, I', q⟩))))
theorem fld_of (G : Good X Γ γ W P) {c f : Str} (hat : Γ.atr.contains (c, f) = true) {d x : D} {y z : V} (s2 : Sim X.K μ σ H ρ S) (ry : RepV X.K H μ d y) (rz : RepV X.K H μ x z) (hb : fstO c f d x ρ S ≠ .bad) :
    ∃ p C dx gs S3, z = .ref p ∧ H p = some (.ins C dx gs) ∧ Cls X.K C ∧ NoAttr X.K C f ∧ gs.length < 1000 ∧ fstO c f d x ρ S = .nx ρ S3 ∧ Le X.K μ H μ (upd H p (.ins C dx (putF f y gs))) ∧ Sim X.K μ σ (upd H p (.ins C dx (putF f y gs))) ρ S3 := by
  obtain ⟨C, hc, cl, na⟩ := G.atr c f hat
  unfold fstO at hb ⊢
  split at hb
  case h_2 => exact absurd rfl hb
  case h_1 n =>
    split at hb
    case h_2 => exact absurd rfl hb
    case h_1 fs hi =>
      split at hb
      case isFalse => exact absurd rfl hb
      case isTrue hl =>
        obtain ⟨n', p, C2, dx, gs, e0, rfl, hS, hH, hc2, e3, r3, hm⟩ := s2.inst rz hi
        cases e0
        have : C2 = C := by
          have := hc2.symm.trans hc
          cases this; rfl
        subst this
        have hlen : gs.length = fs.length := by
          have := congrArg List.length e3
          simpa using this
        have nt : NT (.ins C2 dx gs) := ⟨(fun _ z => nomatch z), (fun _ _ z => nomatch z)⟩
        obtain ⟨p1, p2⟩ := put_rep (f := f) ry e3 r3
        have le3 : Le X.K μ H μ (upd H p (.ins C2 dx (putF f y gs))) := le_updC hH nt
        refine ⟨p, C2, dx, gs, S.set n (.ins c (putD f d fs)), rfl, hH, cl, na, by rw [hlen]; exact hl, ?_, le3, ⟨s2.e.mono le3, s2.s.writeC hS hm hH nt rfl rfl ⟨_, upd_same, hc, p1, p2.mono le3⟩⟩⟩
        simp only [hi, if_pos hl]
theorem ss_fst2 (G : Good X Γ γ W P) (c f g : Str) (o e : E) : SndS X γ W (run P (.fst2 c f g o e)) (chkC (.fst2 c f g o e) Γ) := by
  refine snd_ofS fun st h => ?_
  split at h
  case h_2 => cases h
  case h_1 ov x px ow y py kk pt v pos =>
    obtain ⟨h, h10⟩ := band h
    obtain ⟨h, h9⟩ := band h
    obtain ⟨h, h8⟩ := band h
    obtain ⟨h, h7⟩ := band h
    obtain ⟨h, h6⟩ := band h
    obtain ⟨h, h5⟩ := band h
    obtain ⟨h, h4⟩ := band h
    obtain ⟨h, h3⟩ := band h
    obtain ⟨h1, h2⟩ := band h
    have e1 := of_decide_eq_true h2
    subst e1
    have e2 := of_decide_eq_true h3
    subst e2
    have hpg : PG X (.Tuple [.Attribute ov x px, .Attribute ow y py] kk pt) (gTup X.K 2 (gCons (gAtt X.K (tE X.K γ W (den P o).v) x) (gCons (gAtt X.K (tE X.K γ W (den P o).v) y) gNil))) :=
      pg_tup (n := 2) (G.calm h1) (pgs_cons (pg_att ((snd_all o G).e _ h6)) (pgs_cons (pg_att ((snd_all o G).e _ h7)) pgs_nil)) rfl rfl
    refine ps_imp (ps_asg ((snd_all e G).e _ h8) hpg (show swapsWithSole [Expr.Tuple [.Attribute ov x px, .Attribute ow y py] kk pt] v pos.line X.env = pure false from sw_plain h9 (some (Expr.Tuple [.Attribute ov x px, .Attribute ow y py] kk pt)) pos.line X.env) (sw_none1 (by simpa using h10))) fun D σ H ⟨μ, ρ, S, s, q⟩ => ?_
    refine ⟨μ, ρ, S, s, (PostO.of q).imp fun u H1 ⟨μ1, S1, d, _, le1, s1, r1, q1⟩ => ?_⟩
    unfold fst2O at q1
    split at q1
    case h_2 => exact q1.elim
    case h_1 a b hq0 =>
      cases r1 with
      | tup ht rr =>
        cases rr with
        | cons ra rr =>
          cases rr with
          | cons rb rr =>
            cases rr
            refine ⟨_, _, rfl, ht, rfl, ?_⟩
            refine ⟨_, _, rfl, μ1, ρ, S1, s1, (PostO.of q1).imp fun z H2 ⟨μ2, S2, d2, _, le2, s2, r2, q2⟩ => ?_⟩
            have hnb : fstO c x a d2 ρ S2 ≠ .bad := fun e => by rw [e] at q2; exact q2.elim
            obtain ⟨p, C, dx, gs, S3, rfl, hH, cl, na, hl, ef, le3, s3⟩ := fld_of G h4 s2 (ra.mono le2) r2 hnb
            rw [ef] at q2
            refine ⟨p, C, dx, gs, rfl, hH, cl, na, hl, ?_⟩
            refine ⟨_, _, rfl, μ2, ρ, S3, s3, (PostO.of (PostO.base le3 q2)).imp fun w H4 ⟨μ4, S4, d4, _, le4, s4, r4, q4⟩ => ?_⟩
            have hnb2 : fstO c y b d4 ρ S4 ≠ .bad := fun e => by rw [e] at q4; exact q4.elim
            obtain ⟨p', C', dx', gs', S5, rfl, hH', cl', na', hl', ef', le5, s5⟩ := fld_of G h5 s4 (((rb.mono le2).mono le3).mono le4) r4 hnb2
            rw [ef'] at q4
            exact ⟨p', C', dx', gs', rfl, hH', cl', na', hl', rfl, q4 _ _ _ le5 s5⟩
theorem reps_set : ∀ {ds : List Ng.D} {vs : List V} {d : Ng.D} {v : V} (j : Nat), RepVs K H μ ds vs → RepV K H μ d v → RepVs K H μ (ds.set j d) (vs.set j v)
  | _, _, _, _, _, .nil, _ => .nil
  | _, _, _, _, 0, .cons _ rs, rv => .cons rv rs
  | _, _, _, _, j + 1, .cons r rs, rv => .cons r (reps_set j rs rv)
theorem set_or {X : Cx} {t t' : TSet} (h : PSet X t) (h' : PSet X t') : PSet X (fun o i v H Q => t o i v H Q ∨ t' o i v H Q) := by
  intro pins s σ H o i v ov iv u Q I ro ri rv q
  rcases q with q | q
  · exact h pins s σ H o i v ov iv u Q I ro ri rv q
  · exact h' pins s σ H o i v ov iv u Q I ro ri rv q
theorem set_dk_of {n : Nat} {z : Str} {kvs : List (L2.Key × D)} {d : D} {y zv u : V} {D' : Ends} (s3 : Sim K μ σ H ρ S) (rd : RepV K H μ d y) (ro : RepV K H μ (.ref n) zv) (ri : RepV K H μ (.str z) u) (hS : S[n]? = some (.dk kvs)) (hl : kvs.length < linesz)
    (q : PostO K γ W μ H (.nx ρ (S.set n (.dk (kPut kvs (.inr z) d)))) D') : rSetD zv u y H fun H' => D'.nx σ H' := by
  cases ri
  obtain ⟨a, gs, rfl, hH, g1, g2, hm⟩ := s3.dk ro hS
  have hlen : gs.length = kvs.length := by
    have := congrArg List.length g1
    simpa using this
  obtain ⟨p1, p2⟩ := dk_put (k := .inr z) g1 g2 rd
  have le : Le K μ H μ (upd H a (.dK (putK gs (.inr z) y))) := le_updC hH nt_dk
  exact ⟨a, _, rfl, .inl ⟨gs, .inr z, hH, rfl, by rw [hlen, ← linesz_eq]; exact hl, rfl⟩, q μ _ σ le ⟨s3.e.mono le, s3.s.writeC hS hm hH nt_dk rfl rfl ⟨_, upd_same, p1, p2.mono le⟩⟩⟩
theorem ss_ist (G : Good X Γ γ W P) (o i e : E) : SndS X γ W (run P (.ist o i e)) (chkC (.ist o i e) Γ) := by
  refine snd_ofS fun st h => ?_
  split at h
  case h_2 => cases h
  case h_1 ov iv p v pos =>
    obtain ⟨h, h4⟩ := band h
    obtain ⟨h, h3⟩ := band h
    obtain ⟨h1, h2⟩ := band h
    have hns := no_slice iv h2
    have ha : ∀ v, assign (.Subscript ov iv p) X.env v = (do
        let ov ← holding [v] (eval ov X.env)
        let iv ← holding [v, ov] (eval iv X.env)
        standAt p
        holding [v, ov, iv] (setItem ov iv v)
        release [v, ov, iv] []) := fun v => by
      cases iv <;> first | rfl | exact absurd rfl (hns _ _ _ _)
    refine ps_imp (ps_asg ((snd_all e G).e _ h3) (pg_sub ((snd_all o G).e _ h1) ((snd_all i G).e _ h2) (set_or (set_or set_list (set_dx (by have := G.un; omega))) (set_dict (by have := G.un; omega))) ha) (show swapsWithSole [Expr.Subscript ov iv p] v pos.line X.env = pure false from sw_plain h4 (some (Expr.Subscript ov iv p)) pos.line X.env)) fun D σ H ⟨μ, ρ, S, s, q⟩ => ?_
    refine ⟨μ, ρ, S, s, (PostO.of q).imp fun y H1 ⟨μ1, S1, d, _, le1, s1, r1, q1⟩ => ⟨μ1, ρ, S1, s1, (PostO.of q1).imp fun z H2 ⟨μ2, S2, d2, _, le2, s2, r2, q2⟩ => ⟨μ2, ρ, S2, s2, (PostO.of q2).imp fun u H3 ⟨μ3, S3, d3, _, le3, s3, r3, q3⟩ => ?_⟩⟩⟩
    unfold istO at q3
    split at q3
    case h_4 => exact q3.elim
    case h_1 n k =>
      split at q3
      case h_2 => exact q3.elim
      case h_1 xs hS =>
        split at q3
        case h_2 => exact q3.elim
        case h_1 j hj =>
          cases r3
          obtain ⟨a, vs, rfl, hH, rs, hm⟩ := s3.list (RepV.mono le3 r2) (by assumption)
          refine .inl (.inl ⟨a, vs, _, j, rfl, rfl, hH, by rw [rs.length]; exact hj, ?_⟩)
          exact q3 μ3 _ σ (le_upd hH) (s3.write hS hm hH (reps_set j rs (RepV.mono le3 (RepV.mono le2 r1))))
    case h_2 n ks =>
      split at q3
      case h_2 => exact q3.elim
      case h_1 kvs hS =>
        split at q3
        case h_2 => exact q3.elim
        case h_1 k hk =>
          split at q3
          case isFalse => exact q3.elim
          case isTrue hl =>
            obtain ⟨a, xs, rfl, hH, rx, hm⟩ := s3.dct (RepV.mono le3 r2) hS
            obtain ⟨b, rfl, hb⟩ := key_rep r3 (k := k) hk
            have hlen := rx.length
            refine .inl (.inr ⟨a, b, xs, k, rfl, rfl, hH, rx.kx, hb, by rw [← hlen, ← linesz_eq]; exact hl, fun u hu => ?_⟩)
            have le : Le X.K μ3 H3 μ3 (upd H3 a (DX a (storedH xs k b u))) := le_updC hH nt_dx
            exact q3 μ3 _ σ le ⟨s3.e.mono le, s3.s.writeC hS hm hH nt_dx rfl rfl ⟨_, upd_same, (rx.put hb (RepV.mono le3 (RepV.mono le2 r1)) hu).mono le⟩⟩
    case h_3 =>
      split at q3
      case h_2 => exact q3.elim
      case h_1 kvs hS =>
        split at q3
        case isFalse => exact q3.elim
        case isTrue hl => exact .inr (set_dk_of s3 (RepV.mono le3 (RepV.mono le2 r1)) (RepV.mono le3 r2) r3 hS hl q3)
theorem ss_del (G : Good X Γ γ W P) (o i : E) : SndS X γ W (run P (.del o i)) (chkC (.del o i) Γ) := by
  refine snd_ofS fun st h => ?_
  split at h
  case h_2 => cases h
  case h_1 ov iv p pos =>
    obtain ⟨h1, h2⟩ := band h
    refine ps_imp (ps_delX (by have := G.un; omega) ((snd_all o G).e _ h1) ((snd_all i G).e _ h2)) fun D σ H ⟨μ, ρ, S, s, q⟩ => ?_
    refine ⟨μ, ρ, S, s, (PostO.of q).imp fun z H2 ⟨μ2, S2, d2, _, le2, s2, r2, q2⟩ => ⟨μ2, ρ, S2, s2, (PostO.of q2).imp fun u H3 ⟨μ3, S3, d3, _, le3, s3, r3, q3⟩ => ?_⟩⟩
    unfold delO at q3
    split at q3
    case h_2 => exact q3.elim
    case h_1 n ks =>
      split at q3
      case h_2 => exact q3.elim
      case h_1 kvs hS =>
        split at q3
        case h_2 => exact q3.elim
        case h_1 k hk =>
          split at q3
          case isFalse => exact q3.elim
          case isTrue hg =>
            obtain ⟨a, xs, rfl, hH, rx, hm⟩ := s3.dct (RepV.mono le3 r2) hS
            obtain ⟨b, rfl, hb⟩ := key_rep r3 (k := k) hk
            have le : Le X.K μ3 H3 μ3 (upd H3 a (DX a (withoutH xs k))) := le_updC hH nt_dx
            exact ⟨a, b, xs, k, rfl, rfl, hH, rx.kx, hb, by rw [rx.isS]; exact hg, q3 μ3 _ σ le ⟨s3.e.mono le, s3.s.writeC hS hm hH nt_dx rfl rfl ⟨_, upd_same, (rx.del k).mono le⟩⟩⟩
theorem ss_raise (G : GoodS X Γ γ W P) (c : Nat) : SndS X γ W (run P (.raise c)) (chkC (.raise c) Γ) := by
  refine snd_ofS fun st h => ?_
  split at h
  case h_2 => cases h
  case h_1 =>
    obtain ⟨h, h4⟩ := band h
    obtain ⟨h, h3⟩ := band h
    obtain ⟨h1, h2⟩ := band h
    obtain ⟨C, bmB, B, newId, initId, g1, g2, g3, g4, g5, g6, g7, _⟩ := G.exs c _ (of_decide_eq_true h4)
    obtain ⟨n1, _, _⟩ := nodbg_of h3
    refine ps_imp (ps_raise (G.calm h1) G.tk (pmk_own g2 g3 g4 g5 (raises_own g6 g7) (gl_of G.toGood h2) n1)) fun D σ H ⟨μ, ρ, S, s, q⟩ => ?_
    have := q μ H σ none .refl s (.inl ⟨rfl, rfl⟩)
    rw [g1] at this
    exact this
theorem takes_no {X : Cx} {W : WX} (h : ∀ c d σ H, ¬ W c d σ H) : Takes X W := fun _ _ ⟨_, _, _, _, _, _, _, _, _, _, _, _, _, _, _, _, w⟩ => (h _ _ _ _ w).elim
theorem hotP_ok {c a c' a' : Nat} {S : Store} (h : hotP c a hotq [.exc c' a'] S ≠ .bad) : c' = c ∧ a' = a ∧ hotP c a hotq [.exc c' a'] S = .ok .non S := by
  unfold hotP at h ⊢
  rw [if_pos rfl] at h ⊢
  by_cases e : c' = c ∧ a' = a
  · exact ⟨e.1, e.2, if_pos e⟩
  · exact absurd (if_neg e) h
/-- the suite's place -/
theorem good_suite (G : GoodS X Γ γ W P) {a : Addr} {oe : Obj} {pn : List (Addr × Obj)} {c : Nat} {x : Str} (hc : Γ.exs[c]? = some x) (hz : Zc (γ c) none oe) (hf : ∃ vs, oe.data = .fields vs) :
    GoodS (X.suite a ((a, oe) :: pn)) Γ.suite γ (fun _ _ _ _ => False) (hotP c a) where
  N := G.N
  nd := G.nd
  sc := G.sc
  fn := G.fn
  calm := fun h => nomatch h
  un := G.un
  glb := G.glb
  blt := G.blt
  tk := takes_no fun _ _ _ _ h => h
  fns := fun h => nomatch h
  atr := G.atr
  isa := G.isa
  hot := fun _ c' a' S h => by
    obtain ⟨rfl, rfl, e⟩ := hotP_ok h
    obtain ⟨C, bmB, B, newId, initId, g1, g2, g3, g4, g5, g6, g7, g8⟩ := G.exs _ x hc
    refine ⟨e, C, g1, ?_⟩
    rw [g1] at hz
    exact call_isE g8 hz hf
  own := PassesOwn.never
  stk := G.stk
  frm := G.frm
  exs := G.exs
theorem good_tr (G : GoodS X Γ γ W P) (hh : Γ.hot = false) {W' : WX} {pn : List (Addr × Obj)} {xe : Value → Shared → Prop} (tk : Takes (X.tr pn xe) W') (ow : PassesOwn (model X.prog X.w) X.A X.env xe) :
    GoodS (X.tr pn xe) Γ γ W' P where
  N := G.N
  nd := G.nd
  sc := G.sc
  fn := G.fn
  calm := G.calm
  un := G.un
  glb := G.glb
  blt := G.blt
  tk := tk
  fns := G.fns
  atr := G.atr
  isa := G.isa
  hot := fun h => by rw [hh] at h; cases h
  own := ow
  stk := G.stk
  frm := G.frm
  exs := G.exs
theorem unset_ok {o : O} {i : Nat} {D : Ends} (h : PostO K γ W μ H (o.unset i) D) :
    PostO K γ (fun _ _ _ _ => False) μ H o { nx := fun σ' H' => D.nx (σ'.set i none) H', rt := D.rt, bk := fun σ' H' => D.bk (σ'.set i none) H', ct := fun σ' H' => D.ct (σ'.set i none) H' } := by
  cases o with
  | nx ρ S => exact fun μ' H' σ' l s => h μ' H' _ l ⟨RepE.wipe s.e [i], s.s⟩
  | bk ρ S => exact fun μ' H' σ' l s => h μ' H' _ l ⟨RepE.wipe s.e [i], s.s⟩
  | ct ρ S => exact fun μ' H' σ' l s => h μ' H' _ l ⟨RepE.wipe s.e [i], s.s⟩
  | ret d S => exact h
  | exc => exact h.elim
  | bad => exact h.elim
theorem noexc_ok {o : O} {D : Ends} (h : PostO K γ W μ H o.noexc D) : PostO K γ (fun _ _ _ _ => False) μ H o D := by
  cases o with
  | nx ρ S => exact h
  | bk ρ S => exact h
  | ct ρ S => exact h
  | ret d S => exact h
  | exc => exact h.elim
  | bad => exact h.elim
theorem suiteO_ok {f : Nat → O} {D : Ends} (h : PostO K γ W μ H (suiteO f) D) (a : Nat) : PostO K γ W μ H (f a) D := by
  unfold suiteO at h
  split at h
  case isTrue e => rw [e a]; exact h
  case isFalse => exact h.elim
theorem ss_tryAs (G : GoodS X Γ γ W P) (b : C) (y : Str) (tbl : List Bool) (i : Nat) (s : C) (hb : ∀ {X : Cx} {W : WX}, GoodS X Γ γ W P → SndS X γ W (run P b) (chkC b Γ))
    (hs : ∀ {X : Cx} {W : WX} {P : Nat → List D → Store → R D}, GoodS X Γ.suite γ W P → SndS X γ W (run P s) (chkC s Γ.suite)) : SndS X γ W (run P (.tryAs b y tbl i s)) (chkC (.tryAs b y tbl i s) Γ) := by
  refine snd_ofS fun st h => ?_
  split at h
  case h_2 => cases h
  case h_1 body z zp n b₀ r hp pos =>
    obtain ⟨h, h10⟩ := band h
    obtain ⟨h, h9⟩ := band h
    obtain ⟨h, h8⟩ := band h
    obtain ⟨h, h7⟩ := band h
    obtain ⟨h, h6⟩ := band h
    obtain ⟨h, h5⟩ := band h
    obtain ⟨h, h4⟩ := band h
    obtain ⟨h, h3⟩ := band h
    obtain ⟨h1, h2⟩ := band h
    have hh : Γ.hot = false := by simpa using h1
    have e1 := of_decide_eq_true h2
    subst e1
    obtain ⟨cv, v, r1, r2, r3, r4⟩ := G.isa _ _ (of_decide_eq_true h5)
    obtain ⟨n1, _, _⟩ := nodbg_of h4
    have hi : X.N[i]? = some n := by rw [G.N]; exact of_decide_eq_true h7
    have hln : X.env.kindOf n = some .local := by unfold Env.kindOf; rw [G.sc]; exact of_decide_eq_true h8
    have htl := of_decide_eq_true h6
    refine ps_imp (ps_try_as (c := cv) (i := i) (Wout := W) (tb := fun W' => sR X.K γ W' (run P b))
      (ts := fun a cls d D σ H => ∃ c x, Γ.exs[c]? = some x ∧ cls = γ c ∧ d = none ∧ sR X.K γ (fun _ _ _ _ => False) (run (hotP c a) s) D σ H)
      G.stk G.frm G.nd hi hln ⟨gl_of G.toGood h3, n1, r3⟩ G.tk
      (fun W' pn xe tk ow => (hb (good_tr G hh tk ow)).b _ h9) (fun a oe cls d pn hz hf => ⟨fun pins s1 σ H D I ⟨c, x, k1, k2, k3, q⟩ => ?_⟩)) fun D σ H ⟨μ, ρ, S, s1, q⟩ => ?_
    · subst k2 k3
      exact ((hs (good_suite G (pn := pn) k1 hz hf)).b _ h10).run pins s1 σ H D I q
    · refine ⟨μ, ρ, S, s1, ?_⟩
      change PostO X.K γ W μ H (catchO (run P b ρ S) tbl _) D at q
      cases e : run P b ρ S with
      | nx => rw [e] at q; exact q
      | bk => rw [e] at q; exact q
      | ct => rw [e] at q; exact q
      | ret => rw [e] at q; exact q
      | bad => rw [e] at q; exact q.elim
      | exc c fs ρ1 S1 =>
        rw [e] at q
        intro μ1 H1 σ1 dx le s2 xd
        simp only [catchO] at q
        split at q
        · rename_i hc
          refine ⟨true, (r4 c true hc).2, fun _ a ha => ?_, fun z => absurd z.symm Bool.false_ne_true⟩
          have hd : dx = none := by
            rcases xd with ⟨_, z⟩ | ⟨z, _⟩
            · exact z
            · exact absurd rfl z
          obtain ⟨x, hx⟩ : ∃ x, Γ.exs[c]? = some x := ⟨_, List.getElem?_eq_getElem (by have := (List.getElem?_eq_some_iff.mp hc).1; omega)⟩
          refine ⟨c, x, hx, rfl, hd, μ1, ρ1.set i (some (.exc c a)), S1, ⟨s2.e.set (.exc c a) i, s2.s⟩, ?_⟩
          exact suiteO_ok (f := fun a => run (hotP c a) s (ρ1.set i (some (.exc c a))) S1) (PostO.base le (unset_ok q)) a
        · rename_i hc
          exact ⟨false, (r4 c false hc).2, (fun z => absurd z Bool.false_ne_true), fun _ => q μ1 H1 σ1 dx le s2 xd⟩
        · exact q.elim
theorem ss_tryAs2 (G : GoodS X Γ γ W P) (b : C) (y1 : Str) (tbl1 : List Bool) (y2 : Str) (tbl2 : List Bool) (i : Nat) (s1 s2 : C) (hb : ∀ {X : Cx} {W : WX}, GoodS X Γ γ W P → SndS X γ W (run P b) (chkC b Γ))
    (hs1 : ∀ {X : Cx} {W : WX} {P : Nat → List D → Store → R D}, GoodS X Γ.suite γ W P → SndS X γ W (run P s1) (chkC s1 Γ.suite))
    (hs2 : ∀ {X : Cx} {W : WX} {P : Nat → List D → Store → R D}, GoodS X Γ.suite γ W P → SndS X γ W (run P s2) (chkC s2 Γ.suite)) : SndS X γ W (run P (.tryAs2 b y1 tbl1 y2 tbl2 i s1 s2)) (chkC (.tryAs2 b y1 tbl1 y2 tbl2 i s1 s2) Γ) := by
  refine snd_ofS fun st h => ?_
  split at h
  case h_2 => cases h
  case h_1 body z1 zp1 n1 b1 r1 hp1 z2 zp2 n2 b2 r2 hp2 pos =>
    obtain ⟨h, h'⟩ := band h
    obtain ⟨h, h8⟩ := band h
    obtain ⟨h, h7⟩ := band h
    obtain ⟨h, h6⟩ := band h
    obtain ⟨h, h5⟩ := band h
    obtain ⟨h, h4⟩ := band h
    obtain ⟨h, h3⟩ := band h
    obtain ⟨h1, h2⟩ := band h
    obtain ⟨h', h9⟩ := band h'
    obtain ⟨h9, h11⟩ := band h9
    obtain ⟨h9, h10⟩ := band h9
    obtain ⟨h', k6⟩ := band h'
    obtain ⟨h', k5⟩ := band h'
    obtain ⟨h', k4⟩ := band h'
    obtain ⟨h', k3⟩ := band h'
    obtain ⟨k1, k2⟩ := band h'
    have hh : Γ.hot = false := by simpa using h1
    have e1 := of_decide_eq_true h2
    subst e1
    have e2 := of_decide_eq_true k2
    subst e2
    have e3 := of_decide_eq_true k1
    subst e3
    obtain ⟨c1, v1, g1, g2, g3, g4⟩ := G.isa _ _ (of_decide_eq_true h5)
    obtain ⟨c2, v2, f1, f2, f3, f4⟩ := G.isa _ _ (of_decide_eq_true k5)
    obtain ⟨m1, _, _⟩ := nodbg_of h4
    obtain ⟨m2, _, _⟩ := nodbg_of k4
    have hi : X.N[i]? = some n2 := by rw [G.N]; exact of_decide_eq_true h7
    have hln : X.env.kindOf n2 = some .local := by unfold Env.kindOf; rw [G.sc]; exact of_decide_eq_true h8
    have htl1 := of_decide_eq_true h6
    have htl2 := of_decide_eq_true k6
    refine ps_imp (ps_try_as2 (c1 := c1) (c2 := c2) (i := i) (Wout := W) (tb := fun W' => sR X.K γ W' (run P b))
      (t1 := fun a cls d D σ H => ∃ c x, Γ.exs[c]? = some x ∧ cls = γ c ∧ d = none ∧ sR X.K γ (fun _ _ _ _ => False) (run (hotP c a) s1) D σ H)
      (t2 := fun a cls d D σ H => ∃ c x, Γ.exs[c]? = some x ∧ cls = γ c ∧ d = none ∧ sR X.K γ (fun _ _ _ _ => False) (run (hotP c a) s2) D σ H)
      G.stk G.frm G.nd hi hln ⟨gl_of G.toGood h3, m1, g3⟩ ⟨gl_of G.toGood k3, m2, f3⟩ G.tk
      (fun W' pn xe tk ow => (hb (good_tr G hh tk ow)).b _ h9) (fun a oe cls d pn hz hf => ⟨fun pins z1 σ H D I ⟨c, x, k1, k2, k3, q⟩ => ?_⟩) (fun a oe cls d pn hz hf => ⟨fun pins z1 σ H D I ⟨c, x, k1, k2, k3, q⟩ => ?_⟩)) fun D σ H ⟨μ, ρ, S, z1, q⟩ => ?_
    · subst k2 k3
      exact ((hs1 (good_suite G (pn := pn) k1 hz hf)).b _ h10).run pins z1 σ H D I q
    · subst k2 k3
      exact ((hs2 (good_suite G (pn := pn) k1 hz hf)).b _ h11).run pins z1 σ H D I q
    · refine ⟨μ, ρ, S, z1, ?_⟩
      change PostO X.K γ W μ H (catchO2 (run P b ρ S) tbl1 tbl2 _ _) D at q
      cases e : run P b ρ S with
      | nx => rw [e] at q; exact q
      | bk => rw [e] at q; exact q
      | ct => rw [e] at q; exact q
      | ret => rw [e] at q; exact q
      | bad => rw [e] at q; exact q.elim
      | exc c fs ρ1 S1 =>
        rw [e] at q
        intro μ1 H1 σ1 dx le z2 xd
        simp only [catchO2] at q
        split at q
        · rename_i hc
          refine ⟨true, (g4 c true hc).2, fun _ a ha => ?_, fun z => absurd z.symm Bool.false_ne_true⟩
          have hd : dx = none := by
            rcases xd with ⟨_, z⟩ | ⟨z, _⟩
            · exact z
            · exact absurd rfl z
          obtain ⟨x, hx⟩ : ∃ x, Γ.exs[c]? = some x := ⟨_, List.getElem?_eq_getElem (by have := (List.getElem?_eq_some_iff.mp hc).1; omega)⟩
          refine ⟨c, x, hx, rfl, hd, μ1, ρ1.set i (some (.exc c a)), S1, ⟨z2.e.set (.exc c a) i, z2.s⟩, ?_⟩
          exact suiteO_ok (f := fun a => run (hotP c a) s1 (ρ1.set i (some (.exc c a))) S1) (PostO.base le (unset_ok q)) a
        · rename_i hc
          refine ⟨false, (g4 c false hc).2, (fun z => absurd z Bool.false_ne_true), fun _ => ?_⟩
          simp only [catchO] at q
          split at q
          · rename_i hc
            refine ⟨true, (f4 c true hc).2, fun _ a ha => ?_, fun z => absurd z.symm Bool.false_ne_true⟩
            have hd : dx = none := by
              rcases xd with ⟨_, z⟩ | ⟨z, _⟩
              · exact z
              · exact absurd rfl z
            obtain ⟨x, hx⟩ : ∃ x, Γ.exs[c]? = some x := ⟨_, List.getElem?_eq_getElem (by have := (List.getElem?_eq_some_iff.mp hc).1; omega)⟩
            refine ⟨c, x, hx, rfl, hd, μ1, ρ1.set i (some (.exc c a)), S1, ⟨z2.e.set (.exc c a) i, z2.s⟩, ?_⟩
            exact suiteO_ok (f := fun a => run (hotP c a) s2 (ρ1.set i (some (.exc c a))) S1) (PostO.base le (unset_ok q)) a
          · rename_i hc
            exact ⟨false, (f4 c false hc).2, (fun z => absurd z Bool.false_ne_true), fun _ => q μ1 H1 σ1 dx le z2 xd⟩
          · exact q.elim
        · exact q.elim
theorem ss_tryOn (G : GoodS X Γ γ W P) (b : C) (y : Str) (tbl : List Bool) (s : C) (hb : ∀ {X : Cx} {W : WX}, GoodS X Γ γ W P → SndS X γ W (run P b) (chkC b Γ))
    (hs : ∀ {X : Cx} {W : WX} {P : Nat → List D → Store → R D}, GoodS X Γ.suite γ W P → SndS X γ W (run P s) (chkC s Γ.suite)) : SndS X γ W (run P (.tryOn b y tbl s)) (chkC (.tryOn b y tbl s) Γ) := by
  refine snd_ofS fun st h => ?_
  split at h
  case h_2 => cases h
  case h_1 body z zp b₀ r hp pos =>
    obtain ⟨h, h10⟩ := band h
    obtain ⟨h, h9⟩ := band h
    obtain ⟨h, h6⟩ := band h
    obtain ⟨h, h5⟩ := band h
    obtain ⟨h, h4⟩ := band h
    obtain ⟨h, h3⟩ := band h
    obtain ⟨h1, h2⟩ := band h
    have hh : Γ.hot = false := by simpa using h1
    have e1 := of_decide_eq_true h2
    subst e1
    obtain ⟨cv, v, r1, r2, r3, r4⟩ := G.isa _ _ (of_decide_eq_true h5)
    obtain ⟨n1, _, _⟩ := nodbg_of h4
    have htl := of_decide_eq_true h6
    refine ps_imp (ps_try_only (c := cv) (Wout := W) (tb := fun W' => sR X.K γ W' (run P b))
      (ts := fun a cls d D σ H => ∃ c x, Γ.exs[c]? = some x ∧ cls = γ c ∧ d = none ∧ sR X.K γ (fun _ _ _ _ => False) (run (hotP c a) s) D σ H)
      G.stk G.frm ⟨gl_of G.toGood h3, n1, r3⟩ G.tk
      (fun W' pn xe tk ow => (hb (good_tr G hh tk ow)).b _ h9) (fun a oe cls d pn hz hf => ⟨fun pins s1 σ H D I ⟨c, x, k1, k2, k3, q⟩ => ?_⟩)) fun D σ H ⟨μ, ρ, S, s1, q⟩ => ?_
    · subst k2 k3
      exact ((hs (good_suite G (pn := pn) k1 hz hf)).b _ h10).run pins s1 σ H D I q
    · refine ⟨μ, ρ, S, s1, ?_⟩
      change PostO X.K γ W μ H (catchO (run P b ρ S) tbl _) D at q
      cases e : run P b ρ S with
      | nx => rw [e] at q; exact q
      | bk => rw [e] at q; exact q
      | ct => rw [e] at q; exact q
      | ret => rw [e] at q; exact q
      | bad => rw [e] at q; exact q.elim
      | exc c fs ρ1 S1 =>
        rw [e] at q
        intro μ1 H1 σ1 dx le s2 xd
        simp only [catchO] at q
        split at q
        · rename_i hc
          refine ⟨true, (r4 c true hc).2, fun _ a ha => ?_, fun z => absurd z.symm Bool.false_ne_true⟩
          have hd : dx = none := by
            rcases xd with ⟨_, z⟩ | ⟨z, _⟩
            · exact z
            · exact absurd rfl z
          obtain ⟨x, hx⟩ : ∃ x, Γ.exs[c]? = some x := ⟨_, List.getElem?_eq_getElem (by have := (List.getElem?_eq_some_iff.mp hc).1; omega)⟩
          refine ⟨c, x, hx, rfl, hd, μ1, ρ1, S1, s2, ?_⟩
          exact suiteO_ok (f := fun a => run (hotP c a) s ρ1 S1) (PostO.base le (noexc_ok q)) a
        · rename_i hc
          exact ⟨false, (r4 c false hc).2, (fun z => absurd z Bool.false_ne_true), fun _ => q μ1 H1 σ1 dx le s2 xd⟩
        · exact q.elim
/-! ### name = X[key]; return name(e, ..) -/
def tCallH (i : Nat) (A : Addr → Sp → Prop) (E : L2.St → XK) (t : TA) : TE := fun σ H Q => ∃ f sp, σ[i]? = some (some (.ref f)) ∧ A f sp ∧ t σ H fun vs H1 => sp vs H1 Q (E σ)
theorem pe_callH {CX : CXT} {i : Nat} {A : Addr → Sp → Prop} {E : L2.St → XK} {x : Str} {p pos : Pos} {e : Expr} {es : List Expr} {t : TA}
    (hA : ∀ f sp, A f sp → ∃ k fd ps, FnOk X.prog X.w X.K X.mg X.base CX k f fd ps sp ∧ Room k X.A ∧ PySem.W.keepIn X.K (.ref f) = true ∧ Binds X.K fd ps []) (hx : ∀ σ, PassesAt CX X σ (E σ)) (hN : X.N[i]? = some x) (hv : Vis X.env.scope x) (ha : PA X (e :: es) t)
    (hdb : (x == ("__debug__" : Str)) = false) (hcd : (x == ("__classdict__" : Str)) = false) (he : starEach (e :: es) X.env = (false, eval e X.env) :: starEach es X.env) (hpl : (backTo pos (starEach es X.env)).any (·.1) = false) :
    PE X (.Call (.Name x p) (e :: es) [] pos) (tCallH i A E t) := by
  refine ⟨fun pins s σ H Q I h => ?_⟩
  obtain ⟨f, sp, hs, hf, ht⟩ := h
  obtain ⟨k, fd, ps, F, hr, hk, hb⟩ := hA f sp hf
  refine wpAny_Call_Name_kw (thn ((pe_var (pos := p) hN hv hdb hcd).run pins s σ H (fun v H1 => v = .ref f ∧ H1 = H) I ⟨.ref f, hs, rfl, rfl⟩) fun u s1 ⟨v, H1, I1, r1, q1⟩ => ?_)
  obtain ⟨rfl, rfl⟩ := q1
  cases r1
  refine PySem.W.callWith_K (h₀ := X.base) I.ok.mod.kin hk (thn (ha.run pos pins s1 σ _ _ I1 ht) fun us s2 ⟨vs, H2, I2, r, q⟩ => ⟨I2.kIn, ?_⟩) he hpl
  exact run_fnSD F hr hb .nil (hx σ) I2 r (by rw [List.append_nil]; exact q)
theorem repE_forget {K : PySem.W.Frag} {H : Hp} {μ : Mu} {σ : L2.St} {ρ : Env} (h : RepE K H μ σ ρ) (i : Nat) (x : Option V) : RepE K H μ (σ.set i x) (ρ.set i none) := by
  refine ⟨by rw [List.length_set, List.length_set]; exact h.1, fun j d hj => ?_⟩
  by_cases e : i = j
  · subst e
    rw [List.getElem?_set] at hj
    simp only [if_true] at hj
    split at hj <;> cases hj
  · rw [List.getElem?_set_ne e] at hj ⊢
    exact h.2 j d hj
theorem ss_dsp (G : GoodS X Γ γ W P) (i : Nat) (x : Str) (tbl : List (Str × Str × Nat)) (e as : E) : SndS X γ W (run P (.dsp i x tbl e as)) (chkC (.dsp i x tbl e as) Γ) := by
  refine ⟨(fun _ h => nomatch h), fun sts h => ?_⟩
  simp only [chkC] at h
  split at h
  case h_2 => cases h
  case h_1 v pv y py ei p1 p2 v2 p3 a es p4 p5 =>
    obtain ⟨h, hvis⟩ := band h
    obtain ⟨h, hndv⟩ := band h
    obtain ⟨h, has⟩ := band h
    obtain ⟨h, hei⟩ := band h
    obtain ⟨h, htb⟩ := band h
    obtain ⟨h, hlk⟩ := band h
    obtain ⟨h, hnd⟩ := band h
    obtain ⟨h, hgl⟩ := band h
    obtain ⟨h, hyx⟩ := band h
    obtain ⟨h, hnm⟩ := band h
    obtain ⟨hcalm, hv2⟩ := band h
    have ev2 : v2 = v := of_decide_eq_true hv2
    subst ev2
    obtain ⟨n1, n2, n3⟩ := nodbg_of hnd
    obtain ⟨m1, m2, m3⟩ := nodbg_of hndv
    obtain ⟨w1, w2, w3⟩ := ck_name G.toGood hnm
    obtain ⟨ad, den, n, g1, D0, g3⟩ := G.glb y (.f tbl) (of_decide_eq_true hlk)
    have tb : ∀ z q f, tbl.lookup z = some (q, f) → Γ.fns[f]? = some (.fn q) := fun z q f e => by
      have := List.all_eq_true.mp htb (z, q, f) (PySem.mem_of_lookup e)
      exact of_decide_eq_true this
    obtain ⟨s1, s2⟩ := star_a as a es has X.env
    have he := (snd_all e G.toGood).e _ hei
    have p1' := pe_ix (pos := p1) (ix_kdict (X := X)) (pe_glob (v := .ref ad) (pos := py) (gl_of G.toGood hgl) g1 rfl n1) he (plain_ix (no_slice ei hei))
    have q1' := ps_set (pos := p2) (pos' := pv) G.nd w1 w2 p1' (sw_plain rfl _ _ _) w3
    let A : Addr → Sp → Prop := fun f sp => ∃ z q g k fd ps, tbl.lookup z = some (q, g) ∧ FnP X.prog X.w X.K X.mg X.base γ P g k f fd ps ∧ Room k X.A ∧ PySem.W.keepIn X.K (.ref f) = true ∧ sp = spF X.K γ P ps.length g
    have p2' := pe_callH (CX := L2.CX X.prog X.w) (A := A) (p := p3) (pos := p4) (E := fun σ => WE W σ) (fun f sp ⟨z, q, g, k, fd, ps, _, F, hr, hk, e⟩ => ⟨k, fd, ps, e ▸ F.ok, hr, hk, F.bnd⟩) (fun σ => passAt G.tk σ) w1 (vis_of G.toGood hvis) ((snd_all as G.toGood).a _ has) m1 m2 s1 (s2 p4)
    refine pss_imp (pss_cons q1' (pss_cons (ps_ret (pos := p5) p2') pss_nil)) fun D σ H ⟨μ, ρ, S, s, q⟩ => ?_
    obtain ⟨hi, q⟩ := PostO.cond q
    have hi : i < ρ.length := of_decide_eq_true hi
    refine ⟨μ, ρ, S, s, (PostO.of q).imp fun x1 H1 ⟨μ1, S1, d1, _, le1, sm1, r1, q1⟩ => ?_⟩
    unfold dspO at q1
    split at q1
    case h_2 => exact q1.elim
    case h_1 t _ =>
      cases r1
      split at q1
      case h_2 => exact q1.elim
      case h_1 pr epr =>
        obtain ⟨qn, g⟩ := pr
        obtain ⟨addr, e1, e2⟩ := g3 (t, qn, g) (PySem.mem_of_lookup epr)
        obtain ⟨k, addr2, fd, ps, F, hr, hm, hk⟩ := G.fns hcalm g _ (tb t qn g epr)
        have : addr2 = addr := by rw [hm] at e1; cases e1; rfl
        subst this
        refine ⟨ad, t, .ref addr2, rfl, rfl, ⟨den, n, .ref addr2, D0.at_, D0.lit, e2, rfl⟩, ?_⟩
        have sm2 : Sim X.K μ1 (σ.set i (some (.ref addr2))) H1 (ρ.set i none) S1 := ⟨repE_forget sm1.e i _, sm1.s⟩
        have hσ : i < σ.length := by rw [sm1.e.1]; exact hi
        refine ⟨addr2, _, by rw [List.getElem?_set_self hσ], ⟨t, qn, g, k, fd, ps, epr, F, hr, hk, rfl⟩, ?_⟩
        refine ⟨μ1, ρ.set i none, S1, sm2, (PostO.of q1).imp fun vs H2 ⟨μ2, S2, ds, _, le2, sm3, r2, q2⟩ => ?_⟩
        exact sp_of F.len sm3 r2 ((PostO.of q2).imp fun v H3 ⟨μ3, S3, d3, _, le3, sm4, r3, q3⟩ => q3 μ3 H3 v .refl sm4.s r3)
/-- a statement while a dict is walked -/
theorem ss_lk (o : E) {b : C} (hb : SndS X γ W (run P b) (chkC b Γ)) : SndS X γ W (run P (.lk o b)) (chkC (.lk o b) Γ) := by
  have main : ∀ st, (chkC b Γ).s st = true → PS X st (sR X.K γ W (run P (.lk o b))) := fun st h => by
    refine ⟨fun pins sh σ H D I ⟨μ, ρ, S, s, q⟩ => ?_⟩
    change PostO X.K γ W μ H (lkO (ev P o ρ S) (run P b ρ) S) D at q
    unfold lkO at q
    split at q
    case h_2 => exact q.elim
    case h_1 n S0 _ =>
      split at q
      case h_3 => exact q.elim
      case h_2 kvs hS => exact (hb.s _ h).run pins sh σ H D I ⟨μ, ρ, S, s, q⟩
      case h_1 kvs hS =>
        refine (ps_lock (hb.s _ h)).run pins sh σ H D I ?_
        obtain ⟨a, hm, xs, hH, rx⟩ := s.s.at hS
        refine ⟨a, DX a xs, hH, True.intro, fun od => ?_⟩
        have le1 : Le X.K μ H μ (upd H a (.frz od (DX a xs))) := le_updC hH nt_dx
        have sl : Sim X.K μ σ (upd H a (.frz od (DX a xs))) ρ (S.set n (.hid kvs)) := ⟨s.e.mono le1, s.s.writeC hS hm hH nt_dx rfl rfl ⟨od, xs, upd_same, rx.mono le1⟩⟩
        refine ⟨μ, ρ, S.set n (.hid kvs), sl, ?_⟩
        have back : ∀ {μ' : Mu} {H' : Hp}, Le X.K μ (upd H a (.frz od (DX a xs))) μ' H' → H' a = some (.frz od (DX a xs)) ∧ μ'[n]? = some a ∧ Le X.K μ H μ' (upd H' a (DX a xs)) := fun {μ' H'} le => by
          have hF : H' a = some (.frz od (DX a xs)) := le.fz a od xs upd_same
          refine ⟨hF, le.at hm, ⟨le.pre, fun c ys hc => (le0_unl (K := X.K) (μ := μ) hF).tup c ys (le.tup c ys (le1.tup c ys hc)), fun c u ys hc => ?_⟩⟩
          have hne : c ≠ a := fun e => by
            subst e
            rw [hH] at hc
            injection hc with hc
            unfold DX at hc
            cases hc
          rw [upd_ne hne]
          exact le.fz c u ys (by rw [upd_ne hne]; exact hc)
        cases hr : run P b ρ (S.set n (.hid kvs)) with
        | bad => rw [hr] at q; exact q.elim
        | exc c fs ρ2 S2 => rw [hr] at q; exact fun μ' H' σ' dx le s2 xd => q μ' H' σ' dx (le1.trans le) s2 xd
        | nx ρ2 S2 =>
          rw [hr] at q
          simp only [O.unl] at q
          split at q
          case isFalse => exact q.elim
          case isTrue hS2 =>
            intro μ' H' σ' le s2
            obtain ⟨hF, hm', le2⟩ := back le
            exact ⟨hF, q μ' _ σ' le2 ⟨s2.e.mono0 (le0_unl hF), s2.s.unl hS2 hm' hF⟩⟩
        | bk ρ2 S2 =>
          rw [hr] at q
          simp only [O.unl] at q
          split at q
          case isFalse => exact q.elim
          case isTrue hS2 =>
            intro μ' H' σ' le s2
            obtain ⟨hF, hm', le2⟩ := back le
            exact ⟨hF, q μ' _ σ' le2 ⟨s2.e.mono0 (le0_unl hF), s2.s.unl hS2 hm' hF⟩⟩
        | ct ρ2 S2 =>
          rw [hr] at q
          simp only [O.unl] at q
          split at q
          case isFalse => exact q.elim
          case isTrue hS2 =>
            intro μ' H' σ' le s2
            obtain ⟨hF, hm', le2⟩ := back le
            exact ⟨hF, q μ' _ σ' le2 ⟨s2.e.mono0 (le0_unl hF), s2.s.unl hS2 hm' hF⟩⟩
        | ret d S2 =>
          rw [hr] at q
          simp only [O.unl] at q
          split at q
          case isFalse => exact q.elim
          case isTrue hS2 =>
            intro μ' H' v le s2 rv
            obtain ⟨hF, hm', le2⟩ := back le
            exact ⟨hF, q μ' _ v le2 (s2.unl hS2 hm' hF) (RepV.mono0 (le0_unl hF) rv)⟩
  refine snd_ofS fun st h => ?_
  split at h
  · exact main _ h
  · exact main _ h
  · exact main _ h
  · cases h
/-- o.f op= e -/
theorem ss_fau (G : Good X Γ γ W P) (c f : Str) (o : E) (p : B2) (e : E) : SndS X γ W (run P (.fau c f o p e)) (chkC (.fau c f o p e) Γ) := by
  refine snd_ofS fun st h => ?_
  split at h
  case h_2 => cases h
  case h_1 ov x tp op v pos =>
    obtain ⟨h, h5⟩ := band h
    obtain ⟨h, h4⟩ := band h
    obtain ⟨h, h3⟩ := band h
    obtain ⟨h1, h2⟩ := band h
    have e1 := of_decide_eq_true h1
    subst e1
    have e3 := of_decide_eq_true h3
    subst e3
    obtain ⟨C, hc, cl, na⟩ := G.atr c x h2
    refine ps_imp (ps_fldaug (rd := opV X.K γ W (augB p)) ((snd_all o G).e _ h4) ((snd_all e G).e _ h5) (fun pins s σ H x y u v Q I r1 r2 z => aug_ok p pins s σ H x y u v Q I r1 r2 z)) fun D σ H ⟨μ, ρ, S, s, q⟩ => ?_
    refine ⟨μ, ρ, S, s, (PostO.of q).imp fun y H1 ⟨μ1, S1, d, _, le1, s1, r1, q1⟩ => ?_⟩
    unfold fldR at q1
    cases hi : insOf S1 c d with
    | none => rw [hi] at q1; exact q1.elim
    | some fs =>
      rw [hi] at q1
      simp only at q1
      cases hl : fs.lookup x with
      | none => rw [hl] at q1; exact q1.elim
      | some d2 =>
        rw [hl] at q1
        obtain ⟨n, a, C2, dx, gs, rfl, rfl, hS, hH, hc2, e3, r3, hm⟩ := s1.inst r1 hi
        have : C2 = C := by
          have := hc2.symm.trans hc
          cases this; rfl
        subst this
        obtain ⟨u, hu, ru⟩ := (lookup_rep x e3 r3).1 d2 hl
        refine ⟨a, C2, dx, gs, u, rfl, hH, cl, na, hu, μ1, ρ, S1, s1, (PostO.of (show PostO X.K γ W μ1 H1 (O.of ρ (ev P e ρ S1) fun d S3 => O.of ρ (augB p d2 d S3) fun z S4 => fstO c x z (.ref n) ρ S4) D from q1)).imp fun y2 H2 ⟨μ2, S2, d3, _, le2, s2, r2, q2⟩ => ⟨μ2, σ, ρ, S2, d2, d3, s2, RepV.mono le2 ru, r2, (PostO.of q2).imp fun z H3 ⟨μ3, S3, d4, _, le3, s3, r4, q3⟩ => ?_⟩⟩
        unfold fstO at q3
        simp only at q3
        split at q3
        case h_2 => exact q3.elim
        case h_1 fs3 hi3 =>
          split at q3
          case isFalse => exact q3.elim
          case isTrue hz =>
            obtain ⟨n', a', C3, dx3, gs3, e0, e9, hS3, hH3, hc3, e4, r5, hm3⟩ := s3.inst (RepV.mono le3 (RepV.mono le2 r1)) hi3
            cases e0
            cases e9
            have : C3 = C2 := by
              have := hc3.symm.trans hc
              cases this; rfl
            subst this
            have hlen : gs3.length = fs3.length := by
              have := congrArg List.length e4
              simpa using this
            have nt : NT (.ins C3 dx3 gs3) := ⟨(fun _ z => nomatch z), (fun _ _ z => nomatch z)⟩
            obtain ⟨p1, p2⟩ := put_rep (f := x) r4 e4 r5
            have le4 : Le X.K μ3 H3 μ3 (upd H3 a (.ins C3 dx3 (putF x z gs3))) := le_updC hH3 nt
            exact ⟨dx3, gs3, hH3, by rw [hlen]; exact hz, q3 μ3 _ σ le4 ⟨s3.e.mono le4, s3.s.writeC hS3 hm3 hH3 nt rfl rfl ⟨_, upd_same, hc, p1, p2.mono le4⟩⟩⟩
/-- EVERY STATEMENT -/
theorem ss_all : ∀ (c : C) {X : Cx} {Γ : Gam} {W : WX} {P : Nat → List D → Store → R D}, GoodS X Γ γ W P → SndS X γ W (run P c) (chkC c Γ)
  | .skip, _, _, _, _, _ => ss_skip
  | .seq a b, _, _, _, _, G => ss_seq (ss_all a G) (ss_all b G)
  | .ex e, _, _, _, _, G => ss_ex G.toGood e
  | .asg tg e, _, _, _, _, G => ss_asg G.toGood tg e
  | .aug i o e, _, _, _, _, G => ss_aug G.toGood i o e
  | .ret e, _, _, _, _, G => ss_ret G.toGood e
  | .retN, _, _, _, _, _ => ss_retN
  | .ite c a b, _, _, _, _, G => ss_ite G.toGood c (ss_all a G) (ss_all b G)
  | .whl n c b, _, _, _, _, G => ss_whl G n c (ss_all b G)
  | .for tg it b, _, _, _, _, G => ss_for G tg it (ss_all b G)
  | .brk, _, _, _, _, _ => ss_brk
  | .cnt, _, _, _, _, _ => ss_cnt
  | .pass, _, _, _, _, _ => ss_pass
  | .fst c f o e, _, _, _, _, G => ss_fst G.toGood c f o e
  | .ist o i e, _, _, _, _, G => ss_ist G.toGood o i e
  | .del o i, _, _, _, _, G => ss_del G.toGood o i
  | .lk o b, _, _, _, _, G => ss_lk o (ss_all b G)
  | .fau c f o p e, _, _, _, _, G => ss_fau G.toGood c f o p e
  | .fst2 c f g o e, _, _, _, _, G => ss_fst2 G.toGood c f g o e
  | .raise c, _, _, _, _, G => ss_raise G c
  | .any, _, _, _, _, _ => ss_any
  | .asg2 i j e, _, _, _, _, G => ss_asg2 G.toGood i j e
  | .dsp i x tbl e as, _, _, _, _, G => ss_dsp G i x tbl e as
  | .tryAs b y tbl i s, _, _, _, _, G => ss_tryAs G b y tbl i s (fun G => ss_all b G) (fun G => ss_all s G)
  | .tryOn b y tbl s, _, _, _, _, G => ss_tryOn G b y tbl s (fun G => ss_all b G) (fun G => ss_all s G)
  | .tryAs2 b y1 tbl1 y2 tbl2 i s1 s2, _, _, _, _, G => ss_tryAs2 G b y1 tbl1 y2 tbl2 i s1 s2 (fun G => ss_all b G) (fun G => ss_all s1 G) (fun G => ss_all s2 G)
end
end Ng

set_option Elab.async false
set_option linter.all false
set_option maxRecDepth 100000
set_option maxHeartbeats 4000000
/-! Defs keep the engine's promise; the end of a law. -/
namespace Ng
open PySem PySem.Spec PyProof.Rows L2
section
variable {K : PySem.W.Frag} {μ μ1 t : Mu} {H H1 : Hp} {S S1 : Store}
/-! ### what a def made and nobody names is forgotten -/
mutual
theorem RepV.lt : ∀ {d : D} {v : V}, RepV K H μ d v → ∀ n ∈ d.refs, n < μ.length
  | _, _, .non, n, h => by simp [D.refs] at h
  | _, _, .bl _, n, h => by simp [D.refs] at h
  | _, _, .int _, n, h => by simp [D.refs] at h
  | _, _, .str _, n, h => by simp [D.refs] at h
  | _, _, .tup _ r, n, h => RepVs.lt r n (by simpa [D.refs] using h)
  | _, _, .ref hm, n, h => by
    simp only [D.refs, List.mem_singleton] at h
    subst h
    exact (List.getElem?_eq_some_iff.mp hm).1
  | _, _, .exc .., n, h => by simp [D.refs] at h
theorem RepVs.lt : ∀ {ds : List D} {vs : List V}, RepVs K H μ ds vs → ∀ n ∈ D.refsL ds, n < μ.length
  | _, _, .nil, n, h => by simp [D.refsL] at h
  | _, _, .cons r rs, n, h => by
    simp only [D.refsL, List.mem_append] at h
    rcases h with h | h
    · exact RepV.lt r n h
    · exact RepVs.lt rs n h
end
mutual
/-- the cells renamed -/
theorem RepV.ren {f : Nat → Nat} : ∀ {d : D} {v : V}, RepV K H μ d v → (∀ n ∈ d.refs, ∀ a, μ[n]? = some a → μ1[f n]? = some a) → RepV K H μ1 (d.ren f) v
  | _, _, .non, _ => .non
  | _, _, .bl b, _ => .bl b
  | _, _, .int i, _ => .int i
  | _, _, .str x, _ => .str x
  | _, _, .tup h r, q => by
    simp only [D.ren]
    exact .tup h (RepVs.ren r fun n hn => q n (by simpa [D.refs] using hn))
  | _, _, .ref hm, q => by
    simp only [D.ren]
    exact .ref (q _ (by simp [D.refs]) _ hm)
  | _, _, .exc c a, _ => .exc c a
theorem RepVs.ren {f : Nat → Nat} : ∀ {ds : List D} {vs : List V}, RepVs K H μ ds vs → (∀ n ∈ D.refsL ds, ∀ a, μ[n]? = some a → μ1[f n]? = some a) → RepVs K H μ1 (D.renL f ds) vs
  | _, _, .nil, _ => .nil
  | _, _, .cons r rs, q => by
    simp only [D.renL]
    exact .cons (RepV.ren r fun n hn => q n (by simp [D.refsL, hn])) (RepVs.ren rs fun n hn => q n (by simp [D.refsL, hn]))
end
mutual
theorem D.ren_id {f : Nat → Nat} : ∀ d : D, (∀ n ∈ d.refs, f n = n) → d.ren f = d
  | .non, _ => rfl
  | .bl _, _ => rfl
  | .int _, _ => rfl
  | .str _, _ => rfl
  | .tup ds, h => by
    simp only [D.ren]
    rw [D.renL_id ds fun n hn => h n (by simpa [D.refs] using hn)]
  | .ref n, h => by simp only [D.ren]; rw [h n (by simp [D.refs])]
  | .exc .., _ => rfl
theorem D.renL_id {f : Nat → Nat} : ∀ ds : List D, (∀ n ∈ D.refsL ds, f n = n) → D.renL f ds = ds
  | [], _ => rfl
  | d :: ds, h => by
    simp only [D.renL]
    rw [D.ren_id d fun n hn => h n (by simp [D.refsL, hn]), D.renL_id ds fun n hn => h n (by simp [D.refsL, hn])]
end
theorem D.renL_length {f : Nat → Nat} : ∀ ds : List D, (D.renL f ds).length = ds.length
  | [] => rfl
  | d :: ds => by simp [D.renL, D.renL_length ds]
theorem zip_fst {α β : Type} : ∀ {xs : List α} {ys : List β}, ys.length = xs.length → (xs.zip ys).map (·.1) = xs
  | [], _, _ => rfl
  | x :: xs, [], h => by simp at h
  | x :: xs, y :: ys, h => by simp [zip_fst (xs := xs) (ys := ys) (by simpa using h)]
theorem zip_snd {α β : Type} : ∀ {xs : List α} {ys : List β}, ys.length = xs.length → (xs.zip ys).map (·.2) = ys
  | [], [], _ => rfl
  | [], _ :: _, h => by simp at h
  | x :: xs, [], h => by simp at h
  | x :: xs, y :: ys, h => by simp [zip_snd (xs := xs) (ys := ys) (by simpa using h)]
theorem zip_back {α β : Type} (l : List (α × β)) : (l.map (·.1)).zip (l.map (·.2)) = l := by
  induction l with
  | nil => rfl
  | cons x l ih => simp [ih]
theorem KVX.ren {f : Nat → Nat} {kvs : List (List Int × D)} {xs : List (List Int × Addr × Value)} (r : KVX K H μ kvs xs) (q : ∀ n ∈ D.refsL (kvs.map (·.2)), ∀ a, μ[n]? = some a → μ1[f n]? = some a) :
    KVX K H μ1 ((kvs.map (·.1)).zip (D.renL f (kvs.map (·.2)))) xs := by
  induction r with
  | nil => exact .nil
  | @cons p x ps xs h t ih =>
    obtain ⟨h1, h2, v, h3, h4⟩ := h
    simp only [List.map_cons, D.renL, List.zip_cons_cons]
    exact .cons ⟨h1, h2, v, h3.ren fun n hn => q n (by simp [D.refsL, hn]), h4⟩ (ih fun n hn => q n (by simp only [List.map_cons, D.refsL, List.mem_append]; exact .inr hn))
theorem KVX.lt {kvs : List (List Int × D)} {xs : List (List Int × Addr × Value)} (r : KVX K H μ kvs xs) : ∀ n ∈ D.refsL (kvs.map (·.2)), n < μ.length := by
  induction r with
  | nil => intro n hn; cases hn
  | @cons p x ps xs h t ih =>
    obtain ⟨h1, h2, v, h3, h4⟩ := h
    intro n hn
    simp only [List.map_cons, D.refsL, List.mem_append] at hn
    rcases hn with hn | hn
    · exact h3.lt n hn
    · exact ih n hn
theorem RepC.ren {f : Nat → Nat} {c : Cell} {a : Addr} (r : RepC K H μ c a) (q : ∀ n ∈ c.refs, ∀ a, μ[n]? = some a → μ1[f n]? = some a) : RepC K H μ1 (c.ren f) a := by
  cases c with
  | lst ds => obtain ⟨vs, h, r⟩ := r; exact ⟨vs, h, r.ren q⟩
  | ro ds => obtain ⟨vs, h, r⟩ := r; exact ⟨vs, h, r.ren q⟩
  | dct kvs =>
    obtain ⟨xs, h, r⟩ := r
    exact ⟨xs, h, r.ren q⟩
  | hid kvs =>
    obtain ⟨o, xs, h, r⟩ := r
    exact ⟨o, xs, h, r.ren q⟩
  | dk kvs =>
    obtain ⟨o, h, r⟩ := r
    cases o <;> first | exact r.elim | skip
    obtain ⟨h1, r1⟩ := r
    have hl : (D.renL f (kvs.map (·.2))).length = (kvs.map (·.1)).length := by rw [D.renL_length]; simp
    refine ⟨_, h, ?_⟩
    simp only [Cell.ren, RelC]
    rw [zip_fst hl, zip_snd hl]
    exact ⟨h1, r1.ren q⟩
  | ins c fs =>
    obtain ⟨o, h, r⟩ := r
    cases o <;> first | exact r.elim | skip
    obtain ⟨h0, h1, r1⟩ := r
    have hl : (D.renL f (fs.map (·.2))).length = (fs.map (·.1)).length := by rw [D.renL_length]; simp
    refine ⟨_, h, ?_⟩
    simp only [Cell.ren, RelC]
    rw [zip_fst hl, zip_snd hl]
    exact ⟨h0, h1, r1.ren q⟩
theorem RepC.lt {c : Cell} {a : Addr} (r : RepC K H μ c a) : ∀ n ∈ c.refs, n < μ.length := by
  cases c with
  | lst ds => obtain ⟨vs, h, r⟩ := r; exact r.lt
  | ro ds => obtain ⟨vs, h, r⟩ := r; exact r.lt
  | dct _ => obtain ⟨o, h, r⟩ := r; exact r.lt
  | hid _ => obtain ⟨o, xs, h, r⟩ := r; exact r.lt
  | dk _ => obtain ⟨o, h, r⟩ := r; cases o <;> first | exact r.elim | exact r.2.lt
  | ins _ _ => obtain ⟨o, h, r⟩ := r; cases o <;> first | exact r.elim | exact r.2.2.lt
theorem Cell.ren_id {f : Nat → Nat} {c : Cell} (h : ∀ n ∈ c.refs, f n = n) : c.ren f = c := by
  cases c with
  | lst ds => simp only [Cell.ren]; rw [D.renL_id ds h]
  | ro ds => simp only [Cell.ren]; rw [D.renL_id ds h]
  | dct kvs => simp only [Cell.ren]; rw [D.renL_id _ h, zip_back]
  | dk kvs => simp only [Cell.ren]; rw [D.renL_id _ h, zip_back]
  | hid kvs => simp only [Cell.ren]; rw [D.renL_id _ h, zip_back]
  | ins c fs => simp only [Cell.ren]; rw [D.renL_id _ h, zip_back]
theorem Cell.ren_ro {f : Nat → Nat} {c : Cell} : (c.ren f).isRo = c.isRo := by cases c <;> rfl
/-- the elder cells and the cells L behind them -/
theorem keep_cells {L : List Nat} (hlen : μ.length = S.length) (le : Le K μ H μ1 H1) (r1 : RepS K H1 μ1 S1) (hn0 : S.length ≤ S1.length) (hE : ∀ n, n < S.length → ∀ c, S1[n]? = some c → ∀ m ∈ c.refs, m < S.length ∨ m ∈ L)
    (hL1 : ∀ n ∈ L, S.length ≤ n ∧ n < S1.length) (hnd : L.Nodup) (hL2 : ∀ n ∈ L, ∀ c, S1[n]? = some c → ∀ m ∈ c.refs, m < S.length ∨ m ∈ L) :
    ∃ μ2, (∃ t, μ2 = μ ++ t) ∧ (∀ m, (m < S.length ∨ m ∈ L) → ∀ a, μ1[m]? = some a → μ2[renOf S.length L m]? = some a) ∧ RepS K H1 μ2 ((S1.take S.length).map (Cell.ren (renOf S.length L)) ++ L.filterMap fun n => (S1[n]?).map (Cell.ren (renOf S.length L))) := by
  obtain ⟨t, rfl⟩ := le.pre
  have hμ1 := r1.len
  -- the cells of L
  have hf : ∀ L' : List Nat, (∀ n ∈ L', n < S1.length) → (L'.filterMap fun n => (S1[n]?).map (Cell.ren (renOf S.length L))).length = L'.length ∧
      ∀ (j : Nat) n, L'[j]? = some n → (L'.filterMap fun n => (S1[n]?).map (Cell.ren (renOf S.length L)))[j]? = (S1[n]?).map (Cell.ren (renOf S.length L)) := by
    intro L'
    induction L' with
    | nil => intro _; exact ⟨rfl, fun j n h => by simp at h⟩
    | cons m L' ih =>
      intro h
      obtain ⟨h1, h2⟩ := ih fun n hn => h n (List.mem_cons_of_mem _ hn)
      have hm := h m List.mem_cons_self
      rw [List.filterMap_cons, List.getElem?_eq_getElem hm]
      refine ⟨by simp [h1], fun j n hj => ?_⟩
      cases j with
      | zero =>
        simp at hj
        subst hj
        rw [List.getElem?_eq_getElem hm]
        rfl
      | succ j => simpa using h2 j n (by simpa using hj)
  obtain ⟨f1, f2⟩ := hf L fun n hn => (hL1 n hn).2
  have hg : ∀ L' : List Nat, (∀ n ∈ L', n < (μ ++ t).length) → (L'.filterMap fun n => (μ ++ t)[n]?).length = L'.length ∧
      ∀ (j : Nat) n, L'[j]? = some n → (L'.filterMap fun n => (μ ++ t)[n]?)[j]? = (μ ++ t)[n]? := by
    intro L'
    induction L' with
    | nil => intro _; exact ⟨rfl, fun j n h => by simp at h⟩
    | cons m L' ih =>
      intro h
      obtain ⟨h1, h2⟩ := ih fun n hn => h n (List.mem_cons_of_mem _ hn)
      have hm := h m List.mem_cons_self
      rw [List.filterMap_cons, List.getElem?_eq_getElem hm]
      refine ⟨by simp [h1], fun j n hj => ?_⟩
      cases j with
      | zero =>
        simp at hj
        subst hj
        rw [List.getElem?_eq_getElem hm]
        rfl
      | succ j => simpa using h2 j n (by simpa using hj)
  obtain ⟨g1, g2⟩ := hg L fun n hn => by rw [hμ1]; exact (hL1 n hn).2
  have at2 : ∀ m, (m < S.length ∨ m ∈ L) → ∀ a, (μ ++ t)[m]? = some a → (μ ++ L.filterMap fun n => (μ ++ t)[n]?)[renOf S.length L m]? = some a := by
    intro m hm a ha
    unfold renOf
    by_cases h : m < S.length
    · rw [if_pos h, List.getElem?_append_left (by omega)]
      rwa [List.getElem?_append_left (by omega)] at ha
    · rw [if_neg h]
      have hmL : m ∈ L := hm.resolve_left h
      have hj : L.findIdx (· == m) < L.length := List.findIdx_lt_length_of_exists ⟨m, hmL, by simp⟩
      have e1 : L[L.findIdx (· == m)]? = some m := by
        rw [List.getElem?_eq_getElem hj]
        have := List.findIdx_getElem (w := hj)
        simp at this
        rw [this]
      rw [List.getElem?_append_right (by omega), show S.length + L.findIdx (· == m) - μ.length = L.findIdx (· == m) by omega, g2 _ m e1]
      exact ha
  have hT : ((S1.take S.length).map (Cell.ren (renOf S.length L))).length = S.length := by simp [hn0]
  -- where an index comes from
  have back : ∀ (n : Nat) a, (μ ++ L.filterMap fun n => (μ ++ t)[n]?)[n]? = some a → ∃ m, (m = n ∧ n < S.length ∨ S.length ≤ n ∧ L[n - S.length]? = some m) ∧ (μ ++ t)[m]? = some a ∧
      ((S1.take S.length).map (Cell.ren (renOf S.length L)) ++ L.filterMap fun n => (S1[n]?).map (Cell.ren (renOf S.length L)))[n]? = (S1[m]?).map (Cell.ren (renOf S.length L)) := by
    intro n a ha
    by_cases h : n < S.length
    · refine ⟨n, .inl ⟨rfl, h⟩, ?_, ?_⟩
      · rw [List.getElem?_append_left (by omega)] at ha ⊢
        exact ha
      · rw [List.getElem?_append_left (by omega), List.getElem?_map, List.getElem?_take_of_lt h]
    · rw [List.getElem?_append_right (by omega)] at ha
      have hn : n - μ.length < L.length := by
        rw [← g1]
        exact (List.getElem?_eq_some_iff.mp ha).1
      obtain ⟨m, hm⟩ : ∃ m, L[n - μ.length]? = some m := ⟨_, List.getElem?_eq_getElem hn⟩
      rw [g2 _ m hm] at ha
      refine ⟨m, .inr ⟨by omega, by rw [← hlen]; exact hm⟩, ha, ?_⟩
      rw [List.getElem?_append_right (by omega), hT, show n - S.length = n - μ.length by omega, f2 _ m hm]
  refine ⟨μ ++ L.filterMap fun n => (μ ++ t)[n]?, ⟨_, rfl⟩, at2, ⟨by simp [f1, g1, hlen, hn0], fun n c a h1 h2 => ?_, fun m n a c e hmn h1 h2 h3 h4 => ?_⟩⟩
  · obtain ⟨m, hm, h3, h4⟩ := back n a h2
    rw [h4] at h1
    cases e : S1[m]? with
    | none => rw [e] at h1; cases h1
    | some c0 =>
      rw [e] at h1
      cases h1
      have rc := r1.cell m c0 a e h3
      refine rc.ren fun k hk b hb => at2 k ?_ b hb
      rcases hm with ⟨rfl, hlt⟩ | ⟨_, hmL⟩
      · exact hE m hlt c0 e k hk
      · exact hL2 m (List.mem_of_getElem? hmL) c0 e k hk
  · obtain ⟨m', hm', h5, h6⟩ := back m a h1
    obtain ⟨n', hn', h7, h8⟩ := back n a h2
    rw [h6] at h3
    rw [h8] at h4
    cases e1 : S1[m']? with
    | none => rw [e1] at h3; cases h3
    | some c0 =>
      cases e2 : S1[n']? with
      | none => rw [e2] at h4; cases h4
      | some e0 =>
        rw [e1] at h3
        rw [e2] at h4
        cases h3; cases h4
        rw [Cell.ren_ro, Cell.ren_ro]
        refine r1.apart m' n' a c0 e0 (fun z => ?_) h5 h7 e1 e2
        subst z
        rcases hm' with ⟨rfl, hlt⟩ | ⟨hge, hmL⟩
        · rcases hn' with ⟨rfl, _⟩ | ⟨hge2, hnL⟩
          · exact hmn rfl
          · have := (hL1 _ (List.mem_of_getElem? hnL)).1
            omega
        · rcases hn' with ⟨rfl, hlt⟩ | ⟨hge2, hnL⟩
          · have := (hL1 _ (List.mem_of_getElem? hmL)).1
            omega
          · have i1 := (List.getElem?_eq_some_iff.mp hmL).1
            have := (List.getElem?_inj i1 hnd).mp (hmL.trans hnL.symm)
            omega
theorem chg_mem : ∀ {S S1 : Store} {n : Nat} {c : Cell}, S1[n]? = some c → n < S.length → S[n]? ≠ some c → ∀ m ∈ c.refs, m ∈ chg S S1
  | [], _, n, c, _, h, _, _, _ => by simp at h
  | _ :: _, [], n, c, h, _, _, _, _ => by simp at h
  | a :: S, b :: S1, 0, c, h, _, hne, m, hm => by
    simp only [List.getElem?_cons_zero, Option.some.injEq] at h
    subst h
    unfold chg
    rw [if_neg (fun e => hne (by simp [e]))]
    exact List.mem_append_left _ hm
  | a :: S, b :: S1, n + 1, c, h, hl, hne, m, hm => by
    unfold chg
    exact List.mem_append_right _ (chg_mem (S := S) (S1 := S1) (n := n) (by simpa using h) (by simpa using hl) (by simpa using hne) m hm)
theorem keepE_eq {f : Nat → Nat} : ∀ {S S1 : Store}, S.length ≤ S1.length → (∀ (n : Nat) c, S[n]? = some c → S1[n]? = some c → c.ren f = c) → keepE f S S1 = (S1.take S.length).map (Cell.ren f)
  | [], S1, _, _ => by simp [keepE]
  | a :: S, [], h, _ => by simp at h
  | a :: S, b :: S1, h, hs => by
    have ih := keepE_eq (f := f) (S := S) (S1 := S1) (by simpa using h) fun n c h1 h2 => hs (n + 1) c (by simpa using h1) (by simpa using h2)
    simp only [keepE, List.length_cons, List.take_succ_cons, List.map_cons, ih]
    by_cases e : a = b
    · rw [if_pos e, hs 0 b (by simp [e]) (by simp)]
    · rw [if_neg e]
/-- what a def leaves behind -/
theorem keep_ok {rs L : List Nat} (r0 : RepS K H μ S) (le : Le K μ H μ1 H1) (r1 : RepS K H1 μ1 S1) (hc : keepC S S1 rs L = true) (hr : ∀ m ∈ chg S S1, m ∈ rs) :
    ∃ μ2, Le K μ H μ2 H1 ∧ (∀ m ∈ rs, ∀ a, μ1[m]? = some a → μ2[renOf S.length L m]? = some a) ∧ RepS K H1 μ2 (keepS S S1 L) := by
  unfold keepC at hc
  obtain ⟨hc, c5⟩ := Bool.and_eq_true_iff.mp hc
  obtain ⟨hc, c4⟩ := Bool.and_eq_true_iff.mp hc
  obtain ⟨hc, c3⟩ := Bool.and_eq_true_iff.mp hc
  obtain ⟨hc, c2⟩ := Bool.and_eq_true_iff.mp hc
  obtain ⟨c0, c1⟩ := Bool.and_eq_true_iff.mp hc
  have e2 : ∀ m ∈ rs, m < S.length ∨ m ∈ L := fun m hm => by
    have := List.all_eq_true.mp c2 m hm
    simpa using this
  have e1 : ∀ k ∈ L, ∀ c, S1[k]? = some c → ∀ m ∈ c.refs, m < S.length ∨ m ∈ L := fun k hk c hc m hm => by
    have := List.all_eq_true.mp c1 m (List.mem_flatMap.mpr ⟨k, hk, by rw [hc]; exact hm⟩)
    simpa using this
  have hE : ∀ n, n < S.length → ∀ c, S1[n]? = some c → ∀ m ∈ c.refs, m < S.length ∨ m ∈ L := fun n hn c h m hm => by
    by_cases hs : S[n]? = some c
    · obtain ⟨a, ha, rc⟩ := r0.at hs
      left
      rw [← r0.len]
      exact rc.lt m hm
    · exact e2 m (hr m (chg_mem h hn hs m hm))
  obtain ⟨μ2, ⟨t, e⟩, at2, r⟩ := keep_cells (L := L) r0.len le r1 (of_decide_eq_true c0) hE (fun k hk => ⟨by simpa using List.all_eq_true.mp c4 k hk, by simpa using List.all_eq_true.mp c5 k hk⟩) (of_decide_eq_true c3) e1
  refine ⟨μ2, ⟨⟨t, e⟩, le.tup, le.fz⟩, fun m hm => at2 m (e2 m hm), ?_⟩
  unfold keepS
  rw [keepE_eq (of_decide_eq_true c0) fun n c h1 _ => ?_]
  · exact r
  · obtain ⟨a, ha, rc⟩ := r0.at h1
    refine Cell.ren_id fun m hm => ?_
    unfold renOf
    rw [if_pos (by rw [← r0.len]; exact rc.lt m hm)]
theorem fin_ok {d : D} {v : V} (r0 : RepS K H μ S) (le : Le K μ H μ1 H1) (r1 : RepS K H1 μ1 S1) (rv : RepV K H1 μ1 d v) : ∃ d2 S2 μ2, fin S d S1 = .ok d2 S2 ∧ Le K μ H μ2 H1 ∧ RepS K H1 μ2 S2 ∧ RepV K H1 μ2 d2 v := by
  unfold fin
  simp only
  split
  case isTrue hc =>
    obtain ⟨μ2, le2, at2, r⟩ := keep_ok r0 le r1 hc fun m hm => List.mem_append_right _ hm
    exact ⟨_, _, μ2, rfl, le2, r, rv.ren fun m hm => at2 m (List.mem_append_left _ hm)⟩
  case isFalse => exact ⟨d, S1, μ1, rfl, le, r1, rv⟩
theorem finX_ok (r0 : RepS K H μ S) (le : Le K μ H μ1 H1) (r1 : RepS K H1 μ1 S1) : ∃ μ2, Le K μ H μ2 H1 ∧ RepS K H1 μ2 (finX S S1) := by
  unfold finX
  simp only
  split
  case isTrue hc =>
    obtain ⟨μ2, le2, _, r⟩ := keep_ok r0 le r1 hc fun m hm => hm
    exact ⟨μ2, le2, r⟩
  case isFalse => exact ⟨μ1, le, r1⟩
/-! ### defs -/
/-- a def of the text: its name, its statement, its names by slot, its parameters, its body in the engine -/
structure FText where
  x : Str
  q : Str
  k : FK
  st : Stmt
  N : List Str
  ps : List Str
  fn : Fn
def scopeC (N P : List Str) (sc : Scope) : Bool :=
  (match sc.kind with | .function => true | _ => false) && !sc.isCoroutine && !sc.isGenerator && decide N.Nodup && decide (N.take P.length = P) &&
    (P.all fun x => decide (sc.names.lookup x = some .local) || decide (sc.names.lookup x = some .cell)) && (sc.names.all fun y => decide (y.2 ≠ .free))
theorem scope_of {N P : List Str} {sc : Scope} (h : scopeC N P sc = true) : FnScope N P sc := by
  obtain ⟨h, h7⟩ := Bool.and_eq_true_iff.mp h
  obtain ⟨h, h6⟩ := Bool.and_eq_true_iff.mp h
  obtain ⟨h, h5⟩ := Bool.and_eq_true_iff.mp h
  obtain ⟨h, h4⟩ := Bool.and_eq_true_iff.mp h
  obtain ⟨h, h3⟩ := Bool.and_eq_true_iff.mp h
  obtain ⟨h1, h2⟩ := Bool.and_eq_true_iff.mp h
  refine ⟨?_, by simpa using h2, by simpa using h3, of_decide_eq_true h4, of_decide_eq_true h5, fun x hx => ?_, fun y hy => ?_⟩
  · split at h1
    · assumption
    · cases h1
  · simpa using List.all_eq_true.mp h6 x hx
  · simpa using List.all_eq_true.mp h7 y hy
def gamOf (fs : List FK) (glb : List (Str × GC)) (blt : List Str) (exs : List Str) (isa : List (Str × List Bool)) (atr : List (Str × Str)) (t : FText) : Gam := ⟨t.N, defScope t.st, fun _ => true, true, fs, atr, glb, blt, exs, isa, false⟩
def textC (fs : List FK) (glb : List (Str × GC)) (blt : List Str) (exs : List Str) (isa : List (Str × List Bool)) (atr : List (Str × Str)) (t : FText) : Bool :=
  match t.k with
  | .mk c => (match t.fn.ctor with
    | some (c', g) => decide (c' = c) && decide (fs[g]? = some (.me c "__init__"))
    | none => false)
  | _ => t.fn.ctor.isNone && (scopeC t.N t.ps (defScope t.st) && decide (t.fn.np = t.ps.length) && decide (t.fn.nl = t.N.length) && (chkC t.fn.body (gamOf fs glb blt exs isa atr t)).b (defBody t.st))
theorem isa_ref {K : PySem.W.Frag} {t : Value} {C : Addr} {b : Bool} (hd : PySem.W.hasDictIn K C = true) (ht : PySem.W.typeIn K (.ref C) = some (.type "type")) (hs : PySem.W.subIn K (.ref C) (.type "BaseException") = some true) (hr : PySem.W.subIn K (.ref C) (.ref C) = some true)
    (h4 : PySem.W.subIn K t (.ref C) = some b) : PySem.W.kitOne K t (.ref C) = some b ∧ PySem.W.exmOne K t (.ref C) = some b := by
  have h := PySem.W.exm_ref hs hd ht h4
  refine ⟨?_, h⟩
  unfold PySem.W.exmOne at h
  rw [if_pos (by rw [hs] <;> rfl)] at h
  unfold PySem.W.kitOne
  by_cases e : (t == Value.ref C) = true
  · rw [if_pos e]
    have e1 : t = .ref C := beq_iff_eq.mp e
    subst e1
    rw [hr] at h4
    exact h4
  · rw [if_neg e]
    exact h
theorem isa_ty {K : PySem.W.Frag} {C : Addr} {T : String} {b : Bool} (hm : PySem.W.kitMeta T = true) (hs : PySem.W.subIn K (.type T) (.type "BaseException") = some true) (h4 : PySem.W.subIn K (.ref C) (.type T) = some b) :
    PySem.W.kitOne K (.ref C) (.type T) = some b ∧ PySem.W.exmOne K (.ref C) (.type T) = some b := by
  have h : PySem.W.kitCls K (.ref C) (.type T) = some b := by
    show (if PySem.W.kitMeta T = true then PySem.W.subIn K (.ref C) (.type T) else none) = some b
    rw [if_pos hm]
    exact h4
  constructor
  · unfold PySem.W.kitOne
    rw [if_neg (by simp)]
    exact h
  · unfold PySem.W.exmOne
    rw [if_pos (by rw [hs] <;> rfl)]
    exact h
/-- the classes of the exceptions, by number -/
def gamX (exs : List Str) (K : PySem.W.Frag) (c : Nat) : Value := match exs[c]? with
  | some x => (match PySem.W.nsIn K mainGlobals x with
    | some (some v) => v
    | _ => .none)
  | none => .none
/-- what stands behind a def's key -/
def FactT (K : PySem.W.Frag) (mg : Str → Option Value) (t : FText) : Prop := match t.k with
  | .fn x => ∃ addr fd, Fun K t.x t.q t.st addr fd ∧ mg x = some (.ref addr) ∧ PySem.W.keepIn K (.ref addr) = true ∧ Binds K fd t.ps []
  | .me c m => ∃ addr fd C, Fun K t.x t.q t.st addr fd ∧ PySem.W.nsIn K mainGlobals c = some (some (.ref C)) ∧ Cls K C ∧ Meth K C m addr ∧ Binds K fd t.ps []
  | .mk c => ∃ addr C, PySem.W.nsIn K mainGlobals c = some (some (.ref C)) ∧ mg c = some (.ref C) ∧ Mk K C addr
theorem FactT.of_fn {K : PySem.W.Frag} {mg : Str → Option Value} {t : FText} {x : Str} {addr : Addr} {fd : FuncData} (hk : t.k = .fn x) (F : Fun K t.x t.q t.st addr fd) (hm : mg x = some (.ref addr)) (h : PySem.W.keepIn K (.ref addr) = true) (hb : Binds K fd t.ps []) : FactT K mg t := by
  unfold FactT; rw [hk]; exact ⟨_, _, F, hm, h, hb⟩
theorem FactT.of_me {K : PySem.W.Frag} {mg : Str → Option Value} {t : FText} {c m : Str} {addr C : Addr} {fd : FuncData} (hk : t.k = .me c m) (F : Fun K t.x t.q t.st addr fd) (hc : PySem.W.nsIn K mainGlobals c = some (some (.ref C))) (cl : Cls K C) (h : Meth K C m addr) (hb : Binds K fd t.ps []) : FactT K mg t := by
  unfold FactT; rw [hk]; exact ⟨_, _, _, F, hc, cl, h, hb⟩
theorem FactT.of_mk {K : PySem.W.Frag} {mg : Str → Option Value} {t : FText} {c : Str} {addr C : Addr} (hk : t.k = .mk c) (hc : PySem.W.nsIn K mainGlobals c = some (some (.ref C))) (hm : mg c = some (.ref C)) (h : Mk K C addr) : FactT K mg t := by
  unfold FactT; rw [hk]; exact ⟨_, _, hc, hm, h⟩
/-- what stands behind the top -/
structure Facts (w : World) (K : PySem.W.Frag) (mg : Str → Option Value) (γ : Nat → Value) (Ts : List FText) (glb : List (Str × GC)) (blt : List Str) (exs : List Str) (isa : List (Str × List Bool)) (atr : List (Str × Str)) : Prop where
  fns : ∀ t ∈ Ts, FactT K mg t
  glb : ∀ p ∈ glb, GOk K w mg p.1 p.2
  blt : ∀ x ∈ blt, mg x = none
  exs : ∀ c x, exs[c]? = some x → ExcF K mg γ c x
  isa : ∀ p ∈ isa, Isa K mg γ p.1 p.2
  atr : ∀ p ∈ atr, ∃ C, PySem.W.nsIn K mainGlobals p.1 = some (some (.ref C)) ∧ Cls K C ∧ NoAttr K C p.2
/-- a written dict's item, by its entries -/
theorem kv_entries {K : PySem.W.Frag} {a : Addr} {n : Nat} : ∀ {es : List DictEntry} {kvs : List (Str × D)}, es.length = kvs.length → (∀ (i : Nat) e p, es[i]? = some e → kvs[i]? = some p → (∃ t, e.key = .str p.1 t) ∧ ∃ v, RelV v e.val ∧ ∀ H μ, RepV K H μ p.2 v) → ∀ z,
    match kvs.lookup z with
    | some d => ∃ e, es.find? (·.key.isStr z) = some e ∧ ∃ v, RelV v e.val ∧ ∀ H μ, RepV K H μ d v
    | none => es.find? (·.key.isStr z) = none ∧ es.any (·.refKey) = false
  | [], [], _, _, z => by simp
  | e :: es, p :: kvs, hl, h, z => by
    obtain ⟨⟨t, ht⟩, hv⟩ := h 0 e p rfl rfl
    have ih := kv_entries (K := K) (a := a) (n := n) (es := es) (kvs := kvs) (by simpa using hl) (fun i e p h1 h2 => h (i + 1) e p h1 h2) z
    have hk : e.key.isStr z = (p.1 == z) := by rw [ht]; rfl
    have hr : e.refKey = false := by unfold DictEntry.refKey; rw [ht]
    rw [List.lookup_cons]
    by_cases hz : z = p.1
    · subst hz
      rw [beq_self_eq_true, List.find?_cons, hk, beq_self_eq_true]
      exact ⟨e, rfl, hv⟩
    · have h1 : (z == p.1) = false := beq_eq_false_iff_ne.mpr hz
      have h2 : (p.1 == z) = false := beq_eq_false_iff_ne.mpr (Ne.symm hz)
      rw [h1, List.find?_cons, hk, h2, List.any_cons, hr, Bool.false_or]
      exact ih
  | [], _ :: _, hl, _, _ => by simp at hl
  | _ :: _, [], hl, _, _ => by simp at hl
theorem kvAt_of {K : PySem.W.Frag} {a : Addr} {es : Array DictEntry} {n : Nat} (hl : K.lookup a = some ⟨.type "dict", none, .dict es n, #[]⟩) {kvs : List (Str × D)} (hn : es.toList.length = kvs.length)
    (h : ∀ (i : Nat) e p, es.toList[i]? = some e → kvs[i]? = some p → (∃ t, e.key = .str p.1 t) ∧ ∃ v, RelV v e.val ∧ ∀ H μ, RepV K H μ p.2 v) (z : Str) : KvAt K a z (kvs.lookup z) := by
  have := kv_entries (K := K) (a := a) (n := n) hn h z
  cases e : kvs.lookup z with
  | none =>
    rw [e] at this
    obtain ⟨h1, h2⟩ := this
    show PySem.W.nsIn K a z = some none
    unfold PySem.W.nsIn
    rw [hl]
    simp only [h1, h2]
    rfl
  | some d =>
    rw [e] at this
    obtain ⟨en, h1, v, h2, h3⟩ := this
    refine ⟨en.val, v, ?_, h2, h3⟩
    unfold PySem.W.nsIn
    rw [hl]
    simp only [h1]
theorem call_len {Fs : List Fn} {k f : Nat} {fn : Fn} (hf : Fs[f]? = some fn) (hm : fn.ctor = none) {ds : List D} {S : Store} (h : callN Fs k f ds S ≠ .bad) : ds.length = fn.np := by
  cases k with
  | zero => exact absurd rfl h
  | succ k =>
    unfold callN at h
    rw [hf] at h
    simp only [hm] at h
    split at h
    · assumption
    · exact absurd rfl h
theorem repE_start {K : PySem.W.Frag} {H : Hp} {μ : Mu} {ds : List D} {vs : List V} (r : RepVs K H μ ds vs) (N : List Str) (hl : ds.length ≤ N.length) : RepE K H μ (start N vs) (ds.map some ++ List.replicate (N.length - ds.length) none) := by
  have hv := r.length
  refine ⟨by simp [L2.start, hv], fun i d h => ?_⟩
  by_cases hi : i < ds.length
  · rw [List.getElem?_append_left (by simpa using hi), List.getElem?_map] at h
    cases e : ds[i]? with
    | none => rw [e] at h; cases h
    | some d' =>
      rw [e] at h
      cases h
      obtain ⟨v, h1, h2⟩ := r.get e
      refine ⟨v, ?_, h2⟩
      unfold L2.start
      rw [List.getElem?_append_left (by simpa [hv] using hi), List.getElem?_map, h1]
      rfl
  · rw [List.getElem?_append_right (by simpa using hi), List.getElem?_replicate] at h
    split at h <;> cases h
theorem text_parts {fs : List FK} {glb : List (Str × GC)} {blt : List Str} {exs : List Str} {isa : List (Str × List Bool)} {atr : List (Str × Str)} {t : FText} (h : textC fs glb blt exs isa atr t = true) (hk : ∀ c, t.k ≠ .mk c) :
    t.fn.ctor = none ∧ scopeC t.N t.ps (defScope t.st) = true ∧ t.fn.np = t.ps.length ∧ t.fn.nl = t.N.length ∧ (chkC t.fn.body (gamOf fs glb blt exs isa atr t)).b (defBody t.st) = true := by
  unfold textC at h
  split at h
  case h_1 c e => exact absurd e (hk c)
  case h_2 =>
    obtain ⟨h0, h⟩ := Bool.and_eq_true_iff.mp h
    obtain ⟨h, c4⟩ := Bool.and_eq_true_iff.mp h
    obtain ⟨h, c3⟩ := Bool.and_eq_true_iff.mp h
    obtain ⟨c1, c2⟩ := Bool.and_eq_true_iff.mp h
    exact ⟨Option.isNone_iff_eq_none.mp h0, c1, of_decide_eq_true c2, of_decide_eq_true c3, c4⟩
theorem fn_all {prog : Program} {w : World} {K : PySem.W.Frag} {mg : Str → Option Value} {base : Heap} {Ts : List FText} {glb : List (Str × GC)} {blt : List Str} {exs : List Str} {isa : List (Str × List Bool)} {atr : List (Str × Str)} {γ : Nat → Value} (F : Facts w K mg γ Ts glb blt exs isa atr)
    (hC : (Ts.all (textC (Ts.map (·.k)) glb blt exs isa atr)) = true) : ∀ (k : Nat) (f : Nat) (t : FText), Ts[f]? = some t → (∀ c, t.k ≠ .mk c) → ∀ addr fd, Fun K t.x t.q t.st addr fd →
      FnOk prog w K mg base (L2.CX prog w) k addr fd t.ps (spF K γ (callN (Ts.map (·.fn)) k) t.ps.length f) := by
  intro k
  induction k using Nat.strongRecOn with
  | _ k ih =>
  cases k with
  | zero =>
    intro f t ht hk addr fd Fu
    exact ⟨fun vs H Q E h => h.1, fun A outer s H args us vs Q E hr e0 hb r ⟨_, μ, S, ds, _, _, h⟩ => h.elim⟩
  | succ k =>
    intro f t ht hk addr fd Fu
    obtain ⟨c0, c1, hnp, hnl, c4⟩ := text_parts (List.all_eq_true.mp hC t (List.mem_of_getElem? ht)) hk
    have sc := scope_of c1
    refine Fu.okX sc (fun vs H Q E h => h.1) fun cdv A outer s H vs Q E hr ⟨hl, μ, S, ds, rS, rv, h⟩ => ?_
    have hpl : t.ps.length ≤ t.N.length := by
      have := congrArg List.length sc.pre
      rw [List.length_take] at this
      omega
    have hds : ds.length = t.ps.length := by rw [← rv.length]; exact hl
    have fnp : ∀ (j : Nat), j < k + 1 → ∀ (g : Nat) (u : FText), Ts[g]? = some u → (∀ c, u.k ≠ .mk c) → ∀ ad fd2, Fun K u.x u.q u.st ad fd2 → Binds K fd2 u.ps [] → FnP prog w K mg base γ (callN (Ts.map (·.fn)) j) g j ad fd2 u.ps := fun j hj g u hg hu ad fd2 F1 F4 => by
      obtain ⟨d0, d1, d2, d3, d4⟩ := text_parts (List.all_eq_true.mp hC u (List.mem_of_getElem? hg)) hu
      refine ⟨ih j hj g u hg hu ad fd2 F1, fun ds S hb => ?_, F4⟩
      rw [← d2]
      exact call_len (fn := u.fn) (by rw [List.getElem?_map, hg]; rfl) d0 hb
    have G : GoodS (cxOf (L2.CX prog w) prog w K mg base t.N t.q (defScope t.st) addr cdv A outer s H E) (gamOf (Ts.map (·.k)) glb blt exs isa atr t) γ (fun cls d _ H => E cls d H) (callN (Ts.map (·.fn)) k) := {
      N := rfl
      nd := sc.nd
      sc := rfl
      fn := fun _ _ => rfl
      calm := fun _ => rfl
      un := Nat.lt_of_le_of_lt (Nat.le_trans (Nat.add_le_add_left (by decide) _) (Nat.add_le_add_right (Nat.le_add_right _ (16 * k)) 200)) hr.un
      glb := fun x d h => F.glb (x, d) (PySem.mem_of_lookup h)
      blt := fun x h => F.blt x (List.contains_iff_mem.mp (show blt.contains x = true from h))
      tk := takes_of rfl rfl rfl rfl
      fns := fun _ g q hg => by
        have hg' : (Ts.map (·.k))[g]? = some q := hg
        rw [List.getElem?_map] at hg'
        cases e : Ts[g]? with
        | none => rw [e] at hg'; cases hg'
        | some u =>
          rw [e] at hg'
          have hx : u.k = q := Option.some.inj hg'
          have Fu2 := F.fns u (List.mem_of_getElem? e)
          unfold FactT at Fu2
          rw [hx] at Fu2
          cases q with
          | fn x =>
            obtain ⟨ad, fd2, F1, F2, F3, F4⟩ := Fu2
            exact ⟨k, ad, fd2, u.ps, fnp k (Nat.lt_succ_self k) g u e (fun c z => by rw [hx] at z; cases z) ad fd2 F1 F4, hr, F2, F3⟩
          | me c m =>
            obtain ⟨ad, fd2, C, F1, F2, F3, F4, F5⟩ := Fu2
            exact ⟨k, ad, fd2, u.ps, C, fnp k (Nat.lt_succ_self k) g u e (fun c z => by rw [hx] at z; cases z) ad fd2 F1 F5, hr, F2, F3, F4⟩
          | mk c =>
            obtain ⟨ad, C, F1, F2, F3⟩ := Fu2
            refine ⟨C, ad, F1, F2, F3, ?_⟩
            have hu := List.all_eq_true.mp hC u (List.mem_of_getElem? e)
            unfold textC at hu
            rw [hx] at hu
            simp only at hu
            split at hu
            case h_2 => cases hu
            case h_1 c' g' ec =>
              obtain ⟨h1, h2⟩ := Bool.and_eq_true_iff.mp hu
              have e1 := of_decide_eq_true h1
              subst e1
              have e2 := of_decide_eq_true h2
              rw [List.getElem?_map] at e2
              cases e3 : Ts[g']? with
              | none => rw [e3] at e2; cases e2
              | some v =>
                rw [e3] at e2
                have hv : v.k = .me c' "__init__" := Option.some.inj e2
                have Fv := F.fns v (List.mem_of_getElem? e3)
                unfold FactT at Fv
                rw [hv] at Fv
                obtain ⟨ad2, fd3, C2, V1, V2, V3, V4, V5⟩ := Fv
                have : C2 = C := by
                  have := V2.symm.trans F1
                  cases this; rfl
                subst this
                have : ad2 = ad := by
                  have := V4.at_.symm.trans F3.init
                  cases this; rfl
                subst this
                cases k with
                | zero => exact .inl fun ds S => rfl
                | succ k =>
                  refine .inr ⟨k, fd3, v.ps, g', callN (Ts.map fun (t : FText) => t.fn) k, fun ds S => ?_, fnp k (by omega) g' v e3 (fun c z => by rw [hv] at z; cases z) ad2 fd3 V1 V5, hr⟩
                  show (match (Ts.map (·.fn))[g]? with | some fn => _ | none => _) = _
                  rw [List.getElem?_map, e]
                  show (match u.fn.ctor with | some (c, g) => _ | none => _) = _
                  rw [ec]
      atr := fun c f h => F.atr (c, f) (List.contains_iff_mem.mp (show atr.contains (c, f) = true from h))
      own := passes_of rfl
      stk := rfl
      frm := rfl
      exs := F.exs
      isa := fun y tbl h => F.isa (y, tbl) (PySem.mem_of_lookup h)
      hot := fun h => nomatch h }
    refine ⟨_, (ss_all t.fn.body G).b _ c4, μ, ds.map some ++ List.replicate (t.fn.nl - ds.length) none, S, ⟨by rw [hnl]; exact repE_start rv t.N (by rw [hds]; exact hpl), rS⟩, ?_⟩
    have hcall : callN (Ts.map (·.fn)) (k + 1) f ds S = finO S (run (callN (Ts.map (·.fn)) k) t.fn.body (ds.map some ++ List.replicate (t.fn.nl - ds.length) none) S) := by
      show (match (Ts.map (·.fn))[f]? with | some fn => _ | none => _) = _
      rw [List.getElem?_map, ht]
      show (match t.fn.ctor with | some (c, g) => _ | none => _) = _
      rw [c0]
      show (if ds.length = t.fn.np then _ else _) = _
      rw [if_pos (by rw [hds, hnp])]
    rw [hcall] at h
    show PostO K γ (fun cls d _ H => E cls d H) μ H (run (callN (Ts.map (·.fn)) k) t.fn.body (ds.map some ++ List.replicate (t.fn.nl - ds.length) none) S) _
    cases e : run (callN (Ts.map (·.fn)) k) t.fn.body (ds.map some ++ List.replicate (t.fn.nl - ds.length) none) S with
    | nx ρ' S' =>
      rw [e] at h
      intro μ1 H1 σ1 le s1
      obtain ⟨d2, S2, μ2, e1, le2, r2, rv2⟩ := fin_ok (d := .non) rS le s1.s .non
      simp only [finO] at h
      rw [e1] at h
      exact h μ2 .non H1 le2 r2 rv2
    | ret d S' =>
      rw [e] at h
      intro μ1 H1 v le r1 rv1
      obtain ⟨d2, S2, μ2, e1, le2, r2, rv2⟩ := fin_ok rS le r1 rv1
      simp only [finO] at h
      rw [e1] at h
      exact h μ2 v H1 le2 r2 rv2
    | exc c fs ρ' S' =>
      rw [e] at h
      intro μ1 H1 σ1 dx le s1 xd
      have h : ∀ μ' H' d, Le K μ H μ' H' → RepS K H' μ' (if fs.isEmpty = true then finX S S' else S') → XD K H' μ' fs d → E (γ c) d H' := h
      cases fs with
      | cons q fs => exact h μ1 H1 dx le s1.s xd
      | nil =>
        have xd' : ∀ μ, XD K H1 μ [] dx := fun μ => by
          rcases xd with ⟨_, h2⟩ | ⟨z, _⟩
          · exact .inl ⟨rfl, h2⟩
          · exact absurd rfl z
        obtain ⟨μ2, le2, r2⟩ := finX_ok rS le s1.s
        exact h μ2 H1 dx le2 r2 (xd' _)
    | bk => rw [e] at h; exact h.elim
    | ct => rw [e] at h; exact h.elim
    | bad => rw [e] at h; exact h.elim
/-! ### the end of a law -/
theorem only_ro {K : PySem.W.Frag} {H : Hp} {a : Addr} {vs : List V} (hO : Only H) (h : SqL K H a vs) : RoL K H a vs := by
  rcases h with (h | h) | h
  · rcases hO a with z | ⟨o, xs, z⟩
    · rw [h] at z; cases z
    · rw [h] at z; cases z
  · exact .inl h
  · exact .inr h
theorem reps_ints {K : PySem.W.Frag} {H : Hp} {μ : Mu} : ∀ ns : List Int, RepVs K H μ (ns.map D.int) (ns.map V.int)
  | [] => .nil
  | n :: ns => .cons (.int n) (reps_ints ns)
theorem law_sp {K : PySem.W.Frag} {γ : Nat → Value} {P : Nat → List D → Store → R D} {f : Nat} (hlaw : ∀ ns : List Int, ns.length ≤ 63 → ∃ S', P f [.ref 0] [.ro (ns.map D.int)] = .ok (.bl true) S')
    (H : Hp) (a : Addr) (ns : List Int) (hl : ns.length ≤ 63) (hO : Only H) (hS : SqL K H a (ns.map V.int)) : spF K γ P 1 f [.ref a] H (fun v _ => v = .bl true) fun _ _ _ => False := by
  obtain ⟨S', e⟩ := hlaw ns hl
  refine ⟨rfl, [a], [.ro (ns.map D.int)], [.ref 0], ⟨rfl, fun n c b h1 h2 => ?_, fun m n b c e hmn h1 h2 h3 h4 => ?_⟩, .cons (.ref rfl) .nil, ?_⟩
  · cases n with
    | zero => cases h1; cases h2; exact ⟨_, only_ro hO hS, reps_ints ns⟩
    | succ n => simp at h1
  · cases m with
    | zero => cases h3; exact .inl rfl
    | succ m => simp at h3
  · rw [e]
    intro μ' v H' _ _ r
    cases r
    rfl
theorem law_walk {l : PySem.W.OpenLaw} {q : Program} {loose : List Str} {XP : (Str → Option Value) → Heap → Prop} {YP : World → Heap → Prop} {d : DefRec} {K : Params → PySem.W.Frag} {γ : PySem.W.Frag → Nat → Value} {Ts : List FText} {glb : List (Str × GC)} {blt : List Str} {exs : List Str} {isa : List (Str × List Bool)} {atr : List (Str × Str)} {x : Str}
    {k f : Nat} {t : FText} (hn : l.most = some 63) (hdf : d.params.defaults = []) (hr : Room k callerA) (hY : ∀ (w : World) (h : Heap), YP w h → (K w.params).In h) (hC : (Ts.all (textC (Ts.map (·.k)) glb blt exs isa atr)) = true) (ht : Ts[f]? = some t) (hk : ∀ c, t.k ≠ .mk c) (hp : t.ps = [x])
    (F : ∀ (w : World) (mg : Str → Option Value) (fa : Addr) (h : Heap), (K w.params).In h → h.Ns mainGlobals mg → mg d.name = some (.ref fa) →
      Facts w (K w.params) mg (γ (K w.params)) Ts glb blt exs isa atr ∧ ∃ fd, Fun (K w.params) t.x t.q t.st fa fd ∧ ∀ (s : Shared) (u : Value), BindsTo s fd ⟨[u], []⟩ [(x, u)])
    (hlaw : ∀ ns : List Int, ns.length ≤ 63 → ∃ S', callN (Ts.map (·.fn)) k f [.ref 0] [.ro (ns.map D.int)] = .ok (.bl true) S') :
    PySem.W.WalkO q loose XP YP l.row.toRowW d [] (fun f vs => PySem.call f vs) := by
  refine L2.walk_of (n := 63) (k := k) (x := x) (K := K) (CX := fun w => L2.CX l.prog w) (sp := fun w => spF (K w.params) (γ (K w.params)) (callN (Ts.map (·.fn)) k) 1 f) hn (by decide) hdf hr hY (fun w mg fa h KX G hmg => ?_) (fun w H a ns hl hO hS => law_sp hlaw H a ns hl hO hS) fun w H s e s' ⟨_, _, _, _, _, _, _, _, _, _, _, _, z⟩ => z
  obtain ⟨F1, fd, Fu, hb⟩ := F w mg fa h KX G hmg
  refine ⟨fd, hb, fun base _ _ => ?_⟩
  have := fn_all (prog := l.prog) (w := w) (base := base) (γ := γ (K w.params)) F1 hC k f t ht hk fa fd Fu
  rw [hp] at this
  exact this
end
end Ng

set_option Elab.async false
set_option linter.all false
set_option maxRecDepth 100000
/-! Rewriting by the evaluator; loops by invariants. -/
namespace Ng
open PySem
/-- an equation that rewriting states in full -/
theorem ng {α : Sort u} {a b : α} (h : a = b) : a = b := by cases h; exact Eq.refl _
section
variable {P : Nat → List D → Store → R D} {ρ : Env} {S : Store} {α β : Type}
@[simp] theorem rdC_dct (kvs) : rdC (some (.dct kvs)) = some kvs := ng rfl
@[simp] theorem rdC_hid (kvs) : rdC (some (.hid kvs)) = some kvs := ng rfl
@[simp] theorem bind_ok {a : α} {k : α → Store → R β} : (R.ok a S).bind k = k a S := ng rfl
@[simp] theorem bind_exc {c fs} {k : α → Store → R β} : (R.exc c fs S : R α).bind k = .exc c fs S := ng rfl
@[simp] theorem bind_bad {k : α → Store → R β} : (R.bad : R α).bind k = .bad := ng rfl
@[simp] theorem of_ok {a : α} {k : α → Store → O} : O.of ρ (R.ok a S) k = k a S := ng rfl
@[simp] theorem of_exc {c fs} {k : α → Store → O} : O.of ρ (R.exc c fs S : R α) k = .exc c fs ρ S := ng rfl
@[simp] theorem seq_nx {k : Env → Store → O} : (O.nx ρ S).seq k = k ρ S := ng rfl
@[simp] theorem seq_ret {d} {k : Env → Store → O} : (O.ret d S).seq k = .ret d S := ng rfl
@[simp] theorem seq_ct {k : Env → Store → O} : (O.ct ρ S).seq k = .ct ρ S := ng rfl
@[simp] theorem seq_bk {k : Env → Store → O} : (O.bk ρ S).seq k = .bk ρ S := ng rfl
@[simp] theorem seq_exc {c fs} {k : Env → Store → O} : (O.exc c fs ρ S).seq k = .exc c fs ρ S := ng rfl
@[simp] theorem ev_var (i : Nat) : ev P (.var i) ρ S = varR i ρ S := ng rfl
@[simp] theorem ev_non : ev P .non ρ S = .ok .non S := ng rfl
@[simp] theorem ev_bl (b : Bool) : ev P (.bl b) ρ S = .ok (.bl b) S := ng rfl
@[simp] theorem ev_int (i : Int) : ev P (.int i) ρ S = .ok (.int i) S := ng rfl
@[simp] theorem ev_str (x : Str) : ev P (.str x) ρ S = .ok (.str x) S := ng rfl
@[simp] theorem ev_glb (x : Str) (d : D) : ev P (.glb x d) ρ S = .ok d S := ng rfl
@[simp] theorem ev_bin (o a b) : ev P (.bin o a b) ρ S = (ev P a ρ S).bind fun x S1 => (ev P b ρ S1).bind fun y S2 => bin2 o x y S2 := ng rfl
@[simp] theorem ev_neg (a) : ev P (.neg a) ρ S = (ev P a ρ S).bind negR := ng rfl
@[simp] theorem ev_cmp (o a b) : ev P (.cmp o a b) ρ S = (ev P a ρ S).bind fun x S1 => (ev P b ρ S1).bind fun y S2 => cmpR o x y S2 := ng rfl
@[simp] theorem ev_chain (o1 o2 a b c) : ev P (.chain o1 o2 a b c) ρ S = (ev P a ρ S).bind fun x S1 => (ev P b ρ S1).bind fun y S2 => chainV o1 o2 (ev P c ρ) x y S2 := ng rfl
@[simp] theorem ev_not (a) : ev P (.not a) ρ S = (ev P a ρ S).bind fun x S1 => (truR x S1).bind fun b S2 => .ok (.bl (!b)) S2 := ng rfl
@[simp] theorem ev_and (a b) : ev P (.and a b) ρ S = (ev P a ρ S).bind fun x S1 => andR (ev P b ρ) x S1 := ng rfl
@[simp] theorem ev_or (a b) : ev P (.or a b) ρ S = (ev P a ρ S).bind fun x S1 => orR (ev P b ρ) x S1 := ng rfl
@[simp] theorem ev_ite (c a b) : ev P (.ite c a b) ρ S = (tst P c ρ S).bind fun t S1 => bif t then ev P a ρ S1 else ev P b ρ S1 := ng rfl
@[simp] theorem ev_tup (a) : ev P (.tup a) ρ S = (evs P a ρ S).bind tupR := ng rfl
@[simp] theorem ev_lst (a) : ev P (.lst a) ρ S = (evs P a ρ S).bind lstR := ng rfl
@[simp] theorem ev_ix (a b) : ev P (.ix a b) ρ S = (ev P a ρ S).bind fun x S1 => (ev P b ρ S1).bind fun y S2 => ix2 x y S2 := ng rfl
@[simp] theorem ev_dd0 : ev P .dd0 ρ S = .ok (.ref S.length) (S ++ [.dct []]) := ng rfl
@[simp] theorem ev_kd0 : ev P .kd0 ρ S = .ok (.ref S.length) (S ++ [.dk []]) := ng rfl
@[simp] theorem ev_dd1 (k v) : ev P (.dd1 k v) ρ S = (ev P k ρ (S ++ [.dct []])).bind fun x S1 => (ev P v ρ S1).bind fun y S2 => ddR S.length [(x, y)] S2 := ng rfl
@[simp] theorem ev_dd2 (k v k2 v2) : ev P (.dd2 k v k2 v2) ρ S = (ev P k ρ (S ++ [.dct []])).bind fun x S1 => (ev P v ρ S1).bind fun y S2 => (ev P k2 ρ S2).bind fun x2 S3 => (ev P v2 ρ S3).bind fun y2 S4 => ddR S.length [(x, y), (x2, y2)] S4 := ng rfl
@[simp] theorem ev_kdd (ks vs) : ev P (.kdd ks vs) ρ S = (evs P vs ρ (S ++ [.dk []])).bind fun ds S1 => kddR S.length ks ds S1 := ng rfl
@[simp] theorem ev_pop0 (o) : ev P (.pop0 o) ρ S = (ev P o ρ S).bind pop0R := ng rfl
theorem ev_lk (o e) : ev P (.lk o e) ρ S = lkR (ev P o ρ S) (ev P e ρ) S := ng rfl
@[simp] theorem run_fst2 (c f g o e) : run P (.fst2 c f g o e) ρ S = O.of ρ (ev P e ρ S) fun d S1 => fst2O c f g (ev P o) d ρ S1 := ng rfl
@[simp] theorem run_del (o i) : run P (.del o i) ρ S = O.of ρ (ev P o ρ S) fun x S1 => O.of ρ (ev P i ρ S1) fun j S2 => delO x j ρ S2 := ng rfl
@[simp] theorem evo_pop0 (o) : evo P (.pop0 o) ρ S = (ev P (.pop0 o) ρ S).bind optR := ng rfl
@[simp] theorem itr_pop0 (o) : itr P (.pop0 o) ρ S = (ev P (.pop0 o) ρ S).bind itD := ng rfl
@[simp] theorem itr_lk (o e) : itr P (.lk o e) ρ S = (ev P (.lk o e) ρ S).bind itD := ng rfl
theorem pop0_lst {n : Nat} {ds : List D} {d : D} (h : S[n]? = some (.lst (ds ++ [d]))) : pop0R (.ref n) S = .ok d (S.set n (.lst ds)) := by simp [pop0R, h]
theorem kdd_ok {n : Nat} {ks : List Str} {ds : List D} (h : S[n]? = some (.dk [])) (hl : ks.length = ds.length ∧ ks.Nodup ∧ ks.length ≤ 15) : kddR n ks ds S = .ok (.ref n) (S.set n (.dk ((ks.map Sum.inr).zip ds))) := by simp only [kddR, h, if_pos hl]
theorem ix_dk' {n : Nat} {kvs : List (L2.Key × D)} {z : Str} {d : D} (h : S[n]? = some (.dk kvs)) (hg : kGet kvs (.inr z) = some d) : ix2 (.ref n) (.str z) S = .ok d S := by simp only [ix2, h, hg]
theorem ist_dk {n : Nat} {kvs : List (L2.Key × D)} {z : Str} {d : D} (h : S[n]? = some (.dk kvs)) (hl : kvs.length < linesz) : istO d (.ref n) (.str z) ρ S = .nx ρ (S.set n (.dk (kPut kvs (.inr z) d))) := by simp only [istO, h, if_pos hl]
theorem del_dct {n : Nat} {kvs : List (List Int × D)} {ks : List D} {k : List Int} (h : S[n]? = some (.dct kvs)) (hk : intsD ks = some k) (hg : (dGet kvs k).isSome = true) : delO (.ref n) (.tup ks) ρ S = .nx ρ (S.set n (.dct (dDel kvs k))) := by simp only [delO, h, hk, if_pos hg]
theorem pop_dct {n : Nat} {kvs : List (List Int × D)} {ks : List D} {k : List Int} {d : D} (h : S[n]? = some (.dct kvs)) (hk : intsD ks = some k) (hg : dGet kvs k = some d) : meD .pop (.ref n) [.tup ks] S = .ok d (S.set n (.dct (dDel kvs k))) := by simp only [meD, h, keyI, hk, hg]
theorem popOk_dct {n : Nat} {kvs : List (List Int × D)} (h : S[n]? = some (.dct kvs)) : meOk .pop (.ref n) S = true := by simp only [meOk, h]
theorem get2_dct {n : Nat} {kvs : List (List Int × D)} {ks : List D} {k : List Int} {d : D} (h : S[n]? = some (.dct kvs)) (hk : intsD ks = some k) : meD .get2 (.ref n) [.tup ks, d] S = .ok ((dGet kvs k).getD d) S := by simp only [meD, h, rdC_dct, keyI, hk]
theorem get2Ok_dct {n : Nat} {kvs : List (List Int × D)} (h : S[n]? = some (.dct kvs)) : meOk .get2 (.ref n) S = true := by simp only [meOk, h, rdC_dct, Option.isSome_some, Bool.true_or]
theorem get2_dk {n : Nat} {kvs : List (L2.Key × D)} {z : Str} {d : D} (h : S[n]? = some (.dk kvs)) : meD .get2 (.ref n) [.str z, d] S = .ok ((kGet kvs (.inr z)).getD d) S := by simp only [meD, h, rdC]
theorem get2Ok_dk {n : Nat} {kvs : List (L2.Key × D)} (h : S[n]? = some (.dk kvs)) : meOk .get2 (.ref n) S = true := by simp only [meOk, h, rdC, Option.isSome_none, Bool.false_or]
theorem len_dct {n : Nat} {kvs : List (List Int × D)} (h : S[n]? = some (.dct kvs)) : biD .len [.ref n] S = .ok (.int kvs.length) S := by simp [biD, seqD, dctN, h]
theorem prsD_map : ∀ ps : List (Int × Int), prsD (ps.map prD) = some ps
  | [] => rfl
  | p :: ps => by simp [prsD, prsD_map ps]
theorem sorted_lst {n : Nat} {ps : List (Int × Int)} (h : S[n]? = some (.lst (ps.map prD))) : biD .sorted [.ref n] S = .ok (.ref S.length) (S ++ [.lst ((srtP ps).map prD)]) := by simp only [biD, seqD, h, Option.bind_some, prsD_map]
theorem itD_hid {n : Nat} {kvs : List (List Int × D)} (h : S[n]? = some (.hid kvs)) : itD (.ref n) S = .ok ⟨kvs.map fun p => .tup (p.1.map D.int), none⟩ S := by simp only [itD, h]
theorem lk_ok {n : Nat} {kvs : List (List Int × D)} {S0 S2 : Store} {f : Store → R D} {d : D} (h : S[n]? = some (.dct kvs)) (hf : f (S.set n (.hid kvs)) = .ok d S2) (h2 : S2[n]? = some (.hid kvs)) : lkR (.ok (.ref n) S0) f S = .ok d (S2.set n (.dct kvs)) := by simp only [lkR, h, hf, if_pos h2]
@[simp] theorem ev_slc (a l h) : ev P (.slc a l h) ρ S = (ev P a ρ S).bind fun x S1 => (evo P l ρ S1).bind fun l S2 => (evo P h ρ S2).bind fun h S3 => slc2 x l h S3 := ng rfl
@[simp] theorem ev_call (f a) : ev P (.call f a) ρ S = (evs P a ρ S).bind fun ds S1 => P f ds S1 := ng rfl
@[simp] theorem ev_bi (f a) : ev P (.bi f a) ρ S = (evs P a ρ S).bind fun ds S1 => biD f ds S1 := ng rfl
@[simp] theorem ev_me (m o a) : ev P (.me m o a) ρ S = (ev P o ρ S).bind fun x S1 => bif meOk m x S1 then (evs P a ρ S1).bind fun ds S2 => meD m x ds S2 else .bad := ng rfl
@[simp] theorem ev_isi (a ts m) : ev P (.isi a ts m) ρ S = (ev P a ρ S).bind fun x S1 => isiR ts x S1 := ng rfl
@[simp] theorem ev_fld (c f a) : ev P (.fld c f a) ρ S = (ev P a ρ S).bind (fldR c f) := ng rfl
@[simp] theorem ev_mth (f c m o a) : ev P (.mth f c m o a) ρ S = (ev P o ρ S).bind fun x S1 => bif mthOk S1 c m x then (evs P a ρ S1).bind fun ds S2 => P f (x :: ds) S2 else .bad := ng rfl
@[simp] theorem ev_lc2 (own own2 tg src tg2 src2 elt) : ev P (.lc2 own own2 tg src tg2 src2 elt) ρ S = (itr P src ρ S).bind fun it S1 => lc2R own own2 tg tg2 (itr P src2) (ev P elt) ρ it S1 := ng rfl
@[simp] theorem tst_fld (c f a) : tst P (.fld c f a) ρ S = (ev P (.fld c f a) ρ S).bind truR := ng rfl
@[simp] theorem tst_mth (f c m o a) : tst P (.mth f c m o a) ρ S = (ev P (.mth f c m o a) ρ S).bind truR := ng rfl
@[simp] theorem itr_fld (c f a) : itr P (.fld c f a) ρ S = (ev P (.fld c f a) ρ S).bind itD := ng rfl
@[simp] theorem itr_mth (f c m o a) : itr P (.mth f c m o a) ρ S = (ev P (.mth f c m o a) ρ S).bind itD := ng rfl
@[simp] theorem evo_fld (c f a) : evo P (.fld c f a) ρ S = (ev P (.fld c f a) ρ S).bind optR := ng rfl
@[simp] theorem run_fst (c f o e) : run P (.fst c f o e) ρ S = O.of ρ (ev P e ρ S) fun d S1 => O.of ρ (ev P o ρ S1) fun x S2 => fstO c f d x ρ S2 := ng rfl
@[simp] theorem run_ist (o i e) : run P (.ist o i e) ρ S = O.of ρ (ev P e ρ S) fun d S1 => O.of ρ (ev P o ρ S1) fun x S2 => O.of ρ (ev P i ρ S2) fun j S3 => istO d x j ρ S3 := ng rfl
@[simp] theorem insOf_ins {n : Nat} {c : Str} {fs : List (Str × D)} (h : S[n]? = some (.ins c fs)) : insOf S c (.ref n) = some fs := by simp [insOf, h]
theorem fldR_ins {n : Nat} {c f : Str} {fs : List (Str × D)} {d : D} (h : S[n]? = some (.ins c fs)) (hf : fs.lookup f = some d) : fldR c f (.ref n) S = .ok d S := by simp [fldR, insOf_ins h, hf]
theorem mthOk_ins {n : Nat} {c m : Str} {fs : List (Str × D)} (h : S[n]? = some (.ins c fs)) (hf : fs.lookup m = none) : mthOk S c m (.ref n) = true := by simp [mthOk, insOf_ins h, hf]
theorem fstO_ins {n : Nat} {c f : Str} {fs : List (Str × D)} {d : D} (h : S[n]? = some (.ins c fs)) (hl : fs.length < 1000) : fstO c f d (.ref n) ρ S = .nx ρ (S.set n (.ins c (putD f d fs))) := by
  simp only [fstO, insOf_ins h, if_pos hl]
theorem istO_lst {n j : Nat} {xs : List D} {d : D} {k : Int} (h : S[n]? = some (.lst xs)) (hj : L2.ixN xs.length k = some j) : istO d (.ref n) (.int k) ρ S = .nx ρ (S.set n (.lst (xs.set j d))) := by
  simp only [istO, h, hj]
@[simp] theorem ev_lc (own tg src cond elt) : ev P (.lc own tg src cond elt) ρ S = (itr P src ρ S).bind fun it S1 => lcR own tg (tst P cond) (ev P elt) ρ it S1 := ng rfl
@[simp] theorem evs_nil : evs P .nil ρ S = .ok [] S := ng rfl
@[simp] theorem evs_cons (a as) : evs P (.cons a as) ρ S = (ev P a ρ S).bind fun x S1 => (evs P as ρ S1).bind fun xs S2 => .ok (x :: xs) S2 := ng rfl
@[simp] theorem evo_nil : evo P .nil ρ S = .ok none S := ng rfl
@[simp] theorem evo_int (i : Int) : evo P (.int i) ρ S = .ok (some i) S := ng rfl
@[simp] theorem evo_var (i : Nat) : evo P (.var i) ρ S = (varR i ρ S).bind optR := ng rfl
@[simp] theorem evo_bin (o a b) : evo P (.bin o a b) ρ S = (ev P (.bin o a b) ρ S).bind optR := ng rfl
@[simp] theorem evo_neg (a) : evo P (.neg a) ρ S = (ev P (.neg a) ρ S).bind optR := ng rfl
@[simp] theorem evo_bi (f a) : evo P (.bi f a) ρ S = (ev P (.bi f a) ρ S).bind optR := ng rfl
@[simp] theorem evo_ix (a b) : evo P (.ix a b) ρ S = (ev P (.ix a b) ρ S).bind optR := ng rfl
@[simp] theorem optR_int (i : Int) : optR (.int i) S = .ok (some i) S := ng rfl
@[simp] theorem itr_zp (a) : itr P (.zp a) ρ S = (evs P a ρ S).bind zipR := ng rfl
@[simp] theorem ev_bln (a) : ev P (.bln a) ρ S = (ev P a ρ S).bind blnR := ng rfl
@[simp] theorem ev_lrv (a) : ev P (.lrv a) ρ S = (ev P a ρ S).bind lrvR := ng rfl
@[simp] theorem zipR_tt (xs ys : List D) : zipR [.tup xs, .tup ys] S = .ok ⟨zipD xs ys, none⟩ S := ng rfl
@[simp] theorem zipR_lt {n : Nat} {xs ys : List D} (h : S[n]? = some (.lst xs)) : zipR [.ref n, .tup ys] S = .ok ⟨zipD xs ys, some (n, .lst xs)⟩ S := by simp [zipR, h]
@[simp] theorem itr_enm (a) : itr P (.enm a) ρ S = (evs P a ρ S).bind enmR := ng rfl
@[simp] theorem enmR_tup (xs : List D) : enmR [.tup xs] S = .ok ⟨enD 0 xs, none⟩ S := ng rfl
theorem enmR_lst {n : Nat} {xs : List D} (h : S[n]? = some (.lst xs)) : enmR [.ref n] S = .ok ⟨enD 0 xs, some (n, .lst xs)⟩ S := by simp [enmR, h]
theorem sorted_dct {n : Nat} {kvs : List (List Int × D)} {ps : List (Int × Int)} (h : S[n]? = some (.dct kvs)) (hk : prsK (kvs.map (·.1)) = some ps) : biD .sorted [.ref n] S = .ok (.ref S.length) (S ++ [.lst ((srtP ps).map prD)]) := by simp [biD, seqD, dctPs, h, hk]
@[simp] theorem ev_fjs (as) : ev P (.fjs as) ρ S = (evj P as Str.empty ρ S).bind fun y S1 => .ok (.str y) S1 := ng rfl
@[simp] theorem evj_nil (acc) : evj P .nil acc ρ S = .ok acc S := ng rfl
@[simp] theorem evj_cons (a as acc) : evj P (.cons a as) acc ρ S = (ev P a ρ S).bind fun x S1 => catJ acc x S1 fun acc' => evj P as acc' ρ := ng rfl
@[simp] theorem ev_fmt (a) : ev P (.fmt a) ρ S = (ev P a ρ S).bind fmtR := ng rfl
@[simp] theorem ev_sm (m o a) : ev P (.sm m o a) ρ S = (ev P o ρ S).bind fun x S1 => bif isS x then (ev P a ρ S1).bind fun y S2 => smR m x y S2 else .bad := ng rfl
@[simp] theorem ev_sm0 (m o) : ev P (.sm0 m o) ρ S = (ev P o ρ S).bind (sm0R m) := ng rfl
@[simp] theorem tst_sm (m o a) : tst P (.sm m o a) ρ S = (ev P (.sm m o a) ρ S).bind truR := ng rfl
@[simp] theorem isS_str (x : Str) : isS (.str x) = true := ng rfl
theorem fmtR_str {y : Str} (h : y.length ≤ linesz) : fmtR (.str y) S = .ok (.str y) S := if_pos h
theorem fmtR_int {i : Int} (h : i.natAbs.log2 < 1920) : fmtR (.int i) S = .ok (.str (toString i)) S := if_pos h
theorem catJ_str {acc y : Str} {k : Str → Store → R Str} (h : (acc ++ y).length ≤ linesz) : catJ acc (.str y) S k = k (acc ++ y) S := if_pos h
theorem smR_split {a b : Str} (h : (b.length == 0) = false) (h2 : a.length + 2 ≤ linesz) : smR .split (.str a) (.str b) S = .ok (.ref S.length) (S ++ [.lst ((Txt.split a b).map D.str)]) := if_pos ⟨h, h2⟩
@[simp] theorem smR_starts (a b : Str) : smR .startswith (.str a) (.str b) S = .ok (.bl (Txt.startswith a b)) S := ng rfl
theorem strsD_map : ∀ ys : List Str, strsD (ys.map D.str) = some ys
  | [] => rfl
  | y :: ys => by simp [strsD, strsD_map ys]
theorem smR_join {a : Str} {n : Nat} {ys : List Str} (h : S[n]? = some (.lst (ys.map D.str))) (h2 : (ys.map (·.length)).sum + ys.length * a.length ≤ 16777216) : smR .join (.str a) (.ref n) S = .ok (.str (Txt.join a ys)) S := by
  simp only [smR, seqD, h, Option.bind_some, strsD_map, if_pos h2]
@[simp] theorem run_any : run P .any ρ S = .bad := ng rfl
@[simp] theorem ev_gix (x kvs a) : ev P (.gix x kvs a) ρ S = (ev P a ρ S).bind (gixR kvs) := ng rfl
theorem gixR_int {kvs : List (Int × D)} {z : Int} {d : D} (h : kvs.lookup z = some d) : gixR kvs (.int z) S = .ok d S := by simp [gixR, h]
@[simp] theorem run_asg2 (i j e) : run P (.asg2 i j e) ρ S = O.of ρ (ev P e ρ S) fun d S1 => .nx ((ρ.set i (some d)).set j (some d)) S1 := ng rfl
@[simp] theorem ev_gdx (x kvs a) : ev P (.gdx x kvs a) ρ S = (ev P a ρ S).bind (gdxR kvs) := ng rfl
@[simp] theorem ev_giin (x kvs neg a) : ev P (.giin x kvs neg a) ρ S = (ev P a ρ S).bind (giinR kvs neg) := ng rfl
@[simp] theorem tst_giin (x kvs neg a) : tst P (.giin x kvs neg a) ρ S = (ev P a ρ S).bind (giinT kvs neg) := ng rfl
@[simp] theorem giinR_int (kvs : List (Int × D)) (neg : Bool) (z : Int) : giinR kvs neg (.int z) S = .ok (.bl (if neg then !(kvs.lookup z).isSome else (kvs.lookup z).isSome)) S := ng rfl
@[simp] theorem giinT_int (kvs : List (Int × D)) (neg : Bool) (z : Int) : giinT kvs neg (.int z) S = .ok (if neg then !(kvs.lookup z).isSome else (kvs.lookup z).isSome) S := ng rfl
@[simp] theorem ev_gdin (x kvs neg a) : ev P (.gdin x kvs neg a) ρ S = (ev P a ρ S).bind (gdinR kvs neg) := ng rfl
@[simp] theorem tst_gdin (x kvs neg a) : tst P (.gdin x kvs neg a) ρ S = (ev P a ρ S).bind (gdinT kvs neg) := ng rfl
theorem gdxR_str {kvs : List (Str × D)} {z : Str} {d : D} (h : kvs.lookup z = some d) : gdxR kvs (.str z) S = .ok d S := by simp [gdxR, h]
@[simp] theorem gdinR_str (kvs : List (Str × D)) (neg : Bool) (z : Str) : gdinR kvs neg (.str z) S = .ok (.bl (if neg then !(kvs.lookup z).isSome else (kvs.lookup z).isSome)) S := ng rfl
@[simp] theorem gdinT_str (kvs : List (Str × D)) (neg : Bool) (z : Str) : gdinT kvs neg (.str z) S = .ok (if neg then !(kvs.lookup z).isSome else (kvs.lookup z).isSome) S := ng rfl
@[simp] theorem blnR_int (i : Int) : blnR (.int i) S = .ok (.int ((Builtin.Int.intBits i : Nat) : Int)) S := ng rfl
@[simp] theorem lrvR_lst {n : Nat} {ds : List D} (h : S[n]? = some (.lst ds)) : lrvR (.ref n) S = .ok (.ref S.length) (S ++ [.lst ds.reverse]) := by simp [lrvR, h]
@[simp] theorem itr_rng (a) : itr P (.rng a) ρ S = (evs P a ρ S).bind rngR := ng rfl
@[simp] theorem itr_var (i : Nat) : itr P (.var i) ρ S = (varR i ρ S).bind itD := ng rfl
@[simp] theorem itr_slc (a l h) : itr P (.slc a l h) ρ S = (ev P (.slc a l h) ρ S).bind itD := ng rfl
@[simp] theorem itr_call (f a) : itr P (.call f a) ρ S = (ev P (.call f a) ρ S).bind itD := ng rfl
@[simp] theorem itr_ix (a b) : itr P (.ix a b) ρ S = (ev P (.ix a b) ρ S).bind itD := ng rfl
@[simp] theorem itr_lst (a) : itr P (.lst a) ρ S = (ev P (.lst a) ρ S).bind itD := ng rfl
@[simp] theorem itr_tup (a) : itr P (.tup a) ρ S = (ev P (.tup a) ρ S).bind itD := ng rfl
@[simp] theorem itr_glb (x d) : itr P (.glb x d) ρ S = itD d S := ng rfl
@[simp] theorem itr_bin (o a b) : itr P (.bin o a b) ρ S = (ev P (.bin o a b) ρ S).bind itD := ng rfl
@[simp] theorem tst_not (a) : tst P (.not a) ρ S = (tst P a ρ S).bind fun b S1 => .ok (!b) S1 := ng rfl
@[simp] theorem tst_and (a b) : tst P (.and a b) ρ S = (tst P a ρ S).bind fun t S1 => bif t then tst P b ρ S1 else .ok false S1 := ng rfl
@[simp] theorem tst_or (a b) : tst P (.or a b) ρ S = (tst P a ρ S).bind fun t S1 => bif t then .ok true S1 else tst P b ρ S1 := ng rfl
@[simp] theorem tst_cmp (o a b) : tst P (.cmp o a b) ρ S = (ev P a ρ S).bind fun x S1 => (ev P b ρ S1).bind fun y S2 => cmpT o x y S2 := ng rfl
@[simp] theorem tst_chain (o1 o2 a b c) : tst P (.chain o1 o2 a b c) ρ S = (ev P a ρ S).bind fun x S1 => (ev P b ρ S1).bind fun y S2 => chainT o1 o2 (ev P c ρ) x y S2 := ng rfl
@[simp] theorem tst_var (i : Nat) : tst P (.var i) ρ S = (varR i ρ S).bind truR := ng rfl
@[simp] theorem tst_bl (b : Bool) : tst P (.bl b) ρ S = .ok b S := ng rfl
@[simp] theorem tst_call (f a) : tst P (.call f a) ρ S = (ev P (.call f a) ρ S).bind truR := ng rfl
@[simp] theorem tst_bi (f a) : tst P (.bi f a) ρ S = (ev P (.bi f a) ρ S).bind truR := ng rfl
@[simp] theorem tst_isi (a ts m) : tst P (.isi a ts m) ρ S = (ev P (.isi a ts m) ρ S).bind truR := ng rfl
@[simp] theorem tst_ix (a b) : tst P (.ix a b) ρ S = (ev P (.ix a b) ρ S).bind truR := ng rfl
@[simp] theorem tst_bin (o a b) : tst P (.bin o a b) ρ S = (ev P (.bin o a b) ρ S).bind truR := ng rfl
@[simp] theorem truR_bl (b : Bool) : truR (.bl b) S = .ok b S := ng rfl
@[simp] theorem truR_int (i : Int) : truR (.int i) S = .ok (i != 0) S := ng rfl
@[simp] theorem truR_non : truR .non S = .ok false S := ng rfl
@[simp] theorem truR_tup (ds) : truR (.tup ds) S = .ok (!ds.isEmpty) S := ng rfl
@[simp] theorem negR_int (i : Int) : negR (.int i) S = .ok (.int (-i)) S := ng rfl
@[simp] theorem andR_bl (k) (b : Bool) : andR k (.bl b) S = bif b then k S else .ok (.bl false) S := by cases b <;> rfl
@[simp] theorem orR_bl (k) (b : Bool) : orR k (.bl b) S = bif b then .ok (.bl true) S else k S := by cases b <;> rfl
@[simp] theorem run_skip : run P .skip ρ S = .nx ρ S := ng rfl
@[simp] theorem run_pass : run P .pass ρ S = .nx ρ S := ng rfl
@[simp] theorem run_seq (a b) : run P (.seq a b) ρ S = (run P a ρ S).seq (run P b) := ng rfl
@[simp] theorem run_ex (e) : run P (.ex e) ρ S = O.of ρ (ev P e ρ S) fun _ S1 => .nx ρ S1 := ng rfl
@[simp] theorem run_asg (tg e) : run P (.asg tg e) ρ S = O.of ρ (ev P e ρ S) fun d S1 => asgO tg d ρ S1 := ng rfl
@[simp] theorem run_aug (i o e) : run P (.aug i o e) ρ S = match ρ[i]? with
    | some (some x) => O.of ρ (ev P e ρ S) fun d S1 => O.of ρ (augB o x d S1) fun z S2 => .nx (ρ.set i (some z)) S2
    | _ => .bad := ng rfl
@[simp] theorem augB_add (i j : Int) : augB .add (.int i) (.int j) S = .ok (.int (i + j)) S := ng rfl
@[simp] theorem augB_sub (i j : Int) : augB .sub (.int i) (.int j) S = .ok (.int (i - j)) S := ng rfl
@[simp] theorem run_dsp (i x tbl e as) : run P (.dsp i x tbl e as) ρ S = bif decide (i < ρ.length) then (O.of ρ (ev P e ρ S) fun d S1 => dspO tbl d fun f => O.of (ρ.set i none) (evs P as (ρ.set i none) S1) fun ds S2 => O.of (ρ.set i none) (P f ds S2) fun v S3 => .ret v S3) else .bad := ng rfl
theorem dspO_str {tbl : List (Str × Str × Nat)} {z : Str} {p : Str × Nat} (h : tbl.lookup z = some p) (k : Nat → O) : dspO tbl (.str z) k = k p.2 := by simp [dspO, h]
@[simp] theorem run_ret (e) : run P (.ret e) ρ S = O.of ρ (ev P e ρ S) fun d S1 => .ret d S1 := ng rfl
@[simp] theorem run_retN : run P .retN ρ S = .ret .non S := ng rfl
@[simp] theorem run_ite (c a b) : run P (.ite c a b) ρ S = O.of ρ (tst P c ρ S) fun t S1 => bif t then run P a ρ S1 else run P b ρ S1 := ng rfl
@[simp] theorem run_whl (n c b) : run P (.whl n c b) ρ S = whlL (tst P c) (run P b) n ρ S := ng rfl
@[simp] theorem run_for (tg it b) : run P (.for tg it b) ρ S = O.of ρ (itr P it ρ S) fun w S1 => forL (ckS w.lk) (fun x ρ S => (asgO tg x ρ S).seq (run P b)) w.ds ρ S1 := ng rfl
@[simp] theorem run_brk : run P .brk ρ S = .bk ρ S := ng rfl
@[simp] theorem run_cnt : run P .cnt ρ S = .ct ρ S := ng rfl
@[simp] theorem run_raise (c) : run P (.raise c) ρ S = .exc c [] ρ S := ng rfl
@[simp] theorem run_tryAs (b y tbl i s) : run P (.tryAs b y tbl i s) ρ S = catchO (run P b ρ S) tbl fun c ρ' S' => (suiteO fun a => run (hotP c a) s (ρ'.set i (some (.exc c a))) S').unset i := ng rfl
@[simp] theorem run_tryAs2 (b y1 t1 y2 t2 i s1 s2) : run P (.tryAs2 b y1 t1 y2 t2 i s1 s2) ρ S = catchO2 (run P b ρ S) t1 t2 (fun c ρ' S' => (suiteO fun a => run (hotP c a) s1 (ρ'.set i (some (.exc c a))) S').unset i) (fun c ρ' S' => (suiteO fun a => run (hotP c a) s2 (ρ'.set i (some (.exc c a))) S').unset i) := ng rfl
@[simp] theorem run_tryOn (b y tbl s) : run P (.tryOn b y tbl s) ρ S = catchO (run P b ρ S) tbl fun c ρ' S' => (suiteO fun a => run (hotP c a) s ρ' S').noexc := ng rfl
@[simp] theorem catch2_nx {t1 t2 k1 k2} : catchO2 (.nx ρ S) t1 t2 k1 k2 = .nx ρ S := ng rfl
@[simp] theorem catch2_ret {t1 t2 k1 k2 d} : catchO2 (.ret d S) t1 t2 k1 k2 = .ret d S := ng rfl
theorem catch2_1 {t1 t2 k1 k2 c} (h : t1[c]? = some true) : catchO2 (.exc c [] ρ S) t1 t2 k1 k2 = k1 c ρ S := by simp only [catchO2, h]
theorem catch2_2 {t1 t2 k1 k2 c} (h : t1[c]? = some false) (h2 : t2[c]? = some true) : catchO2 (.exc c [] ρ S) t1 t2 k1 k2 = k2 c ρ S := by simp only [catchO2, catchO, h, h2]
@[simp] theorem catch_nx {tbl k} : catchO (.nx ρ S) tbl k = .nx ρ S := ng rfl
@[simp] theorem catch_ret {tbl k d} : catchO (.ret d S) tbl k = .ret d S := ng rfl
@[simp] theorem catch_exc {tbl k c} : catchO (.exc c [] ρ S) tbl k = match tbl[c]? with | some true => k c ρ S | some false => .exc c [] ρ S | none => .bad := by
  unfold catchO
  cases h : tbl[c]? with
  | none => simp [h]
  | some b => cases b <;> simp [h]
@[simp] theorem suite_const {o : O} : suiteO (fun _ => o) = o := by
  unfold suiteO
  exact if_pos fun _ => rfl
@[simp] theorem unset_ret {i d} : (O.ret d S).unset i = .ret d S := ng rfl
@[simp] theorem unset_nx {i} : (O.nx ρ S).unset i = .nx (ρ.set i none) S := ng rfl
@[simp] theorem noexc_ret {d} : (O.ret d S).noexc = .ret d S := ng rfl
@[simp] theorem noexc_nx : (O.nx ρ S).noexc = .nx ρ S := ng rfl
@[simp] theorem ev_isx (a y tbl) : ev P (.isx a y tbl) ρ S = (ev P a ρ S).bind fun x S1 => isxR P tbl x S1 := ng rfl
@[simp] theorem tst_isx (a y tbl) : tst P (.isx a y tbl) ρ S = (ev P (.isx a y tbl) ρ S).bind truR := ng rfl
@[simp] theorem isx_hot {c a tbl} : isxR (hotP c a) tbl (.exc c a) S = match tbl[c]? with | some b => .ok (.bl b) S | none => .bad := by
  unfold isxR hotP
  simp only [and_self, if_true]
  rfl
@[simp] theorem asgO_var (i : Nat) (d : D) : asgO (.var i) d ρ S = .nx (ρ.set i (some d)) S := ng rfl
@[simp] theorem ckS_none : ckS none S = true := ng rfl
@[simp] theorem ckS_some (n c) : ckS (some (n, c)) S = decide (S[n]? = some c) := ng rfl
/-! ### operations on known kinds -/
@[simp] theorem b2_add (i j : Int) : bin2 .add (.int i) (.int j) S = .ok (.int (i + j)) S := ng rfl
@[simp] theorem b2_sub (i j : Int) : bin2 .sub (.int i) (.int j) S = .ok (.int (i - j)) S := ng rfl
theorem b2_mul (i j : Int) (h : (-18446744073709551616 < i ∧ i < 18446744073709551616) ∨ (-18446744073709551616 < j ∧ j < 18446744073709551616)) : bin2 .mul (.int i) (.int j) S = .ok (.int (i * j)) S := if_pos h
@[simp] theorem b2_mulR (i j : Int) (h : -18446744073709551616 < j ∧ j < 18446744073709551616) : bin2 .mul (.int i) (.int j) S = .ok (.int (i * j)) S := b2_mul i j (.inr h)
@[simp] theorem b2_mulL (i j : Int) (h : -18446744073709551616 < i ∧ i < 18446744073709551616) : bin2 .mul (.int i) (.int j) S = .ok (.int (i * j)) S := b2_mul i j (.inl h)
@[simp] theorem b2_fdiv (i j : Int) (h : 0 < j ∧ j < 1073741824) : bin2 .fdiv (.int i) (.int j) S = .ok (.int (i / j)) S := if_pos h
@[simp] theorem b2_mod (i j : Int) (h : 0 < j) : bin2 .mod (.int i) (.int j) S = .ok (.int (i % j)) S := if_pos h
@[simp] theorem b2_pow (i j : Int) (h : 0 ≤ j ∧ j ≤ 1000000 ∧ i.natAbs < 18446744073709551616) : bin2 .pow (.int i) (.int j) S = .ok (.int (i ^ j.toNat)) S := if_pos h
@[simp] theorem cT_lt (i j : Int) : cmpT .lt (.int i) (.int j) S = .ok (decide (i < j)) S := ng rfl
@[simp] theorem cT_le (i j : Int) : cmpT .le (.int i) (.int j) S = .ok (decide (i ≤ j)) S := ng rfl
@[simp] theorem cT_gt (i j : Int) : cmpT .gt (.int i) (.int j) S = .ok (decide (j < i)) S := ng rfl
@[simp] theorem cT_ge (i j : Int) : cmpT .ge (.int i) (.int j) S = .ok (decide (j ≤ i)) S := ng rfl
@[simp] theorem cT_eq (i j : Int) : cmpT .eq (.int i) (.int j) S = .ok (decide (i = j)) S := ng rfl
@[simp] theorem cT_eq_str (i j : Str) : cmpT .eq (.str i) (.str j) S = .ok (decide (i = j)) S := ng rfl
@[simp] theorem cT_ne_str (i j : Str) : cmpT .ne (.str i) (.str j) S = .ok (!decide (i = j)) S := ng rfl
@[simp] theorem cR_eq_str (i j : Str) : cmpR .eq (.str i) (.str j) S = .ok (.bl (decide (i = j))) S := ng rfl
@[simp] theorem cR_ne_str (i j : Str) : cmpR .ne (.str i) (.str j) S = .ok (.bl (!decide (i = j))) S := ng rfl
@[simp] theorem cT_ne (i j : Int) : cmpT .ne (.int i) (.int j) S = .ok (!decide (i = j)) S := ng rfl
@[simp] theorem cR_lt (i j : Int) : cmpR .lt (.int i) (.int j) S = .ok (.bl (decide (i < j))) S := ng rfl
@[simp] theorem cR_le (i j : Int) : cmpR .le (.int i) (.int j) S = .ok (.bl (decide (i ≤ j))) S := ng rfl
@[simp] theorem cR_gt (i j : Int) : cmpR .gt (.int i) (.int j) S = .ok (.bl (decide (j < i))) S := ng rfl
@[simp] theorem cR_ge (i j : Int) : cmpR .ge (.int i) (.int j) S = .ok (.bl (decide (j ≤ i))) S := ng rfl
@[simp] theorem cR_eq (i j : Int) : cmpR .eq (.int i) (.int j) S = .ok (.bl (decide (i = j))) S := ng rfl
@[simp] theorem cR_ne (i j : Int) : cmpR .ne (.int i) (.int j) S = .ok (.bl (!decide (i = j))) S := ng rfl
@[simp] theorem len_lst {n : Nat} {ds : List D} (h : S[n]? = some (.lst ds)) : biD .len [.ref n] S = .ok (.int ds.length) S := by simp [biD, seqD, h]
@[simp] theorem len_ro {n : Nat} {ds : List D} (h : S[n]? = some (.ro ds)) : biD .len [.ref n] S = .ok (.int ds.length) S := by simp [biD, seqD, h]
@[simp] theorem len_tup (ds : List D) : biD .len [.tup ds] S = .ok (.int ds.length) S := ng rfl
@[simp] theorem bi_abs' (i : Int) : biD .abs [.int i] S = .ok (.int (if i < 0 then -i else i)) S := ng rfl
@[simp] theorem bi_min' (i j : Int) : biD .min2 [.int i, .int j] S = .ok (.int (if j < i then j else i)) S := ng rfl
@[simp] theorem bi_max' (i j : Int) : biD .max2 [.int i, .int j] S = .ok (.int (if j > i then j else i)) S := ng rfl
@[simp] theorem bi_min3' (i j k : Int) : biD .min3 [.int i, .int j, .int k] S = .ok (.int (if k < (if j < i then j else i) then k else if j < i then j else i)) S := ng rfl
@[simp] theorem bi_max3' (i j k : Int) : biD .max3 [.int i, .int j, .int k] S = .ok (.int (if (if i < j then j else i) < k then k else if i < j then j else i)) S := ng rfl
@[simp] theorem bi_int' (i : Int) : biD .int [.int i] S = .ok (.int i) S := ng rfl
@[simp] theorem bi_intb (b : Bool) : biD .int [.bl b] S = .ok (.int (if b then 1 else 0)) S := ng rfl
@[simp] theorem bi_tuple_lst {n : Nat} {ds : List D} (h : S[n]? = some (.lst ds)) : biD .tuple [.ref n] S = .ok (.tup ds) S := by simp [biD, seqD, h]
@[simp] theorem bi_tuple_tup (ds : List D) : biD .tuple [.tup ds] S = .ok (.tup ds) S := ng rfl
@[simp] theorem bi_list_lst {n : Nat} {ds : List D} (h : S[n]? = some (.lst ds)) : biD .list [.ref n] S = .ok (.ref S.length) (S ++ [.lst ds]) := by simp [biD, seqD, h]
@[simp] theorem bi_list_tup (ds : List D) : biD .list [.tup ds] S = .ok (.ref S.length) (S ++ [.lst ds]) := ng rfl
@[simp] theorem meOk_lst {n : Nat} {ds : List D} (h : S[n]? = some (.lst ds)) : meOk .append (.ref n) S = true := by simp [meOk, h]
@[simp] theorem meD_append {n : Nat} {ds : List D} {d : D} (h : S[n]? = some (.lst ds)) (hl : ds.length < linesz) : meD .append (.ref n) [d] S = .ok .non (S.set n (.lst (ds ++ [d]))) := by simp [meD, h, hl]
@[simp] theorem lstR_ok (ds : List D) (h : ds.length ≤ linesz) : lstR ds S = .ok (.ref S.length) (S ++ [.lst ds]) := if_pos h
@[simp] theorem tupR_ok (ds : List D) (h : ds.length ≤ linesz) : tupR ds S = .ok (.tup ds) S := if_pos h
@[simp] theorem slc_tup' (ds : List D) (lo hi) : slc2 (.tup ds) lo hi S = .ok (.tup (cutD ds lo hi)) S := ng rfl
@[simp] theorem slc_lst {n : Nat} {ds : List D} (h : S[n]? = some (.lst ds)) (lo hi) : slc2 (.ref n) lo hi S = .ok (.ref S.length) (S ++ [.lst (cutD ds lo hi)]) := by simp [slc2, h]
@[simp] theorem slc_ro {n : Nat} {ds : List D} (h : S[n]? = some (.ro ds)) (lo hi) : slc2 (.ref n) lo hi S = .ok (.ref S.length) (S ++ [.lst (cutD ds lo hi)]) := by simp [slc2, h]
@[simp] theorem itD_tup (ds : List D) : itD (.tup ds) S = .ok ⟨ds, none⟩ S := ng rfl
@[simp] theorem itD_lst {n : Nat} {ds : List D} (h : S[n]? = some (.lst ds)) : itD (.ref n) S = .ok ⟨ds, some (n, .lst ds)⟩ S := by simp [itD, h]
@[simp] theorem itD_ro {n : Nat} {ds : List D} (h : S[n]? = some (.ro ds)) : itD (.ref n) S = .ok ⟨ds, some (n, .ro ds)⟩ S := by simp [itD, h]
@[simp] theorem rngR1 (n : Int) (h : -4611686018427387904 ≤ n ∧ n < 4611686018427387904) : rngR [.int n] S = .ok ⟨rngD 0 n.toNat, none⟩ S := by
  simp only [rngR, rgD, if_pos h]
@[simp] theorem rngR3 (a b : Int) (h : -4611686018427387904 ≤ a ∧ a < 4611686018427387904 ∧ -4611686018427387904 ≤ b ∧ b < 4611686018427387904) : rngR [.int a, .int b, .int (-1)] S = .ok ⟨rngN a (a - b).toNat, none⟩ S := by
  simp only [rngR, rgD]
  rw [if_pos ⟨trivial, h⟩]
@[simp] theorem rngR2 (a b : Int) (h : -4611686018427387904 ≤ a ∧ a < 4611686018427387904 ∧ -4611686018427387904 ≤ b ∧ b < 4611686018427387904) : rngR [.int a, .int b] S = .ok ⟨rngD a (b - a).toNat, none⟩ S := by
  simp only [rngR, rgD, if_pos h]
@[simp] theorem finO_ret (d : D) (S' : Store) : finO S (.ret d S') = fin S d S' := ng rfl
@[simp] theorem finO_exc (c ρ S') : finO S (.exc c [] ρ S') = .exc c [] (finX S S') := ng rfl
/-! ### what is forgotten behind a call -/
@[simp] theorem reach_nil {n0 k : Nat} {acc : List Nat} : reach S n0 k [] acc = acc := by cases k <;> rfl
theorem reach_step {n0 k n : Nat} {r acc : List Nat} {c : Cell} (h : S[n]? = some c) (h1 : n0 ≤ n) (h2 : n ∉ acc) : reach S n0 (k + 1) (n :: r) acc = reach S n0 k (c.refs ++ r) (acc ++ [n]) := by
  have e : ¬ (n < n0 ∨ n ∈ acc) := by rintro (z | z); omega; exact h2 z
  conv => lhs; unfold reach
  rw [if_neg e, h]
theorem reach_skip {n0 k n : Nat} {r acc : List Nat} (h : n < n0 ∨ n ∈ acc) : reach S n0 (k + 1) (n :: r) acc = reach S n0 k r acc := by
  conv => lhs; unfold reach
  rw [if_pos h]
theorem chg_app : ∀ (S l : Store), chg S (S ++ l) = []
  | [], l => by cases l <;> rfl
  | c :: S, l => by simp [chg, chg_app S l]
theorem keepE_app {f : Nat → Nat} : ∀ (S l : Store), keepE f S (S ++ l) = S
  | [], l => by cases l <;> rfl
  | c :: S, l => by simp [keepE, keepE_app S l]
theorem chg_set : ∀ {S : Store} {p : Nat} {c : Cell} (l : Store), c.refs = [] → chg S (S.set p c ++ l) = []
  | [], _, _, l, _ => by cases l <;> rfl
  | a :: S, 0, c, l, h => by
    simp only [List.set_cons_zero, List.cons_append, chg, chg_app S l]
    by_cases e : a = c <;> simp [e, h]
  | a :: S, p + 1, c, l, h => by simp [chg, chg_set (S := S) (p := p) l h]
theorem keepE_set {f : Nat → Nat} : ∀ {S : Store} {p : Nat} {c : Cell} (l : Store), c.refs = [] → keepE f S (S.set p c ++ l) = S.set p c
  | [], _, _, l, _ => by cases l <;> rfl
  | a :: S, 0, c, l, h => by
    have hr : c.ren f = c := Cell.ren_id fun n hn => by rw [h] at hn; cases hn
    simp [keepE, keepE_app S l, hr]
  | a :: S, p + 1, c, l, h => by simp [keepE, keepE_set (S := S) (p := p) l h]
/-- the general form: the cells L are kept -/
theorem fin_gen {S' : Store} {d : D} {L : List Nat} (hc : chg S S' = []) (hk : ∀ f, keepE f S S' = S'.take S.length) (hlen : S.length ≤ S'.length) (hr : reach S' S.length 100000 d.refs [] = L) (h : keepC S S' d.refs L = true) :
    fin S d S' = .ok (d.ren (renOf S.length L)) (S'.take S.length ++ L.filterMap fun n => (S'[n]?).map (Cell.ren (renOf S.length L))) := by
  unfold fin
  simp only [hc, List.append_nil, hr, h, if_true, keepS, hk]
theorem keepC_nil {S' : Store} (h : S.length ≤ S'.length) : keepC S S' [] [] = true := by simp [keepC, h]
@[simp] theorem finX_app {l : List Cell} : finX S (S ++ l) = S := by simp [finX, chg_app, keepS, keepE_app, keepC_nil]
@[simp] theorem finX_self : finX S S = S := by
  have := finX_app (S := S) (l := [])
  rwa [List.append_nil] at this
theorem finX_set {p : Nat} {c : Cell} (l : Store) (h : c.refs = []) : finX S (S.set p c ++ l) = S.set p c := by
  have : keepC S (S.set p c ++ l) [] [] = true := keepC_nil (by simp)
  simp [finX, chg_set l h, keepS, keepE_set l h, this]
@[simp] theorem finO_nx (ρ : Env) (S' : Store) : finO S (.nx ρ S') = fin S .non S' := ng rfl
theorem linesz_is : linesz = 16777216 := ng rfl
@[simp] theorem b2_cat {m n : Nat} {xs ys : List D} (h1 : S[m]? = some (.lst xs)) (h2 : S[n]? = some (.lst ys)) (hl : xs.length + ys.length ≤ linesz) : bin2 .add (.ref m) (.ref n) S = .ok (.ref S.length) (S ++ [.lst (xs ++ ys)]) := by simp [bin2, h1, h2, hl]
@[simp] theorem b2_tcat {xs ys : List D} (hl : xs.length + ys.length ≤ linesz) : bin2 .add (.tup xs) (.tup ys) S = .ok (.tup (xs ++ ys)) S := if_pos hl
theorem fin_any {d : D} (h : d.refs = []) (S' : Store) : ∃ S2, fin S d S' = .ok d S2 := by
  unfold fin
  simp only
  split
  · exact ⟨_, by rw [D.ren_id d fun n hn => by rw [h] at hn; cases hn]⟩
  · exact ⟨_, rfl⟩
/-- an item -/
def atR (ds : List D) (i : Int) (S : Store) : R D := match L2.atI ds i with | some d => .ok d S | none => .bad
theorem atR_some {ds : List D} {i : Int} {d : D} (h : L2.atI ds i = some d) : atR ds i S = .ok d S := by unfold atR; rw [h]
theorem atR_nat {ds : List D} {i : Nat} {d : D} (h : ds[i]? = some d) : atR ds (i : Int) S = .ok d S := atR_some (L2.atI_nat h)
theorem atR_int {ds : List D} {i : Int} {d : D} (h0 : 0 ≤ i) (h : ds[i.toNat]? = some d) : atR ds i S = .ok d S := by
  have := atR_nat (S := S) h
  rwa [Int.toNat_of_nonneg h0] at this
@[simp] theorem ix_tup' (ds : List D) (i : Int) : ix2 (.tup ds) (.int i) S = atR ds i S := ng rfl
@[simp] theorem ix_lst {n : Nat} {ds : List D} (h : S[n]? = some (.lst ds)) (i : Int) : ix2 (.ref n) (.int i) S = atR ds i S := by
  show (match S[n]? with | some (.lst ds) => _ | some (.ro ds) => _ | _ => _) = _
  rw [h]; rfl
@[simp] theorem ix_ro {n : Nat} {ds : List D} (h : S[n]? = some (.ro ds)) (i : Int) : ix2 (.ref n) (.int i) S = atR ds i S := by
  show (match S[n]? with | some (.lst ds) => _ | some (.ro ds) => _ | _ => _) = _
  rw [h]; rfl
@[simp] theorem at_0 {x0 : D} {r : List D} : atR (x0 :: r) 0 S = .ok x0 S := atR_nat (i := 0) rfl
@[simp] theorem at_1 {x0 x1 : D} {r : List D} : atR (x0 :: x1 :: r) 1 S = .ok x1 S := atR_nat (i := 1) rfl
@[simp] theorem at_2 {x0 x1 x2 : D} {r : List D} : atR (x0 :: x1 :: x2 :: r) 2 S = .ok x2 S := atR_nat (i := 2) rfl
@[simp] theorem at_3 {x0 x1 x2 x3 : D} {r : List D} : atR (x0 :: x1 :: x2 :: x3 :: r) 3 S = .ok x3 S := atR_nat (i := 3) rfl
@[simp] theorem at_4 {x0 x1 x2 x3 x4 : D} {r : List D} : atR (x0 :: x1 :: x2 :: x3 :: x4 :: r) 4 S = .ok x4 S := atR_nat (i := 4) rfl
@[simp] theorem at_5 {x0 x1 x2 x3 x4 x5 : D} {r : List D} : atR (x0 :: x1 :: x2 :: x3 :: x4 :: x5 :: r) 5 S = .ok x5 S := atR_nat (i := 5) rfl
@[simp] theorem at_6 {x0 x1 x2 x3 x4 x5 x6 : D} {r : List D} : atR (x0 :: x1 :: x2 :: x3 :: x4 :: x5 :: x6 :: r) 6 S = .ok x6 S := atR_nat (i := 6) rfl
@[simp] theorem at_7 {x0 x1 x2 x3 x4 x5 x6 x7 : D} {r : List D} : atR (x0 :: x1 :: x2 :: x3 :: x4 :: x5 :: x6 :: x7 :: r) 7 S = .ok x7 S := atR_nat (i := 7) rfl
/-! ### the store: an elder part, and what the def has made -/
variable {l : List Cell}
@[simp] theorem get0 : (S ++ l)[S.length]? = l[0]? := by rw [List.getElem?_append_right (Nat.le_refl _)]; simp
@[simp] theorem getk (k : Nat) : (S ++ l)[S.length + k]? = l[k]? := by rw [List.getElem?_append_right (Nat.le_add_right _ _)]; simp
@[simp] theorem set0 (c : Cell) : (S ++ l).set S.length c = S ++ l.set 0 c := by rw [List.set_append_right _ _ (Nat.le_refl _)]; simp
@[simp] theorem setk (k : Nat) (c : Cell) : (S ++ l).set (S.length + k) c = S ++ l.set k c := by rw [List.set_append_right _ _ (Nat.le_add_right _ _)]; simp
theorem get_lo {n : Nat} {c : Cell} (h : S[n]? = some c) : (S ++ l)[n]? = some c := by
  rw [List.getElem?_append_left (List.getElem?_eq_some_iff.mp h).1]; exact h
@[simp] theorem fin_pure {d : D} (h : d.refs = []) : fin S d (S ++ l) = .ok d S := by
  rw [fin_gen (L := []) (chg_app S l) (fun f => by rw [keepE_app]; simp) (by simp) (by rw [h, reach_nil]) (by rw [h]; exact keepC_nil (by simp))]
  rw [D.ren_id d fun n hn => by rw [h] at hn; cases hn]
  simp
@[simp] theorem fin_set {d : D} {p : Nat} {c : Cell} (h : d.refs = []) (hc : c.refs = []) : fin S d (S.set p c ++ l) = .ok d (S.set p c) := by
  have hk : keepC S (S.set p c ++ l) [] [] = true := keepC_nil (by simp)
  unfold fin
  simp only [h, chg_set l hc, List.append_nil, reach_nil, hk, if_true, keepS, keepE_set l hc, List.filterMap_nil]
  rw [D.ren_id d fun n hn => by rw [h] at hn; cases hn]
@[simp] theorem fin_set0 {d : D} {p : Nat} {c : Cell} (h : d.refs = []) (hc : c.refs = []) : fin S d (S.set p c) = .ok d (S.set p c) := by
  have := fin_set (S := S) (l := []) (p := p) h hc
  rwa [List.append_nil] at this
@[simp] theorem fin_pure0 {d : D} (h : d.refs = []) : fin S d S = .ok d S := by
  have := fin_pure (S := S) (l := []) h
  rwa [List.append_nil] at this
@[simp] theorem refs_int (i : Int) : D.refs (.int i) = [] := ng rfl
@[simp] theorem refs_bl (i : Bool) : D.refs (.bl i) = [] := ng rfl
@[simp] theorem refs_non : D.refs .non = [] := ng rfl
@[simp] theorem refs_str (i : Str) : D.refs (.str i) = [] := ng rfl
@[simp] theorem refs_tup (ds : List D) : D.refs (.tup ds) = D.refsL ds := by simp [D.refs]
@[simp] theorem refsL_nil : D.refsL [] = [] := ng rfl
@[simp] theorem refsL_cons (d : D) (ds : List D) : D.refsL (d :: ds) = d.refs ++ D.refsL ds := by simp [D.refsL]
@[simp] theorem refsL_append (xs ys : List D) : D.refsL (xs ++ ys) = D.refsL xs ++ D.refsL ys := by
  induction xs with
  | nil => rfl
  | cons x xs ih => simp [ih]
@[simp] theorem refsL_ints (ns : List Int) : D.refsL (ns.map D.int) = [] := by
  induction ns with
  | nil => rfl
  | cons x xs ih => simp [ih]
/-- a fresh list without further cells comes out -/
theorem fin_list {ds : List D} {a : List Cell} {c : List Cell} (h : D.refsL ds = []) : fin S (.ref (S.length + a.length)) (S ++ a ++ .lst ds :: c) = .ok (.ref S.length) (S ++ [.lst ds]) := by
  have hg : (S ++ a ++ Cell.lst ds :: c)[S.length + a.length]? = some (.lst ds) := by
    rw [List.getElem?_append_right (by simp)]; simp
  have hr : reach (S ++ a ++ .lst ds :: c) S.length 100000 [S.length + a.length] [] = [S.length + a.length] := by
    rw [show (100000 : Nat) = 99999 + 1 from rfl, reach_step hg (by omega) (by simp)]
    show reach _ _ _ (D.refsL ds ++ []) _ = _
    rw [h, List.append_nil, reach_nil, List.nil_append]
  have hlt : S.length + a.length < (S ++ a ++ Cell.lst ds :: c).length := by simp
  have hS : (S ++ a ++ Cell.lst ds :: c).take S.length = S := by simp
  have e1 : chg S (S ++ a ++ Cell.lst ds :: c) = [] := by rw [List.append_assoc]; exact chg_app _ _
  rw [fin_gen (d := .ref (S.length + a.length)) (L := [S.length + a.length]) e1 (fun f => by rw [List.append_assoc, keepE_app]; simp) (by simp) hr ?_]
  · rw [hS]
    simp only [List.filterMap_cons, hg, Option.map_some, List.filterMap_nil, D.ren, Cell.ren]
    rw [D.renL_id ds fun n hn => by rw [h] at hn; cases hn]
    simp [renOf]
    omega
  · unfold keepC
    simp only [List.flatMap_cons, List.flatMap_nil, hg, Cell.refs, h, D.refs]
    simp
theorem fin_at {ds : List D} {cs : List Cell} {i : Nat} (hc : cs[i]? = some (.lst ds)) (h : D.refsL ds = []) : fin S (.ref (S.length + i)) (S ++ cs) = .ok (.ref S.length) (S ++ [.lst ds]) := by
  have hi := (List.getElem?_eq_some_iff.mp hc).1
  have e := fin_list (S := S) (a := cs.take i) (c := cs.drop (i + 1)) h
  have e2 : cs.take i ++ Cell.lst ds :: cs.drop (i + 1) = cs := by
    rw [show Cell.lst ds = cs[i] from (List.getElem?_eq_some_iff.mp hc).2.symm, List.getElem_cons_drop, List.take_append_drop]
  rw [List.append_assoc, e2, List.length_take, Nat.min_eq_left (by omega)] at e
  exact e
theorem set_same {α : Type} {l : List α} {n : Nat} {c : α} (h : l[n]? = some c) : l.set n c = l := by
  apply List.ext_getElem?
  intro i
  by_cases hi : n = i
  · subst hi
    rw [List.getElem?_set_self (List.getElem?_eq_some_iff.mp h).1, h]
  · rw [List.getElem?_set_ne hi]
/-! ### loops -/
theorem forL_inv {ck : Store → Bool} {f : D → Env → Store → O} (I : Nat → Env → Store → Prop) : ∀ (ds : List D) (i : Nat) (ρ : Env) (S : Store), I i ρ S →
    (∀ j ρ S, I j ρ S → ck S = true) → (∀ (j : Nat) x ρ S, ds[j]? = some x → I (i + j) ρ S → ∃ ρ' S', f x ρ S = .nx ρ' S' ∧ I (i + j + 1) ρ' S') →
    ∃ ρ' S', forL ck f ds ρ S = .nx ρ' S' ∧ I (i + ds.length) ρ' S'
  | [], i, ρ, S, h0, hck, _ => ⟨ρ, S, by simp only [forL, hck i ρ S h0, cond_true], h0⟩
  | x :: ds, i, ρ, S, h0, hck, step => by
    obtain ⟨ρ1, S1, e1, h1⟩ := step 0 x ρ S rfl h0
    obtain ⟨ρ2, S2, e2, h2⟩ := forL_inv I ds (i + 1) ρ1 S1 h1 hck fun j y ρ S hj hI => by
      have := step (j + 1) y ρ S (by simpa using hj) (by rw [show i + (j + 1) = i + 1 + j by omega]; exact hI)
      rwa [show i + (j + 1) + 1 = i + 1 + j + 1 by omega] at this
    refine ⟨ρ2, S2, ?_, by rw [show i + (x :: ds).length = i + 1 + ds.length by simp; omega]; exact h2⟩
    simp only [forL, hck i ρ S h0, cond_true, e1]
    exact e2
/-- over the whole list -/
theorem for_inv {ck : Store → Bool} {f : D → Env → Store → O} {ds : List D} (I : Nat → Env → Store → Prop) (h0 : I 0 ρ S) (hck : ∀ j ρ S, I j ρ S → ck S = true)
    (step : ∀ (j : Nat) x ρ S, ds[j]? = some x → I j ρ S → ∃ ρ' S', f x ρ S = .nx ρ' S' ∧ I (j + 1) ρ' S') : ∃ ρ' S', forL ck f ds ρ S = .nx ρ' S' ∧ I ds.length ρ' S' := by
  obtain ⟨ρ', S', e, h⟩ := forL_inv I ds 0 ρ S h0 hck fun j x ρ S hj hI => by
    rw [Nat.zero_add] at hI ⊢
    exact step j x ρ S hj hI
  rw [Nat.zero_add] at h
  exact ⟨ρ', S', e, h⟩
/-- a loop that may end with an answer -/
theorem for_ret {ck : Store → Bool} {f : D → Env → Store → O} {r : D} (p : D → Bool) (I : Env → Store → Prop) (J : Store → Prop) : ∀ (ds : List D) (ρ : Env) (S : Store), I ρ S → (∀ ρ S, I ρ S → ck S = true) →
    (∀ x ∈ ds, ∀ ρ S, I ρ S → (p x = false ∧ ∃ ρ' S', f x ρ S = .nx ρ' S' ∧ I ρ' S') ∨ (p x = true ∧ ∃ S', f x ρ S = .ret r S' ∧ J S')) →
    (ds.any p = false ∧ ∃ ρ' S', forL ck f ds ρ S = .nx ρ' S' ∧ I ρ' S') ∨ (ds.any p = true ∧ ∃ S', forL ck f ds ρ S = .ret r S' ∧ J S')
  | [], ρ, S, h0, hck, _ => .inl ⟨rfl, ρ, S, by simp only [forL, hck ρ S h0, cond_true], h0⟩
  | x :: ds, ρ, S, h0, hck, step => by
    rcases step x List.mem_cons_self ρ S h0 with ⟨hp, ρ1, S1, e1, h1⟩ | ⟨hp, S1, e1, h1⟩
    · rcases for_ret p I J ds ρ1 S1 h1 hck fun y hy => step y (List.mem_cons_of_mem _ hy) with ⟨h2, ρ2, S2, e2, h3⟩ | ⟨h2, S2, e2, h3⟩
      · refine .inl ⟨by simp [hp, h2], ρ2, S2, ?_, h3⟩
        simp only [forL, hck ρ S h0, cond_true, e1]
        exact e2
      · refine .inr ⟨by simp [h2], S2, ?_, h3⟩
        simp only [forL, hck ρ S h0, cond_true, e1]
        exact e2
    · refine .inr ⟨by simp [hp], S1, ?_, h1⟩
      simp only [forL, hck ρ S h0, cond_true, e1]
theorem rng_at {lo : Int} {n j : Nat} {x : D} (h : (rngD lo n)[j]? = some x) : j < n ∧ x = .int (lo + j) := by
  unfold rngD at h
  rw [List.getElem?_map] at h
  cases e : (List.range n)[j]? with
  | none => rw [e] at h; cases h
  | some k =>
    rw [e] at h
    cases h
    have hi := (List.getElem?_eq_some_iff.mp e).1
    rw [List.length_range] at hi
    rw [List.getElem?_range hi] at e
    cases e
    exact ⟨hi, rfl⟩
@[simp] theorem rng_len {lo : Int} {n : Nat} : (rngD lo n).length = n := by simp [rngD]
/-- a comprehension whose elements change nothing -/
theorem lcL_pure {n : Nat} {ck : Store → Bool} {f : D → Store → R (Option D)} {g : D → Option D} : ∀ (ds : List D) (acc : List D) (S : Store), S[n]? = some (.lst acc) → acc.length + ds.length ≤ 1000000 →
    (∀ acc', ck (S.set n (.lst acc')) = true) → (∀ x ∈ ds, ∀ acc', f x (S.set n (.lst acc')) = .ok (g x) (S.set n (.lst acc'))) → lcL n ck f ds S = .ok () (S.set n (.lst (acc ++ ds.filterMap g)))
  | [], acc, S, hS, _, hck, _ => by
    have e : S.set n (.lst acc) = S := by
      apply List.ext_getElem?
      intro i
      by_cases hi : n = i
      · subst hi
        rw [List.getElem?_set_self (List.getElem?_eq_some_iff.mp hS).1, hS]
      · rw [List.getElem?_set_ne hi]
    have h1 := hck acc
    rw [e] at h1
    simp only [lcL, h1, cond_true, List.filterMap_nil, List.append_nil, e]
  | x :: ds, acc, S, hS, hl, hck, hf => by
    have hn := (List.getElem?_eq_some_iff.mp hS).1
    have e : S.set n (.lst acc) = S := by
      apply List.ext_getElem?
      intro i
      by_cases hi : n = i
      · subst hi
        rw [List.getElem?_set_self hn, hS]
      · rw [List.getElem?_set_ne hi]
    have h1 := hck acc
    have h2 := hf x List.mem_cons_self acc
    rw [e] at h1 h2
    simp only [lcL, h1, cond_true, h2]
    have hl' : acc.length + ds.length + 1 ≤ 1000000 := by simpa [Nat.add_assoc] using hl
    cases hg : g x with
    | none =>
      simp only
      rw [lcL_pure ds acc S hS (by omega) hck fun y hy => hf y (List.mem_cons_of_mem _ hy), List.filterMap_cons, hg]
    | some d =>
      simp only [hS]
      rw [if_pos (by show acc.length < linesz; unfold linesz; omega)]
      rw [lcL_pure ds (acc ++ [d]) (S.set n (.lst (acc ++ [d]))) (by rw [List.getElem?_set_self hn]) (by simp; omega) (fun acc' => by rw [List.set_set]; exact hck acc') fun y hy acc' => by rw [List.set_set]; exact hf y (List.mem_cons_of_mem _ hy) acc']
      rw [List.set_set, List.filterMap_cons, hg]
      simp
/-- [.. for x in xs] where nothing is changed -/
theorem lc_pure {own : List Nat} {tg : E} {cond : Env → Store → R Bool} {elt : Env → Store → R D} {it : It} {g : D → Option D} (hl : it.ds.length ≤ 1000000) (hck : ∀ c, ckS it.lk (S ++ [c]) = true)
    (hf : ∀ x ∈ it.ds, ∀ c, lcF own tg cond elt ρ x (S ++ [c]) = .ok (g x) (S ++ [c])) : lcR own tg cond elt ρ it S = .ok (.ref S.length) (S ++ [.lst (it.ds.filterMap g)]) := by
  unfold lcR
  have h := lcL_pure (n := S.length) (ck := ckS it.lk) (f := lcF own tg cond elt ρ) (g := g) it.ds [] (S ++ [Cell.lst []]) (by simp) (by simpa using hl) (fun acc' => by rw [set0]; exact hck _) (fun x hx acc' => by rw [set0]; exact hf x hx _)
  rw [h]
  simp
/-! ### lists of numbers compared; items of a list; all, any -/
theorem toPys_ints {rf : Nat → Option PyData} : ∀ xs : List Int, toPysW rf (xs.map D.int) = some (xs.map PyData.int)
  | [] => rfl
  | x :: xs => by simp only [List.map_cons, toPysW, toPyW, toPys_ints xs]
theorem can_ints : ∀ xs : List Int, PyData.canLayAll0 (xs.map PyData.int) = true
  | [] => by simp [PyData.canLayAll0]
  | x :: xs => by simp [PyData.canLayAll0, PyData.canLay0, can_ints xs]
theorem depth_ints : ∀ xs : List Int, PyData.depthAll (xs.map PyData.int) ≤ 1
  | [] => by simp [PyData.depthAll]
  | x :: xs => by
    have := depth_ints xs
    simp only [List.map_cons, PyData.depthAll, PyData.depth]
    omega
theorem shaped_ints (xs : List Int) : SeqAt.shaped (.list (xs.map PyData.int)) = true := by
  have := depth_ints xs
  simp only [SeqAt.shaped, PyData.canLay0, can_ints, PyData.depth, Bool.true_and]
  exact decide_eq_true (by omega)
theorem shaped_intsT (xs : List Int) : SeqAt.shaped (.tuple (xs.map PyData.int)) = true := by
  have := depth_ints xs
  simp only [SeqAt.shaped, PyData.canLay0, can_ints, PyData.depth, Bool.true_and]
  exact decide_eq_true (by omega)
theorem eqv_ints : ∀ xs ys : List Int, PyData.eqvAll (xs.map PyData.int) (ys.map PyData.int) = decide (xs = ys)
  | [], [] => by simp [PyData.eqvAll]
  | [], y :: ys => by simp [PyData.eqvAll]
  | x :: xs, [] => by simp [PyData.eqvAll]
  | x :: xs, y :: ys => by
    simp only [List.map_cons, PyData.eqvAll, PyData.eqv, eqv_ints xs ys, List.cons.injEq]
    by_cases h : x = y <;> by_cases h2 : xs = ys <;> simp [h, h2]
theorem eqD_of {x y : D} {b : Bool} (h : eqD0 S x y = some b) : eqD S x y = some b := by unfold eqD; rw [h]
theorem eq_lists {m n : Nat} {xs ys : List Int} (h1 : S[m]? = some (.lst (xs.map D.int))) (h2 : S[n]? = some (.lst (ys.map D.int))) : eqD S (.ref m) (.ref n) = some (decide (xs = ys)) := by
  have e1 : toPy S (.ref m) = some (.list (xs.map PyData.int)) := by simp [toPy, toPyW, toPyN, h1, toPys_ints]
  have e2 : toPy S (.ref n) = some (.list (ys.map PyData.int)) := by simp [toPy, toPyW, toPyN, h2, toPys_ints]
  refine eqD_of ?_
  unfold eqD0
  simp only [e1, e2, shaped_ints, Bool.and_self, if_true, PyData.eqv, eqv_ints]
theorem eq_tups (xs ys : List Int) : eqD S (.tup (xs.map D.int)) (.tup (ys.map D.int)) = some (decide (xs = ys)) := by
  have e1 : toPy S (.tup (xs.map D.int)) = some (.tuple (xs.map PyData.int)) := by simp [toPy, toPyW, toPys_ints]
  have e2 : toPy S (.tup (ys.map D.int)) = some (.tuple (ys.map PyData.int)) := by simp [toPy, toPyW, toPys_ints]
  refine eqD_of ?_
  unfold eqD0
  simp only [e1, e2, shaped_intsT, Bool.and_self, if_true, PyData.eqv, eqv_ints]
theorem cR_ne_lists {m n : Nat} {xs ys : List Int} (h1 : S[m]? = some (.lst (xs.map D.int))) (h2 : S[n]? = some (.lst (ys.map D.int))) : cmpR .ne (.ref m) (.ref n) S = .ok (.bl (!decide (xs = ys))) S := by
  simp [cmpR, cmp2, eq_lists h1 h2]
theorem cT_ne_lists {m n : Nat} {xs ys : List Int} (h1 : S[m]? = some (.lst (xs.map D.int))) (h2 : S[n]? = some (.lst (ys.map D.int))) : cmpT .ne (.ref m) (.ref n) S = .ok (!decide (xs = ys)) S := by
  simp [cmpT, cmp2, eq_lists h1 h2]
theorem cT_eq_lists {m n : Nat} {xs ys : List Int} (h1 : S[m]? = some (.lst (xs.map D.int))) (h2 : S[n]? = some (.lst (ys.map D.int))) : cmpT .eq (.ref m) (.ref n) S = .ok (decide (xs = ys)) S := by
  simp [cmpT, cmp2, eq_lists h1 h2]
/-- an item at a place within -/
theorem at_mem {ds : List D} {i : Int} (h0 : 0 ≤ i) (h1 : i < ds.length) : ∃ d ∈ ds, ∀ S, atR ds i S = .ok d S := by
  have h : i.toNat < ds.length := by omega
  exact ⟨ds[i.toNat], List.getElem_mem h, fun S => atR_int h0 (List.getElem?_eq_getElem h)⟩
theorem at_int {xs : List Int} {i : Int} (h0 : 0 ≤ i) (h1 : i < xs.length) : ∃ x ∈ xs, ∀ S, atR (xs.map D.int) i S = .ok (.int x) S := by
  obtain ⟨d, hd, h⟩ := at_mem (ds := xs.map D.int) h0 (by simpa using h1)
  obtain ⟨x, hx, rfl⟩ := List.mem_map.mp hd
  exact ⟨x, hx, h⟩
theorem bls_map : ∀ bs : List Bool, blsD (bs.map D.bl) = some bs
  | [] => rfl
  | b :: bs => by simp [blsD, bls_map bs]
theorem all_lst {n : Nat} {bs : List Bool} (h : S[n]? = some (.lst (bs.map D.bl))) : biD .all [.ref n] S = .ok (.bl (bs.all id)) S := by
  simp [biD, seqD, h, bls_map]
theorem any_lst {n : Nat} {bs : List Bool} (h : S[n]? = some (.lst (bs.map D.bl))) : biD .any [.ref n] S = .ok (.bl (bs.any id)) S := by
  simp [biD, seqD, h, bls_map]
/-- all([f(x) for x in xs]) of a test that changes nothing -/
theorem all_lc {f i : Nat} {src : E} {ds : List D} {p : D → Bool} (hi : i < ρ.length) (hs : itr P src ρ S = .ok ⟨ds, none⟩ S) (hl : ds.length ≤ 1000000) (hp : ∀ d ∈ ds, ∀ S, P f [d] S = .ok (.bl (p d)) S) :
    ev P (.bi .all (.cons (.lc [i] (.var i) src (.bl true) (.call f (.cons (.var i) .nil))) .nil)) ρ S = .ok (.bl (ds.all p)) (S ++ [.lst (ds.map fun d => .bl (p d))]) := by
  have e := lc_pure (ρ := ρ) (S := S) (own := [i]) (tg := .var i) (cond := tst P (.bl true)) (elt := ev P (.call f (.cons (.var i) .nil))) (it := ⟨ds, none⟩) (g := fun d => some (.bl (p d))) hl (fun _ => rfl) (fun x hx c => by
    have hv : varR i ((ρ.set i none).set i (some x)) (S ++ [c]) = .ok x (S ++ [c]) := by
      simp [varR, hi]
    simp only [lcF, asgT, wipeE]
    rw [tst_bl, bind_ok, cond_true, ev_call, evs_cons, ev_var, hv]
    simp only [bind_ok, evs_nil, hp x hx])
  rw [ev_bi, evs_cons, ev_lc, hs, bind_ok, e]
  simp only [bind_ok, evs_nil]
  have e2 : ds.filterMap (fun d => some (D.bl (p d))) = (ds.map p).map D.bl := by
    rw [List.filterMap_eq_map', List.map_map]; rfl
  rw [e2, all_lst (bs := ds.map p) (by simp)]
  simp [List.all_map, Function.comp_def]
theorem sIx_neg {n d k : Nat} (hk : k ≤ n) (h0 : 0 < k) : HT.sIx n d (some (-(k : Int))) = n - k := by
  unfold HT.sIx
  simp only
  split <;> omega
theorem cut_hi {xs : List D} {k : Nat} (hk : k ≤ xs.length) (h0 : 0 < k) : cutD xs none (some (-(k : Int))) = xs.take (xs.length - k) := by
  unfold cutD
  rw [sIx_neg hk h0, show HT.sIx xs.length 0 none = 0 from rfl, Nat.sub_zero, List.drop_zero]
theorem cut_lo {xs : List D} {k : Nat} (hk : k ≤ xs.length) (h0 : 0 < k) : cutD xs (some (-(k : Int))) none = xs.drop (xs.length - k) := by
  unfold cutD
  rw [sIx_neg hk h0, show HT.sIx xs.length xs.length none = xs.length from rfl]
  exact List.take_of_length_le (by simp)
theorem cut_to' (xs : List D) (k : Nat) : cutD xs none (some (k : Int)) = xs.take k := by
  unfold cutD
  have h1 : HT.sIx xs.length 0 none = 0 := rfl
  have h2 : HT.sIx xs.length xs.length (some (k : Int)) = min k xs.length := HT.sIx_nat _ _ k
  rw [h1, h2, Nat.sub_zero, List.drop_zero]
  by_cases hk : k ≤ xs.length
  · rw [Nat.min_eq_left hk]
  · rw [Nat.min_eq_right (by omega), List.take_of_length_le (by omega : xs.length ≤ k), List.take_length]
theorem cut_from (xs : List D) (k : Nat) : cutD xs (some (k : Int)) none = xs.drop k := by
  unfold cutD
  rw [HT.sIx_nat, show HT.sIx xs.length xs.length none = xs.length from rfl]
  by_cases hk : k ≤ xs.length
  · rw [Nat.min_eq_left hk]
    exact List.take_of_length_le (by simp)
  · rw [Nat.min_eq_right (by omega), List.drop_of_length_le (by omega : xs.length ≤ k), List.drop_length]
    simp
theorem cut_mid {xs : List D} {j k : Nat} (hk : j + k ≤ xs.length) (h0 : 0 < k) : cutD xs (some (j : Int)) (some (-(k : Int))) = (xs.drop j).take (xs.length - k - j) := by
  unfold cutD
  rw [HT.sIx_nat, sIx_neg (by omega) h0, Nat.min_eq_left (by omega)]
theorem at_neg {xs : List D} {k : Nat} {d : D} (h0 : 0 < k) (hk : k ≤ xs.length) (h : xs[xs.length - k]? = some d) : atR xs (-(k : Int)) S = .ok d S := by
  refine atR_some ?_
  unfold L2.atI L2.ixN
  rw [if_neg (by omega), if_pos (by omega)]
  show xs[(-(k : Int) + xs.length).toNat]? = some d
  rw [show (-(k : Int) + xs.length).toNat = xs.length - k by omega]
  exact h
end
end Ng

set_option Elab.async false
set_option linter.all false
set_option maxRecDepth 100000
/-! Data without cells: ==; loops that end at the first. -/
namespace Ng
open PySem
/-! ### is, isinstance -/
@[simp] theorem cT_isN_tup {S : Store} (ds : List D) : cmpT .is (.tup ds) .non S = .ok false S := ng rfl
@[simp] theorem cR_isN_tup {S : Store} (ds : List D) : cmpR .is (.tup ds) .non S = .ok (.bl false) S := ng rfl
@[simp] theorem cT_inN_tup {S : Store} (ds : List D) : cmpT .isnot (.tup ds) .non S = .ok true S := ng rfl
@[simp] theorem cR_inN_tup {S : Store} (ds : List D) : cmpR .isnot (.tup ds) .non S = .ok (.bl true) S := ng rfl
@[simp] theorem cT_isN_non {S : Store} : cmpT .is .non .non S = .ok true S := ng rfl
@[simp] theorem cR_isN_non {S : Store} : cmpR .is .non .non S = .ok (.bl true) S := ng rfl
@[simp] theorem cT_inN_non {S : Store} : cmpT .isnot .non .non S = .ok false S := ng rfl
@[simp] theorem cR_inN_non {S : Store} : cmpR .isnot .non .non S = .ok (.bl false) S := ng rfl
@[simp] theorem cT_isN_int {S : Store} (i : Int) : cmpT .is (.int i) .non S = .ok false S := ng rfl
@[simp] theorem cR_isN_int {S : Store} (i : Int) : cmpR .is (.int i) .non S = .ok (.bl false) S := ng rfl
@[simp] theorem cT_inN_int {S : Store} (i : Int) : cmpT .isnot (.int i) .non S = .ok true S := ng rfl
@[simp] theorem cR_inN_int {S : Store} (i : Int) : cmpR .isnot (.int i) .non S = .ok (.bl true) S := ng rfl
@[simp] theorem cT_isN_str {S : Store} (x : Str) : cmpT .is (.str x) .non S = .ok false S := ng rfl
@[simp] theorem cR_isN_str {S : Store} (x : Str) : cmpR .is (.str x) .non S = .ok (.bl false) S := ng rfl
@[simp] theorem cT_inN_str {S : Store} (x : Str) : cmpT .isnot (.str x) .non S = .ok true S := ng rfl
@[simp] theorem cR_inN_str {S : Store} (x : Str) : cmpR .isnot (.str x) .non S = .ok (.bl true) S := ng rfl
@[simp] theorem cT_isN_ref {S : Store} (n : Nat) : cmpT .is (.ref n) .non S = .ok false S := ng rfl
@[simp] theorem cR_isN_ref {S : Store} (n : Nat) : cmpR .is (.ref n) .non S = .ok (.bl false) S := ng rfl
@[simp] theorem cT_inN_ref {S : Store} (n : Nat) : cmpT .isnot (.ref n) .non S = .ok true S := ng rfl
@[simp] theorem cR_inN_ref {S : Store} (n : Nat) : cmpR .isnot (.ref n) .non S = .ok (.bl true) S := ng rfl
@[simp] theorem cT_isN_bl {S : Store} (b : Bool) : cmpT .is (.bl b) .non S = .ok false S := ng rfl
@[simp] theorem cR_isN_bl {S : Store} (b : Bool) : cmpR .is (.bl b) .non S = .ok (.bl false) S := ng rfl
@[simp] theorem cT_inN_bl {S : Store} (b : Bool) : cmpT .isnot (.bl b) .non S = .ok true S := ng rfl
@[simp] theorem cR_inN_bl {S : Store} (b : Bool) : cmpR .isnot (.bl b) .non S = .ok (.bl true) S := ng rfl
@[simp] theorem cT_isB {S : Store} (a b : Bool) : cmpT .is (.bl a) (.bl b) S = .ok (decide (a = b)) S := ng rfl
@[simp] theorem cT_inB {S : Store} (a b : Bool) : cmpT .isnot (.bl a) (.bl b) S = .ok (!decide (a = b)) S := ng rfl
@[simp] theorem cR_isB {S : Store} (a b : Bool) : cmpR .is (.bl a) (.bl b) S = .ok (.bl (decide (a = b))) S := ng rfl
@[simp] theorem isi_int_int {S : Store} (i : Int) : isiR [.int] (.int i) S = .ok (.bl true) S := ng rfl
@[simp] theorem isi_int_bool {S : Store} (i : Int) : isiR [.bool] (.int i) S = .ok (.bl false) S := ng rfl
@[simp] theorem isi_int_str {S : Store} (i : Int) : isiR [.str] (.int i) S = .ok (.bl false) S := ng rfl
@[simp] theorem isi_int_tuple {S : Store} (i : Int) : isiR [.tuple] (.int i) S = .ok (.bl false) S := ng rfl
@[simp] theorem isi_int_list {S : Store} (i : Int) : isiR [.list] (.int i) S = .ok (.bl false) S := ng rfl
@[simp] theorem isi_int_dict {S : Store} (i : Int) : isiR [.dict] (.int i) S = .ok (.bl false) S := ng rfl
@[simp] theorem isi_str_int {S : Store} (x : Str) : isiR [.int] (.str x) S = .ok (.bl false) S := ng rfl
@[simp] theorem isi_str_bool {S : Store} (x : Str) : isiR [.bool] (.str x) S = .ok (.bl false) S := ng rfl
@[simp] theorem isi_str_str {S : Store} (x : Str) : isiR [.str] (.str x) S = .ok (.bl true) S := ng rfl
@[simp] theorem isi_str_tuple {S : Store} (x : Str) : isiR [.tuple] (.str x) S = .ok (.bl false) S := ng rfl
@[simp] theorem isi_str_list {S : Store} (x : Str) : isiR [.list] (.str x) S = .ok (.bl false) S := ng rfl
@[simp] theorem isi_str_dict {S : Store} (x : Str) : isiR [.dict] (.str x) S = .ok (.bl false) S := ng rfl
@[simp] theorem isi_tup_int {S : Store} (ds : List D) : isiR [.int] (.tup ds) S = .ok (.bl false) S := ng rfl
@[simp] theorem isi_tup_bool {S : Store} (ds : List D) : isiR [.bool] (.tup ds) S = .ok (.bl false) S := ng rfl
@[simp] theorem isi_tup_str {S : Store} (ds : List D) : isiR [.str] (.tup ds) S = .ok (.bl false) S := ng rfl
@[simp] theorem isi_tup_tuple {S : Store} (ds : List D) : isiR [.tuple] (.tup ds) S = .ok (.bl true) S := ng rfl
@[simp] theorem isi_tup_list {S : Store} (ds : List D) : isiR [.list] (.tup ds) S = .ok (.bl false) S := ng rfl
@[simp] theorem isi_tup_dict {S : Store} (ds : List D) : isiR [.dict] (.tup ds) S = .ok (.bl false) S := ng rfl
@[simp] theorem isi_non_int {S : Store} : isiR [.int] .non S = .ok (.bl false) S := ng rfl
@[simp] theorem isi_non_bool {S : Store} : isiR [.bool] .non S = .ok (.bl false) S := ng rfl
@[simp] theorem isi_non_str {S : Store} : isiR [.str] .non S = .ok (.bl false) S := ng rfl
@[simp] theorem isi_non_tuple {S : Store} : isiR [.tuple] .non S = .ok (.bl false) S := ng rfl
@[simp] theorem isi_non_list {S : Store} : isiR [.list] .non S = .ok (.bl false) S := ng rfl
@[simp] theorem isi_non_dict {S : Store} : isiR [.dict] .non S = .ok (.bl false) S := ng rfl
@[simp] theorem isi_bl_int {S : Store} (b : Bool) : isiR [.int] (.bl b) S = .ok (.bl true) S := ng rfl
@[simp] theorem isi_bl_bool {S : Store} (b : Bool) : isiR [.bool] (.bl b) S = .ok (.bl true) S := ng rfl
@[simp] theorem isi_bl_str {S : Store} (b : Bool) : isiR [.str] (.bl b) S = .ok (.bl false) S := ng rfl
@[simp] theorem isi_bl_tuple {S : Store} (b : Bool) : isiR [.tuple] (.bl b) S = .ok (.bl false) S := ng rfl
@[simp] theorem isi_bl_list {S : Store} (b : Bool) : isiR [.list] (.bl b) S = .ok (.bl false) S := ng rfl
@[simp] theorem isi_bl_dict {S : Store} (b : Bool) : isiR [.dict] (.bl b) S = .ok (.bl false) S := ng rfl
@[simp] theorem isi_lst {S : Store} {n : Nat} {ds : List D} (h : S[n]? = some (.lst ds)) (t : Ty) : isiR [t] (.ref n) S = .ok (.bl (t == .list)) S := by simp [isiR, isTys, isTy, h]
/-! ### texts, «in», items at written places -/
theorem chr_inj {a b : Char} (h : a.toNat = b.toNat) : a = b := Char.ext (UInt32.toNat_inj.mp h)
theorem map_inj' {α β : Type} {f : α → β} (hf : ∀ a b, f a = f b → a = b) : ∀ {xs ys : List α}, xs.map f = ys.map f → xs = ys
  | [], [], _ => rfl
  | [], _ :: _, h => by simp at h
  | _ :: _, [], h => by simp at h
  | x :: xs, y :: ys, h => by
    simp only [List.map_cons, List.cons.injEq] at h
    rw [hf _ _ h.1, map_inj' hf h.2]
@[simp] theorem ofStr_inj (a b : String) : (Str.ofString a = Str.ofString b) = (a = b) := by
  apply propext
  constructor
  · intro h
    have h2 := congrArg (fun s : Str => s.cps.toList) h
    simp only [Str.ofString_eq_toList] at h2
    exact String.toList_inj.mp (map_inj' (fun a b => chr_inj) h2)
  · intro h; rw [h]
@[simp] theorem cT_in {S : Store} (x ds) (h : (flatD x && ds.all flatD) = true) : cmpT .in_ x (.tup ds) S = .ok (inF x ds) S := by simp [cmpT, cmp2, h]
@[simp] theorem cT_notin {S : Store} (x ds) (h : (flatD x && ds.all flatD) = true) : cmpT .notin x (.tup ds) S = .ok (!inF x ds) S := by simp [cmpT, cmp2, h]
@[simp] theorem cR_in {S : Store} (x ds) (h : (flatD x && ds.all flatD) = true) : cmpR .in_ x (.tup ds) S = .ok (.bl (inF x ds)) S := by simp [cmpR, cmp2, h]
@[simp] theorem cT_inl {S : Store} (x ds) {n : Nat} (hS : S[n]? = some (.lst ds)) (h : (flatD x && ds.all flatD) = true) : cmpT .in_ x (.ref n) S = .ok (inF x ds) S := by simp [cmpT, cmp2, hS, h]
@[simp] theorem inF_nil (x : D) : inF x [] = false := ng rfl
@[simp] theorem inF_cons (x y : D) (ys : List D) : inF x (y :: ys) = (eqF y x || inF x ys) := ng rfl
@[simp] theorem eqF_str (x y : Str) : eqF (.str x) (.str y) = decide (x = y) := ng rfl
@[simp] theorem eqF_int (x y : Int) : eqF (.int x) (.int y) = (x == y) := ng rfl
/-- an item at a written place -/
@[simp] theorem at_lit {ds : List D} {S : Store} (n : Nat) (h : n < ds.length) : atR ds (no_index (OfNat.ofNat n : Int)) S = .ok ds[n] S := by
  exact atR_nat (List.getElem?_eq_getElem h)

mutual
def pyD : D → PyData
  | .non => .none
  | .bl b => .bool b
  | .int i => .int i
  | .str x => .str x
  | .tup ds => .tuple (pyDs ds)
  | .ref _ => .none
  | .exc .. => .none
def pyDs : List D → List PyData
  | [] => []
  | d :: ds => pyD d :: pyDs ds
end
mutual
/-- neither cells nor exceptions -/
def pureD : D → Bool
  | .tup ds => pureDs ds
  | .ref _ => false
  | .exc .. => false
  | .str x => PyData.strOk x
  | _ => true
def pureDs : List D → Bool
  | [] => true
  | d :: ds => pureD d && pureDs ds
end
mutual
/-- nor truth values -/
def nbD : D → Bool
  | .tup ds => nbDs ds
  | .ref _ => false
  | .exc .. => false
  | .bl _ => false
  | .str x => PyData.strOk x
  | _ => true
def nbDs : List D → Bool
  | [] => true
  | d :: ds => nbD d && nbDs ds
end
mutual
def depD : D → Nat
  | .tup ds => depDs ds + 1
  | _ => 0
def depDs : List D → Nat
  | [] => 0
  | d :: ds => max (depD d) (depDs ds)
end
mutual
theorem nb_pure : ∀ {d : D}, nbD d = true → pureD d = true
  | .non, _ => rfl
  | .int _, _ => rfl
  | .str _, h => by simpa [pureD, nbD] using h
  | .tup ds, h => by simp only [pureD]; exact nbs_pure (by simpa [nbD] using h)
  | .bl _, h => by simp [nbD] at h
  | .ref _, h => by simp [nbD] at h
  | .exc .., h => by simp [nbD] at h
theorem nbs_pure : ∀ {ds : List D}, nbDs ds = true → pureDs ds = true
  | [], _ => rfl
  | d :: ds, h => by
    simp only [nbDs, Bool.and_eq_true] at h
    simp only [pureDs, nb_pure h.1, nbs_pure h.2, Bool.and_self]
end
mutual
theorem toPy_pure {rf : Nat → Option PyData} : ∀ {d : D}, pureD d = true → toPyW rf d = some (pyD d)
  | .non, _ => rfl
  | .bl _, _ => rfl
  | .int _, _ => rfl
  | .str _, _ => rfl
  | .tup ds, h => by simp only [toPyW, pyD, toPys_pure (rf := rf) (ds := ds) (by simpa [pureD] using h), Option.map_some]
  | .ref _, h => by simp [pureD] at h
  | .exc .., h => by simp [pureD] at h
theorem toPys_pure {rf : Nat → Option PyData} : ∀ {ds : List D}, pureDs ds = true → toPysW rf ds = some (pyDs ds)
  | [], _ => rfl
  | d :: ds, h => by
    simp only [pureDs, Bool.and_eq_true] at h
    simp only [toPysW, pyDs, toPy_pure (rf := rf) h.1, toPys_pure (rf := rf) h.2]
end
mutual
theorem can_pure : ∀ {d : D}, pureD d = true → (pyD d).canLay0 = true
  | .non, _ => by simp [pyD, PyData.canLay0]
  | .bl _, _ => by simp [pyD, PyData.canLay0]
  | .int _, _ => by simp [pyD, PyData.canLay0]
  | .str _, h => by simpa [pyD, PyData.canLay0, pureD] using h
  | .tup ds, h => by simp only [pyD, PyData.canLay0]; exact cans_pure (by simpa [pureD] using h)
  | .ref _, h => by simp [pureD] at h
  | .exc .., h => by simp [pureD] at h
theorem cans_pure : ∀ {ds : List D}, pureDs ds = true → PyData.canLayAll0 (pyDs ds) = true
  | [], _ => by simp [pyDs, PyData.canLayAll0]
  | d :: ds, h => by
    simp only [pureDs, Bool.and_eq_true] at h
    simp only [pyDs, PyData.canLayAll0, can_pure (d := d) h.1, cans_pure (ds := ds) h.2, Bool.and_self]
end
mutual
theorem dep_pure : ∀ {d : D}, (pyD d).depth = depD d
  | .non => by simp [pyD, PyData.depth, depD]
  | .bl _ => by simp [pyD, PyData.depth, depD]
  | .int _ => by simp [pyD, PyData.depth, depD]
  | .str _ => by simp [pyD, PyData.depth, depD]
  | .tup ds => by simp only [pyD, PyData.depth, depD, deps_pure]
  | .ref _ => by simp [pyD, PyData.depth, depD]
  | .exc .. => by simp [pyD, PyData.depth, depD]
theorem deps_pure : ∀ {ds : List D}, PyData.depthAll (pyDs ds) = depDs ds
  | [] => by simp [pyDs, PyData.depthAll, depDs]
  | d :: ds => by simp only [pyDs, PyData.depthAll, depDs, dep_pure (d := d), deps_pure (ds := ds)]
end
theorem shaped_pure {d : D} (hp : pureD d = true) (h : depD d ≤ 60) : SeqAt.shaped (pyD d) = true := by
  simp only [SeqAt.shaped, can_pure hp, dep_pure, Bool.true_and]
  exact decide_eq_true (by omega)
theorem shapedL_pure {ds : List D} (hp : pureDs ds = true) (h : depDs ds ≤ 60) : SeqAt.shaped (.list (pyDs ds)) = true := by
  simp only [SeqAt.shaped, PyData.canLay0, cans_pure hp, PyData.depth, deps_pure, Bool.true_and]
  exact decide_eq_true (by omega)
/-- == of data -/
def eqvD (x y : D) : Bool := PyData.eqv (pyD x) (pyD y)
def eqvDs (x y : List D) : Bool := PyData.eqvAll (pyDs x) (pyDs y)
theorem eqD_pure {S : Store} {x y : D} (hx : pureD x = true) (hy : pureD y = true) (dx : depD x ≤ 60) (dy : depD y ≤ 60) : eqD S x y = some (eqvD x y) := by
  have e1 : toPy S x = some (pyD x) := toPy_pure hx
  have e2 : toPy S y = some (pyD y) := toPy_pure hy
  refine eqD_of ?_
  unfold eqD0
  split
  · simp [eqvD, pyD, PyData.eqv]; rfl
  · simp [eqvD, pyD, PyData.eqv]
    rename_i a b
    by_cases h : a = b <;> simp [h]
  · simp [eqvD, pyD, PyData.eqv]; rfl
  · simp [eqvD, pyD, PyData.eqv]
  · simp only [e1, e2, shaped_pure hx dx, shaped_pure hy dy, Bool.and_self, if_true, eqvD]
theorem toPy_lst {S : Store} {m : Nat} {xs : List D} (h1 : S[m]? = some (.lst xs)) (hx : pureDs xs = true) : toPy S (.ref m) = some (.list (pyDs xs)) := by
  unfold toPy toPyW toPyN
  rw [h1]
  simp only [toPys_pure (rf := toPyN S 5) hx, Option.map_some]
theorem eqD_lists {S : Store} {m n : Nat} {xs ys : List D} (h1 : S[m]? = some (.lst xs)) (h2 : S[n]? = some (.lst ys)) (hx : pureDs xs = true) (hy : pureDs ys = true) (dx : depDs xs ≤ 60) (dy : depDs ys ≤ 60) :
    eqD S (.ref m) (.ref n) = some (eqvDs xs ys) := by
  refine eqD_of ?_
  unfold eqD0
  simp only [toPy_lst h1 hx, toPy_lst h2 hy, shapedL_pure hx dx, shapedL_pure hy dy, Bool.and_self, if_true, eqvDs, PyData.eqv]
mutual
theorem eqv_refl : ∀ (x : D), eqvD x x = true
  | .non => by simp [eqvD, pyD, PyData.eqv]
  | .bl b => by simp [eqvD, pyD, PyData.eqv]
  | .int i => by simp [eqvD, pyD, PyData.eqv]
  | .str x => by simp [eqvD, pyD, PyData.eqv]
  | .tup ds => by
    have := eqvs_refl ds
    simpa [eqvD, eqvDs, pyD, PyData.eqv] using this
  | .ref _ => by simp [eqvD, pyD, PyData.eqv]
  | .exc .. => by simp [eqvD, pyD, PyData.eqv]
theorem eqvs_refl : ∀ (xs : List D), eqvDs xs xs = true
  | [] => by simp [eqvDs, pyDs, PyData.eqvAll]
  | x :: xs => by
    have h1 := eqv_refl x
    have h2 := eqvs_refl xs
    simp only [eqvD, eqvDs] at h1 h2
    simp only [eqvDs, pyDs, PyData.eqvAll, h1, h2, Bool.and_self]
end
theorem eqv_tup (xs ys : List D) : eqvD (.tup xs) (.tup ys) = eqvDs xs ys := by simp only [eqvD, pyD, PyData.eqv, eqvDs]
theorem eqvs_cons (x y : D) (xs ys : List D) : eqvDs (x :: xs) (y :: ys) = (eqvD x y && eqvDs xs ys) := by simp only [eqvDs, pyDs, PyData.eqvAll, eqvD]
theorem eqvs_nil : eqvDs [] [] = true := by simp [eqvDs, pyDs, PyData.eqvAll]
theorem eqvs_nc (y : D) (ys : List D) : eqvDs [] (y :: ys) = false := by simp [eqvDs, pyDs, PyData.eqvAll]
theorem eqvs_cn (y : D) (ys : List D) : eqvDs (y :: ys) [] = false := by simp [eqvDs, pyDs, PyData.eqvAll]
theorem eqv_int (i j : Int) : eqvD (.int i) (.int j) = decide (i = j) := by simp only [eqvD, pyD, PyData.eqv]; rfl
theorem eqv_str (i j : Str) : eqvD (.str i) (.str j) = decide (i = j) := by
  simp only [eqvD, pyD, PyData.eqv]
  by_cases h : i = j <;> simp [h]
theorem eqv_bl (i j : Bool) : eqvD (.bl i) (.bl j) = decide (i = j) := by simp only [eqvD, pyD, PyData.eqv]; cases i <;> cases j <;> rfl
mutual
theorem eqv_nb : ∀ {x y : D}, nbD x = true → nbD y = true → eqvD x y = decide (x = y)
  | .non, .non, _, _ => by simp [eqvD, pyD, PyData.eqv]
  | .non, .int _, _, _ => by simp [eqvD, pyD, PyData.eqv]
  | .non, .str _, _, _ => by simp [eqvD, pyD, PyData.eqv]
  | .non, .tup _, _, _ => by simp [eqvD, pyD, PyData.eqv]
  | .int _, .non, _, _ => by simp [eqvD, pyD, PyData.eqv]
  | .int i, .int j, _, _ => by rw [eqv_int]; simp
  | .int _, .str _, _, _ => by simp [eqvD, pyD, PyData.eqv]
  | .int _, .tup _, _, _ => by simp [eqvD, pyD, PyData.eqv]
  | .str _, .non, _, _ => by simp [eqvD, pyD, PyData.eqv]
  | .str _, .int _, _, _ => by simp [eqvD, pyD, PyData.eqv]
  | .str i, .str j, _, _ => by rw [eqv_str]; simp
  | .str _, .tup _, _, _ => by simp [eqvD, pyD, PyData.eqv]
  | .tup _, .non, _, _ => by simp [eqvD, pyD, PyData.eqv]
  | .tup _, .int _, _, _ => by simp [eqvD, pyD, PyData.eqv]
  | .tup _, .str _, _, _ => by simp [eqvD, pyD, PyData.eqv]
  | .tup xs, .tup ys, h1, h2 => by
    rw [eqv_tup, eqvs_nb (xs := xs) (ys := ys) (by simpa [nbD] using h1) (by simpa [nbD] using h2)]
    simp
  | .bl _, _, h, _ => by simp [nbD] at h
  | .ref _, _, h, _ => by simp [nbD] at h
  | .exc .., _, h, _ => by simp [nbD] at h
  | _, .bl _, _, h => by simp [nbD] at h
  | _, .ref _, _, h => by simp [nbD] at h
  | _, .exc .., _, h => by simp [nbD] at h
theorem eqvs_nb : ∀ {xs ys : List D}, nbDs xs = true → nbDs ys = true → eqvDs xs ys = decide (xs = ys)
  | [], [], _, _ => by simp [eqvs_nil]
  | [], y :: ys, _, _ => by simp [eqvs_nc]
  | x :: xs, [], _, _ => by simp [eqvs_cn]
  | x :: xs, y :: ys, h1, h2 => by
    simp only [nbDs, Bool.and_eq_true] at h1 h2
    rw [eqvs_cons, eqv_nb h1.1 h2.1, eqvs_nb h1.2 h2.2]
    by_cases e1 : x = y <;> by_cases e2 : xs = ys <;> simp [e1, e2]
end
mutual
theorem pure_refs : ∀ {d : D}, pureD d = true → d.refs = []
  | .non, _ => rfl
  | .bl _, _ => rfl
  | .int _, _ => rfl
  | .str _, _ => rfl
  | .tup ds, h => by simp only [D.refs]; exact pures_refs (by simpa [pureD] using h)
  | .ref _, h => by simp [pureD] at h
  | .exc .., h => by simp [pureD] at h
theorem pures_refs : ∀ {ds : List D}, pureDs ds = true → D.refsL ds = []
  | [], _ => rfl
  | d :: ds, h => by
    simp only [pureDs, Bool.and_eq_true] at h
    simp only [D.refsL, pure_refs h.1, pures_refs h.2, List.append_nil]
end
/-! ### x in xs, xs.index(x) of data without truth values -/
theorem inN_nb {S : Store} {x : D} {xs : List D} (hx : nbD x = true) (hxs : nbDs xs = true) (dx : depD x ≤ 60) (ds : depDs xs ≤ 60) : inN S x xs = some (decide (x ∈ xs)) := by
  have e1 : toPy S x = some (pyD x) := toPy_pure (nb_pure hx)
  unfold inN
  simp only [e1, toPys_pure (rf := toPyN S 6) (nbs_pure hxs), shaped_pure (nb_pure hx) dx, shapedL_pure (nbs_pure hxs) ds, Bool.and_self, if_true, Option.some.injEq]
  clear ds
  induction xs with
  | nil => rfl
  | cons y ys ih =>
    simp only [nbDs, Bool.and_eq_true] at hxs
    have e := eqv_nb hxs.1 hx
    simp only [eqvD] at e
    simp only [pyDs, List.any_cons, e, ih hxs.2, List.mem_cons]
    by_cases h : y = x
    · simp [h]
    · simp [h, Ne.symm h]
theorem indexN_nb {S : Store} {x : D} {xs : List D} (hx : nbD x = true) (hxs : nbDs xs = true) (dx : depD x ≤ 60) (ds : depDs xs ≤ 60) : indexN S x xs = xs.findIdx? (fun y => decide (y = x)) := by
  have e1 : toPy S x = some (pyD x) := toPy_pure (nb_pure hx)
  unfold indexN
  simp only [e1, toPys_pure (rf := toPyN S 6) (nbs_pure hxs), shaped_pure (nb_pure hx) dx, shapedL_pure (nbs_pure hxs) ds, Bool.and_self, if_true]
  clear ds
  induction xs with
  | nil => rfl
  | cons y ys ih =>
    simp only [nbDs, Bool.and_eq_true] at hxs
    have e := eqv_nb hxs.1 hx
    simp only [eqvD] at e
    simp only [pyDs, List.findIdx?_cons, e, ih hxs.2]
/-- the number of a wanted item -/
def isAt (T : List D) (q : D → Bool) : D → Bool
  | .int i => q (T.getD i.toNat .non)
  | _ => false
/-- the first number whose item is the wanted one -/
theorem find_rng {T : List D} {q : D → Bool} : ∀ (n lo : Nat), lo + n = T.length → (rngD lo n).find? (isAt T q) = ((T.drop lo).findIdx? q).map fun j => .int ((lo + j : Nat) : Int)
  | 0, lo, h => by
    rw [List.drop_eq_nil_iff.mpr (by omega)]
    rfl
  | n + 1, lo, h => by
    have hlt : lo < T.length := by omega
    have ih := find_rng (T := T) (q := q) n (lo + 1) (by omega)
    have e : rngD (lo : Int) (n + 1) = .int lo :: rngD ((lo + 1 : Nat) : Int) n := by
      unfold rngD
      rw [List.range_succ_eq_map, List.map_cons, List.map_map]
      simp only [List.cons.injEq]
      refine ⟨by simp, List.map_congr_left fun i _ => ?_⟩
      simp only [Function.comp_apply, D.int.injEq]
      omega
    rw [e, List.drop_eq_getElem_cons hlt, List.find?_cons, List.findIdx?_cons]
    have e2 : T.getD (Int.toNat (lo : Int)) .non = T[lo] := by rw [Int.toNat_natCast, List.getD_eq_getElem?_getD, List.getElem?_eq_getElem hlt]; rfl
    have e3 : isAt T q (.int lo) = q T[lo] := by show q (T.getD (Int.toNat (lo : Int)) .non) = _; rw [e2]
    simp only [e3]
    cases hq : q T[lo] with
    | true => simp
    | false =>
      simp only [ih]
      cases (T.drop (lo + 1)).findIdx? q with
      | none => rfl
      | some j => simp; omega
theorem cT_eqD {S : Store} {x y : D} {b : Bool} (h : eqD S x y = some b) : cmpT .eq x y S = .ok b S := by simp [cmpT, cmp2, h]
theorem cT_neD {S : Store} {x y : D} {b : Bool} (h : eqD S x y = some b) : cmpT .ne x y S = .ok (!b) S := by simp [cmpT, cmp2, h]
theorem cR_eqD {S : Store} {x y : D} {b : Bool} (h : eqD S x y = some b) : cmpR .eq x y S = .ok (.bl b) S := by simp [cmpR, cmp2, h]
theorem cR_neD {S : Store} {x y : D} {b : Bool} (h : eqD S x y = some b) : cmpR .ne x y S = .ok (.bl (!b)) S := by simp [cmpR, cmp2, h]
/-! ### loops -/
theorem rng_at0 {n j : Nat} {x : D} (h : (rngD 0 n)[j]? = some x) : j < n ∧ x = .int j := by
  obtain ⟨h1, h2⟩ := rng_at h
  rw [Int.zero_add] at h2
  exact ⟨h1, h2⟩
/-- a loop that returns at the first item with p -/
theorem for_first {f : D → Env → Store → O} {S : Store} {ck : Store → Bool} {p : D → Bool} {r : D → D} (I : Env → Prop) (hck : ck S = true) : ∀ (ds : List D) (ρ : Env), I ρ →
    (∀ x ∈ ds, ∀ ρ, I ρ → (p x = true ∧ f x ρ S = .ret (r x) S) ∨ (p x = false ∧ ∃ ρ', f x ρ S = .nx ρ' S ∧ I ρ')) →
    (∃ x, ds.find? p = some x ∧ forL ck f ds ρ S = .ret (r x) S) ∨ (ds.find? p = none ∧ ∃ ρ', forL ck f ds ρ S = .nx ρ' S ∧ I ρ')
  | [], ρ, h0, _ => .inr ⟨rfl, ρ, by simp [forL, hck], h0⟩
  | x :: ds, ρ, h0, step => by
    rcases step x List.mem_cons_self ρ h0 with ⟨hp, e⟩ | ⟨hp, ρ', e, h1⟩
    · exact .inl ⟨x, by simp [hp], by simp [forL, hck, e]⟩
    · have ih := for_first I hck ds ρ' h1 fun y hy => step y (List.mem_cons_of_mem _ hy)
      simp only [List.find?_cons, hp, forL, hck, cond_true, e]
      exact ih
end Ng

set_option Elab.async false
set_option linter.all false
set_option maxRecDepth 100000
/-! Comprehensions of two clauses; what is kept behind a call that wrote an elder list. -/
namespace Ng
open PySem
@[simp] theorem ofStr_beq (a b : String) : (Str.ofString a == Str.ofString b) = (a == b) := by
  by_cases h : a = b
  · subst h; simp
  · rw [beq_eq_false_iff_ne.mpr h, beq_eq_false_iff_ne.mpr (fun e => h (by rwa [ofStr_inj] at e))]
theorem lc2_loop {own own2 : List Nat} {tg tg2 : E} {src2 : Env → Store → R It} {elt : Env → Store → R D} {ρ : Env} {S : Store} {lk : Option (Nat × Cell)} {ys : List D} {g : D → D → D} (hy : ys.length ≤ 100) (hck : ∀ c, ckS lk (S ++ [c]) = true) :
    ∀ (ds : List D) (acc : List D), acc.length + ds.length * 100 ≤ 1000000 →
    (∀ x ∈ ds, ∃ ρ2, asgT tg x (wipeE ρ own) = some ρ2 ∧ (∀ c, src2 ρ2 (S ++ [c]) = .ok ⟨ys, none⟩ (S ++ [c])) ∧ ∀ y ∈ ys, ∀ c, lcF own2 tg2 (fun _ S => .ok true S) elt ρ2 y (S ++ [c]) = .ok (some (g x y)) (S ++ [c])) →
    lc2L (ckS lk) (lc2G S.length own own2 tg tg2 src2 elt ρ) ds (S ++ [.lst acc]) = .ok () (S ++ [.lst (acc ++ ds.flatMap fun x => ys.map (g x))])
  | [], acc, _, _ => by simp [lc2L, hck]
  | x :: ds, acc, hl, hf => by
    obtain ⟨ρ2, h1, h2, h3⟩ := hf x List.mem_cons_self
    have hl2 : acc.length + ys.length + ds.length * 100 ≤ 1000000 := by simp at hl; omega
    have e := lcL_pure (n := S.length) (ck := ckS none) (f := lcF own2 tg2 (fun _ S => .ok true S) elt ρ2) (g := fun y => some (g x y)) ys acc (S ++ [.lst acc]) (by simp) (by omega) (fun _ => rfl) (fun y hy acc' => by rw [set0]; exact h3 y hy _)
    have e1 : lc2G S.length own own2 tg tg2 src2 elt ρ x (S ++ [.lst acc]) = .ok () (S ++ [.lst (acc ++ ys.map (g x))]) := by
      unfold lc2G
      rw [h1]
      simp only [lc2F, h2, bind_ok]
      rw [e]
      simp
    have ih := lc2_loop (tg := tg) (tg2 := tg2) (src2 := src2) (elt := elt) (own := own) (own2 := own2) (ρ := ρ) hy hck ds (acc ++ ys.map (g x)) (by simp; omega) fun z hz => hf z (List.mem_cons_of_mem _ hz)
    simp only [lc2L, hck, cond_true, e1, thenU, ih, List.flatMap_cons, List.append_assoc]
theorem lc2_pure {own own2 : List Nat} {tg tg2 : E} {src2 : Env → Store → R It} {elt : Env → Store → R D} {ρ : Env} {S : Store} {it : It} {ys : List D} {g : D → D → D} (hl : it.ds.length ≤ 1000) (hy : ys.length ≤ 100) (hck : ∀ c, ckS it.lk (S ++ [c]) = true)
    (hf : ∀ x ∈ it.ds, ∃ ρ2, asgT tg x (wipeE ρ own) = some ρ2 ∧ (∀ c, src2 ρ2 (S ++ [c]) = .ok ⟨ys, none⟩ (S ++ [c])) ∧ ∀ y ∈ ys, ∀ c, lcF own2 tg2 (fun _ S => .ok true S) elt ρ2 y (S ++ [c]) = .ok (some (g x y)) (S ++ [c])) :
    lc2R own own2 tg tg2 src2 elt ρ it S = .ok (.ref S.length) (S ++ [.lst (it.ds.flatMap fun x => ys.map (g x))]) := by
  unfold lc2R
  rw [lc2_loop hy hck it.ds [] (by simp; omega) hf]
  simp
section
variable {S : Store} {l : List Cell}
theorem fin_genC {S' : Store} {d : D} {L : List Nat} (hc : chg S S' = []) (S1 : Store) (hk : ∀ f, keepE f S S' = S1) (hr : reach S' S.length 100000 d.refs [] = L) (h : keepC S S' d.refs L = true) :
    fin S d S' = .ok (d.ren (renOf S.length L)) (S1 ++ L.filterMap fun n => (S'[n]?).map (Cell.ren (renOf S.length L))) := by
  unfold fin
  simp only [hc, List.append_nil, hr, h, if_true, keepS, hk]
/-- a fresh flat list comes out where an elder flat cell was written -/
theorem fin_at_set {ds : List D} {cs : List Cell} {i p : Nat} {c : Cell} (hc : cs[i]? = some (.lst ds)) (h : D.refsL ds = []) (hp : c.refs = []) : fin S (.ref (S.length + i)) (S.set p c ++ cs) = .ok (.ref S.length) (S.set p c ++ [.lst ds]) := by
  have hi := (List.getElem?_eq_some_iff.mp hc).1
  have hg : (S.set p c ++ cs)[S.length + i]? = some (.lst ds) := by
    have := getk (S := S.set p c) (l := cs) i
    rw [List.length_set] at this
    rw [this, hc]
  have hr : reach (S.set p c ++ cs) S.length 100000 (D.refs (.ref (S.length + i))) [] = [S.length + i] := by
    show reach _ _ _ [S.length + i] [] = _
    rw [show (100000 : Nat) = 99999 + 1 from rfl, reach_step hg (by omega) (by simp)]
    show reach _ _ _ (D.refsL ds ++ []) _ = _
    rw [h, List.append_nil, reach_nil, List.nil_append]
  rw [fin_genC (L := [S.length + i]) (chg_set cs hp) (S.set p c) (fun f => keepE_set cs hp) hr ?_]
  · simp only [List.filterMap_cons, hg, Option.map_some, List.filterMap_nil, D.ren, Cell.ren]
    rw [D.renL_id ds fun n hn => by rw [h] at hn; cases hn]
    simp [renOf]
    omega
  · unfold keepC
    simp only [List.flatMap_cons, List.flatMap_nil, hg, Cell.refs, h, D.refs]
    simp
    omega
end
end Ng

set_option Elab.async false
set_option linter.all false
set_option maxRecDepth 100000
/-! Dicts with tuple keys: rewriting. -/
namespace Ng
open PySem
section
variable {S : Store} {n m : Nat} {kvs a b : List (List Int × D)} {ks : List D} {k : List Int} {d : D} {ρ : Env}
theorem ints_map : ∀ xs : List Int, intsD (xs.map D.int) = some xs
  | [] => rfl
  | x :: xs => by simp [intsD, ints_map xs]
@[simp] theorem key_xy (x y : Int) : intsD [.int x, .int y] = some [x, y] := ng rfl
theorem ddR_ok {ps : List (D × D)} (h : S[n]? = some (.dct [])) (hk : keysI ps = some kvs) : ddR n ps S = .ok (.ref n) (S.set n (.dct (dPuts [] kvs))) := by
  simp only [ddR, h, hk]
theorem rd_of (h : rdC S[n]? = some kvs) : S[n]? = some (.dct kvs) ∨ S[n]? = some (.hid kvs) := by
  unfold rdC at h
  split at h
  · rename_i e; cases h; exact .inl e
  · rename_i e; cases h; exact .inr e
  · cases h
theorem ix_dct (h : S[n]? = some (.dct kvs)) (hk : intsD ks = some k) (hg : dGet kvs k = some d) : ix2 (.ref n) (.tup ks) S = .ok d S := by
  simp only [ix2, h, rdC_dct, hk, hg]
theorem ist_dct (h : S[n]? = some (.dct kvs)) (hk : intsD ks = some k) (hl : kvs.length < linesz) : istO d (.ref n) (.tup ks) ρ S = .nx ρ (S.set n (.dct (dPut kvs k d))) := by
  simp only [istO, h, hk, hl, if_true]
theorem cT_in_dct (h : S[n]? = some (.dct kvs)) (hk : intsD ks = some k) : cmpT .in_ (.tup ks) (.ref n) S = .ok (dGet kvs k).isSome S := by
  simp [cmpT, cmp2, h, keyI, hk]
theorem cT_notin_dct (h : S[n]? = some (.dct kvs)) (hk : intsD ks = some k) : cmpT .notin (.tup ks) (.ref n) S = .ok (!(dGet kvs k).isSome) S := by
  simp [cmpT, cmp2, h, keyI, hk]
theorem isi_dct (h : S[n]? = some (.dct kvs)) (t : Ty) : isTy S t (.ref n) = some (t == .dict) := by simp only [isTy, h]
theorem dGet_cons' {p : List Int × D} {r : List (List Int × D)} {k : List Int} : dGet (p :: r) k = if p.1 = k then some p.2 else dGet r k := by
  unfold dGet
  by_cases h : p.1 = k <;> simp [List.find?_cons, h]
@[simp] theorem dGet_nil {k : List Int} : dGet [] k = none := ng rfl
theorem dGet_app {p q : List (List Int × D)} {k : List Int} : dGet (p ++ q) k = match dGet p k with | some d => some d | none => dGet q k := by
  induction p with
  | nil => rfl
  | cons x p ih =>
    rw [List.cons_append, dGet_cons', dGet_cons', ih]
    by_cases h : x.1 = k
    · rw [if_pos h, if_pos h]
    · rw [if_neg h, if_neg h]
theorem dGet_map {k j : List Int} {d : D} : ∀ {p : List (List Int × D)}, dGet (p.map fun x => if x.1 = k then (x.1, d) else x) j = (dGet p j).map fun y => if j = k then d else y
  | [] => rfl
  | x :: p => by
    rw [List.map_cons, dGet_cons', dGet_cons', dGet_map (p := p)]
    by_cases h : x.1 = k
    · rw [if_pos h]
      by_cases e : x.1 = j
      · rw [if_pos e, if_pos e, Option.map_some, if_pos (e.symm.trans h)]
      · rw [if_neg e, if_neg e]
    · rw [if_neg h]
      by_cases e : x.1 = j
      · rw [if_pos e, if_pos e, Option.map_some, if_neg (fun z => h (e.trans z))]
      · rw [if_neg e, if_neg e]
/-- what stands behind a store -/
theorem dGet_put {j : List Int} : dGet (dPut kvs k d) j = if j = k then some d else dGet kvs j := by
  unfold dPut
  cases h : dGet kvs k with
  | none =>
    simp only [Option.isSome_none, Bool.false_eq_true, if_false]
    rw [dGet_app]
    by_cases e : j = k
    · subst e; rw [h, if_pos rfl]; simp [dGet_cons']
    · rw [if_neg e]
      cases dGet kvs j with
      | some x => rfl
      | none => simp [dGet_cons', Ne.symm e]
  | some x =>
    simp only [Option.isSome_some, if_true]
    rw [dGet_map]
    by_cases e : j = k
    · subst e; rw [h, if_pos rfl]; simp
    · rw [if_neg e]; cases dGet kvs j <;> simp [e]
theorem dPut_new (h : dGet kvs k = none) : dPut kvs k d = kvs ++ [(k, d)] := by unfold dPut; rw [h]; rfl
theorem dPut_length : (dPut kvs k d).length = if (dGet kvs k).isSome then kvs.length else kvs.length + 1 := by
  unfold dPut; split <;> simp
theorem mem_put {p : List Int × D} (h : p ∈ dPut kvs k d) : p ∈ kvs ∨ p = (k, d) := by
  unfold dPut at h
  split at h
  · obtain ⟨q, hq, e⟩ := List.mem_map.mp h
    by_cases z : q.1 = k
    · rw [if_pos z] at e; exact .inr (by rw [← e, z])
    · rw [if_neg z] at e; exact .inl (by rw [← e]; exact hq)
  · rcases List.mem_append.mp h with h | h
    · exact .inl h
    · exact .inr (by simpa using h)
theorem keys_put : (dPut kvs k d).map (·.1) = if (dGet kvs k).isSome then kvs.map (·.1) else kvs.map (·.1) ++ [k] := by
  unfold dPut
  split
  · rw [List.map_map]
    refine List.map_congr_left fun p _ => ?_
    simp only [Function.comp]
    split <;> rfl
  · simp
theorem dGet_none {k : List Int} : dGet kvs k = none ↔ k ∉ kvs.map (·.1) := by
  induction kvs with
  | nil => simp
  | cons p r ih =>
    rw [dGet_cons']
    by_cases h : p.1 = k
    · simp [h]
    · rw [if_neg h, ih]; simp [Ne.symm h]
theorem nodup_put (h : (kvs.map (·.1)).Nodup) : ((dPut kvs k d).map (·.1)).Nodup := by
  rw [keys_put]
  split
  · exact h
  · rename_i z
    have : dGet kvs k = none := by cases e : dGet kvs k <;> simp_all
    rw [List.nodup_append]
    refine ⟨h, by simp, fun x hx y hy => ?_⟩
    simp at hy
    subst hy
    intro e
    subst e
    exact dGet_none.mp this hx
/-- data that may be compared without a doubt -/
def okV (d : D) : Prop := nbD d = true ∧ depD d ≤ 60
theorem eqDp_nb {x y : D} (hx : okV x) (hy : okV y) : eqDp S x y = some (decide (x = y)) := by
  have e1 : toPy S x = some (pyD x) := toPy_pure (nb_pure hx.1)
  have e2 : toPy S y = some (pyD y) := toPy_pure (nb_pure hy.1)
  have e3 := eqv_nb hx.1 hy.1
  simp only [eqvD] at e3
  simp only [eqDp, e1, e2, shaped_pure (nb_pure hx.1) hx.2, shaped_pure (nb_pure hy.1) hy.2, Bool.and_self, if_true, e3]
theorem mem_of_dGet {k : List Int} {d : D} : ∀ {kvs : List (List Int × D)}, dGet kvs k = some d → (k, d) ∈ kvs
  | [], h => by cases h
  | p :: r, h => by
    rw [dGet_cons'] at h
    by_cases e : p.1 = k
    · rw [if_pos e] at h; cases h; subst e; exact List.mem_cons_self
    · rw [if_neg e] at h; exact List.mem_cons_of_mem _ (mem_of_dGet h)
theorem eqKvs_nb (hb : ∀ p ∈ b, okV p.2) : ∀ {a : List (List Int × D)}, (∀ p ∈ a, okV p.2) → ∃ r, eqKvs S b a = some r ∧ (r = true ↔ ∀ p ∈ a, dGet b p.1 = some p.2)
  | [], _ => ⟨true, rfl, by simp⟩
  | (k, d) :: a, ha => by
    obtain ⟨r, e, h⟩ := eqKvs_nb hb (a := a) fun p hp => ha p (List.mem_cons_of_mem _ hp)
    simp only [eqKvs]
    cases hg : dGet b k with
    | none => exact ⟨false, rfl, by simp [hg]⟩
    | some d2 =>
      have o2 := hb _ (mem_of_dGet hg)
      simp only
      rw [eqDp_nb (ha _ List.mem_cons_self) o2, e]
      refine ⟨_, rfl, ?_⟩
      simp only [Bool.and_eq_true, decide_eq_true_eq, h, List.mem_cons, forall_eq_or_imp, hg, Option.some.injEq]
      constructor
      · rintro ⟨rfl, z⟩; exact ⟨rfl, z⟩
      · rintro ⟨z1, z⟩; exact ⟨z1.symm, z⟩
/-- d == e, of dicts whose values are data -/
theorem eq_dctsR (h1 : rdC S[m]? = some a) (h2 : rdC S[n]? = some b) (ha : ∀ p ∈ a, okV p.2) (hb : ∀ p ∈ b, okV p.2) : ∃ r, eqD S (.ref m) (.ref n) = some r ∧ (r = true ↔ a.length = b.length ∧ ∀ p ∈ a, dGet b p.1 = some p.2) := by
  have e0 : eqD0 S (.ref m) (.ref n) = none := by
    unfold eqD0
    rcases rd_of h1 with e1 | e1 <;> rcases rd_of h2 with e2 | e2 <;> simp only [toPy, toPyW, toPyN, e1, e2]
  unfold eqD eqDct
  rw [e0]
  simp only [h1, h2]
  by_cases hl : a.length = b.length
  · obtain ⟨r, e, h⟩ := eqKvs_nb (S := S) hb ha
    exact ⟨r, by rw [if_pos hl, e], by rw [h]; simp [hl]⟩
  · exact ⟨false, by rw [if_neg hl], by simp [hl]⟩
theorem eq_dcts (h1 : S[m]? = some (.dct a)) (h2 : S[n]? = some (.dct b)) (ha : ∀ p ∈ a, okV p.2) (hb : ∀ p ∈ b, okV p.2) : ∃ r, eqD S (.ref m) (.ref n) = some r ∧ (r = true ↔ a.length = b.length ∧ ∀ p ∈ a, dGet b p.1 = some p.2) :=
  eq_dctsR (by rw [h1]; rfl) (by rw [h2]; rfl) ha hb
/-- two dicts that hold the same -/
theorem eq_sameR (h1 : rdC S[m]? = some a) (h2 : rdC S[n]? = some b) (ha : ∀ p ∈ a, okV p.2) (hb : ∀ p ∈ b, okV p.2) (na : (a.map (·.1)).Nodup) (nb : (b.map (·.1)).Nodup) (h : ∀ k, dGet a k = dGet b k) : eqD S (.ref m) (.ref n) = some true := by
  obtain ⟨r, e, hr⟩ := eq_dctsR h1 h2 ha hb
  rw [e, hr.mpr ⟨?_, ?_⟩]
  · have mem : ∀ k, k ∈ a.map (·.1) ↔ k ∈ b.map (·.1) := fun k => by
      have z := h k
      have x1 := (dGet_none (kvs := a) (k := k))
      have x2 := (dGet_none (kvs := b) (k := k))
      rw [z, x2] at x1
      exact Decidable.not_iff_not.mp x1.symm
    have := (List.perm_ext_iff_of_nodup na nb).mpr mem
    simpa using this.length_eq
  · intro p hp
    rw [← h]
    clear h hr e h1 h2 ha hb nb
    induction a with
    | nil => cases hp
    | cons x a ih =>
      rw [List.map_cons, List.nodup_cons] at na
      rw [dGet_cons']
      rcases List.mem_cons.mp hp with rfl | hp
      · rw [if_pos rfl]
      · rw [if_neg (fun z => na.1 (by rw [z]; exact List.mem_map_of_mem hp))]
        exact ih na.2 hp
theorem eq_same (h1 : S[m]? = some (.dct a)) (h2 : S[n]? = some (.dct b)) (ha : ∀ p ∈ a, okV p.2) (hb : ∀ p ∈ b, okV p.2) (na : (a.map (·.1)).Nodup) (nb : (b.map (·.1)).Nodup) (h : ∀ k, dGet a k = dGet b k) : eqD S (.ref m) (.ref n) = some true :=
  eq_sameR (by rw [h1]; rfl) (by rw [h2]; rfl) ha hb na nb h
/-- a cell without references, made in a def and handed out of it -/
theorem fin_cell {x : Cell} {a c : List Cell} (h : x.refs = []) : fin S (.ref (S.length + a.length)) (S ++ a ++ x :: c) = .ok (.ref S.length) (S ++ [x]) := by
  have hg : (S ++ a ++ x :: c)[S.length + a.length]? = some x := by
    rw [List.getElem?_append_right (by simp)]; simp
  have hr : reach (S ++ a ++ x :: c) S.length 100000 [S.length + a.length] [] = [S.length + a.length] := by
    rw [show (100000 : Nat) = 99999 + 1 from rfl, reach_step hg (by omega) (by simp)]
    rw [h, List.append_nil, reach_nil, List.nil_append]
  have hlt : S.length + a.length < (S ++ a ++ x :: c).length := by simp
  have hS : (S ++ a ++ x :: c).take S.length = S := by simp
  have e1 : chg S (S ++ a ++ x :: c) = [] := by rw [List.append_assoc]; exact chg_app _ _
  rw [fin_gen (d := .ref (S.length + a.length)) (L := [S.length + a.length]) e1 (fun f => by rw [List.append_assoc, keepE_app]; simp) (by simp) hr ?_]
  · rw [hS]
    simp only [List.filterMap_cons, hg, Option.map_some, List.filterMap_nil, D.ren]
    rw [Cell.ren_id (fun n hn => by rw [h] at hn; cases hn)]
    simp [renOf]
    omega
  · unfold keepC
    simp only [List.flatMap_cons, List.flatMap_nil, hg, h, D.refs]
    simp
theorem fin_cat {x : Cell} {cs : List Cell} {i : Nat} (hc : cs[i]? = some x) (h : x.refs = []) : fin S (.ref (S.length + i)) (S ++ cs) = .ok (.ref S.length) (S ++ [x]) := by
  have hi := (List.getElem?_eq_some_iff.mp hc).1
  have e := fin_cell (S := S) (a := cs.take i) (c := cs.drop (i + 1)) h
  have e2 : cs.take i ++ x :: cs.drop (i + 1) = cs := by
    rw [show x = cs[i] from (List.getElem?_eq_some_iff.mp hc).2.symm, List.getElem_cons_drop, List.take_append_drop]
  rw [List.append_assoc, e2, List.length_take, Nat.min_eq_left (by omega)] at e
  exact e
theorem dct_refs (h : ∀ p ∈ kvs, okV p.2) : (Cell.dct kvs).refs = [] := by
  simp only [Cell.refs]
  induction kvs with
  | nil => rfl
  | cons p r ih =>
    simp only [List.map_cons, D.refsL, ih fun q hq => h q (List.mem_cons_of_mem _ hq), pure_refs (nb_pure (h p List.mem_cons_self).1), List.append_nil]
end
end Ng

set_option Elab.async false
set_option linter.all false
set_option maxRecDepth 100000
/-! Steps whose ends are found by the rewriting itself: by simp [..]; exact ⟨rfl, rfl⟩. -/
namespace Ng
open PySem
section
variable {P : Nat → List D → Store → R D} {ρ ρ1 : Env} {S S1 : Store} {a b : C} {r : O} {d : D}
theorem sx (h : run P a ρ S = .nx ρ1 S1) (h2 : run P b ρ1 S1 = r) : run P (.seq a b) ρ S = r := by rw [run_seq, h, seq_nx, h2]
theorem sxE (h : run P a ρ S = .nx ρ1 S1) (h2 : ∃ S', run P b ρ1 S1 = .ret d S') : ∃ S', run P (.seq a b) ρ S = .ret d S' := by rw [run_seq, h, seq_nx]; exact h2
theorem sxr (h : run P a ρ S = .ret d S1) : run P (.seq a b) ρ S = .ret d S1 := by rw [run_seq, h, seq_ret]
theorem sxrE (h : run P a ρ S = .ret d S1) : ∃ S', run P (.seq a b) ρ S = .ret d S' := by rw [run_seq, h, seq_ret]; exact ⟨_, rfl⟩
theorem sxF {tg it : E} {w : It} {S2 : Store} {ρ2 : Env} {c : C} (hi : itr P it ρ S = .ok w S1) (hf : forL (ckS w.lk) (fun x ρ S => (asgO tg x ρ S).seq (run P b)) w.ds ρ S1 = .nx ρ2 S2) (h2 : run P c ρ2 S2 = r) : run P (.seq (.for tg it b) c) ρ S = r := by
  rw [run_seq, run_for, hi, of_ok, hf, seq_nx, h2]
theorem sxFE {tg it : E} {w : It} {S2 : Store} {ρ2 : Env} {c : C} (hi : itr P it ρ S = .ok w S1) (hf : forL (ckS w.lk) (fun x ρ S => (asgO tg x ρ S).seq (run P b)) w.ds ρ S1 = .nx ρ2 S2) (h2 : ∃ S', run P c ρ2 S2 = .ret d S') : ∃ S', run P (.seq (.for tg it b) c) ρ S = .ret d S' := by
  rw [run_seq, run_for, hi, of_ok, hf, seq_nx]; exact h2
/-! dicts that are walked; dict comprehensions -/
theorem run_lk (o b) : run P (.lk o b) ρ S = lkO (ev P o ρ S) (run P b ρ) S := ng rfl
section
variable {S0 S2 : Store} {n : Nat} {kvs : List (List Int × D)} {f : Store → O} {ks : List D} {k : List Int} {e : D}
theorem lkO_nx (h : S[n]? = some (.dct kvs)) (hf : f (S.set n (.hid kvs)) = .nx ρ S2) (h2 : S2[n]? = some (.hid kvs)) : lkO (.ok (.ref n) S0) f S = .nx ρ (S2.set n (.dct kvs)) := by
  simp only [lkO, h, hf, O.unl, if_pos h2]
theorem lkO_ret (h : S[n]? = some (.dct kvs)) (hf : f (S.set n (.hid kvs)) = .ret d S2) (h2 : S2[n]? = some (.hid kvs)) : lkO (.ok (.ref n) S0) f S = .ret d (S2.set n (.dct kvs)) := by
  simp only [lkO, h, hf, O.unl, if_pos h2]
theorem lkO_exc {c fs} (h : S[n]? = some (.dct kvs)) (hf : f (S.set n (.hid kvs)) = .exc c fs ρ S2) : lkO (.ok (.ref n) S0) f S = .exc c fs ρ S2 := by
  simp only [lkO, h, hf, O.unl]
theorem lkO_hid (h : S[n]? = some (.hid kvs)) : lkO (.ok (.ref n) S0) f S = f S := by
  simp only [lkO, h]
theorem lkR_hid {f : Store → R D} (h : S[n]? = some (.hid kvs)) : lkR (.ok (.ref n) S0) f S = f S := by
  simp only [lkR, h]
theorem ix_rd (h : rdC S[n]? = some kvs) (hk : intsD ks = some k) (hg : dGet kvs k = some d) : ix2 (.ref n) (.tup ks) S = .ok d S := by
  simp only [ix2, h, hk, hg]
theorem cT_in_rd (h : rdC S[n]? = some kvs) (hk : intsD ks = some k) : cmpT .in_ (.tup ks) (.ref n) S = .ok (dGet kvs k).isSome S := by
  rcases rd_of h with h | h <;> simp [cmpT, cmp2, h, keyI, hk]
theorem cT_notin_rd (h : rdC S[n]? = some kvs) (hk : intsD ks = some k) : cmpT .notin (.tup ks) (.ref n) S = .ok (!(dGet kvs k).isSome) S := by
  rcases rd_of h with h | h <;> simp [cmpT, cmp2, h, keyI, hk]
theorem cR_in_rd (h : rdC S[n]? = some kvs) (hk : intsD ks = some k) : cmpR .in_ (.tup ks) (.ref n) S = .ok (.bl (dGet kvs k).isSome) S := by
  rcases rd_of h with h | h <;> simp [cmpR, cmp2, h, keyI, hk]
theorem get1_rd (h : rdC S[n]? = some kvs) (hk : intsD ks = some k) : meD .get1 (.ref n) [.tup ks] S = .ok ((dGet kvs k).getD .non) S := by simp only [meD, h, keyI, hk]
theorem get1Ok_rd (h : rdC S[n]? = some kvs) : meOk .get1 (.ref n) S = true := by simp only [meOk, h, Option.isSome_some]
theorem get2_rd (h : rdC S[n]? = some kvs) (hk : intsD ks = some k) : meD .get2 (.ref n) [.tup ks, d] S = .ok ((dGet kvs k).getD d) S := by simp only [meD, h, keyI, hk]
theorem get2Ok_rd (h : rdC S[n]? = some kvs) : meOk .get2 (.ref n) S = true := by simp only [meOk, h, Option.isSome_some, Bool.true_or]
theorem len_rd (h : rdC S[n]? = some kvs) : biD .len [.ref n] S = .ok (.int kvs.length) S := by
  rcases rd_of h with h | h <;> simp [biD, seqD, dctN, h]
theorem tru_rd (h : rdC S[n]? = some kvs) : truR (.ref n) S = .ok (!kvs.isEmpty) S := by
  rcases rd_of h with h | h <;> simp [truR, truD, h]
theorem isi_rd (h : rdC S[n]? = some kvs) (t : Ty) : isiR [t] (.ref n) S = .ok (.bl (t == .dict)) S := by
  rcases rd_of h with h | h <;> simp [isiR, isTys, isTy, h]
theorem dict_rd (h : rdC S[n]? = some kvs) (hn : (kvs.map fun p => hashI p.1).Nodup) : biD .dict [.ref n] S = .ok (.ref S.length) (S ++ [.dct kvs]) := by
  simp only [biD, h, if_pos hn]
theorem min_lst {a : Int} {r : List Int} (h : S[n]? = some (.lst ((a :: r).map D.int))) : biD .minL [.ref n] S = .ok (.int (minI a r)) S := by
  simp only [biD, seqD, h, Option.bind_some, ints_map]
theorem max_lst {a : Int} {r : List Int} (h : S[n]? = some (.lst ((a :: r).map D.int))) : biD .maxL [.ref n] S = .ok (.int (maxI a r)) S := by
  simp only [biD, seqD, h, Option.bind_some, ints_map]
theorem dPuts_len (ps : List (List Int × D)) : ∀ kvs : List (List Int × D), (dPuts kvs ps).length ≤ kvs.length + ps.length := by
  induction ps with
  | nil => intro kvs; exact Nat.le_refl _
  | cons p ps ih =>
    intro kvs
    show (dPuts (dPut kvs p.1 p.2) ps).length ≤ _
    have := ih (dPut kvs p.1 p.2)
    have h2 : (dPut kvs p.1 p.2).length ≤ kvs.length + 1 := by rw [dPut_length]; split <;> omega
    simp; omega
@[simp] theorem dPuts_nil : dPuts kvs [] = kvs := ng rfl
@[simp] theorem dPuts_cons {p : List Int × D} {ps : List (List Int × D)} : dPuts kvs (p :: ps) = dPuts (dPut kvs p.1 p.2) ps := ng rfl
theorem dPut_le (kvs : List (List Int × D)) (k : List Int) (d : D) : (dPut kvs k d).length ≤ kvs.length + 1 := by rw [dPut_length]; split <;> omega
theorem dcL_pure {n : Nat} {ck : Store → Bool} {f : D → Store → R (Option (D × D))} {g : D → Option (List Int × D)} : ∀ (ds : List D) (acc : List (List Int × D)) (S : Store), S[n]? = some (.dct acc) → acc.length + ds.length ≤ 1000000 →
    (∀ acc', ck (S.set n (.dct acc')) = true) → (∀ x ∈ ds, ∀ acc', f x (S.set n (.dct acc')) = .ok ((g x).map fun p => (D.tup (p.1.map D.int), p.2)) (S.set n (.dct acc'))) → dcL n ck f ds S = .ok () (S.set n (.dct (dPuts acc (ds.filterMap g))))
  | [], acc, S, hS, _, hck, _ => by
    have h1 := hck acc
    rw [set_same hS] at h1
    simp only [dcL, h1, cond_true, List.filterMap_nil, dPuts_nil, set_same hS]
  | x :: ds, acc, S, hS, hl, hck, hf => by
    have hn := (List.getElem?_eq_some_iff.mp hS).1
    have h1 := hck acc
    have h2 := hf x List.mem_cons_self acc
    rw [set_same hS] at h1 h2
    have hl' : acc.length + ds.length + 1 ≤ 1000000 := by simpa [Nat.add_assoc] using hl
    simp only [dcL, h1, cond_true, h2]
    cases hg : g x with
    | none =>
      simp only [Option.map_none, dcT]
      rw [dcL_pure ds acc S hS (by omega) hck fun y hy => hf y (List.mem_cons_of_mem _ hy), List.filterMap_cons, hg]
    | some p =>
      simp only [Option.map_some, dcT, hS, keyI, ints_map]
      rw [if_pos (by show acc.length < linesz; unfold linesz; omega)]
      rw [dcL_pure ds (dPut acc p.1 p.2) (S.set n (.dct (dPut acc p.1 p.2))) (by rw [List.getElem?_set_self hn]) (by have := dPut_le acc p.1 p.2; omega) (fun acc' => by rw [List.set_set]; exact hck acc') fun y hy acc' => by rw [List.set_set]; exact hf y (List.mem_cons_of_mem _ hy) acc']
      rw [List.set_set, List.filterMap_cons, hg]
      rfl
@[simp] theorem ev_rpl6 (x f b c y1 z1 y2 z2 d) : ev P (.rpl6 x f b c y1 z1 y2 z2 d) ρ S = (ev P f ρ S).bind fun a S1 => (bin2 .add (.str x) a S1).bind fun e1 S2 => (ev P b ρ S2).bind fun e2 S3 => (ev P c ρ S3).bind fun e3 S4 => (ev P f ρ S4).bind fun a4 S5 => (rep1R y1 z1 a4 S5).bind fun e4 S6 => (ev P f ρ S6).bind fun a5 S7 => (rep1R y2 z2 a5 S7).bind fun e5 S8 => (ev P d ρ S8).bind fun e6 S9 => lstR [e1, e2, e3, e4, e5, e6] S9 := ng rfl
@[simp] theorem ev_dc2 (own own2 tg src tg2 src2 kx vx) : ev P (.dc2 own own2 tg src tg2 src2 kx vx) ρ S = (itr P src ρ S).bind fun it S1 => dc2R own own2 tg tg2 (itr P src2) (ev P kx) (ev P vx) ρ it S1 := ng rfl
@[simp] theorem ev_dc (own tg src cond kx vx) : ev P (.dc own tg src cond kx vx) ρ S = (itr P src ρ S).bind fun it S1 => dcR own tg (tst P cond) (ev P kx) (ev P vx) ρ it S1 := ng rfl
/-- {k: v for x in xs} where nothing is changed -/
theorem dc_pure {own : List Nat} {tg : E} {cond : Env → Store → R Bool} {kx vx : Env → Store → R D} {it : It} {g : D → Option (List Int × D)} (hl : it.ds.length ≤ 1000000) (hck : ∀ c, ckS it.lk (S ++ [c]) = true)
    (hf : ∀ x ∈ it.ds, ∀ c, dcF own tg cond kx vx ρ x (S ++ [c]) = .ok ((g x).map fun p => (D.tup (p.1.map D.int), p.2)) (S ++ [c])) : dcR own tg cond kx vx ρ it S = .ok (.ref S.length) (S ++ [.dct (dPuts [] (it.ds.filterMap g))]) := by
  unfold dcR
  have h := dcL_pure (n := S.length) (ck := ckS it.lk) (f := dcF own tg cond kx vx ρ) (g := g) it.ds [] (S ++ [Cell.dct []]) (by simp) (by simpa using hl) (fun acc' => by rw [set0]; exact hck _) (fun x hx acc' => by rw [set0]; exact hf x hx _)
  rw [h]
  simp
@[simp] theorem run_fau (c x : Str) (o : E) (p : B2) (e : E) : run P (.fau c x o p e) ρ S = O.of ρ (ev P o ρ S) fun y S1 => O.of ρ (fldR c x y S1) fun v S2 => O.of ρ (ev P e ρ S2) fun d S3 => O.of ρ (augB p v d S3) fun z S4 => fstO c x z y ρ S4 := ng rfl
end
@[simp] theorem itr_bi (f a) : itr P (.bi f a) ρ S = (ev P (.bi f a) ρ S).bind itD := ng rfl
end
end Ng

set_option Elab.async false
set_option linter.all false
set_option maxRecDepth 100000
set_option maxHeartbeats 4000000
namespace Lw
open PySem L2 Ng

abbrev top (i : Nat) : Stmt := PySem.Challenge.pw_ramet_k31_tapes_as_lines.main.body.getD i (.Pass ⟨0, 0, 0, 0⟩)
abbrev i_is_symbol : Nat := 0
abbrev i_is_command : Nat := 1
abbrev i_is_tape : Nat := 2
abbrev i_word_of : Nat := 3
abbrev i_tape_line : Nat := 4
abbrev i_read_tape : Nat := 5
abbrev i_law_draws : Nat := 6
abbrev i_law_is_number : Nat := 7
abbrev i_law_word : Nat := 8
abbrev i_law_spoilt : Nat := 9
abbrev i_law_refused : Nat := 10
abbrev i_law : Nat := 11
def kv_WORDS : List (Int × D) := [(6, (.str "start")), (5, (.str "stop")), (4, (.str "port")), (7, (.str "end")), (3, (.str "forth")), (1, (.str "left")), (2, (.str "right"))]
/-- is_symbol (0); slots: 0 value -/
def c_is_symbol : C :=
    (.seq (.ret (.and (.isi (.var 0) [.int] false) (.and (.not (.isi (.var 0) [.bool] false)) (.chain .le .lt (.int 1) (.var 0) (.bin .add (.glb "WRITE" (.int 24)) (.glb "STATES" (.int 73)))))))
    .skip)
def t_is_symbol : FText := ⟨"is_symbol", "is_symbol", .fn "is_symbol", top 17, ["value"], ["value"], { np := 1, nl := 1, body := c_is_symbol }⟩
/-- is_command (1); slots: 0 symbol -/
def c_is_command : C :=
    (.seq (.ret (.or (.cmp .in_ (.var 0) (.tup (.cons (.glb "FORTH" (.int 3)) (.cons (.glb "LEFT" (.int 1)) (.cons (.glb "RIGHT" (.int 2)) .nil))))) (.chain .le .lt (.glb "DIGIT" (.int 8)) (.var 0) (.bin .add (.glb "WRITE" (.int 24)) (.glb "STATES" (.int 73))))))
    .skip)
def t_is_command : FText := ⟨"is_command", "is_command", .fn "is_command", top 18, ["symbol"], ["symbol"], { np := 1, nl := 1, body := c_is_command }⟩
/-- is_tape (2); slots: 0 value 1 symbol -/
def c_is_tape : C :=
    (.seq (.ite (.or (.not (.isi (.var 0) [.tuple] false)) (.not (.chain .le .le (.int 3) (.bi .len (.cons (.var 0) .nil)) (.glb "MOST_SYMBOLS" (.int 400))))) (.seq (.ret (.bl false))
    .skip) .skip)
    (.seq (.ite (.not (.bi .all (.cons (.lc [1] (.var 1) (.var 0) (.bl true) (.call i_is_symbol (.cons (.var 1) .nil))) .nil))) (.seq (.ret (.bl false))
    .skip) .skip)
    (.seq (.ite (.or (.cmp .ne (.ix (.var 0) (.int 0)) (.glb "START" (.int 6))) (.or (.cmp .notin (.ix (.var 0) (.neg (.int 2))) (.tup (.cons (.glb "STOP" (.int 5)) (.cons (.glb "PORT" (.int 4)) .nil)))) (.cmp .ne (.ix (.var 0) (.neg (.int 1))) (.glb "END" (.int 7))))) (.seq (.ret (.bl false))
    .skip) .skip)
    (.seq (.ret (.bi .all (.cons (.lc [1] (.var 1) (.slc (.var 0) (.int 1) (.neg (.int 2))) (.bl true) (.call i_is_command (.cons (.var 1) .nil))) .nil)))
    .skip))))
def t_is_tape : FText := ⟨"is_tape", "is_tape", .fn "is_tape", top 19, ["value", "symbol"], ["value"], { np := 1, nl := 2, body := c_is_tape }⟩
/-- word_of (3); slots: 0 symbol -/
def c_word_of : C :=
    (.seq (.ite (.giin "WORDS" kv_WORDS false (.var 0)) (.seq (.ret (.gix "WORDS" kv_WORDS (.var 0)))
    .skip) .skip)
    (.seq (.ite (.cmp .lt (.var 0) (.glb "WRITE" (.int 24))) (.seq (.ret (.fjs (.cons (.str "d") (.cons (.fmt (.bin .sub (.var 0) (.glb "DIGIT" (.int 8)))) .nil))))
    .skip) .skip)
    (.seq (.ret (.fjs (.cons (.str "w") (.cons (.fmt (.bin .sub (.var 0) (.glb "WRITE" (.int 24)))) .nil))))
    .skip)))
def t_word_of : FText := ⟨"word_of", "word_of", .fn "word_of", top 20, ["symbol"], ["symbol"], { np := 1, nl := 1, body := c_word_of }⟩
/-- tape_line (4); slots: 0 tape 1 symbol -/
def c_tape_line : C :=
    (.seq (.ret (.sm .join (.str " ") (.lc [1] (.var 1) (.var 0) (.bl true) (.call i_word_of (.cons (.var 1) .nil)))))
    .skip)
def t_tape_line : FText := ⟨"tape_line", "tape_line", .fn "tape_line", top 21, ["tape", "symbol"], ["tape"], { np := 1, nl := 2, body := c_tape_line }⟩
/-- read_tape (5); slots: 0 text 1 symbols 2 symbol 3 tape 4 word -/
def b_read_tape_1 : C :=
    (.seq (.ist (.var 1) (.call i_word_of (.cons (.var 2) .nil)) (.var 2))
    .skip)
def c_read_tape : C :=
    (.seq (.asg (.var 1) .kd0)
    (.seq (.for (.var 2) (.rng (.cons (.int 1) (.cons (.bin .add (.glb "WRITE" (.int 24)) (.glb "STATES" (.int 73))) .nil))) b_read_tape_1)
    (.seq (.asg (.var 3) (.bi .tuple (.cons (.lc [4] (.var 4) (.sm .split (.var 0) (.str " ")) (.bl true) (.me .get2 (.var 1) (.cons (.var 4) (.cons (.int 0) .nil)))) .nil)))
    (.seq (.ite (.not (.call i_is_tape (.cons (.var 3) .nil))) (.seq (.raise 0)
    .skip) .skip)
    (.seq (.ret (.var 3))
    .skip)))))
def t_read_tape : FText := ⟨"read_tape", "read_tape", .fn "read_tape", top 22, ["text", "symbols", "symbol", "tape", "word"], ["text"], { np := 1, nl := 5, body := c_read_tape }⟩
/-- _law_draws (6); slots: 0 _law_script 1 _law_many 2 _law_draws_here 3 _law_at 4 _law_cell 5 _law_number 6 _law_k -/
def b_law_draws_1 : C :=
    (.seq (.ite (.cmp .lt (.bi .len (.cons (.var 2) .nil)) (.var 1)) (.seq (.ex (.me .append (.var 2) (.cons (.bin .mod (.bi .int (.cons (.bin .add (.bin .add (.bin .mul (.bi .len (.cons (.var 2) .nil)) (.int 69621)) (.bin .mul (.int 977) (.var 3))) (.bin .mul (.bin .mul (.var 6) (.var 6)) (.int 31))) .nil)) (.int 65521)) .nil)))
    .skip) .skip)
    .skip)
def b_law_draws_2 : C :=
    (.seq (.ite (.cmp .gt (.var 5) (.int 0)) (.seq (.ex (.me .append (.var 2) (.cons (.bin .mod (.bi .int (.cons (.var 5) .nil)) (.int 1009)) .nil)))
    (.seq (.asg (.var 5) (.bin .fdiv (.var 5) (.int 1009)))
    .skip)) .skip)
    .skip)
def b_law_draws_3 : C :=
    (.seq (.asg (.var 5) (.bi .abs (.cons (.var 4) .nil)))
    (.seq (.ite (.cmp .ge (.var 5) (.bin .pow (.int 10) (.int 18))) (.seq (.for (.var 6) (.rng (.cons (.int 24) .nil)) b_law_draws_2)
    .skip) (.seq (.ex (.me .append (.var 2) (.cons (.bin .mod (.bi .int (.cons (.bin .add (.bin .add (.bin .mul (.var 5) (.int 48271)) (.bin .mul (.var 3) (.int 69621))) (.int 11)) .nil)) (.int 65537)) .nil)))
    (.seq (.ex (.me .append (.var 2) (.cons (.bin .mod (.bi .int (.cons (.bin .add (.bin .add (.bin .add (.bin .mul (.var 5) (.int 16807)) (.bin .mul (.var 3) (.int 40692))) (.int 7)) (.bin .mul (.var 5) (.var 5))) .nil)) (.int 65521)) .nil)))
    .skip)))
    (.seq (.asg (.var 3) (.bin .add (.var 3) (.int 1)))
    .skip)))
def c_law_draws : C :=
    (.seq (.asg (.var 2) (.lst .nil))
    (.seq (.asg (.var 3) (.int 0))
    (.seq (.for (.var 4) (.slc (.var 0) .nil (.int 63)) b_law_draws_3)
    (.seq (.for (.var 6) (.rng (.cons (.var 1) .nil)) b_law_draws_1)
    (.seq (.ret (.slc (.var 2) .nil (.var 1)))
    .skip)))))
def t_law_draws : FText := ⟨"_law_draws", "_law_draws", .fn "_law_draws", top 24, ["_law_script", "_law_many", "_law_draws_here", "_law_at", "_law_cell", "_law_number", "_law_k"], ["_law_script", "_law_many"], { np := 2, nl := 7, body := c_law_draws }⟩
/-- _law_is_number (7); slots: 0 _law_value -/
def c_law_is_number : C :=
    (.seq (.ret (.and (.isi (.var 0) [.int] false) (.not (.isi (.var 0) [.bool] false))))
    .skip)
def t_law_is_number : FText := ⟨"_law_is_number", "_law_is_number", .fn "_law_is_number", top 25, ["_law_value"], ["_law_value"], { np := 1, nl := 1, body := c_law_is_number }⟩
/-- _law_word (8); slots: 0 _law_symbol -/
def c_law_word : C :=
    (.seq (.ite (.cmp .lt (.var 0) (.int 8)) (.seq (.ret (.ix (.lst (.cons (.str "") (.cons (.str "left") (.cons (.str "right") (.cons (.str "forth") (.cons (.str "port") (.cons (.str "stop") (.cons (.str "start") (.cons (.str "end") .nil))))))))) (.var 0)))
    .skip) .skip)
    (.seq (.ite (.cmp .lt (.var 0) (.int 24)) (.seq (.ret (.bin .add (.str "d") (.bi .str (.cons (.bin .sub (.var 0) (.int 8)) .nil))))
    .skip) .skip)
    (.seq (.ret (.bin .add (.str "w") (.bi .str (.cons (.bin .sub (.var 0) (.int 24)) .nil))))
    .skip)))
def t_law_word : FText := ⟨"_law_word", "_law_word", .fn "_law_word", top 26, ["_law_symbol"], ["_law_symbol"], { np := 1, nl := 1, body := c_law_word }⟩
/-- _law_spoilt (9); slots: 0 _law_words 1 _law_draw 2 _law_line 3 _law_at 4 _law_bad 5 _law_kinds -/
def c_law_spoilt : C :=
    (.seq (.asg (.var 2) (.sm .join (.str " ") (.var 0)))
    (.seq (.asg (.var 3) (.bin .mod (.bin .fdiv (.var 1) (.int 20)) (.bi .len (.cons (.var 0) .nil))))
    (.seq (.asg (.var 4) (.ix (.lst (.cons (.str "d16") (.cons (.str "w73") (.cons (.str "d01") (.cons (.str "w007") (.cons (.str "d") (.cons (.str "w") (.cons (.str "-1") (.cons (.str "Left") (.cons (.str "d-1") (.cons (.str "w+1") (.cons (.str "forth.") (.cons (.str "d1 5x") .nil))))))))))))) (.bin .mod (.bin .fdiv (.var 1) (.int 200)) (.int 12))))
    (.seq (.asg (.var 5) (.rpl6 " " (.var 2) (.bin .add (.var 2) (.str " ")) (.bin .add (.var 2) (.str "\n")) " " "  " " " "\t" (.str "")))
    (.seq (.asg (.var 5) (.bin .add (.var 5) (.lst (.cons (.sm .join (.str " ") (.slc (.var 0) (.int 1) .nil)) (.cons (.sm .join (.str " ") (.slc (.var 0) .nil (.neg (.int 1)))) (.cons (.sm .join (.str " ") (.bin .add (.slc (.var 0) .nil (.neg (.int 2))) (.lst (.cons (.ix (.var 0) (.neg (.int 1))) (.cons (.ix (.var 0) (.neg (.int 2))) .nil))))) .nil))))))
    (.seq (.asg (.var 5) (.bin .add (.var 5) (.lst (.cons (.sm .join (.str " ") (.bin .add (.bin .add (.slc (.var 0) .nil (.var 3)) (.lst (.cons (.var 4) .nil))) (.slc (.var 0) (.bin .add (.var 3) (.int 1)) .nil))) (.cons (.sm .join (.str " ") (.bin .add (.bin .add (.slc (.var 0) .nil (.var 3)) (.lst (.cons (.str "") .nil))) (.slc (.var 0) (.var 3) .nil))) .nil)))))
    (.seq (.asg (.var 5) (.bin .add (.var 5) (.lst (.cons (.sm0 .upper (.var 2)) (.cons (.bin .add (.str "\n") (.var 2)) (.cons (.bin .add (.var 2) (.str " end")) (.cons (.bin .add (.str "start ") (.var 2)) .nil)))))))
    (.seq (.ret (.ix (.var 5) (.bin .mod (.var 1) (.bi .len (.cons (.var 5) .nil)))))
    .skip))))))))
def t_law_spoilt : FText := ⟨"_law_spoilt", "_law_spoilt", .fn "_law_spoilt", top 27, ["_law_words", "_law_draw", "_law_line", "_law_at", "_law_bad", "_law_kinds"], ["_law_words", "_law_draw"], { np := 2, nl := 6, body := c_law_spoilt }⟩
/-- _law_refused (10); slots: 0 _law_line 1 e -/
def c_law_refused : C :=
    (.seq (.tryAs (.seq (.ex (.call i_read_tape (.cons (.var 0) .nil)))
    .skip) "RametError" [true] 1 (.seq (.ret (.and (.isx (.var 1) "BadTape" [true]) (.and (.isx (.var 1) "ValueError" [true]) (.not (.isx (.var 1) "NoRoom" [false])))))
    .skip))
    (.seq (.ret (.bl false))
    .skip))
def t_law_refused : FText := ⟨"_law_refused", "_law_refused", .fn "_law_refused", top 28, ["_law_line", "e"], ["_law_line"], { np := 1, nl := 2, body := c_law_refused }⟩
/-- law (11); slots: 0 _law_script 1 _law_draws_here 2 _law_symbols 3 _law_k 4 _law_tape 5 _law_words 6 _law_symbol 7 _law_line 8 _law_found 9 _law_long -/
def b_law_1 : C :=
    (.seq (.ex (.me .append (.var 2) (.cons (.ix (.lst (.cons (.int 1) (.cons (.int 2) (.cons (.int 3) (.cons (.bin .add (.int 8) (.bin .mod (.ix (.var 1) (.var 3)) (.int 16))) (.cons (.bin .add (.int 24) (.bin .mod (.ix (.var 1) (.var 3)) (.int 73))) (.cons (.bin .add (.int 24) (.bin .mod (.bin .fdiv (.ix (.var 1) (.var 3)) (.int 7)) (.int 73))) .nil))))))) (.bin .mod (.bin .fdiv (.ix (.var 1) (.var 3)) (.int 3)) (.int 6))) .nil)))
    .skip)
def c_law : C :=
    (.seq (.asg (.var 1) (.call i_law_draws (.cons (.var 0) (.cons (.int 50) .nil))))
    (.seq (.asg (.var 2) (.lst .nil))
    (.seq (.for (.var 3) (.rng (.cons (.bin .mod (.ix (.var 1) (.int 45)) (.int 38)) .nil)) b_law_1)
    (.seq (.asg (.var 4) (.bi .tuple (.cons (.bin .add (.bin .add (.lst (.cons (.int 6) .nil)) (.var 2)) (.lst (.cons (.ix (.lst (.cons (.int 5) (.cons (.int 4) .nil))) (.bin .mod (.ix (.var 1) (.int 46)) (.int 2))) (.cons (.int 7) .nil)))) .nil)))
    (.seq (.asg (.var 5) (.lc [6] (.var 6) (.var 4) (.bl true) (.call i_law_word (.cons (.var 6) .nil))))
    (.seq (.asg (.var 7) (.call i_tape_line (.cons (.var 4) .nil)))
    (.seq (.ite (.or (.not (.isi (.var 7) [.str] false)) (.cmp .ne (.var 7) (.sm .join (.str " ") (.var 5)))) (.seq (.ret (.bl false))
    .skip) .skip)
    (.seq (.asg (.var 8) (.call i_read_tape (.cons (.var 7) .nil)))
    (.seq (.ite (.or (.not (.isi (.var 8) [.tuple] false)) (.or (.cmp .ne (.var 8) (.var 4)) (.not (.bi .all (.cons (.lc [6] (.var 6) (.var 8) (.bl true) (.call i_law_is_number (.cons (.var 6) .nil))) .nil))))) (.seq (.ret (.bl false))
    .skip) .skip)
    (.seq (.asg (.var 9) (.bin .add (.bin .add (.slc (.var 5) .nil (.int 1)) (.bin .mul (.lst (.cons (.str "forth") .nil)) (.bin .sub (.int 401) (.bi .len (.cons (.var 5) .nil))))) (.slc (.var 5) (.int 1) .nil)))
    (.seq (.ite (.and (.cmp .eq (.bin .mod (.ix (.var 1) (.int 47)) (.int 4)) (.int 0)) (.not (.call i_law_refused (.cons (.sm .join (.str " ") (.var 9)) .nil)))) (.seq (.ret (.bl false))
    .skip) .skip)
    (.seq (.ret (.bi .all (.cons (.lc [3] (.var 3) (.rng (.cons (.int 3) .nil)) (.bl true) (.call i_law_refused (.cons (.call i_law_spoilt (.cons (.var 5) (.cons (.bin .add (.ix (.var 1) (.var 3)) (.bin .mul (.int 31) (.var 3))) .nil))) .nil))) .nil)))
    .skip))))))))))))
def t_law : FText := ⟨"law", "law", .fn "law", top 29, ["_law_script", "_law_draws_here", "_law_symbols", "_law_k", "_law_tape", "_law_words", "_law_symbol", "_law_line", "_law_found", "_law_long"], ["_law_script"], { np := 1, nl := 10, body := c_law }⟩
def Ts : List FText := [t_is_symbol, t_is_command, t_is_tape, t_word_of, t_tape_line, t_read_tape, t_law_draws, t_law_is_number, t_law_word, t_law_spoilt, t_law_refused, t_law]
def atrs : List (Str × Str) := []
def glbs : List (Str × GC) := [("DIGIT", .v (.int 8)), ("END", .v (.int 7)), ("FORTH", .v (.int 3)), ("LEFT", .v (.int 1)), ("MOST_SYMBOLS", .v (.int 400)), ("PORT", .v (.int 4)), ("RIGHT", .v (.int 2)), ("START", .v (.int 6)), ("STATES", .v (.int 73)), ("STOP", .v (.int 5)), ("WORDS", .i kv_WORDS), ("WRITE", .v (.int 24))]
def blts : List Str := ["abs", "all", "bool", "int", "isinstance", "len", "range", "str", "tuple"]
def exs : List Str := ["BadTape"]
def isa : List (Str × List Bool) := [("BadTape", [true]), ("NoRoom", [false]), ("RametError", [true]), ("ValueError", [true])]
def gam (K : PySem.W.Frag) (c : Nat) : Value := gamX exs K c
def Fs : List Fn := Ts.map (·.fn)
theorem cl_is_symbol (k : Nat) (x0 : D) (S : Store) : callN Fs (k + 1) i_is_symbol [x0] S = finO S (run (callN Fs k) c_is_symbol [some x0] S) := rfl
theorem cl_is_command (k : Nat) (x0 : D) (S : Store) : callN Fs (k + 1) i_is_command [x0] S = finO S (run (callN Fs k) c_is_command [some x0] S) := rfl
theorem cl_is_tape (k : Nat) (x0 : D) (S : Store) : callN Fs (k + 1) i_is_tape [x0] S = finO S (run (callN Fs k) c_is_tape [some x0, none] S) := rfl
theorem cl_word_of (k : Nat) (x0 : D) (S : Store) : callN Fs (k + 1) i_word_of [x0] S = finO S (run (callN Fs k) c_word_of [some x0] S) := rfl
theorem cl_tape_line (k : Nat) (x0 : D) (S : Store) : callN Fs (k + 1) i_tape_line [x0] S = finO S (run (callN Fs k) c_tape_line [some x0, none] S) := rfl
theorem cl_read_tape (k : Nat) (x0 : D) (S : Store) : callN Fs (k + 1) i_read_tape [x0] S = finO S (run (callN Fs k) c_read_tape [some x0, none, none, none, none] S) := rfl
theorem cl_law_draws (k : Nat) (x0 x1 : D) (S : Store) : callN Fs (k + 1) i_law_draws [x0, x1] S = finO S (run (callN Fs k) c_law_draws [some x0, some x1, none, none, none, none, none] S) := rfl
theorem cl_law_is_number (k : Nat) (x0 : D) (S : Store) : callN Fs (k + 1) i_law_is_number [x0] S = finO S (run (callN Fs k) c_law_is_number [some x0] S) := rfl
theorem cl_law_word (k : Nat) (x0 : D) (S : Store) : callN Fs (k + 1) i_law_word [x0] S = finO S (run (callN Fs k) c_law_word [some x0] S) := rfl
theorem cl_law_spoilt (k : Nat) (x0 x1 : D) (S : Store) : callN Fs (k + 1) i_law_spoilt [x0, x1] S = finO S (run (callN Fs k) c_law_spoilt [some x0, some x1, none, none, none, none] S) := rfl
theorem cl_law_refused (k : Nat) (x0 : D) (S : Store) : callN Fs (k + 1) i_law_refused [x0] S = finO S (run (callN Fs k) c_law_refused [some x0, none] S) := rfl
theorem cl_law (k : Nat) (x0 : D) (S : Store) : callN Fs (k + 1) i_law [x0] S = finO S (run (callN Fs k) c_law [some x0, none, none, none, none, none, none, none, none, none] S) := rfl
end Lw

set_option Elab.async false
set_option linter.all false
set_option maxRecDepth 100000
namespace Lw
open PySem L2 Ng
section
variable {P : Nat → List D → Store → R D}
/-- the list of draws in its cell -/
abbrev dl (ds : List Int) : Cell := .lst (ds.map D.int)
theorem draws2 {s m a c k : Option D} {n : Nat} {num : Int} {S : Store} {ds : List Int} (h : S[n]? = some (dl ds)) (hl : ds.length < 1000000) :
    run P b_law_draws_2 [s, m, some (.ref n), a, c, some (.int num), k] S = if 0 < num then .nx [s, m, some (.ref n), a, c, some (.int (num / 1009)), k] (S.set n (dl (ds ++ [num % 1009]))) else .nx [s, m, some (.ref n), a, c, some (.int num), k] S := by
  have hl2 : ds.length < linesz := by unfold linesz; omega
  by_cases hn : 0 < num
  · simp [b_law_draws_2, varR, hn, h, hl2, dl]
  · simp [b_law_draws_2, varR, hn]
/-- what is known of draws -/
def DrOk (ds : List Int) : Prop := ∀ d ∈ ds, 0 ≤ d ∧ d < 65537
theorem DrOk.snoc {ds : List Int} {d : Int} (h : DrOk ds) (h0 : 0 ≤ d) (h1 : d < 65537) : DrOk (ds ++ [d]) := by
  intro x hx
  rcases List.mem_append.mp hx with hx | hx
  · exact h x hx
  · simp at hx; subst hx; exact ⟨h0, h1⟩
/-- one cell of the script -/
theorem draws3 {r n m : Nat} {many at' c : Int} {num k : Option D} {S : Store} {ds : List Int} (h : S[n]? = some (dl ds)) (hl : ds.length < 900000) (hd : DrOk ds) :
    ∃ num' k' ds', run P b_law_draws_3 [some (.ref r), some (.int many), some (.ref n), some (.int at'), some (.int c), num, k] S = .nx [some (.ref r), some (.int many), some (.ref n), some (.int (at' + 1)), some (.int c), num', k'] (S.set n (dl ds')) ∧ DrOk ds' ∧ ds'.length ≤ ds.length + 24 := by
  have hn := (List.getElem?_eq_some_iff.mp h).1
  by_cases hb : (if c < 0 then -c else c) ≥ 1000000000000000000
  · -- digit by digit
    obtain ⟨ρ', S', e, num', k', ds', rfl, rfl, h1, h2⟩ := for_inv (ck := ckS none) (f := fun x ρ S => run P b_law_draws_2 (ρ.set 6 (some x)) S) (ds := rngD 0 24) (ρ := [some (.ref r), some (.int many), some (.ref n), some (.int at'), some (.int c), some (.int (if c < 0 then -c else c)), k]) (S := S)
      (fun j ρ' S' => ∃ num' k' ds', ρ' = [some (.ref r), some (.int many), some (.ref n), some (.int at'), some (.int c), some (.int num'), k'] ∧ S' = S.set n (dl ds') ∧ DrOk ds' ∧ ds'.length ≤ ds.length + j)
      ⟨_, k, ds, rfl, (set_same h).symm, hd, Nat.le_refl _⟩ (fun _ _ _ _ => rfl) (fun j x ρ1 S1 hj ⟨num', k', ds', e1, e2, h1, h2⟩ => by
        subst e1 e2
        have hj2 := (rng_at hj).1
        have hg : (S.set n (dl ds'))[n]? = some (dl ds') := by rw [List.getElem?_set_self hn]
        simp only [List.set_cons_succ, List.set_cons_zero]
        rw [draws2 hg (by omega)]
        by_cases hp : 0 < num'
        · rw [if_pos hp]
          exact ⟨_, _, rfl, _, _, _, rfl, by rw [List.set_set], h1.snoc (Int.emod_nonneg _ (by decide)) (by have := Int.emod_lt_of_pos num' (show (0 : Int) < 1009 by decide); omega), by simp; omega⟩
        · rw [if_neg hp]
          exact ⟨_, _, rfl, _, _, _, rfl, rfl, h1, by omega⟩)
    refine ⟨some (.int num'), k', ds', ?_, h1, by simpa using h2⟩
    have hb2 : (1000000000000000000 : Int) ≤ (if c < 0 then -c else c) := hb
    simp [b_law_draws_3, varR, hb2]
    rw [e]
    simp [varR]
  · -- mixed
    have hb2 : ¬ (1000000000000000000 : Int) ≤ (if c < 0 then -c else c) := hb
    have hl2 : ds.length < linesz := by unfold linesz; omega
    have hl3 : ds.length + 1 < linesz := by unfold linesz; omega
    generalize hx : (if c < 0 then -c else c) = x at hb2
    have hx0 : 0 ≤ x := by rw [← hx]; split <;> omega
    have hx1 : x < 18446744073709551616 := by omega
    have hx2 : -18446744073709551616 < x := by omega
    refine ⟨some (.int x), k, ds ++ [(x * 48271 + at' * 69621 + 11) % 65537] ++ [(x * 16807 + at' * 40692 + 7 + x * x) % 65521], ?_, ?_, by simp⟩
    · simp [b_law_draws_3, varR, hb2, hx, h, hl2, hl3, hx1, hx2, List.getElem?_set_self hn, dl]
    · refine (hd.snoc (Int.emod_nonneg _ (by decide)) (Int.emod_lt_of_pos _ (by decide))).snoc (Int.emod_nonneg _ (by decide)) ?_
      have := Int.emod_lt_of_pos (x * 16807 + at' * 40692 + 7 + x * x) (show (0 : Int) < 65521 by decide)
      omega
theorem draws1 {r n : Nat} {many at' : Int} {c num : Option D} {j : Int} {S : Store} {ds : List Int} (h : S[n]? = some (dl ds)) (hl : ds.length < 900000) (hd : DrOk ds) (hj : 0 ≤ j ∧ j < 1000000) :
    ∃ ds', run P b_law_draws_1 [some (.ref r), some (.int many), some (.ref n), some (.int at'), c, num, some (.int j)] S = .nx [some (.ref r), some (.int many), some (.ref n), some (.int at'), c, num, some (.int j)] (S.set n (dl ds')) ∧ DrOk ds' ∧ ds'.length = (if (ds.length : Int) < many then ds.length + 1 else ds.length) := by
  have hl2 : ds.length < linesz := by unfold linesz; omega
  have hj3 : (-18446744073709551616 : Int) < j ∧ j < 18446744073709551616 := by omega
  by_cases hm : (ds.length : Int) < many
  · refine ⟨ds ++ [((ds.length : Int) * 69621 + 977 * at' + j * j * 31) % 65521], ?_, hd.snoc (Int.emod_nonneg _ (by decide)) ?_, by rw [if_pos hm]; simp⟩
    · simp [b_law_draws_1, varR, h, dl, hm, hl2, hj3]
    · have := Int.emod_lt_of_pos ((ds.length : Int) * 69621 + 977 * at' + j * j * 31) (show (0 : Int) < 65521 by decide)
      omega
  · refine ⟨ds, ?_, hd, by rw [if_neg hm]⟩
    rw [set_same h]
    simp [b_law_draws_1, varR, h, dl, hm]
theorem cut_all {α : Type} (xs : List D) (h : xs.length ≤ 63) : cutD xs none (some 63) = xs := by
  unfold cutD
  have h1 : HT.sIx xs.length 0 none = 0 := rfl
  have h2 : HT.sIx xs.length xs.length (some 63) = min 63 xs.length := HT.sIx_nat _ _ 63
  rw [h1, h2, Nat.sub_zero, List.drop_zero, Nat.min_eq_right h, List.take_length]
theorem cut_to (xs : List D) (k : Nat) : cutD xs none (some (k : Int)) = xs.take k := by
  unfold cutD
  have h1 : HT.sIx xs.length 0 none = 0 := rfl
  have h2 : HT.sIx xs.length xs.length (some (k : Int)) = min k xs.length := HT.sIx_nat _ _ k
  rw [h1, h2, Nat.sub_zero, List.drop_zero]
  by_cases hk : k ≤ xs.length
  · rw [Nat.min_eq_left hk]
  · rw [Nat.min_eq_right (by omega), List.take_of_length_le (by omega : xs.length ≤ k), List.take_length]
/-- the draws of a script -/
theorem draws_ok {r : Nat} {S : Store} {ns : List Int} (hS : S[r]? = some (.ro (ns.map D.int))) (hn : ns.length ≤ 63) (many : Nat) (hm : many ≤ 1000) :
    ∃ ds : List Int, ds.length = many ∧ DrOk ds ∧ finO S (run P c_law_draws [some (.ref r), some (.int many), none, none, none, none, none] S) = .ok (.ref S.length) (S ++ [dl ds]) := by
  -- the script's cells
  obtain ⟨ρ1, S1, e1, ds1, c1, num1, k1, rfl, rfl, h1, h2⟩ := for_inv (ck := ckS (some (S.length + 1, dl ns))) (f := fun x ρ S => run P b_law_draws_3 (ρ.set 4 (some x)) S) (ds := ns.map D.int)
    (ρ := [some (.ref r), some (.int many), some (.ref S.length), some (.int 0), none, none, none]) (S := S ++ [dl [], dl ns])
    (fun j ρ' S' => ∃ ds c num k, ρ' = [some (.ref r), some (.int many), some (.ref S.length), some (.int (j : Int)), c, num, k] ∧ S' = S ++ [dl ds, dl ns] ∧ DrOk ds ∧ ds.length ≤ 24 * j ∧ j ≤ 63)
    ⟨[], none, none, none, rfl, rfl, fun _ h => by simp at h, Nat.le_refl _, by decide⟩ (fun j ρ' S' ⟨ds, c, num, k, e1, e2, _⟩ => by subst e2; simp [ckS])
    (fun j x ρ' S' hj ⟨ds, c, num, k, e1, e2, h1, h2, h3⟩ => by
      subst e1 e2
      rw [List.getElem?_map] at hj
      cases hjn : ns[j]? with
      | none => rw [hjn] at hj; cases hj
      | some z =>
        rw [hjn] at hj
        cases hj
        have hj2 := (List.getElem?_eq_some_iff.mp hjn).1
        obtain ⟨num', k', ds', e, h4, h5⟩ := draws3 (P := P) (r := r) (n := S.length) (m := 0) (many := many) (at' := j) (c := z) (num := num) (k := k) (S := S ++ [dl ds, dl ns]) (ds := ds) (by simp) (by omega) h1
        refine ⟨_, _, e, ds', some (.int z), num', k', by simp, by simp, h4, by omega, by omega⟩)
  rw [List.length_map] at h2
  -- filled up
  obtain ⟨ρ2, S2, e2, ds2, k2, rfl, rfl, h3, h4⟩ := for_inv (ck := ckS none) (f := fun x ρ S => run P b_law_draws_1 (ρ.set 6 (some x)) S) (ds := rngD 0 many)
    (ρ := [some (.ref r), some (.int many), some (.ref S.length), some (.int (ns.length : Int)), c1, num1, k1]) (S := S ++ [dl ds1, dl ns])
    (fun j ρ' S' => ∃ ds k, ρ' = [some (.ref r), some (.int many), some (.ref S.length), some (.int (ns.length : Int)), c1, num1, k] ∧ S' = S ++ [dl ds, dl ns] ∧ DrOk ds ∧ ds.length ≤ 24 * 63 + j ∧ min many (ds1.length + j) ≤ ds.length ∧ j ≤ many)
    ⟨ds1, k1, rfl, rfl, h1, by omega, by omega, Nat.zero_le _⟩ (fun _ _ _ _ => rfl)
    (fun j x ρ' S' hj ⟨ds, k, e1, e2, h1, h2, h3, h4⟩ => by
      subst e1 e2
      obtain ⟨hj2, rfl⟩ := rng_at hj
      obtain ⟨ds', e, h5, h6⟩ := draws1 (P := P) (r := r) (n := S.length) (many := many) (at' := ns.length) (c := c1) (num := num1) (j := 0 + (j : Int)) (S := S ++ [dl ds, dl ns]) (ds := ds) (by simp) (by omega) h1 (by omega)
      refine ⟨_, _, e, ds', some (.int (0 + (j : Int))), rfl, by simp, h5, ?_, ?_, by omega⟩
      · split at h6 <;> omega
      · split at h6 <;> omega)
  rw [rng_len] at h4
  refine ⟨ds2.take many, by rw [List.length_take]; omega, fun d hd => h3 d (List.mem_of_mem_take hd), ?_⟩
  have hr : r < S.length := (List.getElem?_eq_some_iff.mp hS).1
  have hcut := cut_all (α := Int) (ns.map D.int) (by simpa using hn)
  have hS1 : (S ++ [dl []])[r]? = some (.ro (ns.map D.int)) := get_lo hS
  have hr1 : (-4611686018427387904 : Int) ≤ many ∧ (many : Int) < 4611686018427387904 := by omega
  have hS2 : (S ++ [dl ds2, dl ns])[S.length]? = some (dl ds2) := by simp
  rw [List.length_map] at e1
  simp only [dl, List.map_nil] at hS1 e1 e2
  simp [c_law_draws, varR, hS1, hcut]
  rw [e1]
  simp [varR, hr1]
  rw [e2]
  simp [varR, cut_to]
  rw [← List.map_take]
  have hf := fin_list (S := S) (a := [dl ds2, dl ns]) (c := []) (ds := (ds2.take many).map D.int) (refsL_ints _)
  simpa [dl] using hf
end
end Lw

set_option Elab.async false
set_option linter.all false
set_option maxRecDepth 100000
namespace Lw
open PySem L2 Ng
theorem call_sym (k : Nat) (a : D) (S : Store) : callN Fs (k + 1) i_is_symbol [a] S = finO S (run (callN Fs k) c_is_symbol [some a] S) := rfl
theorem call_cmd (k : Nat) (a : D) (S : Store) : callN Fs (k + 1) i_is_command [a] S = finO S (run (callN Fs k) c_is_command [some a] S) := rfl
theorem call_tape (k : Nat) (a : D) (S : Store) : callN Fs (k + 1) i_is_tape [a] S = finO S (run (callN Fs k) c_is_tape [some a, none] S) := rfl
def symD : D → Bool
  | .int i => decide (1 ≤ i) && decide (i < 97)
  | _ => false
def cmdD : D → Bool
  | .int i => decide (i = 3) || (decide (i = 1) || (decide (i = 2) || (decide (8 ≤ i) && decide (i < 97))))
  | _ => false
theorem sym_ok (k : Nat) {d : D} (h : flatD d = true) (S : Store) : callN Fs (k + 1) i_is_symbol [d] S = .ok (.bl (symD d)) S := by
  rw [call_sym]
  cases d with
  | int i =>
    by_cases h1 : 1 ≤ i
    · simp [c_is_symbol, varR, isiR, isTys, isTy, chainV, cmp2, cmpR, symD, h1]
      exact fin_pure0 rfl
    · simp [c_is_symbol, varR, isiR, isTys, isTy, chainV, cmp2, cmpR, symD, h1]
  | bl b =>
    simp [c_is_symbol, varR, isiR, isTys, isTy, symD]
  | non =>
    simp [c_is_symbol, varR, isiR, isTys, isTy, symD]
  | str x =>
    simp [c_is_symbol, varR, isiR, isTys, isTy, symD]
    exact fin_pure0 rfl
  | _ => cases h
theorem cmd_ok (k : Nat) (i : Int) (S : Store) : callN Fs (k + 1) i_is_command [.int i] S = .ok (.bl (cmdD (.int i))) S := by
  rw [call_cmd]
  have l3 : 3 ≤ linesz := by decide
  have hin : cmpR .in_ (.int i) (.tup [.int 3, .int 1, .int 2]) S = .ok (.bl (decide (i = 3) || (decide (i = 1) || decide (i = 2)))) S := by
    simp [cmpR, cmp2, flatD, inF, eqF, Bool.beq_eq_decide_eq, eq_comm]
  have hv : ∀ x : Bool, orR (ev (callN Fs k) (.chain .le .lt (.glb "DIGIT" (.int 8)) (.var 0) (.bin .add (.glb "WRITE" (.int 24)) (.glb "STATES" (.int 73)))) [some (.int i)]) (.bl x) S = .ok (.bl (x || (decide (8 ≤ i) && decide (i < 97)))) S := by
    intro x
    cases x with
    | true => rfl
    | false =>
      by_cases h1 : 8 ≤ i
      · simp [varR, chainV, cmp2, cmpR, h1]
      · simp [varR, chainV, cmp2, cmpR, h1]
  simp only [c_is_command, run_seq, run_ret, ev_or, ev_cmp, ev_var, ev_tup, evs_cons, evs_nil, ev_glb, varR, List.getElem?_cons_zero, bind_ok, tupR_ok _ (show [D.int 3, D.int 1, D.int 2].length ≤ linesz from l3), hin, hv, of_ok, seq_ret, finO_ret]
  rw [fin_pure0 rfl]
  simp [cmdD, Bool.or_assoc]
section
variable {k : Nat} {S : Store}
/-- no tuple is no tape -/
theorem tape_other {d : D} (h : isTy S .tuple d = some false) : callN Fs (k + 1) i_is_tape [d] S = .ok (.bl false) S := by
  rw [call_tape]
  simp [c_is_tape, varR, isiR, isTys, h]
theorem tape_len {ds : List D} (h : ds.length < 3 ∨ 400 < ds.length) : callN Fs (k + 1) i_is_tape [.tup ds] S = .ok (.bl false) S := by
  rw [call_tape]
  rcases h with h | h
  · have h1 : ¬ (3 : Int) ≤ ds.length := by omega
    simp [c_is_tape, varR, isiR, isTys, isTy, chainT, cmp2, h1, h]
  · have h1 : (3 : Int) ≤ ds.length := by omega
    have h2 : ¬ (ds.length : Int) ≤ 400 := by omega
    simp [c_is_tape, varR, isiR, isTys, isTy, chainT, cmp2, cmpT, h1, h2]
theorem tape_head {ds : List D} (h : 3 ≤ ds.length) (h2 : ds.length ≤ 400) (hf : ∀ d ∈ ds, flatD d = true) : tst (callN Fs (k + 1)) (.or (.not (.isi (.var 0) [.tuple] false)) (.not (.chain .le .le (.int 3) (.bi .len (.cons (.var 0) .nil)) (.glb "MOST_SYMBOLS" (.int 400))))) [some (.tup ds), none] S = .ok false S ∧
    tst (callN Fs (k + 1)) (.not (.bi .all (.cons (.lc [1] (.var 1) (.var 0) (.bl true) (.call i_is_symbol (.cons (.var 1) .nil))) .nil))) [some (.tup ds), none] S = .ok (!(ds.all symD)) (S ++ [.lst (ds.map fun d => .bl (symD d))]) := by
  constructor
  · have h1 : (3 : Int) ≤ ds.length := by omega
    have h3 : (ds.length : Int) ≤ 400 := by omega
    simp [varR, isiR, isTys, isTy, chainT, cmp2, cmpT, h1, h3]
  · rw [tst_not, tst_bi, all_lc (P := callN Fs (k + 1)) (f := i_is_symbol) (i := 1) (ds := ds) (p := symD) (by simp) (by simp [varR]) (by omega) (fun d hd S => sym_ok k (hf d hd) S)]
    simp
theorem tape_sym {ds : List D} (h : 3 ≤ ds.length) (h2 : ds.length ≤ 400) (hf : ∀ d ∈ ds, flatD d = true) (hs : ds.all symD = false) : callN Fs (k + 2) i_is_tape [.tup ds] S = .ok (.bl false) S := by
  rw [call_tape]
  obtain ⟨e1, e2⟩ := tape_head (k := k) (S := S) h h2 hf
  rw [c_is_tape, run_seq, run_ite, e1]
  simp only [of_ok, cond_false, run_skip, seq_nx]
  rw [run_seq, run_ite, e2, hs]
  simp
/-- a tape by its parts -/
theorem tape_form {x y z : Int} {mid : List Int} (hl : mid.length + 3 ≤ 400) (hs : ∀ i ∈ x :: mid ++ [y, z], 1 ≤ i ∧ i < 97) :
    callN Fs (k + 2) i_is_tape [.tup ((x :: mid ++ [y, z]).map D.int)] S = .ok (.bl (decide (x = 6) && ((decide (y = 5) || decide (y = 4)) && (decide (z = 7) && mid.all fun i => cmdD (.int i))))) S := by
  rw [call_tape]
  have hlen : ((x :: mid ++ [y, z]).map D.int).length = mid.length + 3 := by simp
  obtain ⟨e1, e2⟩ := tape_head (k := k) (S := S) (ds := (x :: mid ++ [y, z]).map D.int) (by omega) (by omega) (fun d hd => by obtain ⟨i, _, rfl⟩ := List.mem_map.mp hd; rfl)
  have hall : ((x :: mid ++ [y, z]).map D.int).all symD = true := by
    rw [List.all_eq_true]
    intro d hd
    obtain ⟨i, hi, rfl⟩ := List.mem_map.mp hd
    simp [symD, hs i hi]
  rw [hall] at e2
  have a0 : ∀ S, atR ((x :: mid ++ [y, z]).map D.int) 0 S = .ok (.int x) S := fun S => atR_nat (i := 0) rfl
  have a1 : ∀ S, atR ((x :: mid ++ [y, z]).map D.int) (-1) S = .ok (.int z) S := fun S => at_neg (k := 1) (by omega) (by omega) (by rw [hlen]; simp)
  have a2 : ∀ S, atR ((x :: mid ++ [y, z]).map D.int) (-2) S = .ok (.int y) S := fun S => at_neg (k := 2) (by omega) (by omega) (by rw [hlen]; simp)
  have c1 : cutD ((x :: mid ++ [y, z]).map D.int) (some 1) (some (-2)) = mid.map D.int := by
    have := cut_mid (xs := (x :: mid ++ [y, z]).map D.int) (j := 1) (k := 2) (by omega) (by omega)
    rw [hlen] at this
    rw [show (1 : Int) = ((1 : Nat) : Int) from rfl, show (-2 : Int) = -((2 : Nat) : Int) from rfl, this]
    simp
  have hin : ∀ S, cmpT .notin (.int y) (.tup [.int 5, .int 4]) S = .ok (!(decide (y = 5) || decide (y = 4))) S := fun S => by
    simp [cmpT, cmp2, flatD, inF, eqF, Bool.beq_eq_decide_eq, eq_comm]
  have l2 : [D.int 5, D.int 4].length ≤ linesz := by decide
  generalize hds : (x :: mid ++ [y, z]).map D.int = ds at e1 e2 a0 a1 a2 c1 hlen
  rw [c_is_tape, run_seq, run_ite, e1]
  simp only [of_ok, cond_false, run_skip, seq_nx]
  rw [run_seq, run_ite, e2]
  simp only [Bool.not_true, of_ok, cond_false, run_skip, seq_nx]
  have hv : ∀ S : Store, varR 0 [some (.tup ds), none] S = .ok (.tup ds) S := fun S => rfl
  generalize hS1 : S ++ [Cell.lst (ds.map fun d => D.bl (symD d))] = S1
  have hmid : ∀ S : Store, ev (callN Fs (k + 1)) (.bi .all (.cons (.lc [1] (.var 1) (.slc (.var 0) (.int 1) (.neg (.int 2))) (.bl true) (.call i_is_command (.cons (.var 1) .nil))) .nil)) [some (.tup ds), none] S = .ok (.bl (mid.all fun i => cmdD (.int i))) (S ++ [.lst ((mid.map D.int).map fun d => .bl (cmdD d))]) := by
    intro S
    rw [all_lc (P := callN Fs (k + 1)) (f := i_is_command) (i := 1) (ds := mid.map D.int) (p := cmdD) (by simp) (by simp [varR, c1]) (by simp; omega) (fun d hd S => by obtain ⟨i, _, rfl⟩ := List.mem_map.mp hd; exact cmd_ok k i S)]
    rw [List.all_map]
    rfl
  have hz : ∀ b : Bool, ∀ S : Store, (bif b then R.ok true S else R.ok (!decide (z = 7)) S) = (R.ok (b || !decide (z = 7)) S : R Bool) := fun b S => by cases b <;> rfl
  have e3 : tst (callN Fs (k + 1)) (.or (.cmp .ne (.ix (.var 0) (.int 0)) (.glb "START" (.int 6))) (.or (.cmp .notin (.ix (.var 0) (.neg (.int 2))) (.tup (.cons (.glb "STOP" (.int 5)) (.cons (.glb "PORT" (.int 4)) .nil)))) (.cmp .ne (.ix (.var 0) (.neg (.int 1))) (.glb "END" (.int 7))))) [some (.tup ds), none] S1 = .ok (!(decide (x = 6) && ((decide (y = 5) || decide (y = 4)) && decide (z = 7)))) S1 := by
    rw [tst_or, tst_cmp, ev_ix, ev_var, hv, bind_ok, ev_int, bind_ok, ix_tup', a0, bind_ok, ev_glb, bind_ok, cT_ne, bind_ok]
    rw [tst_or, tst_cmp, ev_ix, ev_var, hv, bind_ok, ev_neg, ev_int, bind_ok, negR_int, bind_ok, ix_tup', a2, bind_ok, ev_tup, evs_cons, ev_glb, bind_ok, evs_cons, ev_glb, bind_ok, evs_nil, bind_ok, bind_ok, bind_ok, tupR_ok _ l2, bind_ok, hin, bind_ok]
    rw [tst_cmp, ev_ix, ev_var, hv, bind_ok, ev_neg, ev_int, bind_ok, negR_int, bind_ok, ix_tup', a1, bind_ok, ev_glb, bind_ok, cT_ne]
    by_cases h1 : x = 6 <;> by_cases h2 : y = 5 <;> by_cases h3 : y = 4 <;> simp [h1, h2, h3]
  rw [run_seq, run_ite, e3, of_ok]
  cases hb : (decide (x = 6) && ((decide (y = 5) || decide (y = 4)) && decide (z = 7))) with
  | false =>
    rw [show (decide (x = 6) && ((decide (y = 5) || decide (y = 4)) && (decide (z = 7) && mid.all fun i => cmdD (.int i)))) = false by
      revert hb
      cases decide (x = 6) <;> cases decide (y = 5) <;> cases decide (y = 4) <;> cases decide (z = 7) <;> simp]
    simp only [Bool.not_false, cond_true, run_seq, run_ret, ev_bl, of_ok, seq_ret]
    rw [finO_ret, ← hS1]
    exact fin_pure (l := [_]) rfl
  | true =>
    rw [show (decide (x = 6) && ((decide (y = 5) || decide (y = 4)) && (decide (z = 7) && mid.all fun i => cmdD (.int i)))) = mid.all fun i => cmdD (.int i) by
      revert hb
      cases decide (x = 6) <;> cases decide (y = 5) <;> cases decide (y = 4) <;> cases decide (z = 7) <;> simp]
    simp only [Bool.not_true, cond_false, run_skip, seq_nx]
    rw [run_seq, run_ret, hmid, of_ok, seq_ret, finO_ret, ← hS1, List.append_assoc]
    exact fin_pure (l := [_, _]) rfl
end
end Lw

set_option Elab.async false
set_option linter.all false
set_option maxRecDepth 100000
set_option maxHeartbeats 2000000
namespace Lw
open PySem L2 Ng
/-! the words of symbols -/
/-- the word of a symbol -/
def wd (i : Int) : Str :=
  if i = 6 then "start" else if i = 5 then "stop" else if i = 4 then "port" else if i = 7 then "end" else if i = 3 then "forth" else if i = 1 then "left" else if i = 2 then "right"
  else if i < 24 then ("d" : Str) ++ (toString (i - 8) : Str) else ("w" : Str) ++ (toString (i - 24) : Str)
theorem app_len (a b : Str) : (a ++ b).length = a.length + b.length := by
  show (Array.append a.cps b.cps).size = _
  simp [Str.length]
theorem small_log {i : Int} (h : 0 ≤ i ∧ i < 97) : i.natAbs.log2 < 1920 := by
  have h1 : i.natAbs < 97 := by omega
  have h2 : i.natAbs.log2 ≤ i.natAbs := Nat.log2_le_self _
  omega
theorem str_int {i : Int} (h : 0 ≤ i ∧ i < 97) (S : Store) : biD .str [.int i] S = .ok (.str (toString i)) S := if_pos (small_log h)
theorem rep_len {i : Int} (h : 0 ≤ i ∧ i < 97) : ((toString i : String) : Str).length ≤ 2 := by
  obtain ⟨n, rfl, hn⟩ : ∃ n : Nat, i = n ∧ n < 97 := ⟨i.toNat, by omega, by omega⟩
  have : ∀ n : Fin 97, ((toString ((n.val : Nat) : Int) : String) : Str).length ≤ 2 := by decide +kernel
  exact this ⟨n, hn⟩
theorem cat_one {x : Str} {i : Int} (hx : x.length ≤ 10) (h : 0 ≤ i ∧ i < 97) (S : Store) : bin2 .add (.str x) (.str (toString i)) S = .ok (.str (x ++ (toString i : Str))) S := by
  have := rep_len h
  exact if_pos (by rw [linesz_is]; omega)
section
variable {k : Nat} {S : Store}
theorem lword_ok {i : Int} (h : 1 ≤ i ∧ i < 97) : callN Fs (k + 1) i_law_word [.int i] S = .ok (.str (wd i)) S := by
  rw [cl_law_word]
  by_cases h8 : i < 8
  · obtain rfl | rfl | rfl | rfl | rfl | rfl | rfl : i = 1 ∨ i = 2 ∨ i = 3 ∨ i = 4 ∨ i = 5 ∨ i = 6 ∨ i = 7 := by omega
    all_goals simp [c_law_word, varR, linesz_is, wd]
  · have hw : wd i = if i < 24 then ("d" : Str) ++ (toString (i - 8) : Str) else ("w" : Str) ++ (toString (i - 24) : Str) := by
      unfold wd
      rw [if_neg (by omega), if_neg (by omega), if_neg (by omega), if_neg (by omega), if_neg (by omega), if_neg (by omega), if_neg (by omega)]
    by_cases h24 : i < 24
    · rw [hw, if_pos h24]
      have e1 := str_int (i := i - 8) (by omega) S
      have e2 := cat_one (x := "d") (i := i - 8) (by decide) (by omega) S
      generalize (toString (i - 8) : Str) = Y at *
      simp [c_law_word, varR, linesz_is, h8, h24, e1, e2]
    · rw [hw, if_neg h24]
      have e1 := str_int (i := i - 24) (by omega) S
      have e2 := cat_one (x := "w") (i := i - 24) (by decide) (by omega) S
      generalize (toString (i - 24) : Str) = Y at *
      simp [c_law_word, varR, linesz_is, h8, h24, e1, e2]
theorem word_ok {i : Int} (h : 1 ≤ i ∧ i < 97) : callN Fs (k + 1) i_word_of [.int i] S = .ok (.str (wd i)) S := by
  rw [cl_word_of]
  by_cases h8 : i < 8
  · obtain rfl | rfl | rfl | rfl | rfl | rfl | rfl : i = 1 ∨ i = 2 ∨ i = 3 ∨ i = 4 ∨ i = 5 ∨ i = 6 ∨ i = 7 := by omega
    all_goals simp [c_word_of, varR, linesz_is, wd, kv_WORDS, gixR, List.lookup]
  · have hw : wd i = if i < 24 then ("d" : Str) ++ (toString (i - 8) : Str) else ("w" : Str) ++ (toString (i - 24) : Str) := by
      unfold wd
      rw [if_neg (by omega), if_neg (by omega), if_neg (by omega), if_neg (by omega), if_neg (by omega), if_neg (by omega), if_neg (by omega)]
    have hk : kv_WORDS.lookup i = none := by
      simp only [kv_WORDS, List.lookup_cons, List.lookup_nil]
      simp [show (i == 6) = false by simp; omega, show (i == 5) = false by simp; omega, show (i == 4) = false by simp; omega, show (i == 7) = false by simp; omega, show (i == 3) = false by simp; omega, show (i == 1) = false by simp; omega, show (i == 2) = false by simp; omega]
    by_cases h24 : i < 24
    · rw [hw, if_pos h24]
      have f1 := fmtR_int (S := S) (i := i - 8) (small_log (by omega))
      have hl := rep_len (i := i - 8) (by omega)
      generalize (toString (i - 8) : Str) = Y at *
      have c1 : ∀ K : Str → Store → R Str, catJ Str.empty (.str "d") S K = K "d" S := fun K => catJ_str (acc := Str.empty) (y := "d") (by decide +kernel)
      have c2 : ∀ K : Str → Store → R Str, catJ "d" (.str Y) S K = K (("d" : Str) ++ Y) S := fun K => catJ_str (by rw [app_len, linesz_is, show ("d" : Str).length = 1 by decide]; omega)
      simp [c_word_of, varR, linesz_is, hk, h24, c1, f1, c2]
    · rw [hw, if_neg h24]
      have f1 := fmtR_int (S := S) (i := i - 24) (small_log (by omega))
      have hl := rep_len (i := i - 24) (by omega)
      generalize (toString (i - 24) : Str) = Y at *
      have c1 : ∀ K : Str → Store → R Str, catJ Str.empty (.str "w") S K = K "w" S := fun K => catJ_str (acc := Str.empty) (y := "w") (by decide +kernel)
      have c2 : ∀ K : Str → Store → R Str, catJ "w" (.str Y) S K = K (("w" : Str) ++ Y) S := fun K => catJ_str (by rw [app_len, linesz_is, show ("w" : Str).length = 1 by decide]; omega)
      simp [c_word_of, varR, linesz_is, hk, h24, c1, f1, c2]
end
end Lw

set_option Elab.async false
set_option linter.all false
set_option maxRecDepth 100000
set_option maxHeartbeats 2000000
namespace Lw
open PySem L2 Ng
/-- the words one by one -/
def WDS : List Str := (List.range 96).map fun (j : Nat) => wd ((j : Int) + 1)
theorem wds_nodup : WDS.Nodup := by decide +kernel
theorem wds_plain : ∀ w ∈ WDS, 32 ∉ w.cps.toList ∧ 10 ∉ w.cps.toList ∧ w.cps.toList ≠ [] ∧ w.length ≤ 5 := by decide +kernel
theorem wd_mem {i : Int} (h : 1 ≤ i ∧ i < 97) : wd i ∈ WDS := List.mem_map.mpr ⟨(i - 1).toNat, by rw [List.mem_range]; omega, by congr 1; omega⟩
theorem wds_at {i : Int} (h : 1 ≤ i ∧ i < 97) : WDS[(i - 1).toNat]? = some (wd i) := by
  unfold WDS
  rw [List.getElem?_map, List.getElem?_range (by omega)]
  simp only [Option.map_some]
  congr 2
  omega
theorem nodup_at {α : Type} : ∀ {l : List α}, l.Nodup → ∀ {i j : Nat} {x : α}, l[i]? = some x → l[j]? = some x → i = j
  | [], _, i, j, x, h, _ => by simp at h
  | a :: l, hn, i, j, x, h1, h2 => by
    rw [List.nodup_cons] at hn
    match i, j with
    | 0, 0 => rfl
    | 0, j + 1 =>
      simp only [List.getElem?_cons_zero, List.getElem?_cons_succ] at h1 h2
      cases h1
      exact absurd (List.mem_of_getElem? h2) hn.1
    | i + 1, 0 =>
      simp only [List.getElem?_cons_zero, List.getElem?_cons_succ] at h1 h2
      cases h2
      exact absurd (List.mem_of_getElem? h1) hn.1
    | i + 1, j + 1 =>
      simp only [List.getElem?_cons_succ] at h1 h2
      rw [nodup_at hn.2 h1 h2]
theorem wd_inj {i j : Int} (hi : 1 ≤ i ∧ i < 97) (hj : 1 ≤ j ∧ j < 97) (e : wd i = wd j) : i = j := by
  have := nodup_at wds_nodup (wds_at hi) (by rw [e]; exact wds_at hj)
  omega
end Lw

set_option Elab.async false
set_option linter.all false
set_option maxRecDepth 100000
set_option maxHeartbeats 2000000
namespace Lw
open PySem L2 Ng
abbrev T (l : List Nat) : Str := SX.S l
theorem split_line {L : List (List Nat)} (hne : L ≠ []) (h : ∀ l ∈ L, 32 ∉ l) : Txt.split (T (TL.joinL [32] L)) (T [32]) = L.map T := by
  rw [SX.split_S (by simp) (by decide), SX.spl_join hne (fun p hp => h p hp)]
theorem join_line (L : List (List Nat)) : Txt.join (T [32]) (L.map T) = T (TL.joinL [32] L) := SX.join_S [32] L
/-- a text's code points -/
abbrev cp (w : Str) : List Nat := w.cps.toList
theorem T_cp (w : Str) : T (cp w) = w := by
  show (⟨w.cps.toList.toArray⟩ : Str) = w
  rw [Array.toArray_toList]
theorem maps_cp (ws : List Str) : (ws.map cp).map T = ws := by
  rw [List.map_map]
  conv => rhs; rw [← List.map_id ws]
  exact List.map_congr_left fun w _ => T_cp w
/-- lines of words fall apart into the words -/
theorem split_join {ws : List Str} (hne : ws ≠ []) (h : ∀ w ∈ ws, 32 ∉ cp w) : Txt.split (Txt.join (T [32]) ws) (T [32]) = ws := by
  have e : Txt.join (T [32]) ws = T (TL.joinL [32] (ws.map cp)) := by
    rw [← join_line, maps_cp]
  rw [e, split_line (by simpa using hne) (fun l hl => by obtain ⟨w, hw, rfl⟩ := List.mem_map.mp hl; exact h w hw), maps_cp]
end Lw

set_option Elab.async false
set_option linter.all false
set_option maxRecDepth 100000
set_option maxHeartbeats 4000000
namespace Lw
open PySem L2 Ng
/-- the dict of the words -/
def KW (j : Nat) : List (L2.Key × D) := (List.range j).map fun (i : Nat) => (.inr (wd ((i : Int) + 1)), D.int ((i : Int) + 1))
theorem KW_succ (j : Nat) : KW (j + 1) = KW j ++ [(.inr (wd ((j : Int) + 1)), .int ((j : Int) + 1))] := by
  unfold KW; rw [List.range_succ, List.map_append]; rfl
theorem KW_len (j : Nat) : (KW j).length = j := by simp [KW]
theorem kput_new {kvs : List (L2.Key × D)} {k : L2.Key} {d : D} (h : kvs.any (fun p => decide (p.1 = k)) = false) : kPut kvs k d = kvs ++ [(k, d)] := by
  unfold kPut
  simp [h]
theorem KW_put {j : Nat} (hj : j < 96) : kPut (KW j) (.inr (wd ((j : Int) + 1))) (.int ((j : Int) + 1)) = KW (j + 1) := by
  rw [KW_succ, kput_new]
  rw [Bool.eq_false_iff]
  intro h
  obtain ⟨p, hp, e⟩ := List.any_eq_true.mp h
  obtain ⟨i, hi, rfl⟩ := List.mem_map.mp hp
  rw [List.mem_range] at hi
  have e := of_decide_eq_true e
  simp only [Sum.inr.injEq] at e
  have := wd_inj (i := (i : Int) + 1) (j := (j : Int) + 1) (by omega) (by omega) e
  omega
/-- the number of a word -/
def nuD (w : Str) : D := (kGet (KW 96) (.inr w)).getD (.int 0)
theorem nu_wd {i : Int} (h : 1 ≤ i ∧ i < 97) : nuD (wd i) = .int i := by
  have hf : (KW 96).find? (fun p => decide (p.1 = (.inr (wd i) : L2.Key))) = some (.inr (wd i), .int i) := by
    rw [List.find?_eq_some_iff_getElem]
    refine ⟨by simp, (i - 1).toNat, by rw [KW_len]; omega, ?_, fun j hj => ?_⟩
    · unfold KW
      rw [List.getElem_map, List.getElem_range]
      rw [show (((i - 1).toNat : Nat) : Int) + 1 = i by omega]
    · unfold KW
      rw [List.getElem_map, List.getElem_range]
      have : ¬ wd ((j : Int) + 1) = wd i := fun e => by
        have := wd_inj (i := (j : Int) + 1) (j := i) (by omega) h e
        omega
      simp [this]
  unfold nuD kGet
  rw [hf]
  rfl
theorem nu_not {w : Str} (h : w ∉ WDS) : nuD w = .int 0 := by
  have hf : (KW 96).find? (fun p => decide (p.1 = (.inr w : L2.Key))) = none := by
    rw [List.find?_eq_none]
    intro p hp
    obtain ⟨i, hi, rfl⟩ := List.mem_map.mp hp
    rw [List.mem_range] at hi
    intro e
    have e := of_decide_eq_true e
    simp only [Sum.inr.injEq] at e
    exact h (e ▸ wd_mem (by omega))
  unfold nuD kGet
  rw [hf]
  rfl
theorem itr_sm {P : Nat → List D → Store → R D} {ρ : Ng.Env} {S : Store} (m o a) : itr P (.sm m o a) ρ S = (ev P (.sm m o a) ρ S).bind itD := rfl
section
variable {k : Nat} {A : Store}
theorem read_dict {q0 q3 q4 : Option D} : ∃ q2, run (callN Fs (k + 1)) (.for (.var 2) (.rng (.cons (.int 1) (.cons (.bin .add (.glb "WRITE" (.int 24)) (.glb "STATES" (.int 73))) .nil))) b_read_tape_1) [q0, some (.ref A.length), none, q3, q4] (A ++ [.dk []]) = .nx [q0, some (.ref A.length), q2, q3, q4] (A ++ [.dk (KW 96)]) := by
  obtain ⟨ρ1, S1, e1, q2, rfl, rfl⟩ := for_inv (ck := ckS none) (f := fun x ρ S => (asgO (.var 2) x ρ S).seq (run (callN Fs (k + 1)) b_read_tape_1)) (ds := rngD 1 96) (ρ := [q0, some (.ref A.length), none, q3, q4]) (S := A ++ [.dk []])
    (fun j ρ' S' => ∃ q2, ρ' = [q0, some (.ref A.length), q2, q3, q4] ∧ S' = A ++ [.dk (KW j)])
    ⟨none, rfl, rfl⟩ (fun _ _ _ _ => rfl) (fun j x ρ' S' hj ⟨q2, e1, e2⟩ => by
      subst e1 e2
      obtain ⟨hj2, rfl⟩ := rng_at hj
      have hw := fun S => word_ok (k := k) (S := S) (i := 1 + (j : Int)) (by omega)
      have hi : ∀ ρ, istO (.int (1 + (j : Int))) (.ref A.length) (.str (wd (1 + (j : Int)))) ρ (A ++ [.dk (KW j)]) = .nx ρ (A ++ [.dk (KW (j + 1))]) := fun ρ => by
        rw [ist_dk (kvs := KW j) (by simp) (by rw [KW_len, linesz_is]; omega), show 1 + (j : Int) = (j : Int) + 1 by omega, KW_put hj2]
        simp
      exact ⟨[q0, some (.ref A.length), some (.int (1 + (j : Int))), q3, q4], A ++ [.dk (KW (j + 1))], by simp [b_read_tape_1, varR, hw, hi], _, rfl, rfl⟩)
  refine ⟨q2, ?_⟩
  rw [rng_len] at e1
  rw [run_for]
  have hi : itr (callN Fs (k + 1)) (.rng (.cons (.int 1) (.cons (.bin .add (.glb "WRITE" (.int 24)) (.glb "STATES" (.int 73))) .nil))) [q0, some (.ref A.length), none, q3, q4] (A ++ [.dk []]) = .ok ⟨rngD 1 96, none⟩ (A ++ [.dk []]) := by simp
  rw [hi, of_ok]
  exact e1
end
end Lw

set_option Elab.async false
set_option linter.all false
set_option maxRecDepth 100000
set_option maxHeartbeats 4000000
namespace Lw
open PySem L2 Ng
theorem nuD_int (w : Str) : ∃ i : Int, nuD w = .int i := by
  by_cases h : w ∈ WDS
  · obtain ⟨j, hj, rfl⟩ := List.mem_map.mp h
    rw [List.mem_range] at hj
    exact ⟨_, nu_wd (by omega)⟩
  · exact ⟨0, nu_not h⟩
section
variable {k : Nat} {A : Store}
theorem read_tup {x : Str} {ws : List Str} (hs : Txt.split x " " = ws) (hx : x.length + 2 ≤ 16777216) (hl : ws.length ≤ 100000) {q2 q3 : Option D} :
    run (callN Fs (k + 1)) (.asg (.var 3) (.bi .tuple (.cons (.lc [4] (.var 4) (.sm .split (.var 0) (.str " ")) (.bl true) (.me .get2 (.var 1) (.cons (.var 4) (.cons (.int 0) .nil)))) .nil))) [some (.str x), some (.ref A.length), q2, q3, none] (A ++ [.dk (KW 96)]) =
      .nx [some (.str x), some (.ref A.length), q2, some (.tup (ws.map nuD)), none] (A ++ [.dk (KW 96), .lst (ws.map D.str), .lst (ws.map nuD)]) := by
  have h1 : smR .split (.str x) (.str " ") (A ++ [.dk (KW 96)]) = .ok (.ref (A.length + 1)) (A ++ [.dk (KW 96), .lst (ws.map D.str)]) := by
    rw [smR_split (by decide) (by rw [linesz_is]; exact hx), hs]
    simp
  have hi : itr (callN Fs (k + 1)) (.sm .split (.var 0) (.str " ")) [some (.str x), some (.ref A.length), q2, q3, none] (A ++ [.dk (KW 96)]) = .ok ⟨ws.map D.str, some (A.length + 1, .lst (ws.map D.str))⟩ (A ++ [.dk (KW 96), .lst (ws.map D.str)]) := by
    rw [itr_sm, ev_sm, ev_var]
    simp only [varR, List.getElem?_cons_zero, bind_ok, isS_str, cond_true, ev_str]
    rw [h1, bind_ok, itD_lst (ds := ws.map D.str) (by simp)]
  have h := lc_pure (own := [4]) (tg := .var 4) (cond := tst (callN Fs (k + 1)) (.bl true)) (elt := ev (callN Fs (k + 1)) (.me .get2 (.var 1) (.cons (.var 4) (.cons (.int 0) .nil)))) (ρ := [some (.str x), some (.ref A.length), q2, q3, none]) (S := A ++ [.dk (KW 96), .lst (ws.map D.str)]) (it := ⟨ws.map D.str, some (A.length + 1, .lst (ws.map D.str))⟩) (g := fun d => match d with | .str w => some (nuD w) | _ => none) (by simp; omega) (fun c => by simp [ckS]) (fun d hd c' => by
    obtain ⟨w, _, rfl⟩ := List.mem_map.mp hd
    have g1 : (A ++ [Cell.dk (KW 96), .lst (ws.map D.str), c'])[A.length]? = some (.dk (KW 96)) := by simp
    have e1 := get2Ok_dk g1
    have e2 := get2_dk (z := w) (d := .int 0) g1
    simp [lcF, asgT, wipeE, varR, e1, e2, nuD])
  have e : (ws.map D.str).filterMap (fun d => match d with | .str w => some (nuD w) | _ => none) = ws.map nuD := by
    rw [List.filterMap_map, ← List.filterMap_eq_map]; rfl
  simp only [e] at h
  have ht : biD .tuple [.ref (A.length + 2)] (A ++ [.dk (KW 96), .lst (ws.map D.str), .lst (ws.map nuD)]) = .ok (.tup (ws.map nuD)) (A ++ [.dk (KW 96), .lst (ws.map D.str), .lst (ws.map nuD)]) := bi_tuple_lst (by simp)
  rw [run_asg, ev_bi, evs_cons, ev_lc, hi, bind_ok, h, bind_ok, evs_nil, bind_ok, bind_ok]
  simp only [List.length_append, List.length_cons, List.length_nil, List.append_assoc, List.cons_append, List.nil_append, Nat.zero_add, Nat.reduceAdd]
  rw [ht, of_ok, asgO_var]
  rfl
theorem nus_refs (ws : List Str) : D.refsL (ws.map nuD) = [] := by
  induction ws with
  | nil => rfl
  | cons w ws ih =>
    obtain ⟨i, e⟩ := nuD_int w
    simp [D.refsL, e, D.refs, ih]
/-- reading a line -/
theorem read_ok {x : Str} {ws : List Str} {b : Bool} (hs : Txt.split x " " = ws) (hx : x.length + 2 ≤ 16777216) (hl : ws.length ≤ 100000) (ht : ∀ S, callN Fs (k + 1) i_is_tape [.tup (ws.map nuD)] S = .ok (.bl b) S) :
    callN Fs (k + 2) i_read_tape [.str x] A = if b = true then .ok (.tup (ws.map nuD)) A else .exc 0 [] A := by
  rw [cl_read_tape]
  obtain ⟨q2, h1⟩ := read_dict (k := k) (A := A) (q0 := some (.str x)) (q3 := none) (q4 := none)
  have h2 := read_tup (k := k) (A := A) hs hx hl (q2 := q2) (q3 := none)
  have h0 : run (callN Fs (k + 1)) (.asg (.var 1) .kd0) [some (.str x), none, none, none, none] A = .nx [some (.str x), some (.ref A.length), none, none, none] (A ++ [.dk []]) := by simp
  have hr := nus_refs ws
  generalize ws.map nuD = N at *
  unfold c_read_tape
  rw [run_seq, h0, seq_nx, run_seq, h1, seq_nx, run_seq, h2, seq_nx]
  cases b with
  | true => simp [varR, ht, hr]
  | false => simp [varR, ht]
end
end Lw

set_option Elab.async false
set_option linter.all false
set_option maxRecDepth 100000
set_option maxHeartbeats 4000000
namespace Lw
open PySem L2 Ng
theorem wd_len {i : Int} (h : 1 ≤ i ∧ i < 97) : (wd i).length ≤ 5 := (wds_plain _ (wd_mem h)).2.2.2
theorem sum_le {ws : List Str} {b : Nat} (h : ∀ w ∈ ws, w.length ≤ b) : (ws.map (·.length)).sum ≤ ws.length * b := by
  induction ws with
  | nil => simp
  | cons w ws ih =>
    have := ih fun x hx => h x (List.mem_cons_of_mem _ hx)
    have := h w List.mem_cons_self
    simp only [List.map_cons, List.sum_cons, List.length_cons, Nat.add_mul]
    omega
section
variable {k : Nat} {A : Store}
theorem line_ok {t : List Int} (ht : ∀ i ∈ t, 1 ≤ i ∧ i < 97) (hl : t.length ≤ 1000) : callN Fs (k + 2) i_tape_line [.tup (t.map D.int)] A = .ok (.str (Txt.join " " (t.map wd))) A := by
  rw [cl_tape_line]
  have hi : itr (callN Fs (k + 1)) (.var 0) [some (.tup (t.map D.int)), none] A = .ok ⟨t.map D.int, none⟩ A := by
    rw [itr_var]; simp only [varR, List.getElem?_cons_zero, bind_ok, itD_tup]
  have h := lc_pure (own := [1]) (tg := .var 1) (cond := tst (callN Fs (k + 1)) (.bl true)) (elt := ev (callN Fs (k + 1)) (.call i_word_of (.cons (.var 1) .nil))) (ρ := [some (.tup (t.map D.int)), none]) (S := A) (it := ⟨t.map D.int, none⟩) (g := fun d => match d with | .int i => some (.str (wd i)) | _ => none) (by simp; omega) (fun _ => rfl) (fun d hd c' => by
    obtain ⟨i, hi, rfl⟩ := List.mem_map.mp hd
    have := word_ok (k := k) (S := A ++ [c']) (ht i hi)
    simp [lcF, asgT, wipeE, varR, this])
  have e : (t.map D.int).filterMap (fun d => match d with | .int i => some (D.str (wd i)) | _ => none) = (t.map wd).map D.str := by
    rw [List.filterMap_map, List.map_map, ← List.filterMap_eq_map]; rfl
  simp only [e] at h
  have hj : smR .join (.str " ") (.ref A.length) (A ++ [.lst ((t.map wd).map D.str)]) = .ok (.str (Txt.join " " (t.map wd))) (A ++ [.lst ((t.map wd).map D.str)]) := smR_join (by simp) (by
    have := sum_le (ws := t.map wd) (b := 5) fun w hw => by obtain ⟨i, hi, rfl⟩ := List.mem_map.mp hw; exact wd_len (ht i hi)
    rw [List.length_map] at this ⊢
    rw [show (" " : Str).length = 1 by decide]
    omega)
  have key : run (callN Fs (k + 1)) c_tape_line [some (.tup (t.map D.int)), none] A = .ret (.str (Txt.join " " (t.map wd))) (A ++ [.lst ((t.map wd).map D.str)]) := by
    unfold c_tape_line
    refine sxr (h := ?_)
    rw [run_ret, ev_sm, ev_str, bind_ok]
    simp only [isS_str, cond_true]
    rw [ev_lc, hi, bind_ok, h, bind_ok, hj, of_ok]
  rw [key, finO_ret, fin_pure rfl]
theorem refused_ok {x : Str} {ws : List Str} (hs : Txt.split x " " = ws) (hx : x.length + 2 ≤ 16777216) (hl : ws.length ≤ 100000) (ht : ∀ S, callN Fs (k + 1) i_is_tape [.tup (ws.map nuD)] S = .ok (.bl false) S) :
    callN Fs (k + 3) i_law_refused [.str x] A = .ok (.bl true) A := by
  rw [cl_law_refused]
  have h := read_ok (k := k) (A := A) hs hx hl ht
  simp only [Bool.false_eq_true, if_false] at h
  simp [c_law_refused, varR, h]
end
end Lw

set_option Elab.async false
set_option linter.all false
set_option maxRecDepth 100000
set_option maxHeartbeats 4000000
namespace Lw
open PySem L2 Ng
section
variable {k : Nat}
/-- a word that is none -/
theorem bad_word {ws : List Str} (h : ∃ w ∈ ws, w ∉ WDS) (S : Store) : callN Fs (k + 2) i_is_tape [.tup (ws.map nuD)] S = .ok (.bl false) S := by
  by_cases hl : (ws.map nuD).length < 3 ∨ 400 < (ws.map nuD).length
  · exact tape_len (k := k + 1) hl
  · refine tape_sym (k := k) (by omega) (by omega) (fun d hd => ?_) ?_
    · obtain ⟨w, _, rfl⟩ := List.mem_map.mp hd
      obtain ⟨i, e⟩ := nuD_int w
      rw [e]; rfl
    · obtain ⟨w, hw, hn⟩ := h
      rw [Bool.eq_false_iff]
      intro hall
      have := List.all_eq_true.mp hall (nuD w) (List.mem_map_of_mem hw)
      rw [nu_not hn] at this
      revert this
      decide
theorem nus_wd {t : List Int} (ht : ∀ i ∈ t, 1 ≤ i ∧ i < 97) : (t.map wd).map nuD = t.map D.int := by
  rw [List.map_map]
  exact List.map_congr_left fun i hi => nu_wd (ht i hi)
end
end Lw

set_option Elab.async false
set_option linter.all false
set_option maxRecDepth 100000
set_option maxHeartbeats 4000000
namespace Lw
open PySem L2 Ng Builtin Builtin.Str
/-- behind the first find nothing more is looked for -/
theorem occ_stay (s sub : Str) (hi : Nat) : ∀ (l : List Nat) (st : Array Nat × Nat), 1 ≤ st.fst.size → (forIn l st (StrLaws.occBody s sub hi 1)).run.fst = st.fst
  | [], st, h => rfl
  | a :: l, st, h => by
    rw [List.forIn_cons]
    unfold StrLaws.occBody
    rw [if_neg (fun z => absurd z.1.1.1 (by omega))]
    exact occ_stay s sub hi l st h
theorem occ_first (s sub : Str) (hi a : Nat) (l2 : List Nat) (ha : a + sub.length ≤ hi) (hs : subAt s sub a = true) : ∀ (l1 : List Nat) (free : Nat), (∀ i ∈ l1, free ≤ i ∧ subAt s sub i = false) → free ≤ a → (forIn (l1 ++ a :: l2) ((#[] : Array Nat), free) (StrLaws.occBody s sub hi 1)).run.fst = #[a]
  | [], free, _, hf => by
    rw [List.nil_append, List.forIn_cons]
    unfold StrLaws.occBody
    rw [if_pos ⟨⟨⟨by simp, hf⟩, ha⟩, hs⟩]
    exact occ_stay s sub hi l2 _ (by simp)
  | i :: l1, free, h, hf => by
    rw [List.cons_append, List.forIn_cons]
    unfold StrLaws.occBody
    have hi' := h i List.mem_cons_self
    rw [if_neg (fun z => by rw [hi'.2] at z; exact absurd z.2 Bool.false_ne_true)]
    exact occ_first s sub hi a l2 ha hs l1 free (fun j hj => h j (List.mem_cons_of_mem _ hj)) hf
end Lw

set_option Elab.async false
set_option linter.all false
set_option maxRecDepth 100000
set_option maxHeartbeats 4000000
namespace Lw
open PySem L2 Ng Builtin Builtin.Str
theorem bl1 : (" " : Str).length = 1 := by decide
theorem bl2 : (" " : Str).cps.toList = [32] := by decide
theorem occ_start (r : List Nat) : occurrences (T ([115, 116, 97, 114, 116, 32] ++ r)) " " 0 (T ([115, 116, 97, 114, 116, 32] ++ r)).length 1 = [5] := by
  rw [StrLaws.occ_eq]
  have hl : (T ([115, 116, 97, 114, 116, 32] ++ r)).length = r.length + 6 := by rw [SX.S_len]; simp
  rw [hl]
  have e : List.range' 0 (r.length + 6 + 1 - 0) = [0, 1, 2, 3, 4] ++ 5 :: List.range' 6 (r.length + 1) := by
    rw [show r.length + 6 + 1 - 0 = 6 + (r.length + 1) by omega, ← List.range'_append]
    rfl
  rw [e, occ_first _ _ _ 5 _ (by rw [show (" " : Str).length = 1 by decide]; omega) (by rw [StrLaws.subAt_eq, bl1, bl2]; simp) [0, 1, 2, 3, 4] 0 (fun i hi => ?_) (by decide)]
  refine ⟨Nat.zero_le _, ?_⟩
  simp only [List.mem_cons, List.not_mem_nil, or_false] at hi
  rcases hi with rfl | rfl | rfl | rfl | rfl <;> (rw [StrLaws.subAt_eq, bl1, bl2]; simp)
/-- the first blank of a line by something else -/
theorem rep1_start (r : List Nat) (z : Str) : rep1 (T ([115, 116, 97, 114, 116, 32] ++ r)) " " z = T ([115, 116, 97, 114, 116] ++ cp z ++ r) := by
  unfold rep1
  rw [occ_start, bl1]
  rw [if_neg (by simp), StrLaws.partsBetween_eq]
  simp only [StrLaws.partsFrom]
  have hl : (T ([115, 116, 97, 114, 116, 32] ++ r)).length = r.length + 6 := by rw [SX.S_len]; simp
  have e1 : strSub (T ([115, 116, 97, 114, 116, 32] ++ r)) 0 5 = T [115, 116, 97, 114, 116] := by
    refine TL.ext_tl ?_
    show (((115 :: 116 :: 97 :: 114 :: 116 :: 32 :: r).toArray).extract 0 5).toList = _
    rw [Array.toList_extract]; simp [TL.tl, SX.S]
  have e2 : strSub (T ([115, 116, 97, 114, 116, 32] ++ r)) (5 + 1) (T ([115, 116, 97, 114, 116, 32] ++ r)).length = T r := by
    rw [hl]
    refine TL.ext_tl ?_
    show (((115 :: 116 :: 97 :: 114 :: 116 :: 32 :: r).toArray).extract 6 (r.length + 6)).toList = _
    rw [Array.toList_extract]; simp [TL.tl, SX.S]
  rw [e1, e2]
  have := SX.join_S (cp z) [[115, 116, 97, 114, 116], r]
  rw [show SX.S (cp z) = z from T_cp z] at this
  rw [TL.join_eq] at this
  refine Eq.trans this ?_
  simp [TL.joinL]
end Lw

set_option Elab.async false
set_option linter.all false
set_option maxRecDepth 100000
set_option maxHeartbeats 4000000
namespace Lw
open PySem L2 Ng
theorem T_app (a b : List Nat) : T a ++ T b = T (a ++ b) := by
  refine TL.ext_tl ?_
  show (Array.append a.toArray b.toArray).toList = (a ++ b).toArray.toList
  simp
theorem sp_T : (" " : Str) = T [32] := by
  refine TL.ext_tl ?_
  show (" " : Str).cps.toList = [32]
  decide
/-- the line of words -/
abbrev LN (ws : List Str) : Str := Txt.join " " ws
theorem LN_T (ws : List Str) : LN ws = T (TL.joinL [32] (ws.map cp)) := by
  rw [← join_line, maps_cp, ← sp_T]
theorem joinL_cons (a : List Nat) {l : List (List Nat)} (h : l ≠ []) : TL.joinL [32] (a :: l) = a ++ 32 :: TL.joinL [32] l := by
  cases l with
  | nil => exact absurd rfl h
  | cons b r => rfl
theorem LN_cons (w : Str) {ws : List Str} (h : ws ≠ []) : LN (w :: ws) = w ++ (" " ++ LN ws) := by
  rw [LN_T, LN_T, List.map_cons, joinL_cons _ (by simpa using h), sp_T, T_app]
  conv => rhs; rw [← T_cp w, T_app]
  rfl
theorem LN_one (w : Str) : LN [w] = w := by
  rw [LN_T]
  show T (TL.joinL [32] [cp w]) = w
  exact T_cp w
theorem sapp_assoc (a b c : Str) : a ++ b ++ c = a ++ (b ++ c) := by
  rw [← T_cp a, ← T_cp b, ← T_cp c, T_app, T_app, T_app, T_app, List.append_assoc]
/-- a word more behind -/
theorem LN_snoc : ∀ (ws : List Str) (w : Str), ws ≠ [] → LN (ws ++ [w]) = LN ws ++ (" " ++ w)
  | [], _, h => absurd rfl h
  | [v], w, _ => by
    show LN [v, w] = _
    rw [LN_cons v (by simp), LN_one, LN_one]
  | v :: u :: r, w, _ => by
    show LN (v :: (u :: r ++ [w])) = _
    rw [LN_cons v (by simp), LN_snoc (u :: r) w (by simp), LN_cons v (by simp), sapp_assoc, sapp_assoc]
/-- lines fall into their words -/
theorem LN_split {ws : List Str} (hne : ws ≠ []) (h : ∀ w ∈ ws, 32 ∉ cp w) : Txt.split (LN ws) " " = ws := by
  have := split_join hne h
  rw [← sp_T] at this
  exact this
end Lw

set_option Elab.async false
set_option linter.all false
set_option maxRecDepth 100000
set_option maxHeartbeats 4000000
namespace Lw
open PySem L2 Ng Builtin Builtin.Str
/-- a line that is refused -/
def Spo (X : Str) : Prop := ∃ ws, Txt.split X " " = ws ∧ X.length ≤ 20000 ∧ ws.length ≤ 1000 ∧ ∀ k S, callN Fs (k + 2) i_is_tape [.tup (ws.map nuD)] S = .ok (.bl false) S
theorem LN_len {b : Nat} : ∀ ws : List Str, (∀ w ∈ ws, w.length ≤ b) → (LN ws).length ≤ ws.length * (b + 1)
  | [], _ => by rw [show (LN []).length = 0 by decide]; exact Nat.zero_le _
  | [w], h => by
    rw [LN_one]
    have := h w List.mem_cons_self
    simp; omega
  | w :: v :: r, h => by
    have h1 := h w List.mem_cons_self
    have h2 := LN_len (v :: r) fun x hx => h x (List.mem_cons_of_mem _ hx)
    rw [LN_cons w (by simp), app_len, app_len, bl1, List.length_cons (a := w), Nat.add_mul]
    omega
theorem spo_bad {ws : List Str} (hne : ws ≠ []) (hl : ws.length ≤ 450) (hp : ∀ w ∈ ws, 32 ∉ cp w ∧ w.length ≤ 20) (hb : ∃ w ∈ ws, w ∉ WDS) : Spo (LN ws) := by
  refine ⟨ws, LN_split hne fun w hw => (hp w hw).1, ?_, by omega, fun k S => bad_word hb S⟩
  have := LN_len (b := 20) ws fun w hw => (hp w hw).2
  omega
theorem wd_pl {i : Int} (h : 1 ≤ i ∧ i < 97) : 32 ∉ cp (wd i) ∧ (wd i).length ≤ 20 := by
  have := wds_plain _ (wd_mem h)
  exact ⟨this.1, by omega⟩
theorem spo_tape {t : List Int} (hne : t ≠ []) (hl : t.length ≤ 450) (hr : ∀ i ∈ t, 1 ≤ i ∧ i < 97) (hf : ∀ k S, callN Fs (k + 2) i_is_tape [.tup (t.map D.int)] S = .ok (.bl false) S) : Spo (LN (t.map wd)) := by
  have hp : ∀ w ∈ t.map wd, 32 ∉ cp w ∧ w.length ≤ 20 := fun w hw => by
    obtain ⟨i, hi, rfl⟩ := List.mem_map.mp hw
    exact wd_pl (hr i hi)
  refine ⟨t.map wd, LN_split (by simpa using hne) fun w hw => (hp w hw).1, ?_, by rw [List.length_map]; omega, fun k S => by rw [nus_wd hr]; exact hf k S⟩
  have := LN_len (b := 20) (t.map wd) fun w hw => (hp w hw).2
  rw [List.length_map] at this
  omega
theorem wds_pl {w : Str} (h : w ∈ WDS) : 32 ∉ cp w ∧ w.length ≤ 20 := by
  have := wds_plain _ h
  exact ⟨this.1, by omega⟩
theorem nil_app (x : Str) : ("" : Str) ++ x = x := by
  rw [show ("" : Str) = T [] by decide, ← T_cp x, T_app]; rfl
theorem app_nil (x : Str) : x ++ ("" : Str) = x := by
  rw [show ("" : Str) = T [] by decide, ← T_cp x, T_app, List.append_nil]
theorem st_cps : ("start" : Str) = T [115, 116, 97, 114, 116] := by decide
/-- the first blank by something else -/
theorem rep_LN {R : List Str} (hne : R ≠ []) (z : Str) : rep1 (LN ("start" :: R)) " " z = "start" ++ (z ++ LN R) := by
  have e : LN ("start" :: R) = T ([115, 116, 97, 114, 116, 32] ++ cp (LN R)) := by
    rw [LN_cons _ hne, st_cps, sp_T]
    conv => lhs; rw [← T_cp (LN R), T_app, T_app]
    rfl
  rw [e, rep1_start, st_cps]
  conv => rhs; rw [← T_cp z, ← T_cp (LN R), T_app, T_app]
  rw [List.append_assoc]
theorem joinL_map {f : Nat → Nat} (hf : f 32 = 32) : ∀ L : List (List Nat), (TL.joinL [32] L).map f = TL.joinL [32] (L.map (List.map f))
  | [] => rfl
  | [a] => by simp [TL.joinL]
  | a :: b :: r => by
    have := joinL_map hf (b :: r)
    have e1 := joinL_cons a (l := b :: r) (by simp)
    have e2 := joinL_cons (a.map f) (l := (b :: r).map (List.map f)) (by simp)
    rw [e1, List.map_append, List.map_cons, hf, this]
    exact e2.symm
/-- capitals of a word -/
def up (w : Str) : Str := T ((cp w).map PyProof.Rows.up1)
theorem wds_up : ∀ w ∈ WDS, 32 ∉ cp (up w) ∧ (up w).length ≤ 20 ∧ (cp w).all (· < 128) = true := by decide +kernel
theorem upper_LN {ws : List Str} (hw : ∀ w ∈ ws, w ∈ WDS) : Txt.upper (LN ws) = LN (ws.map up) := by
  have ha : ∀ l : List Str, (∀ w ∈ l, w ∈ WDS) → (TL.joinL [32] (l.map cp)).all (· < 128) = true := by
    intro l
    induction l with
    | nil => intro _; rfl
    | cons a l ih =>
      intro h
      have h1 := (wds_up a (h a List.mem_cons_self)).2.2
      cases l with
      | nil => simpa [TL.joinL] using h1
      | cons b r =>
        rw [List.map_cons, joinL_cons _ (by simp), List.all_append, List.all_cons, h1, ih fun w hw => h w (List.mem_cons_of_mem _ hw)]
        rfl
  rw [LN_T, SX.upper_S (ha ws hw), joinL_map (by decide), LN_T]
  congr 1
  rw [List.map_map, List.map_map]
  rfl
end Lw

set_option Elab.async false
set_option linter.all false
set_option maxRecDepth 100000
set_option maxHeartbeats 4000000
namespace Lw
open PySem L2 Ng Builtin Builtin.Str
/-- a command of the tape -/
def CmdI (c : Int) : Prop := c = 1 ∨ c = 2 ∨ c = 3 ∨ (8 ≤ c ∧ c < 97)
theorem CmdI.rng {c : Int} (h : CmdI c) : 1 ≤ c ∧ c < 97 := by unfold CmdI at h; omega
theorem CmdI.cmd {c : Int} (h : CmdI c) : cmdD (.int c) = true := by
  unfold CmdI at h
  simp only [cmdD, Bool.or_eq_true, Bool.and_eq_true, decide_eq_true_eq]
  omega
section
variable {cs : List Int} {a : Int}
/-- the tape, its words -/
abbrev tpL (cs : List Int) (a : Int) : List Int := 6 :: cs ++ [a, 7]
abbrev Wd (cs : List Int) (a : Int) : List Str := (tpL cs a).map wd
theorem tp_rng (hc : ∀ c ∈ cs, CmdI c) (ha : a = 4 ∨ a = 5) : ∀ i ∈ tpL cs a, 1 ≤ i ∧ i < 97 := by
  intro i hi
  simp only [tpL, List.cons_append, List.mem_cons, List.mem_append, List.not_mem_nil, or_false] at hi
  rcases hi with rfl | h | rfl | rfl
  · omega
  · exact (hc i h).rng
  · omega
  · omega
theorem Wd_mem (hc : ∀ c ∈ cs, CmdI c) (ha : a = 4 ∨ a = 5) : ∀ w ∈ Wd cs a, w ∈ WDS := fun w hw => by
  obtain ⟨i, hi, rfl⟩ := List.mem_map.mp hw
  exact wd_mem (tp_rng hc ha i hi)
theorem wd6 : wd 6 = "start" := by decide
theorem wd7 : wd 7 = "end" := by decide
/-- the words behind the first -/
abbrev Rw (cs : List Int) (a : Int) : List Str := (cs ++ [a, 7]).map wd
theorem Wd_cons : Wd cs a = ("start" : Str) :: Rw cs a := by simp [wd6]
theorem Rw_ne : Rw cs a ≠ [] := by simp
theorem Wd_snoc : Wd cs a = ((6 :: cs ++ [a]).map wd) ++ [("end" : Str)] := by simp [wd7]
theorem Wd_len : (Wd cs a).length = cs.length + 3 := by simp
theorem Rw_mem (hc : ∀ c ∈ cs, CmdI c) (ha : a = 4 ∨ a = 5) : ∀ w ∈ Rw cs a, w ∈ WDS := fun w hw => Wd_mem hc ha w (by rw [Wd_cons]; exact List.mem_cons_of_mem _ hw)
theorem Rw_len : (Rw cs a).length = cs.length + 2 := by simp
theorem start_mem : ("start" : Str) ∈ WDS := by decide +kernel
theorem pl_nil : 32 ∉ cp ("" : Str) ∧ ("" : Str).length ≤ 20 := by decide
theorem nil_not : ("" : Str) ∉ WDS := by decide +kernel
variable (hc : ∀ c ∈ cs, CmdI c) (ha : a = 4 ∨ a = 5) (hl : cs.length ≤ 37)
include hc ha hl
theorem pl_all : ∀ w ∈ Wd cs a, 32 ∉ cp w ∧ w.length ≤ 20 := fun w hw => wds_pl (Wd_mem hc ha w hw)
theorem sp_0 : Spo (" " ++ LN (Wd cs a)) := by
  have e : " " ++ LN (Wd cs a) = LN (("" : Str) :: Wd cs a) := by rw [LN_cons "" (by simp), nil_app]
  rw [e]
  refine spo_bad (by simp) (by simp; omega) (fun w hw => ?_) ⟨"", List.mem_cons_self, nil_not⟩
  rcases List.mem_cons.mp hw with rfl | h
  · exact pl_nil
  · exact pl_all hc ha hl w h
theorem sp_1 : Spo (LN (Wd cs a) ++ " ") := by
  have e : LN (Wd cs a) ++ " " = LN (Wd cs a ++ [("" : Str)]) := by rw [LN_snoc _ "" (by simp), app_nil]
  rw [e]
  refine spo_bad (by simp) (by simp; omega) (fun w hw => ?_) ⟨"", by simp, nil_not⟩
  rcases List.mem_append.mp hw with h | h
  · exact pl_all hc ha hl w h
  · rw [List.mem_singleton] at h; subst h; exact pl_nil
theorem sp_2 : Spo (LN (Wd cs a) ++ "\n") := by
  have e : LN (Wd cs a) ++ "\n" = LN (((6 :: cs ++ [a]).map wd) ++ [("end\n" : Str)]) := by
    rw [Wd_snoc, LN_snoc _ _ (by simp), LN_snoc _ _ (by simp), sapp_assoc, sapp_assoc]
    congr 1
  rw [e]
  refine spo_bad (by simp) (by simp; omega) (fun w hw => ?_) ⟨"end\n", by simp, by decide +kernel⟩
  rcases List.mem_append.mp hw with h | h
  · exact pl_all hc ha hl w (by rw [Wd_snoc]; exact List.mem_append_left _ h)
  · rw [List.mem_singleton] at h; subst h; decide
theorem sp_3 : Spo (rep1 (LN (Wd cs a)) " " "  ") := by
  have e : rep1 (LN (Wd cs a)) " " "  " = LN (("start" : Str) :: ("" : Str) :: Rw cs a) := by
    rw [Wd_cons, rep_LN Rw_ne, LN_cons _ (by simp), LN_cons _ Rw_ne, nil_app]
    rw [show ("  " : Str) = " " ++ " " by decide, sapp_assoc]
  rw [e]
  refine spo_bad (by simp) (by simp; omega) (fun w hw => ?_) ⟨"", by simp, nil_not⟩
  rcases List.mem_cons.mp hw with rfl | h
  · exact wds_pl start_mem
  rcases List.mem_cons.mp h with rfl | h
  · exact pl_nil
  · exact wds_pl (Rw_mem hc ha w h)
theorem sp_4 : Spo (rep1 (LN (Wd cs a)) " " "\t") := by
  obtain ⟨m, M, hM, hne⟩ : ∃ m M, Rw cs a = m :: M ∧ M ≠ [] := by
    cases cs with
    | nil => exact ⟨wd a, [wd 7], rfl, by simp⟩
    | cons c r => exact ⟨wd c, (r ++ [a, 7]).map wd, rfl, by simp⟩
  have hm := Rw_mem hc ha
  have hlen := Rw_len (cs := cs) (a := a)
  rw [hM] at hm hlen
  have hw1 := wds_pl (hm m List.mem_cons_self)
  have e : rep1 (LN (Wd cs a)) " " "\t" = LN (((("start" : Str) ++ ("\t" : Str)) ++ m) :: M) := by
    rw [Wd_cons, rep_LN Rw_ne, hM, LN_cons _ hne, LN_cons _ hne, sapp_assoc, sapp_assoc]
  have hcp : ∀ x y : Str, cp (x ++ y) = cp x ++ cp y := fun x y => by
    show (Array.append x.cps y.cps).toList = _
    simp
  rw [e]
  refine spo_bad (by simp) (by simp at hlen ⊢; omega) (fun w hw => ?_) ⟨_, List.mem_cons_self, fun h => ?_⟩
  · rcases List.mem_cons.mp hw with rfl | h
    · refine ⟨?_, ?_⟩
      · rw [hcp]
        intro h
        rcases List.mem_append.mp h with h | h
        · exact absurd h (by decide)
        · exact hw1.1 h
      · have h5 := (wds_plain _ (hm m List.mem_cons_self)).2.2.2
        rw [app_len, show (("start" : Str) ++ "\t").length = 6 by decide]
        omega
    · exact wds_pl (hm w (List.mem_cons_of_mem _ h))
  · have h6 : ∀ w ∈ WDS, 9 ∉ cp w := by decide +kernel
    refine h6 _ h ?_
    rw [hcp, hcp]
    simp [show cp ("\t" : Str) = [9] by decide]
theorem sp_5 : Spo "" := by
  have e : ("" : Str) = LN [("" : Str)] := by rw [LN_one]
  rw [e]
  exact spo_bad (by simp) (by simp) (fun w hw => by rw [List.mem_singleton] at hw; subst hw; exact pl_nil) ⟨"", by simp, nil_not⟩
theorem sp_6 : Spo (LN (Rw cs a)) := by
  have hr : ∀ i ∈ cs ++ [a, 7], 1 ≤ i ∧ i < 97 := fun i hi => tp_rng hc ha i (List.mem_cons_of_mem _ hi)
  refine spo_tape (by simp) (by simp; omega) hr fun k S => ?_
  cases cs with
  | nil => exact tape_len (k := k + 1) (.inl (by simp))
  | cons c r =>
    have := tape_form (k := k) (S := S) (x := c) (mid := r) (y := a) (z := 7) (by simp at hl; omega) (fun i hi => hr i (by simpa using hi))
    have hx : ¬ c = 6 := by
      have := hc c List.mem_cons_self
      unfold CmdI at this
      omega
    rw [decide_eq_false hx, Bool.false_and] at this
    exact this
theorem sp_7 : Spo (LN ((6 :: cs ++ [a]).map wd)) := by
  have hr : ∀ i ∈ 6 :: cs ++ [a], 1 ≤ i ∧ i < 97 := fun i hi => tp_rng hc ha i (by
    simp only [tpL, List.cons_append, List.mem_cons, List.mem_append, List.not_mem_nil, or_false] at hi ⊢
    rcases hi with h | h | h
    · exact .inl h
    · exact .inr (.inl h)
    · exact .inr (.inr (.inl h)))
  refine spo_tape (by simp) (by simp; omega) hr fun k S => ?_
  rcases List.eq_nil_or_concat cs with rfl | ⟨r, c, rfl⟩
  · exact tape_len (k := k + 1) (.inl (by simp))
  · rw [List.concat_eq_append] at hr hl ⊢
    have := tape_form (k := k) (S := S) (x := 6) (mid := r) (y := c) (z := a) (by simp at hl; omega) (fun i hi => hr i (by simpa using hi))
    rw [decide_eq_false (show ¬ a = 7 by omega), Bool.false_and, Bool.and_false, Bool.and_false] at this
    simpa using this
theorem sp_8 : Spo (LN ((6 :: cs ++ [7, a]).map wd)) := by
  have hr : ∀ i ∈ 6 :: cs ++ [7, a], 1 ≤ i ∧ i < 97 := fun i hi => tp_rng hc ha i (by
    simp only [tpL, List.cons_append, List.mem_cons, List.mem_append, List.not_mem_nil, or_false] at hi ⊢
    rcases hi with h | h | h | h
    · exact .inl h
    · exact .inr (.inl h)
    · exact .inr (.inr (.inr h))
    · exact .inr (.inr (.inl h)))
  refine spo_tape (by simp) (by simp; omega) hr fun k S => ?_
  have := tape_form (k := k) (S := S) (x := 6) (mid := cs) (y := 7) (z := a) (by omega) hr
  simpa using this
theorem sp_13 : Spo (LN (Wd cs a) ++ " end") := by
  have e : LN (Wd cs a) ++ " end" = LN ((6 :: cs ++ [a, 7, 7]).map wd) := by
    rw [show (6 :: cs ++ [a, 7, 7]).map wd = Wd cs a ++ [("end" : Str)] by simp [wd7], LN_snoc _ _ (by simp)]
    congr 1
  have hr : ∀ i ∈ 6 :: cs ++ [a, 7, 7], 1 ≤ i ∧ i < 97 := fun i hi => tp_rng hc ha i (by
    simp only [tpL, List.cons_append, List.mem_cons, List.mem_append, List.not_mem_nil, or_false] at hi ⊢
    rcases hi with h | h | h | h | h
    · exact .inl h
    · exact .inr (.inl h)
    · exact .inr (.inr (.inl h))
    · exact .inr (.inr (.inr h))
    · exact .inr (.inr (.inr h)))
  rw [e]
  refine spo_tape (by simp) (by simp; omega) hr fun k S => ?_
  have := tape_form (k := k) (S := S) (x := 6) (mid := cs ++ [a]) (y := 7) (z := 7) (by simp; omega) (fun i hi => hr i (by simpa using hi))
  simpa using this
theorem sp_14 : Spo ("start " ++ LN (Wd cs a)) := by
  have e : "start " ++ LN (Wd cs a) = LN ((6 :: tpL cs a).map wd) := by
    rw [List.map_cons, wd6, LN_cons _ (by simp), ← sapp_assoc]
    congr 1
  have hr : ∀ i ∈ 6 :: tpL cs a, 1 ≤ i ∧ i < 97 := fun i hi => by
    rcases List.mem_cons.mp hi with rfl | h
    · omega
    · exact tp_rng hc ha i h
  rw [e]
  refine spo_tape (by simp) (by simp; omega) hr fun k S => ?_
  have := tape_form (k := k) (S := S) (x := 6) (mid := 6 :: cs) (y := a) (z := 7) (by simp; omega) (fun i hi => hr i (by simpa using hi))
  rw [show ((6 :: cs).all fun i => cmdD (.int i)) = false by simp [cmdD]] at this
  simpa using this
theorem sp_11 : Spo (Txt.upper (LN (Wd cs a))) := by
  rw [upper_LN (Wd_mem hc ha)]
  refine spo_bad (by simp) (by simp; omega) (fun w hw => ?_) ⟨up "start", by rw [Wd_cons]; exact List.mem_map_of_mem List.mem_cons_self, by decide +kernel⟩
  obtain ⟨v, hv, rfl⟩ := List.mem_map.mp hw
  have := wds_up v (Wd_mem hc ha v hv)
  exact ⟨this.1, this.2.1⟩
theorem sp_12 : Spo ("\n" ++ LN (Wd cs a)) := by
  have e : "\n" ++ LN (Wd cs a) = LN (("\nstart" : Str) :: Rw cs a) := by
    rw [Wd_cons, LN_cons _ Rw_ne, LN_cons _ Rw_ne, ← sapp_assoc]
    congr 1
  rw [e]
  refine spo_bad (by simp) (by simp; omega) (fun w hw => ?_) ⟨_, List.mem_cons_self, by decide +kernel⟩
  rcases List.mem_cons.mp hw with rfl | h
  · decide
  · exact wds_pl (Rw_mem hc ha w h)
/-- a word put in -/
theorem sp_put {at' : Nat} {B : List Str} (b : List Str) (hb : ∀ w ∈ b, 32 ∉ cp w ∧ w.length ≤ 20) (hn : ∃ w ∈ b, w ∉ WDS) (hlb : b.length ≤ 2) (hB : ∃ j, B = (Wd cs a).drop j) : Spo (LN ((Wd cs a).take at' ++ b ++ B)) := by
  obtain ⟨w0, hw0, hn0⟩ := hn
  obtain ⟨j, rfl⟩ := hB
  refine spo_bad (fun e => ?_) ?_ (fun w hw => ?_) ⟨w0, by simp [hw0], hn0⟩
  · have : b = [] := by
      have := congrArg List.length e
      simp only [List.length_append, List.length_nil] at this
      exact List.length_eq_zero_iff.mp (by omega)
    rw [this] at hw0
    exact absurd hw0 (List.not_mem_nil)
  · have h1 := List.length_take_le at' (Wd cs a)
    have h2 := (List.drop_sublist j (Wd cs a)).length_le
    have h3 := Wd_len (cs := cs) (a := a)
    simp only [List.length_append]
    have h4 := (List.take_sublist at' (Wd cs a)).length_le
    omega
  · rcases List.mem_append.mp hw with h | h
    · rcases List.mem_append.mp h with h | h
      · exact pl_all hc ha hl w (List.mem_of_mem_take h)
      · exact hb w h
    · exact pl_all hc ha hl w (List.mem_of_mem_drop h)
theorem LN_mid (A B : List Str) (x y : Str) : LN (A ++ [x ++ (" " ++ y)] ++ B) = LN (A ++ [x, y] ++ B) := by
  have h : ∀ B : List Str, LN ((x ++ (" " ++ y)) :: B) = LN (x :: y :: B) := fun B => by
    cases B with
    | nil => rw [LN_one, LN_cons _ (by simp), LN_one]
    | cons b r => rw [LN_cons (x ++ (" " ++ y)) (ws := b :: r) (by simp), LN_cons x (ws := y :: b :: r) (by simp), LN_cons y (ws := b :: r) (by simp), sapp_assoc, sapp_assoc]
  clear hc ha hl
  induction A with
  | nil => simpa using h B
  | cons c A ih =>
    have e1 := LN_cons c (ws := A ++ [x ++ (" " ++ y)] ++ B) (by simp)
    have e2 := LN_cons c (ws := A ++ [x, y] ++ B) (by simp)
    rw [ih] at e1
    exact e1.trans e2.symm
end
end Lw

set_option Elab.async false
set_option linter.all false
set_option maxRecDepth 100000
set_option maxHeartbeats 8000000
namespace Lw
open PySem L2 Ng Builtin Builtin.Str
theorem jn {S : Store} {p : Nat} {ys : List Str} (h : S[p]? = some (.lst (ys.map D.str))) (hl : ys.length ≤ 500) (hw : ∀ w ∈ ys, w.length ≤ 20) : smR .join (.str " ") (.ref p) S = .ok (.str (LN ys)) S := smR_join h (by
  have := sum_le hw
  rw [bl1]; omega)
theorem rep_le (x z : Str) (h : x.length + z.length ≤ 16777216) (S : Store) : rep1R " " z (.str x) S = .ok (.str (rep1 x " " z)) S := if_pos h
def BADS : List Str := ["d16", "w73", "d01", "w007", "d", "w", "-1", "Left", "d-1", "w+1", "forth.", "d1 5x"]
def K15 (W : List Str) (x y : Str) (at' : Nat) (bad : Str) : List Str := [" " ++ LN W, LN W ++ " ", LN W ++ "\n", rep1 (LN W) " " "  ", rep1 (LN W) " " "\t", "", LN (W.drop 1), LN (W.take (W.length - 1)), LN (W.take (W.length - 2) ++ [x, y]), LN (W.take at' ++ [bad] ++ W.drop (at' + 1)), LN (W.take at' ++ [("" : Str)] ++ W.drop at'), Txt.upper (LN W), "\n" ++ LN W, LN W ++ " end", "start " ++ LN W]
theorem cut_fromS (W : List Str) (j : Nat) : cutD (W.map D.str) (some (j : Int)) none = (W.drop j).map D.str := by rw [cut_from, List.map_drop]
theorem cut_toS (W : List Str) (j : Nat) : cutD (W.map D.str) none (some (j : Int)) = (W.take j).map D.str := by rw [cut_to', List.map_take]
theorem cut_hiS {W : List Str} {j : Nat} (h : j ≤ W.length) (h0 : 0 < j) : cutD (W.map D.str) none (some (-(j : Int))) = (W.take (W.length - j)).map D.str := by rw [cut_hi (by simpa using h) h0, List.length_map, List.map_take]
section
variable {P : Nat → List D → Store → R D} {S : Store} {W : List Str} {n q : Nat} {ds : List D} {d at' : Int} {L bad : Str}
theorem b2_str {x y : Str} (h : x.length + y.length ≤ 16777216) (S : Store) : bin2 .add (.str x) (.str y) S = .ok (.str (x ++ y)) S := if_pos h
theorem up_ok {x : Str} (h : x.length ≤ 5000000) (S : Store) : sm0R .upper (.str x) S = .ok (.str (Txt.upper x)) S := if_pos (by omega)
theorem st4 (hL : L.length ≤ 1000) {q5 : Option D} : run P (.asg (.var 5) (.rpl6 " " (.var 2) (.bin .add (.var 2) (.str " ")) (.bin .add (.var 2) (.str "\n")) " " "  " " " "\t" (.str ""))) [some (.ref n), some (.int d), some (.str L), some (.int at'), some (.str bad), q5] S
      = .nx [some (.ref n), some (.int d), some (.str L), some (.int at'), some (.str bad), some (.ref S.length)] (S ++ [.lst ([" " ++ L, L ++ " ", L ++ "\n", rep1 L " " "  ", rep1 L " " "\t", ""].map D.str)]) := by
  have a1 := fun S => b2_str (x := " ") (y := L) (by rw [bl1]; omega) S
  have a2 := fun S => b2_str (x := L) (y := " ") (by rw [bl1]; omega) S
  have a3 := fun S => b2_str (x := L) (y := "\n") (by rw [show ("\n" : Str).length = 1 by decide]; omega) S
  have a4 := fun S => rep_le L "  " (by rw [show ("  " : Str).length = 2 by decide]; omega) S
  have a5 := fun S => rep_le L "\t" (by rw [show ("\t" : Str).length = 1 by decide]; omega) S
  have l6 : 6 ≤ linesz := by decide
  simp [varR, a1, a2, a3, a4, a5, l6]
theorem st5 {x y : Str} {W1 W2 W3 : List Str} (hS : S[n]? = some (.lst (W.map D.str))) (hq : S[q]? = some (.lst ds)) (hds : ds.length ≤ 100)
    (c1 : cutD (W.map D.str) (some 1) none = W1.map D.str) (c2 : cutD (W.map D.str) none (some (-1)) = W2.map D.str) (c3 : cutD (W.map D.str) none (some (-2)) = W3.map D.str)
    (aX : ∀ S, atR (W.map D.str) (-1) S = .ok (.str x) S) (aY : ∀ S, atR (W.map D.str) (-2) S = .ok (.str y) S)
    (h1 : W1.length ≤ 50 ∧ ∀ w ∈ W1, w.length ≤ 20) (h2 : W2.length ≤ 50 ∧ ∀ w ∈ W2, w.length ≤ 20) (h3 : W3.length ≤ 50 ∧ ∀ w ∈ W3, w.length ≤ 20) (hx : x.length ≤ 20) (hy : y.length ≤ 20) :
    ∃ suf p, run P (.asg (.var 5) (.bin .add (.var 5) (.lst (.cons (.sm .join (.str " ") (.slc (.var 0) (.int 1) .nil)) (.cons (.sm .join (.str " ") (.slc (.var 0) .nil (.neg (.int 1)))) (.cons (.sm .join (.str " ") (.bin .add (.slc (.var 0) .nil (.neg (.int 2))) (.lst (.cons (.ix (.var 0) (.neg (.int 1))) (.cons (.ix (.var 0) (.neg (.int 2))) .nil))))) .nil)))))) [some (.ref n), some (.int d), some (.str L), some (.int at'), some (.str bad), some (.ref q)] S
      = .nx [some (.ref n), some (.int d), some (.str L), some (.int at'), some (.str bad), some (.ref p)] (S ++ suf) ∧ (S ++ suf)[p]? = some (.lst (ds ++ [LN W1, LN W2, LN (W3 ++ [x, y])].map D.str)) := by
  have hW : ∀ l, (S ++ l)[n]? = some (.lst (W.map D.str)) := fun l => get_lo hS
  have hQ : ∀ l, (S ++ l)[q]? = some (.lst ds) := fun l => get_lo hq
  have j1 := fun (T : Store) p (h : T[p]? = _) => jn (S := T) (p := p) (ys := W1) h (by omega) h1.2
  have j2 := fun (T : Store) p (h : T[p]? = _) => jn (S := T) (p := p) (ys := W2) h (by omega) h2.2
  have j3 := fun (T : Store) p (h : T[p]? = some (.lst (W3.map D.str ++ [D.str x, D.str y]))) => jn (S := T) (p := p) (ys := W3 ++ [x, y]) (by rw [h, List.map_append]; rfl) (by simp; omega) (fun w hw => by
    rcases List.mem_append.mp hw with h | h
    · exact h3.2 w h
    · simp only [List.mem_cons, List.not_mem_nil, or_false] at h
      rcases h with rfl | rfl
      · exact hx
      · exact hy)
  have l2 : 2 ≤ linesz := by decide
  have l3 : 3 ≤ linesz := by decide
  have z1 : W3.length + 2 ≤ linesz := by rw [linesz_is]; omega
  have z2 : ds.length + 3 ≤ linesz := by rw [linesz_is]; omega
  generalize W.map D.str = Wd at *
  refine ⟨[.lst (W1.map D.str), .lst (W2.map D.str), .lst (W3.map D.str), .lst [.str x, .str y], .lst (W3.map D.str ++ [.str x, .str y]), .lst [.str (LN W1), .str (LN W2), .str (LN (W3 ++ [x, y]))], .lst (ds ++ [.str (LN W1), .str (LN W2), .str (LN (W3 ++ [x, y]))])], S.length + 6, ?_, by simp⟩
  simp [varR, hS, hq, hW, hQ, c1, c2, c3, j1, j2, j3, aX, aY, l2, l3, z1, z2]
theorem st6 {W1 W2 W3 : List Str} (hS : S[n]? = some (.lst (W.map D.str))) (hq : S[q]? = some (.lst ds)) (hds : ds.length ≤ 100)
    (c1 : cutD (W.map D.str) none (some at') = W1.map D.str) (c2 : cutD (W.map D.str) (some (at' + 1)) none = W2.map D.str) (c3 : cutD (W.map D.str) (some at') none = W3.map D.str)
    (h1 : W1.length ≤ 50 ∧ ∀ w ∈ W1, w.length ≤ 20) (h2 : W2.length ≤ 50 ∧ ∀ w ∈ W2, w.length ≤ 20) (h3 : W3.length ≤ 50 ∧ ∀ w ∈ W3, w.length ≤ 20) (hb : bad.length ≤ 20) :
    ∃ suf p, run P (.asg (.var 5) (.bin .add (.var 5) (.lst (.cons (.sm .join (.str " ") (.bin .add (.bin .add (.slc (.var 0) .nil (.var 3)) (.lst (.cons (.var 4) .nil))) (.slc (.var 0) (.bin .add (.var 3) (.int 1)) .nil))) (.cons (.sm .join (.str " ") (.bin .add (.bin .add (.slc (.var 0) .nil (.var 3)) (.lst (.cons (.str "") .nil))) (.slc (.var 0) (.var 3) .nil))) .nil))))) [some (.ref n), some (.int d), some (.str L), some (.int at'), some (.str bad), some (.ref q)] S
      = .nx [some (.ref n), some (.int d), some (.str L), some (.int at'), some (.str bad), some (.ref p)] (S ++ suf) ∧ (S ++ suf)[p]? = some (.lst (ds ++ [LN (W1 ++ [bad] ++ W2), LN (W1 ++ [("" : Str)] ++ W3)].map D.str)) := by
  have hW : ∀ l, (S ++ l)[n]? = some (.lst (W.map D.str)) := fun l => get_lo hS
  have hQ : ∀ l, (S ++ l)[q]? = some (.lst ds) := fun l => get_lo hq
  have j1 := fun (T : Store) p (h : T[p]? = some (.lst (W1.map D.str ++ D.str bad :: W2.map D.str))) => jn (S := T) (p := p) (ys := W1 ++ [bad] ++ W2) (by rw [h]; simp) (by simp; omega) (fun w hw => by
    simp only [List.mem_append, List.mem_singleton] at hw
    rcases hw with (h | rfl) | h
    · exact h1.2 w h
    · exact hb
    · exact h2.2 w h)
  have j2 := fun (T : Store) p (h : T[p]? = some (.lst (W1.map D.str ++ D.str "" :: W3.map D.str))) => jn (S := T) (p := p) (ys := W1 ++ [("" : Str)] ++ W3) (by rw [h]; simp) (by simp; omega) (fun w hw => by
    simp only [List.mem_append, List.mem_singleton] at hw
    rcases hw with (h | rfl) | h
    · exact h1.2 w h
    · decide
    · exact h3.2 w h)
  have l1 : 1 ≤ linesz := by decide
  have l2 : 2 ≤ linesz := by decide
  have z1 : W1.length + 1 ≤ linesz := by rw [linesz_is]; omega
  have z3 : W1.length + 1 + W2.length ≤ linesz := by rw [linesz_is]; omega
  have z4 : W1.length + 1 + W3.length ≤ linesz := by rw [linesz_is]; omega
  have z2 : ds.length + 2 ≤ linesz := by rw [linesz_is]; omega
  generalize hA : LN (W1 ++ [bad] ++ W2) = A at *
  generalize hB : LN (W1 ++ [("" : Str)] ++ W3) = B at *
  generalize W.map D.str = Wd at *
  refine ⟨[.lst (W1.map D.str), .lst [.str bad], .lst (W1.map D.str ++ [.str bad]), .lst (W2.map D.str), .lst (W1.map D.str ++ .str bad :: W2.map D.str), .lst (W1.map D.str), .lst [.str ""], .lst (W1.map D.str ++ [.str ""]), .lst (W3.map D.str), .lst (W1.map D.str ++ .str "" :: W3.map D.str), .lst [.str A, .str B], .lst (ds ++ [.str A, .str B])], S.length + 11, ?_, by simp⟩
  simp [varR, hS, hq, hW, hQ, c1, c2, c3, j1, j2, l1, l2, z1, z2, z3, z4]
theorem st7 (hL : L.length ≤ 1000) (hq : S[q]? = some (.lst ds)) (hds : ds.length ≤ 100) : ∃ suf p, run P (.asg (.var 5) (.bin .add (.var 5) (.lst (.cons (.sm0 .upper (.var 2)) (.cons (.bin .add (.str "\n") (.var 2)) (.cons (.bin .add (.var 2) (.str " end")) (.cons (.bin .add (.str "start ") (.var 2)) .nil))))))) [some (.ref n), some (.int d), some (.str L), some (.int at'), some (.str bad), some (.ref q)] S
      = .nx [some (.ref n), some (.int d), some (.str L), some (.int at'), some (.str bad), some (.ref p)] (S ++ suf) ∧ (S ++ suf)[p]? = some (.lst (ds ++ [Txt.upper L, "\n" ++ L, L ++ " end", "start " ++ L].map D.str)) := by
  have hQ : ∀ l, (S ++ l)[q]? = some (.lst ds) := fun l => get_lo hq
  have a1 := fun S => up_ok (x := L) (by omega) S
  have a2 := fun S => b2_str (x := "\n") (y := L) (by rw [show ("\n" : Str).length = 1 by decide]; omega) S
  have a3 := fun S => b2_str (x := L) (y := " end") (by rw [show (" end" : Str).length = 4 by decide]; omega) S
  have a4 := fun S => b2_str (x := "start ") (y := L) (by rw [show ("start " : Str).length = 6 by decide]; omega) S
  have l4 : 4 ≤ linesz := by decide
  have z2 : ds.length + 4 ≤ linesz := by rw [linesz_is]; omega
  refine ⟨[.lst ([Txt.upper L, "\n" ++ L, L ++ " end", "start " ++ L].map D.str), .lst (ds ++ [Txt.upper L, "\n" ++ L, L ++ " end", "start " ++ L].map D.str)], S.length + 1, ?_, by simp⟩
  simp [varR, hq, hQ, a1, a2, a3, a4, l4, z2]
end
section
variable {k : Nat} {S : Store} {W : List Str} {n : Nat}
theorem eval_spoilt (hS : S[n]? = some (.lst (W.map D.str))) (hl3 : 3 ≤ W.length) (hl : W.length ≤ 45) (hw : ∀ w ∈ W, w.length ≤ 20) {d : Int} (hd : 0 ≤ d) :
    ∃ x y at' bad X, at' < W.length ∧ bad ∈ BADS ∧ W[W.length - 1]? = some x ∧ W[W.length - 2]? = some y ∧ (K15 W x y at' bad)[(d % 15).toNat]? = some X ∧ callN Fs (k + 1) i_law_spoilt [.ref n, .int d] S = .ok (.str X) S := by
  have hm0 : (0 : Int) < (W.length : Int) := by omega
  have h1 : 0 ≤ d / 20 % (W.length : Int) := Int.emod_nonneg _ (by omega)
  have h2 : d / 20 % (W.length : Int) < W.length := Int.emod_lt_of_pos _ hm0
  obtain ⟨at', hat⟩ : ∃ t : Nat, (t : Int) = d / 20 % (W.length : Int) := ⟨_, Int.toNat_of_nonneg h1⟩
  obtain ⟨b, hb, eb⟩ := at_mem (ds := BADS.map D.str) (i := d / 200 % 12) (by omega) (by rw [List.length_map]; show _ < (12 : Int); omega)
  obtain ⟨bad, hbad, rfl⟩ := List.mem_map.mp hb
  simp only [BADS, List.map_cons, List.map_nil] at eb
  obtain ⟨x, hx⟩ : ∃ x, W[W.length - 1]? = some x := ⟨_, List.getElem?_eq_getElem (by omega)⟩
  obtain ⟨y, hy⟩ : ∃ y, W[W.length - 2]? = some y := ⟨_, List.getElem?_eq_getElem (by omega)⟩
  have hK : (K15 W x y at' bad).length = 15 := rfl
  obtain ⟨X, hX⟩ : ∃ X, (K15 W x y at' bad)[(d % 15).toNat]? = some X := ⟨_, List.getElem?_eq_getElem (by rw [hK]; omega)⟩
  refine ⟨x, y, at', bad, X, by omega, hbad, hx, hy, hX, ?_⟩
  have hL : (LN W).length ≤ 1000 := by
    have := LN_len W hw
    omega
  have aX : ∀ S, atR (W.map D.str) (-1) S = .ok (.str x) S := fun S => at_neg (k := 1) (by omega) (by rw [List.length_map]; omega) (by rw [List.length_map, List.getElem?_map, hx]; rfl)
  have aY : ∀ S, atR (W.map D.str) (-2) S = .ok (.str y) S := fun S => at_neg (k := 2) (by omega) (by rw [List.length_map]; omega) (by rw [List.length_map, List.getElem?_map, hy]; rfl)
  have hwx : x.length ≤ 20 := hw x (List.mem_of_getElem? hx)
  have hwy : y.length ≤ 20 := hw y (List.mem_of_getElem? hy)
  have hwb : bad.length ≤ 20 := by
    have : ∀ w ∈ BADS, w.length ≤ 20 := by decide
    exact this bad hbad
  have wt : ∀ j, (W.take j).length ≤ 50 ∧ ∀ w ∈ W.take j, w.length ≤ 20 := fun j => ⟨by rw [List.length_take]; omega, fun w h => hw w (List.mem_of_mem_take h)⟩
  have wr : ∀ j, (W.drop j).length ≤ 50 ∧ ∀ w ∈ W.drop j, w.length ≤ 20 := fun j => ⟨by rw [List.length_drop]; omega, fun w h => hw w (List.mem_of_mem_drop h)⟩
  have c1 : cutD (W.map D.str) (some 1) none = (W.drop 1).map D.str := cut_fromS W 1
  have c2 : cutD (W.map D.str) none (some (-1)) = (W.take (W.length - 1)).map D.str := cut_hiS (j := 1) (by omega) (by omega)
  have c3 : cutD (W.map D.str) none (some (-2)) = (W.take (W.length - 2)).map D.str := cut_hiS (j := 2) (by omega) (by omega)
  have c4 : cutD (W.map D.str) none (some (at' : Int)) = (W.take at').map D.str := cut_toS W at'
  have c5 : cutD (W.map D.str) (some ((at' : Int) + 1)) none = (W.drop (at' + 1)).map D.str := cut_fromS W (at' + 1)
  have c6 : cutD (W.map D.str) (some (at' : Int)) none = (W.drop at').map D.str := cut_fromS W at'
  rw [cl_law_spoilt]
  have hW : ∀ l, (S ++ l)[n]? = some (.lst (W.map D.str)) := fun l => get_lo hS
  have e1 : run (callN Fs k) (.asg (.var 2) (.sm .join (.str " ") (.var 0))) [some (.ref n), some (.int d), none, none, none, none] S = .nx [some (.ref n), some (.int d), some (.str (LN W)), none, none, none] S := by
    have := jn hS (by omega) hw
    simp [varR, this]
  have e2 : run (callN Fs k) (.asg (.var 3) (.bin .mod (.bin .fdiv (.var 1) (.int 20)) (.bi .len (.cons (.var 0) .nil)))) [some (.ref n), some (.int d), some (.str (LN W)), none, none, none] S = .nx [some (.ref n), some (.int d), some (.str (LN W)), some (.int at'), none, none] S := by
    have hz : 0 < W.length := by omega
    simp [varR, hS, hm0, hz, hat]
  have e3 : run (callN Fs k) (.asg (.var 4) (.ix (.lst (.cons (.str "d16") (.cons (.str "w73") (.cons (.str "d01") (.cons (.str "w007") (.cons (.str "d") (.cons (.str "w") (.cons (.str "-1") (.cons (.str "Left") (.cons (.str "d-1") (.cons (.str "w+1") (.cons (.str "forth.") (.cons (.str "d1 5x") .nil))))))))))))) (.bin .mod (.bin .fdiv (.var 1) (.int 200)) (.int 12)))) [some (.ref n), some (.int d), some (.str (LN W)), some (.int at'), none, none] S
      = .nx [some (.ref n), some (.int d), some (.str (LN W)), some (.int at'), some (.str bad), none] (S ++ [.lst (BADS.map D.str)]) := by
    have l12 : 12 ≤ linesz := by decide
    simp [varR, l12, eb, BADS]
  have e4 := st4 (P := callN Fs k) (S := S ++ [.lst (BADS.map D.str)]) (n := n) (d := d) (at' := at') (bad := bad) (L := LN W) (q5 := none) hL
  obtain ⟨s5, p5, e5, g5⟩ := st5 (P := callN Fs k) (S := S ++ [.lst (BADS.map D.str)] ++ [.lst ([" " ++ LN W, LN W ++ " ", LN W ++ "\n", rep1 (LN W) " " "  ", rep1 (LN W) " " "\t", ""].map D.str)]) (q := (S ++ [Cell.lst (BADS.map D.str)]).length) (n := n) (d := d) (at' := at') (bad := bad) (L := LN W) (W := W) (x := x) (y := y)
    (by rw [List.append_assoc]; exact hW _) (by simp; rfl) (by simp) c1 c2 c3 aX aY (wr _) (wt _) (wt _) hwx hwy
  obtain ⟨s6, p6, e6, g6⟩ := st6 (P := callN Fs k) (q := p5) (n := n) (d := d) (at' := at') (bad := bad) (L := LN W) (W := W) (by rw [List.append_assoc, List.append_assoc]; exact hW _) g5 (by simp) c4 c5 c6 (wt _) (wr _) (wr _) hwb
  obtain ⟨s7, p7, e7, g7⟩ := st7 (P := callN Fs k) (q := p6) (n := n) (d := d) (at' := at') (bad := bad) (L := LN W) hL g6 (by simp)
  unfold c_law_spoilt
  rw [sx e1 (sx e2 (sx e3 (sx e4 (sx e5 (sx e6 (sx e7 rfl))))))]
  change _ = some (Cell.lst ((K15 W x y at' bad).map D.str)) at g7
  have ai : ∀ S, atR ((K15 W x y at' bad).map D.str) (d % 15) S = .ok (.str X) S := fun S => atR_int (by omega) (by rw [List.getElem?_map, hX]; rfl)
  have hK' : ((K15 W x y at' bad).map D.str).length = 15 := by rw [List.length_map]; exact hK
  generalize (K15 W x y at' bad).map D.str = KD at *
  have e8 : run (callN Fs k) (.seq (.ret (.ix (.var 5) (.bin .mod (.var 1) (.bi .len (.cons (.var 5) .nil))))) .skip) [some (.ref n), some (.int d), some (.str (LN W)), some (.int at'), some (.str bad), some (.ref p7)] (S ++ [Cell.lst (BADS.map D.str)] ++ [.lst ([" " ++ LN W, LN W ++ " ", LN W ++ "\n", rep1 (LN W) " " "  ", rep1 (LN W) " " "\t", ""].map D.str)] ++ s5 ++ s6 ++ s7) = .ret (.str X) (S ++ [Cell.lst (BADS.map D.str)] ++ [.lst ([" " ++ LN W, LN W ++ " ", LN W ++ "\n", rep1 (LN W) " " "  ", rep1 (LN W) " " "\t", ""].map D.str)] ++ s5 ++ s6 ++ s7) := by
    generalize S ++ [Cell.lst (BADS.map D.str)] ++ [.lst ([" " ++ LN W, LN W ++ " ", LN W ++ "\n", rep1 (LN W) " " "  ", rep1 (LN W) " " "\t", ""].map D.str)] ++ s5 ++ s6 ++ s7 = G at g7
    simp [varR, g7, hK', ai]
  rw [e8, finO_ret]
  rw [List.append_assoc, List.append_assoc, List.append_assoc, List.append_assoc]
  exact fin_pure rfl
end
end Lw

set_option Elab.async false
set_option linter.all false
set_option maxRecDepth 100000
set_option maxHeartbeats 8000000
namespace Lw
open PySem L2 Ng Builtin Builtin.Str
theorem bads_ok : ∀ w ∈ BADS.dropLast, 32 ∉ cp w ∧ w.length ≤ 20 ∧ w ∉ WDS := by decide +kernel
section
variable {cs : List Int} {a : Int}
variable (hc : ∀ c ∈ cs, CmdI c) (ha : a = 4 ∨ a = 5) (hl : cs.length ≤ 37)
include hc ha hl
theorem spo_all {x y bad X : Str} {at' r : Nat} (hx : (Wd cs a)[(Wd cs a).length - 1]? = some x) (hy : (Wd cs a)[(Wd cs a).length - 2]? = some y) (hb : bad ∈ BADS) (h : (K15 (Wd cs a) x y at' bad)[r]? = some X) : Spo X := by
  have hlen := Wd_len (cs := cs) (a := a)
  have ex : x = "end" := by
    rw [hlen, Wd_snoc] at hx
    rw [List.getElem?_append_right (by simp)] at hx
    simpa using hx.symm
  have ey : y = wd a := by
    rw [hlen] at hy
    have : Wd cs a = (6 :: cs).map wd ++ [wd a, "end"] := by simp [wd7]
    rw [this, List.getElem?_append_right (by simp)] at hy
    simpa using hy.symm
  have d1 : (Wd cs a).drop 1 = Rw cs a := by rw [Wd_cons]; rfl
  have t1 : (Wd cs a).take ((Wd cs a).length - 1) = (6 :: cs ++ [a]).map wd := by
    rw [hlen, Wd_snoc, List.take_append_of_le_length (by simp), List.take_of_length_le (by simp)]
  have t2 : (Wd cs a).take ((Wd cs a).length - 2) ++ [x, y] = (6 :: cs ++ [7, a]).map wd := by
    have : Wd cs a = (6 :: cs).map wd ++ [wd a, "end"] := by simp [wd7]
    rw [hlen, this, List.take_append_of_le_length (by simp), List.take_of_length_le (by simp), ex, ey]
    simp [wd7]
  have s9 : Spo (LN ((Wd cs a).take at' ++ [bad] ++ (Wd cs a).drop (at' + 1))) := by
    by_cases h1 : bad ∈ BADS.dropLast
    · have := bads_ok bad h1
      exact sp_put hc ha hl [bad] (fun w hw => by rw [List.mem_singleton] at hw; subst hw; exact ⟨this.1, this.2.1⟩) ⟨bad, by simp, this.2.2⟩ (by simp) ⟨_, rfl⟩
    · have e : bad = "d1 5x" := by
        simp only [BADS, List.mem_cons, List.not_mem_nil, or_false] at hb
        simp only [BADS, List.dropLast, List.mem_cons, List.not_mem_nil, or_false] at h1
        rcases hb with h | h | h | h | h | h | h | h | h | h | h | h <;> first | exact h | exact absurd (by simp [h]) h1
      have e2 : bad = "d1" ++ (" " ++ "5x") := by rw [e]; decide
      rw [e2, LN_mid hc ha hl]
      exact sp_put hc ha hl ["d1", "5x"] (fun w hw => by
        simp only [List.mem_cons, List.not_mem_nil, or_false] at hw
        rcases hw with rfl | rfl <;> decide) ⟨"5x", by simp, by decide +kernel⟩ (by simp) ⟨_, rfl⟩
  have s10 : Spo (LN ((Wd cs a).take at' ++ [("" : Str)] ++ (Wd cs a).drop at')) :=
    sp_put hc ha hl [("" : Str)] (fun w hw => by rw [List.mem_singleton] at hw; subst hw; exact pl_nil) ⟨"", by simp, nil_not⟩ (by simp) ⟨_, rfl⟩
  have hr : r < 15 := (List.getElem?_eq_some_iff.mp h).1
  unfold K15 at h
  rw [d1, t1, t2] at h
  rcases (by omega : r = 0 ∨ r = 1 ∨ r = 2 ∨ r = 3 ∨ r = 4 ∨ r = 5 ∨ r = 6 ∨ r = 7 ∨ r = 8 ∨ r = 9 ∨ r = 10 ∨ r = 11 ∨ r = 12 ∨ r = 13 ∨ r = 14) with rfl | rfl | rfl | rfl | rfl | rfl | rfl | rfl | rfl | rfl | rfl | rfl | rfl | rfl | rfl
  · cases h; exact sp_0 hc ha hl
  · cases h; exact sp_1 hc ha hl
  · cases h; exact sp_2 hc ha hl
  · cases h; exact sp_3 hc ha hl
  · cases h; exact sp_4 hc ha hl
  · cases h; exact sp_5 hc ha hl
  · cases h; exact sp_6 hc ha hl
  · cases h; exact sp_7 hc ha hl
  · cases h; exact sp_8 hc ha hl
  · cases h; exact s9
  · cases h; exact s10
  · cases h; exact sp_11 hc ha hl
  · cases h; exact sp_12 hc ha hl
  · cases h; exact sp_13 hc ha hl
  · cases h; exact sp_14 hc ha hl
/-- a spoilt line is refused -/
theorem ref_spoilt {k n : Nat} {S : Store} {d : Int} (hS : S[n]? = some (.lst ((Wd cs a).map D.str))) (hd : 0 ≤ d) : ∃ X, callN Fs (k + 4) i_law_spoilt [.ref n, .int d] S = .ok (.str X) S ∧ ∀ S, callN Fs (k + 4) i_law_refused [.str X] S = .ok (.bl true) S := by
  obtain ⟨x, y, at', bad, X, h1, h2, h3, h4, h5, h6⟩ := eval_spoilt (k := k + 3) hS (by rw [Wd_len]; omega) (by rw [Wd_len]; omega) (fun w hw => (pl_all hc ha hl w hw).2) hd
  refine ⟨X, h6, fun S => ?_⟩
  obtain ⟨ws, e1, e2, e3, e4⟩ := spo_all hc ha hl h3 h4 h2 h5
  exact refused_ok (k := k + 1) e1 (by omega) (by omega) fun S => e4 k S
/-- 401 words are refused -/
theorem ref_long {k m : Nat} (hm : m + cs.length = 398) (S : Store) : callN Fs (k + 4) i_law_refused [.str (LN ((Wd cs a).take 1 ++ List.replicate m ("forth" : Str) ++ (Wd cs a).drop 1))] S = .ok (.bl true) S := by
  have hp : ∀ w ∈ (Wd cs a).take 1 ++ List.replicate m ("forth" : Str) ++ (Wd cs a).drop 1, 32 ∉ cp w ∧ w.length ≤ 20 := fun w hw => by
    simp only [List.mem_append] at hw
    rcases hw with (h | h) | h
    · exact pl_all hc ha hl w (List.mem_of_mem_take h)
    · obtain ⟨_, rfl⟩ := List.mem_replicate.mp h; decide
    · exact pl_all hc ha hl w (List.mem_of_mem_drop h)
  have hlen : ((Wd cs a).take 1 ++ List.replicate m ("forth" : Str) ++ (Wd cs a).drop 1).length = 401 := by
    simp; omega
  have hne : (Wd cs a).take 1 ++ List.replicate m ("forth" : Str) ++ (Wd cs a).drop 1 ≠ [] := fun e => by rw [e] at hlen; simp at hlen
  have h20 := LN_len _ fun w hw => (hp w hw).2
  refine refused_ok (k := k + 1) (LN_split hne fun w hw => (hp w hw).1) (by omega) (by omega) fun S => tape_len (k := k + 1) (.inr (by rw [List.length_map, hlen]; omega))
end
end Lw

set_option Elab.async false
set_option linter.all false
set_option maxRecDepth 100000
set_option maxHeartbeats 8000000
namespace Lw
open PySem L2 Ng Builtin Builtin.Str
section
variable {k pd : Nat} {S : Store} {q0 q1 q2 q3 q4 q5 q6 q7 q8 q9 : Option D}
/-- one symbol more -/
theorem lsym_ok {ds : List Int} {m : Nat} {cs : List Int} {j : Nat} (hS : S[pd]? = some (dl ds)) (hl : ds.length = 50) (hd : DrOk ds) (hj : j < 38) (hm : S[m]? = some (dl cs)) (hcs : cs.length ≤ 100) :
    ∃ c suf, CmdI c ∧ run (callN Fs k) b_law_1 [q0, some (.ref pd), some (.ref m), some (.int j), q4, q5, q6, q7, q8, q9] S = .nx [q0, some (.ref pd), some (.ref m), some (.int j), q4, q5, q6, q7, q8, q9] ((S.set m (dl (cs ++ [c]))) ++ [suf]) := by
  obtain ⟨v, hv, ev'⟩ := at_int (xs := ds) (i := (j : Int)) (by omega) (by omega)
  have hv2 := hd v hv
  obtain ⟨c, hc, ec⟩ := at_int (xs := [1, 2, 3, 8 + v % 16, 24 + v % 73, 24 + v / 7 % 73]) (i := v / 3 % 6) (by omega) (by simp; omega)
  refine ⟨c, .lst [.int 1, .int 2, .int 3, .int (8 + v % 16), .int (24 + v % 73), .int (24 + v / 7 % 73)], ?_, ?_⟩
  · simp only [List.mem_cons, List.not_mem_nil, or_false] at hc
    unfold CmdI
    omega
  · simp only [List.map_cons, List.map_nil] at ec
    have l6 : 6 ≤ linesz := by decide
    have z : cs.length < linesz := by rw [linesz_is]; omega
    have hm' : ∀ l, (S ++ l)[m]? = some (.lst (cs.map D.int)) := fun l => get_lo hm
    have hmS : m < S.length := (List.getElem?_eq_some_iff.mp hm).1
    have hd' : ∀ l, (S ++ l)[pd]? = some (.lst (ds.map D.int)) := fun l => get_lo hS
    simp only [dl] at hS hm
    have hset : ∀ l c, (S ++ l).set m c = S.set m c ++ l := fun l c => by rw [List.set_append_left _ _ hmS]
    simp [b_law_1, varR, hS, hm, ev', ec, l6, z, hm', hset, dl, hd']
theorem syms_ok {ds : List Int} {n : Nat} (hS : S[pd]? = some (dl ds)) (hl : ds.length = 50) (hd : DrOk ds) (hn : n < 38) (h3 : 2 ≤ S.length) :
    ∃ cs suf q3', cs.length = n ∧ (∀ c ∈ cs, CmdI c) ∧ forL (ckS none) (fun x ρ S => (asgO (.var 3) x ρ S).seq (run (callN Fs k) b_law_1)) (rngD 0 n) [q0, some (.ref pd), some (.ref S.length), q3, q4, q5, q6, q7, q8, q9] (S ++ [dl []]) = .nx [q0, some (.ref pd), some (.ref S.length), q3', q4, q5, q6, q7, q8, q9] (S ++ dl cs :: suf) := by
  obtain ⟨ρ', S', e1, cs, suf, q3', rfl, rfl, h1, h2⟩ := for_inv (ck := ckS none) (f := fun x ρ S => (asgO (.var 3) x ρ S).seq (run (callN Fs k) b_law_1)) (ds := rngD 0 n) (ρ := [q0, some (.ref pd), some (.ref S.length), q3, q4, q5, q6, q7, q8, q9]) (S := S ++ [dl []])
    (fun j ρ' S' => ∃ cs suf q3', ρ' = [q0, some (.ref pd), some (.ref S.length), q3', q4, q5, q6, q7, q8, q9] ∧ S' = S ++ dl cs :: suf ∧ cs.length = j ∧ ∀ c ∈ cs, CmdI c)
    ⟨[], [], q3, rfl, rfl, rfl, fun _ h => absurd h (List.not_mem_nil)⟩ (fun _ _ _ _ => rfl) (fun j x ρ1 S1 hj ⟨cs, suf, q3', e1, e2, h1, h2⟩ => by
      subst e1 e2
      obtain ⟨hj2, rfl⟩ := rng_at hj
      obtain ⟨c, sf, hc, er⟩ := lsym_ok (k := k) (S := S ++ dl cs :: suf) (ds := ds) (m := S.length) (cs := cs) (j := j) (q0 := q0) (q4 := q4) (q5 := q5) (q6 := q6) (q7 := q7) (q8 := q8) (q9 := q9) (get_lo hS) hl hd (by omega) (by simp) (by omega)
      refine ⟨[q0, some (.ref pd), some (.ref S.length), some (.int j), q4, q5, q6, q7, q8, q9], S ++ dl (cs ++ [c]) :: (suf ++ [sf]), ?_, cs ++ [c], suf ++ [sf], some (.int j), rfl, rfl, by simp; omega, fun x hx => ?_⟩
      · rw [asgO_var, seq_nx, show (0 : Int) + (j : Int) = j by omega]
        simp only [List.set_cons_succ, List.set_cons_zero]
        rw [er]
        simp
      · rcases List.mem_append.mp hx with h | h
        · exact h2 x h
        · rw [List.mem_singleton] at h; subst h; exact hc)
  rw [rng_len] at h1
  exact ⟨cs, suf, q3', h1, h2, e1⟩
/-- the tape -/
theorem tape_ok {ds : List Int} {m : Nat} {cs : List Int} (hS : S[pd]? = some (dl ds)) (hl : ds.length = 50) (hd : DrOk ds) (hm : S[m]? = some (dl cs)) (hcs : cs.length ≤ 100) :
    ∃ a suf, (a = 4 ∨ a = 5) ∧ run (callN Fs k) (.asg (.var 4) (.bi .tuple (.cons (.bin .add (.bin .add (.lst (.cons (.int 6) .nil)) (.var 2)) (.lst (.cons (.ix (.lst (.cons (.int 5) (.cons (.int 4) .nil))) (.bin .mod (.ix (.var 1) (.int 46)) (.int 2))) (.cons (.int 7) .nil)))) .nil))) [q0, some (.ref pd), some (.ref m), q3, none, none, none, none, none, none] S
      = .nx [q0, some (.ref pd), some (.ref m), q3, some (.tup ((tpL cs a).map D.int)), none, none, none, none, none] (S ++ suf) := by
  obtain ⟨v, hv, ev'⟩ := at_int (xs := ds) (i := 46) (by omega) (by omega)
  have hv2 := hd v hv
  obtain ⟨a, ha, ea⟩ := at_int (xs := [5, 4]) (i := v % 2) (by omega) (by simp; omega)
  have hm' : ∀ l, (S ++ l)[m]? = some (.lst (cs.map D.int)) := fun l => get_lo hm
  have hd' : ∀ l, (S ++ l)[pd]? = some (.lst (ds.map D.int)) := fun l => get_lo hS
  simp only [List.map_cons, List.map_nil] at ea
  have l1 : 1 ≤ linesz := by decide
  have l2 : 2 ≤ linesz := by decide
  have z : 1 + cs.length ≤ linesz := by rw [linesz_is]; omega
  have z2 : cs.length + 1 + 2 ≤ linesz := by rw [linesz_is]; omega
  refine ⟨a, [.lst [.int 6], .lst (.int 6 :: cs.map D.int), .lst [.int 5, .int 4], .lst [.int a, .int 7], .lst ((tpL cs a).map D.int)], by
    simp only [List.mem_cons, List.not_mem_nil, or_false] at ha; omega, ?_⟩
  simp [varR, hm', hd', ev', ea, l1, l2, z, z2, tpL]
theorem num_ok (i : Int) (S : Store) : callN Fs (k + 1) i_law_is_number [.int i] S = .ok (.bl true) S := by
  rw [cl_law_is_number]
  simp [c_law_is_number, varR, isiR, isTys, isTy]
theorem words_ok {t : List Int} (ht : ∀ i ∈ t, 1 ≤ i ∧ i < 97) (hl : t.length ≤ 1000) : run (callN Fs (k + 1)) (.asg (.var 5) (.lc [6] (.var 6) (.var 4) (.bl true) (.call i_law_word (.cons (.var 6) .nil)))) [q0, q1, q2, q3, some (.tup (t.map D.int)), none, none, none, none, none] S
    = .nx [q0, q1, q2, q3, some (.tup (t.map D.int)), some (.ref S.length), none, none, none, none] (S ++ [.lst ((t.map wd).map D.str)]) := by
  have h := lc_pure (own := [6]) (tg := .var 6) (cond := tst (callN Fs (k + 1)) (.bl true)) (elt := ev (callN Fs (k + 1)) (.call i_law_word (.cons (.var 6) .nil))) (ρ := [q0, q1, q2, q3, some (.tup (t.map D.int)), none, none, none, none, none]) (S := S) (it := ⟨t.map D.int, none⟩) (g := fun d => match d with | .int i => some (.str (wd i)) | _ => none) (by simp; omega) (fun _ => rfl) (fun d hd c' => by
    obtain ⟨i, hi, rfl⟩ := List.mem_map.mp hd
    have := lword_ok (k := k) (S := S ++ [c']) (ht i hi)
    simp [lcF, asgT, wipeE, varR, this])
  have e : (t.map D.int).filterMap (fun d => match d with | .int i => some (D.str (wd i)) | _ => none) = (t.map wd).map D.str := by
    rw [List.filterMap_map, List.map_map, ← List.filterMap_eq_map]; rfl
  simp only [e] at h
  rw [run_asg, ev_lc, itr_var]
  simp only [varR, List.getElem?_cons_succ, List.getElem?_cons_zero, bind_ok, itD_tup]
  rw [h]
  rfl
end
end Lw

set_option Elab.async false
set_option linter.all false
set_option maxRecDepth 100000
set_option maxHeartbeats 8000000
namespace Lw
open PySem L2 Ng Builtin Builtin.Str
theorem tape_yes {k : Nat} {S : Store} {cs : List Int} {a : Int} (hc : ∀ c ∈ cs, CmdI c) (ha : a = 4 ∨ a = 5) (hl : cs.length ≤ 37) : callN Fs (k + 2) i_is_tape [.tup ((Wd cs a).map nuD)] S = .ok (.bl true) S := by
  rw [nus_wd (tp_rng hc ha)]
  have := tape_form (k := k) (S := S) (x := 6) (mid := cs) (y := a) (z := 7) (by omega) (tp_rng hc ha)
  have hall : (cs.all fun i => cmdD (.int i)) = true := List.all_eq_true.mpr fun c h => (hc c h).cmd
  rw [hall] at this
  rcases ha with rfl | rfl <;> simpa using this
section
variable {k pd : Nat} {S : Store} {q0 q2 q3 : Option D} {n : Nat} {ds cs : List Int} {a : Int}
/-- from the line on -/
theorem law_end (hS : S[pd]? = some (dl ds)) (hld : ds.length = 50) (hd : DrOk ds) (hc : ∀ c ∈ cs, CmdI c) (ha : a = 4 ∨ a = 5) (hl : cs.length ≤ 37) (hn : S[n]? = some (.lst ((Wd cs a).map D.str))) :
    ∃ S', run (callN Fs (k + 4)) (.seq (.asg (.var 7) (.call i_tape_line (.cons (.var 4) .nil)))
    (.seq (.ite (.or (.not (.isi (.var 7) [.str] false)) (.cmp .ne (.var 7) (.sm .join (.str " ") (.var 5)))) (.seq (.ret (.bl false))
    .skip) .skip)
    (.seq (.asg (.var 8) (.call i_read_tape (.cons (.var 7) .nil)))
    (.seq (.ite (.or (.not (.isi (.var 8) [.tuple] false)) (.or (.cmp .ne (.var 8) (.var 4)) (.not (.bi .all (.cons (.lc [6] (.var 6) (.var 8) (.bl true) (.call i_law_is_number (.cons (.var 6) .nil))) .nil))))) (.seq (.ret (.bl false))
    .skip) .skip)
    (.seq (.asg (.var 9) (.bin .add (.bin .add (.slc (.var 5) .nil (.int 1)) (.bin .mul (.lst (.cons (.str "forth") .nil)) (.bin .sub (.int 401) (.bi .len (.cons (.var 5) .nil))))) (.slc (.var 5) (.int 1) .nil)))
    (.seq (.ite (.and (.cmp .eq (.bin .mod (.ix (.var 1) (.int 47)) (.int 4)) (.int 0)) (.not (.call i_law_refused (.cons (.sm .join (.str " ") (.var 9)) .nil)))) (.seq (.ret (.bl false))
    .skip) .skip)
    (.seq (.ret (.bi .all (.cons (.lc [3] (.var 3) (.rng (.cons (.int 3) .nil)) (.bl true) (.call i_law_refused (.cons (.call i_law_spoilt (.cons (.var 5) (.cons (.bin .add (.ix (.var 1) (.var 3)) (.bin .mul (.int 31) (.var 3))) .nil))) .nil))) .nil)))
    .skip))))))) [q0, some (.ref pd), q2, q3, some (.tup ((tpL cs a).map D.int)), some (.ref n), none, none, none, none] S = .ret (.bl true) S' := by
  have hrng := tp_rng hc ha
  have hlt : (tpL cs a).length = cs.length + 3 := by simp [tpL]
  have hpl := pl_all hc ha hl
  have hLN : (LN (Wd cs a)).length ≤ 1000 := by
    have := LN_len _ fun w hw => (hpl w hw).2
    rw [Wd_len] at this
    omega
  have hsp : Txt.split (LN (Wd cs a)) " " = Wd cs a := LN_split (by simp) fun w hw => (hpl w hw).1
  have h5 : ∀ l, (S ++ l)[n]? = some (.lst ((Wd cs a).map D.str)) := fun l => get_lo hn
  have h1 : ∀ l, (S ++ l)[pd]? = some (dl ds) := fun l => get_lo hS
  -- the line
  have e6 : run (callN Fs (k + 4)) (.asg (.var 7) (.call i_tape_line (.cons (.var 4) .nil))) [q0, some (.ref pd), q2, q3, some (.tup ((tpL cs a).map D.int)), some (.ref n), none, none, none, none] S = .nx [q0, some (.ref pd), q2, q3, some (.tup ((tpL cs a).map D.int)), some (.ref n), none, some (.str (LN (Wd cs a))), none, none] S := by
    have := line_ok (k := k + 2) (A := S) hrng (by omega)
    simp only [run_asg, ev_call, evs_cons, ev_var, varR, List.getElem?_cons_succ, List.getElem?_cons_zero, bind_ok, evs_nil]
    rw [this, of_ok, asgO_var]
    rfl
  refine sxE e6 ?_
  have e7 : run (callN Fs (k + 4)) (.ite (.or (.not (.isi (.var 7) [.str] false)) (.cmp .ne (.var 7) (.sm .join (.str " ") (.var 5)))) (.seq (.ret (.bl false)) .skip) .skip) [q0, some (.ref pd), q2, q3, some (.tup ((tpL cs a).map D.int)), some (.ref n), none, some (.str (LN (Wd cs a))), none, none] S = .nx [q0, some (.ref pd), q2, q3, some (.tup ((tpL cs a).map D.int)), some (.ref n), none, some (.str (LN (Wd cs a))), none, none] S := by
    have := jn hn (by rw [Wd_len]; omega) fun w hw => (hpl w hw).2
    generalize LN (Wd cs a) = L at this
    simp [varR, this]
  refine sxE e7 ?_
  have e8 : run (callN Fs (k + 4)) (.asg (.var 8) (.call i_read_tape (.cons (.var 7) .nil))) [q0, some (.ref pd), q2, q3, some (.tup ((tpL cs a).map D.int)), some (.ref n), none, some (.str (LN (Wd cs a))), none, none] S = .nx [q0, some (.ref pd), q2, q3, some (.tup ((tpL cs a).map D.int)), some (.ref n), none, some (.str (LN (Wd cs a))), some (.tup ((tpL cs a).map D.int)), none] S := by
    have := read_ok (k := k + 2) (A := S) hsp (by omega) (by rw [Wd_len]; omega) fun S => tape_yes (k := k + 1) (S := S) hc ha hl
    rw [if_pos rfl, nus_wd hrng] at this
    simp only [run_asg, ev_call, evs_cons, ev_var, varR, List.getElem?_cons_succ, List.getElem?_cons_zero, bind_ok, evs_nil]
    rw [this, of_ok, asgO_var]
    rfl
  refine sxE e8 ?_
  have e9 : run (callN Fs (k + 4)) (.ite (.or (.not (.isi (.var 8) [.tuple] false)) (.or (.cmp .ne (.var 8) (.var 4)) (.not (.bi .all (.cons (.lc [6] (.var 6) (.var 8) (.bl true) (.call i_law_is_number (.cons (.var 6) .nil))) .nil))))) (.seq (.ret (.bl false)) .skip) .skip) [q0, some (.ref pd), q2, q3, some (.tup ((tpL cs a).map D.int)), some (.ref n), none, some (.str (LN (Wd cs a))), some (.tup ((tpL cs a).map D.int)), none] S = .nx [q0, some (.ref pd), q2, q3, some (.tup ((tpL cs a).map D.int)), some (.ref n), none, some (.str (LN (Wd cs a))), some (.tup ((tpL cs a).map D.int)), none] (S ++ [.lst (((tpL cs a).map D.int).map fun _ => .bl true)]) := by
    have hall := all_lc (P := callN Fs (k + 4)) (ρ := [q0, some (.ref pd), q2, q3, some (.tup ((tpL cs a).map D.int)), some (.ref n), none, some (.str (LN (Wd cs a))), some (.tup ((tpL cs a).map D.int)), none]) (S := S) (f := i_law_is_number) (i := 6) (src := .var 8) (ds := (tpL cs a).map D.int) (p := fun _ => true) (by simp) (by rw [itr_var]; simp only [varR, List.getElem?_cons_succ, List.getElem?_cons_zero, bind_ok, itD_tup]) (by rw [List.length_map]; omega) (fun d hd S => by
      obtain ⟨i, _, rfl⟩ := List.mem_map.mp hd
      exact num_ok (k := k + 3) i S)
    have hne := cT_neD (eq_tups (S := S) (tpL cs a) (tpL cs a))
    have hat : (((tpL cs a).map D.int).all fun _ => true) = true := by simp
    rw [hat] at hall
    generalize (tpL cs a).map D.int = ts at *
    rw [run_ite, tst_or, tst_not, tst_isi, ev_isi]
    simp only [ev_var, varR, List.getElem?_cons_succ, List.getElem?_cons_zero, bind_ok, isi_tup_tuple, truR_bl, Bool.not_true, cond_false]
    rw [tst_or, tst_cmp]
    simp only [ev_var, varR, List.getElem?_cons_succ, List.getElem?_cons_zero, bind_ok, hne, decide_true, Bool.not_true, cond_false]
    rw [tst_not, tst_bi, hall]
    simp
  refine sxE e9 ?_
  obtain ⟨T, hT⟩ : ∃ T, T = S ++ [Cell.lst (((tpL cs a).map D.int).map fun _ => .bl true)] := ⟨_, rfl⟩
  rw [← hT]
  have hnT : T[n]? = some (.lst ((Wd cs a).map D.str)) := by rw [hT]; exact h5 _
  have h1T : T[pd]? = some (dl ds) := by rw [hT]; exact h1 _
  clear e6 e7 e8 e9
  have h5T : ∀ l, (T ++ l)[n]? = some (.lst ((Wd cs a).map D.str)) := fun l => get_lo hnT
  have e10 : ∃ suf p, run (callN Fs (k + 4)) (.asg (.var 9) (.bin .add (.bin .add (.slc (.var 5) .nil (.int 1)) (.bin .mul (.lst (.cons (.str "forth") .nil)) (.bin .sub (.int 401) (.bi .len (.cons (.var 5) .nil))))) (.slc (.var 5) (.int 1) .nil))) [q0, some (.ref pd), q2, q3, some (.tup ((tpL cs a).map D.int)), some (.ref n), none, some (.str (LN (Wd cs a))), some (.tup ((tpL cs a).map D.int)), none] T = .nx [q0, some (.ref pd), q2, q3, some (.tup ((tpL cs a).map D.int)), some (.ref n), none, some (.str (LN (Wd cs a))), some (.tup ((tpL cs a).map D.int)), some (.ref p)] (T ++ suf) ∧ (T ++ suf)[p]? = some (.lst (((Wd cs a).take 1 ++ List.replicate (398 - cs.length) ("forth" : Str) ++ (Wd cs a).drop 1).map D.str)) := by
    have c1 : cutD ((Wd cs a).map D.str) none (some 1) = ((Wd cs a).take 1).map D.str := cut_toS _ 1
    have c2 : cutD ((Wd cs a).map D.str) (some 1) none = ((Wd cs a).drop 1).map D.str := cut_fromS _ 1
    have hmul : ∀ (U : Store) (p : Nat), U[p]? = some (.lst [D.str "forth"]) → bin2 .mul (.ref p) (.int (401 - ((cs.length : Int) + 3))) U = .ok (.ref U.length) (U ++ [.lst (List.replicate (398 - cs.length) (D.str "forth"))]) := fun U p h => by
      have hz : (401 - ((cs.length : Int) + 3)).toNat = 398 - cs.length := by omega
      simp only [bin2, h]
      rw [if_pos ⟨by omega, by omega, by rw [hz, linesz_is]; simp; omega⟩, hz]
      congr 3
      rw [← List.map_replicate (f := fun x => [x])]
      congr 1
      induction (398 - cs.length) with
      | zero => rfl
      | succ m ih => simp [List.replicate_succ] at ih ⊢
    have hlenW : ((Wd cs a).map D.str).length = cs.length + 3 := by rw [List.length_map, Wd_len]
    have t1 : ((Wd cs a).take 1).length = 1 := by rw [List.length_take, Wd_len]; omega
    have t2 : ((Wd cs a).drop 1).length = cs.length + 2 := by rw [List.length_drop, Wd_len]; omega
    have hLW : biD .len [.ref n] T = .ok (.int ((cs.length : Int) + 3)) T := by
      rw [len_lst hnT, hlenW]; rfl
    have hLW' : ∀ l, biD .len [.ref n] (T ++ l) = .ok (.int ((cs.length : Int) + 3)) (T ++ l) := fun l => by
      rw [len_lst (h5T l), hlenW]; rfl
    have l1 : 1 ≤ linesz := by decide
    generalize (Wd cs a).map D.str = WD at *
    generalize (Wd cs a).take 1 = A1 at *
    generalize (Wd cs a).drop 1 = A2 at *
    have hm : 398 - cs.length ≤ 398 := Nat.sub_le _ _
    generalize 398 - cs.length = m at *
    have z1 : 1 + m ≤ linesz := by rw [linesz_is]; omega
    have z2 : 1 + m + (cs.length + 2) ≤ linesz := by rw [linesz_is]; omega
    refine ⟨[.lst (A1.map D.str), .lst [.str "forth"], .lst (List.replicate m (.str "forth")), .lst (A1.map D.str ++ List.replicate m (.str "forth")), .lst (A2.map D.str), .lst (A1.map D.str ++ List.replicate m (.str "forth") ++ A2.map D.str)], T.length + 5, ?_, by simp⟩
    simp [varR, h5T, hnT, c1, c2, hLW, hLW', l1, hmul, t1, t2, z1, z2]
  obtain ⟨suf, p, e10, g10⟩ := e10
  refine sxE e10 ?_
  obtain ⟨U, hU⟩ : ∃ U, U = T ++ suf := ⟨_, rfl⟩
  rw [← hU] at g10 ⊢
  have hnU : U[n]? = some (.lst ((Wd cs a).map D.str)) := by rw [hU]; exact h5T _
  have h1U : U[pd]? = some (dl ds) := by rw [hU]; exact get_lo h1T
  clear e10
  have e11 : run (callN Fs (k + 4)) (.ite (.and (.cmp .eq (.bin .mod (.ix (.var 1) (.int 47)) (.int 4)) (.int 0)) (.not (.call i_law_refused (.cons (.sm .join (.str " ") (.var 9)) .nil)))) (.seq (.ret (.bl false)) .skip) .skip) [q0, some (.ref pd), q2, q3, some (.tup ((tpL cs a).map D.int)), some (.ref n), none, some (.str (LN (Wd cs a))), some (.tup ((tpL cs a).map D.int)), some (.ref p)] U = .nx [q0, some (.ref pd), q2, q3, some (.tup ((tpL cs a).map D.int)), some (.ref n), none, some (.str (LN (Wd cs a))), some (.tup ((tpL cs a).map D.int)), some (.ref p)] U := by
    obtain ⟨v, hv, ev'⟩ := at_int (xs := ds) (i := 47) (by omega) (by omega)
    have hj := jn g10 (by simp; omega) (fun w hw => by
      simp only [List.mem_append] at hw
      rcases hw with (h | h) | h
      · exact (hpl w (List.mem_of_mem_take h)).2
      · obtain ⟨_, rfl⟩ := List.mem_replicate.mp h; decide
      · exact (hpl w (List.mem_of_mem_drop h)).2)
    have hr := ref_long (k := k) (m := 398 - cs.length) hc ha hl (by omega) U
    generalize LN ((Wd cs a).take 1 ++ List.replicate (398 - cs.length) ("forth" : Str) ++ (Wd cs a).drop 1) = X at hj hr
    simp only [dl] at h1U
    by_cases h4 : v % 4 = 0
    · simp [varR, h1U, ev', h4, hj, hr]
    · simp [varR, h1U, ev', h4]
  refine sxE e11 ?_
  clear e11
  have hlc := lc_pure (own := [3]) (tg := .var 3) (cond := tst (callN Fs (k + 4)) (.bl true)) (elt := ev (callN Fs (k + 4)) (.call i_law_refused (.cons (.call i_law_spoilt (.cons (.var 5) (.cons (.bin .add (.ix (.var 1) (.var 3)) (.bin .mul (.int 31) (.var 3))) .nil))) .nil))) (ρ := [q0, some (.ref pd), q2, q3, some (.tup ((tpL cs a).map D.int)), some (.ref n), none, some (.str (LN (Wd cs a))), some (.tup ((tpL cs a).map D.int)), some (.ref p)]) (S := U) (it := ⟨rngD 0 3, none⟩) (g := fun _ => some (.bl true)) (by simp) (fun _ => rfl) (fun d hdd c' => by
    obtain ⟨i, hi⟩ := List.mem_iff_getElem?.mp hdd
    obtain ⟨hi3, rfl⟩ := rng_at hi
    obtain ⟨v, hv, ev'⟩ := at_int (xs := ds) (i := (i : Int)) (by omega) (by omega)
    have hv2 := hd v hv
    obtain ⟨X, x1, x2⟩ := ref_spoilt (k := k) (S := U ++ [c']) (d := v + 31 * (i : Int)) hc ha hl (get_lo hnU) (by omega)
    have x2' := x2 (U ++ [c'])
    have hU1 : (U ++ [c'])[pd]? = some (.lst (ds.map D.int)) := get_lo h1U
    have hb : bin2 .mul (.int 31) (.int (i : Int)) (U ++ [c']) = .ok (.int (31 * (i : Int))) (U ++ [c']) := b2_mulL _ _ (by omega)
    simp [lcF, asgT, wipeE, varR, hU1, ev', hb, x1, x2'])
  have e2 : ((rngD 0 3).filterMap fun _ => some (D.bl true)) = [true, true, true].map D.bl := rfl
  simp only [e2] at hlc
  refine ⟨U ++ [.lst ([true, true, true].map D.bl)], ?_⟩
  refine sxr ?_
  have hitr : itr (callN Fs (k + 4)) (.rng (.cons (.int 3) .nil)) [q0, some (.ref pd), q2, q3, some (.tup ((tpL cs a).map D.int)), some (.ref n), none, some (.str (LN (Wd cs a))), some (.tup ((tpL cs a).map D.int)), some (.ref p)] U = .ok ⟨rngD 0 3, none⟩ U := by simp
  rw [run_ret, ev_bi, evs_cons, ev_lc, hitr, bind_ok, hlc, bind_ok, evs_nil, bind_ok, bind_ok, all_lst (bs := [true, true, true]) (by simp)]
  rfl
end
/-- the law -/
theorem law_true (ns : List Int) (hns : ns.length ≤ 63) : ∃ S', callN (Ts.map (·.fn)) 20 11 [.ref 0] [.ro (ns.map D.int)] = .ok (.bl true) S' := by
  show ∃ S', callN Fs (19 + 1) i_law [.ref 0] [.ro (ns.map D.int)] = .ok (.bl true) S'
  rw [cl_law]
  suffices h : ∃ S1, run (callN Fs (15 + 4)) c_law [some (.ref 0), none, none, none, none, none, none, none, none, none] [.ro (ns.map D.int)] = .ret (.bl true) S1 by
    obtain ⟨S1, h⟩ := h
    obtain ⟨S2, e2⟩ := fin_any (S := [Cell.ro (ns.map D.int)]) (d := .bl true) rfl S1
    exact ⟨S2, by rw [h, finO_ret, e2]⟩
  obtain ⟨ds, hl, hd, ed⟩ := draws_ok (P := callN Fs 18) (r := 0) (S := [.ro (ns.map D.int)]) (ns := ns) rfl hns 50 (by decide)
  rw [← cl_law_draws] at ed
  obtain ⟨v, hv, ev'⟩ := at_int (xs := ds) (i := 45) (by omega) (by omega)
  have hv2 := hd v hv
  have e1 : run (callN Fs (15 + 4)) (.asg (.var 1) (.call i_law_draws (.cons (.var 0) (.cons (.int 50) .nil)))) [some (.ref 0), none, none, none, none, none, none, none, none, none] [.ro (ns.map D.int)] = .nx [some (.ref 0), some (.ref 1), none, none, none, none, none, none, none, none] [.ro (ns.map D.int), dl ds] := by
    have ed' : callN Fs (15 + 4) i_law_draws [.ref 0, .int 50] [.ro (ns.map D.int)] = .ok (.ref 1) [.ro (ns.map D.int), dl ds] := ed
    simp [varR, ed']
  obtain ⟨A, hA⟩ : ∃ A, A = [Cell.ro (ns.map D.int), dl ds] := ⟨_, rfl⟩
  rw [← hA] at e1
  have hAd : A[1]? = some (dl ds) := by rw [hA]; rfl
  have hAl : 2 ≤ A.length := by rw [hA]; exact Nat.le_refl 2
  clear hA
  obtain ⟨pd, hpd⟩ : ∃ p : Nat, p = 1 := ⟨1, rfl⟩
  have e1 : run (callN Fs (15 + 4)) (.asg (.var 1) (.call i_law_draws (.cons (.var 0) (.cons (.int 50) .nil)))) [some (.ref 0), none, none, none, none, none, none, none, none, none] [.ro (ns.map D.int)] = .nx [some (.ref 0), some (.ref pd), none, none, none, none, none, none, none, none] A := by rw [hpd]; exact e1
  have hAd : A[pd]? = some (dl ds) := by rw [hpd]; exact hAd
  clear hpd
  unfold c_law
  refine sxE e1 ?_
  refine sxE (ρ1 := [some (.ref 0), some (.ref pd), some (.ref A.length), none, none, none, none, none, none, none]) (S1 := A ++ [dl []]) (h := by simp [dl]) ?_
  obtain ⟨n, hn⟩ : ∃ n : Nat, (n : Int) = v % 38 := ⟨_, Int.toNat_of_nonneg (by omega)⟩
  have hn38 : n < 38 := by omega
  obtain ⟨cs, suf, q3', hcl, hc, e3⟩ := syms_ok (k := 15 + 4) (pd := pd) (S := A) (ds := ds) (n := n) (q0 := some (.ref 0)) (q3 := none) (q4 := none) (q5 := none) (q6 := none) (q7 := none) (q8 := none) (q9 := none) hAd hl hd hn38 hAl
  have hA2 : ∀ l, (A ++ l)[pd]? = some (.lst (ds.map D.int)) := fun l => get_lo hAd
  refine sxFE (w := ⟨rngD 0 n, none⟩) (S1 := A ++ [dl []]) (hi := by
    have hr : -4611686018427387904 ≤ v % 38 ∧ v % 38 < 4611686018427387904 := by omega
    have hz : (v % 38).toNat = n := by omega
    simp [varR, hA2, ev', hr, hz]) (hf := e3) ?_
  obtain ⟨a, s4, ha, e4⟩ := tape_ok (k := 15 + 4) (pd := pd) (S := A ++ dl cs :: suf) (ds := ds) (m := A.length) (cs := cs) (q0 := some (.ref 0)) (q3 := q3') (get_lo hAd) hl hd (by simp) (by omega)
  refine sxE e4 ?_
  have e5 := words_ok (k := 18) (S := A ++ dl cs :: suf ++ s4) (q0 := some (.ref 0)) (q1 := some (.ref pd)) (q2 := some (.ref A.length)) (q3 := q3') (t := tpL cs a) (tp_rng hc ha) (by simp [tpL]; omega)
  refine sxE e5 ?_
  exact law_end (k := 15) (ds := ds) (by
    rw [List.append_assoc, List.append_assoc]
    exact get_lo hAd) hl hd hc ha (by omega) (by simp)
end Lw

set_option Elab.async false
set_option linter.all false
set_option maxRecDepth 100000
set_option maxHeartbeats 8000000
namespace Lw
open PySem L2 Ng

set_option maxRecDepth 100000 in
theorem texts_ok : (Ts.all (textC (Ts.map (·.k)) glbs blts exs isa atrs)) = true := by decide +kernel
theorem facts {w : World} {K : PySem.W.Frag} {h : Heap} {mg : Str → Option Value} (X : K.In h) (G : h.Ns mainGlobals mg)
    {f0 : Addr} (a0 : PySem.W.nsIn K mainGlobals "is_symbol" = some (some (.ref f0))) {od0 an0 : Option Addr} {sl0 : Array (Option Value)} {oc0 kV0 dc0 pm0 cd0 ct0 : Value} (l0 : K.lookup f0 = some ⟨oc0, od0, .func (PySem.W.fnOf "is_symbol" "is_symbol" (defArgs t_is_symbol.st) (defBody t_is_symbol.st) (defScope t_is_symbol.st) .none kV0 dc0 pm0 an0 cd0 ct0), sl0⟩) (c0 : PySem.W.codeIn K cd0 "is_symbol" = true) (k0 : PySem.W.keepIn K (.ref f0) = true)
    {f1 : Addr} (a1 : PySem.W.nsIn K mainGlobals "is_command" = some (some (.ref f1))) {od1 an1 : Option Addr} {sl1 : Array (Option Value)} {oc1 kV1 dc1 pm1 cd1 ct1 : Value} (l1 : K.lookup f1 = some ⟨oc1, od1, .func (PySem.W.fnOf "is_command" "is_command" (defArgs t_is_command.st) (defBody t_is_command.st) (defScope t_is_command.st) .none kV1 dc1 pm1 an1 cd1 ct1), sl1⟩) (c1 : PySem.W.codeIn K cd1 "is_command" = true) (k1 : PySem.W.keepIn K (.ref f1) = true)
    {f2 : Addr} (a2 : PySem.W.nsIn K mainGlobals "is_tape" = some (some (.ref f2))) {od2 an2 : Option Addr} {sl2 : Array (Option Value)} {oc2 kV2 dc2 pm2 cd2 ct2 : Value} (l2 : K.lookup f2 = some ⟨oc2, od2, .func (PySem.W.fnOf "is_tape" "is_tape" (defArgs t_is_tape.st) (defBody t_is_tape.st) (defScope t_is_tape.st) .none kV2 dc2 pm2 an2 cd2 ct2), sl2⟩) (c2 : PySem.W.codeIn K cd2 "is_tape" = true) (k2 : PySem.W.keepIn K (.ref f2) = true)
    {f3 : Addr} (a3 : PySem.W.nsIn K mainGlobals "word_of" = some (some (.ref f3))) {od3 an3 : Option Addr} {sl3 : Array (Option Value)} {oc3 kV3 dc3 pm3 cd3 ct3 : Value} (l3 : K.lookup f3 = some ⟨oc3, od3, .func (PySem.W.fnOf "word_of" "word_of" (defArgs t_word_of.st) (defBody t_word_of.st) (defScope t_word_of.st) .none kV3 dc3 pm3 an3 cd3 ct3), sl3⟩) (c3 : PySem.W.codeIn K cd3 "word_of" = true) (k3 : PySem.W.keepIn K (.ref f3) = true)
    {f4 : Addr} (a4 : PySem.W.nsIn K mainGlobals "tape_line" = some (some (.ref f4))) {od4 an4 : Option Addr} {sl4 : Array (Option Value)} {oc4 kV4 dc4 pm4 cd4 ct4 : Value} (l4 : K.lookup f4 = some ⟨oc4, od4, .func (PySem.W.fnOf "tape_line" "tape_line" (defArgs t_tape_line.st) (defBody t_tape_line.st) (defScope t_tape_line.st) .none kV4 dc4 pm4 an4 cd4 ct4), sl4⟩) (c4 : PySem.W.codeIn K cd4 "tape_line" = true) (k4 : PySem.W.keepIn K (.ref f4) = true)
    {f5 : Addr} (a5 : PySem.W.nsIn K mainGlobals "read_tape" = some (some (.ref f5))) {od5 an5 : Option Addr} {sl5 : Array (Option Value)} {oc5 kV5 dc5 pm5 cd5 ct5 : Value} (l5 : K.lookup f5 = some ⟨oc5, od5, .func (PySem.W.fnOf "read_tape" "read_tape" (defArgs t_read_tape.st) (defBody t_read_tape.st) (defScope t_read_tape.st) .none kV5 dc5 pm5 an5 cd5 ct5), sl5⟩) (c5 : PySem.W.codeIn K cd5 "read_tape" = true) (k5 : PySem.W.keepIn K (.ref f5) = true)
    {f6 : Addr} (a6 : PySem.W.nsIn K mainGlobals "_law_draws" = some (some (.ref f6))) {od6 an6 : Option Addr} {sl6 : Array (Option Value)} {oc6 kV6 dc6 pm6 cd6 ct6 : Value} (l6 : K.lookup f6 = some ⟨oc6, od6, .func (PySem.W.fnOf "_law_draws" "_law_draws" (defArgs t_law_draws.st) (defBody t_law_draws.st) (defScope t_law_draws.st) .none kV6 dc6 pm6 an6 cd6 ct6), sl6⟩) (c6 : PySem.W.codeIn K cd6 "_law_draws" = true) (k6 : PySem.W.keepIn K (.ref f6) = true)
    {f7 : Addr} (a7 : PySem.W.nsIn K mainGlobals "_law_is_number" = some (some (.ref f7))) {od7 an7 : Option Addr} {sl7 : Array (Option Value)} {oc7 kV7 dc7 pm7 cd7 ct7 : Value} (l7 : K.lookup f7 = some ⟨oc7, od7, .func (PySem.W.fnOf "_law_is_number" "_law_is_number" (defArgs t_law_is_number.st) (defBody t_law_is_number.st) (defScope t_law_is_number.st) .none kV7 dc7 pm7 an7 cd7 ct7), sl7⟩) (c7 : PySem.W.codeIn K cd7 "_law_is_number" = true) (k7 : PySem.W.keepIn K (.ref f7) = true)
    {f8 : Addr} (a8 : PySem.W.nsIn K mainGlobals "_law_word" = some (some (.ref f8))) {od8 an8 : Option Addr} {sl8 : Array (Option Value)} {oc8 kV8 dc8 pm8 cd8 ct8 : Value} (l8 : K.lookup f8 = some ⟨oc8, od8, .func (PySem.W.fnOf "_law_word" "_law_word" (defArgs t_law_word.st) (defBody t_law_word.st) (defScope t_law_word.st) .none kV8 dc8 pm8 an8 cd8 ct8), sl8⟩) (c8 : PySem.W.codeIn K cd8 "_law_word" = true) (k8 : PySem.W.keepIn K (.ref f8) = true)
    {f9 : Addr} (a9 : PySem.W.nsIn K mainGlobals "_law_spoilt" = some (some (.ref f9))) {od9 an9 : Option Addr} {sl9 : Array (Option Value)} {oc9 kV9 dc9 pm9 cd9 ct9 : Value} (l9 : K.lookup f9 = some ⟨oc9, od9, .func (PySem.W.fnOf "_law_spoilt" "_law_spoilt" (defArgs t_law_spoilt.st) (defBody t_law_spoilt.st) (defScope t_law_spoilt.st) .none kV9 dc9 pm9 an9 cd9 ct9), sl9⟩) (c9 : PySem.W.codeIn K cd9 "_law_spoilt" = true) (k9 : PySem.W.keepIn K (.ref f9) = true)
    {f10 : Addr} (a10 : PySem.W.nsIn K mainGlobals "_law_refused" = some (some (.ref f10))) {od10 an10 : Option Addr} {sl10 : Array (Option Value)} {oc10 kV10 dc10 pm10 cd10 ct10 : Value} (l10 : K.lookup f10 = some ⟨oc10, od10, .func (PySem.W.fnOf "_law_refused" "_law_refused" (defArgs t_law_refused.st) (defBody t_law_refused.st) (defScope t_law_refused.st) .none kV10 dc10 pm10 an10 cd10 ct10), sl10⟩) (c10 : PySem.W.codeIn K cd10 "_law_refused" = true) (k10 : PySem.W.keepIn K (.ref f10) = true)
    {f11 : Addr} (a11 : PySem.W.nsIn K mainGlobals "law" = some (some (.ref f11))) {od11 an11 : Option Addr} {sl11 : Array (Option Value)} {oc11 kV11 dc11 pm11 cd11 ct11 : Value} (l11 : K.lookup f11 = some ⟨oc11, od11, .func (PySem.W.fnOf "law" "law" (defArgs t_law.st) (defBody t_law.st) (defScope t_law.st) .none kV11 dc11 pm11 an11 cd11 ct11), sl11⟩) (c11 : PySem.W.codeIn K cd11 "law" = true) (k11 : PySem.W.keepIn K (.ref f11) = true)
    (z0 : PySem.W.nsIn K mainGlobals "abs" = some none)
    (z1 : PySem.W.nsIn K mainGlobals "all" = some none)
    (z2 : PySem.W.nsIn K mainGlobals "bool" = some none)
    (z3 : PySem.W.nsIn K mainGlobals "int" = some none)
    (z4 : PySem.W.nsIn K mainGlobals "isinstance" = some none)
    (z5 : PySem.W.nsIn K mainGlobals "len" = some none)
    (z6 : PySem.W.nsIn K mainGlobals "range" = some none)
    (z7 : PySem.W.nsIn K mainGlobals "str" = some none)
    (z8 : PySem.W.nsIn K mainGlobals "tuple" = some none)
    {CBadTape : Addr} (e0BadTape : PySem.W.nsIn K mainGlobals "BadTape" = some (some (.ref CBadTape)))
    {CNoRoom : Addr} (e0NoRoom : PySem.W.nsIn K mainGlobals "NoRoom" = some (some (.ref CNoRoom)))
    {CRametError : Addr} (e0RametError : PySem.W.nsIn K mainGlobals "RametError" = some (some (.ref CRametError)))
    (e0ValueError : PySem.W.nsIn K mainGlobals "ValueError" = some none)
    (eqBadTape : PySem.W.excIn K CBadTape [.type "ValueError", .type "Exception", .type "BaseException", .type "object"] "ValueError.__new__" = true)
    (ekBadTape : PySem.W.keepIn K (.ref CBadTape) = true)
    (esBadTape : PySem.W.subIn K (.ref CBadTape) (.type "BaseException") = some true)
    (etBadTape : PySem.W.typeIn K (.ref CBadTape) = some (.type "type"))
    (eaBadTape : PySem.W.findIn K (.ref CBadTape) "__getattribute__" = some (some (.builtin "BaseException.__getattribute__")))
    (ebBadTape : PySem.W.findIn K (.ref CBadTape) "__getattr__" = some none)
    (edBadTape : PySem.W.hasDictIn K CBadTape = true)
    (efBadTape : PySem.W.findIn K (.ref CBadTape) "__class__" = some (some (.builtin "object.__class__")))
    (emBadTape : PySem.W.mroIn K CBadTape (.type "object") = some true)
    (en0 : PySem.W.specialIn K (.builtin "object.__class__") "__get__" = some (some (.builtin "getset_descriptor.__get__"))) (en1 : PySem.W.takesIn K (.builtin "object.__class__") = some true)
    (ydBadTape : PySem.W.hasDictIn K CBadTape = true)
    (ytBadTape : PySem.W.typeIn K (.ref CBadTape) = some (.type "type"))
    (ysBadTape : PySem.W.subIn K (.ref CBadTape) (.type "BaseException") = some true)
    (yrBadTape : PySem.W.subIn K (.ref CBadTape) (.ref CBadTape) = some true)
    (ei0BadTape : PySem.W.subIn K (.ref CBadTape) (.ref CBadTape) = some true)
    (ydNoRoom : PySem.W.hasDictIn K CNoRoom = true)
    (ytNoRoom : PySem.W.typeIn K (.ref CNoRoom) = some (.type "type"))
    (ysNoRoom : PySem.W.subIn K (.ref CNoRoom) (.type "BaseException") = some true)
    (yrNoRoom : PySem.W.subIn K (.ref CNoRoom) (.ref CNoRoom) = some true)
    (ei0NoRoom : PySem.W.subIn K (.ref CBadTape) (.ref CNoRoom) = some false)
    (ydRametError : PySem.W.hasDictIn K CRametError = true)
    (ytRametError : PySem.W.typeIn K (.ref CRametError) = some (.type "type"))
    (ysRametError : PySem.W.subIn K (.ref CRametError) (.type "BaseException") = some true)
    (yrRametError : PySem.W.subIn K (.ref CRametError) (.ref CRametError) = some true)
    (ei0RametError : PySem.W.subIn K (.ref CBadTape) (.ref CRametError) = some true)
    (ysValueError : PySem.W.subIn K (.type "ValueError") (.type "BaseException") = some true)
    (ei0ValueError : PySem.W.subIn K (.ref CBadTape) (.type "ValueError") = some true)
    {gt0 : Tok} (g0 : PySem.W.nsIn K mainGlobals "DIGIT" = some (some (.int 8 gt0)))
    {gt1 : Tok} (g1 : PySem.W.nsIn K mainGlobals "END" = some (some (.int 7 gt1)))
    {gt2 : Tok} (g2 : PySem.W.nsIn K mainGlobals "FORTH" = some (some (.int 3 gt2)))
    {gt3 : Tok} (g3 : PySem.W.nsIn K mainGlobals "LEFT" = some (some (.int 1 gt3)))
    {gt4 : Tok} (g4 : PySem.W.nsIn K mainGlobals "MOST_SYMBOLS" = some (some (.int 400 gt4)))
    {gt5 : Tok} (g5 : PySem.W.nsIn K mainGlobals "PORT" = some (some (.int 4 gt5)))
    {gt6 : Tok} (g6 : PySem.W.nsIn K mainGlobals "RIGHT" = some (some (.int 2 gt6)))
    {gt7 : Tok} (g7 : PySem.W.nsIn K mainGlobals "START" = some (some (.int 6 gt7)))
    {gt8 : Tok} (g8 : PySem.W.nsIn K mainGlobals "STATES" = some (some (.int 73 gt8)))
    {gt9 : Tok} (g9 : PySem.W.nsIn K mainGlobals "STOP" = some (some (.int 5 gt9)))
    {ga10 : Addr} {gn10 : Nat} {gt10_0 : Tok} {gu10_0 : Tok} {gt10_1 : Tok} {gu10_1 : Tok} {gt10_2 : Tok} {gu10_2 : Tok} {gt10_3 : Tok} {gu10_3 : Tok} {gt10_4 : Tok} {gu10_4 : Tok} {gt10_5 : Tok} {gu10_5 : Tok} {gt10_6 : Tok} {gu10_6 : Tok} (g10 : PySem.W.nsIn K mainGlobals "WORDS" = some (some (.ref ga10))) (gl10 : K.lookup ga10 = some ⟨.type "dict", none, .dict #[⟨hashInt 6, .int 6 gt10_0, .str "start" gu10_0⟩, ⟨hashInt 5, .int 5 gt10_1, .str "stop" gu10_1⟩, ⟨hashInt 4, .int 4 gt10_2, .str "port" gu10_2⟩, ⟨hashInt 7, .int 7 gt10_3, .str "end" gu10_3⟩, ⟨hashInt 3, .int 3 gt10_4, .str "forth" gu10_4⟩, ⟨hashInt 1, .int 1 gt10_5, .str "left" gu10_5⟩, ⟨hashInt 2, .int 2 gt10_6, .str "right" gu10_6⟩] gn10, #[]⟩) (gy10 : (ga10 == sysModules) = false)
    {gt11 : Tok} (g11 : PySem.W.nsIn K mainGlobals "WRITE" = some (some (.int 24 gt11))) :
    Facts w K mg (gam K) Ts glbs blts exs isa atrs := by
  refine ⟨?_, ?_, ?_, ?_, ?_, ?_⟩
  · simp only [Ts, List.forall_mem_cons]
    refine ⟨?_, ?_, ?_, ?_, ?_, ?_, ?_, ?_, ?_, ?_, ?_, ?_, fun _ h => nomatch h⟩
    · exact FactT.of_fn (t := t_is_symbol) (x := "is_symbol") rfl (fun_mk (st := t_is_symbol.st) l0 c0 k0) (PySem.W.mg_of X G a0) k0 ((fun_mk (st := t_is_symbol.st) l0 c0 k0).binds (ps := t_is_symbol.ps) fun _ _ _ _ _ _ us hl => match us, hl with | [_], _ => rfl)
    · exact FactT.of_fn (t := t_is_command) (x := "is_command") rfl (fun_mk (st := t_is_command.st) l1 c1 k1) (PySem.W.mg_of X G a1) k1 ((fun_mk (st := t_is_command.st) l1 c1 k1).binds (ps := t_is_command.ps) fun _ _ _ _ _ _ us hl => match us, hl with | [_], _ => rfl)
    · exact FactT.of_fn (t := t_is_tape) (x := "is_tape") rfl (fun_mk (st := t_is_tape.st) l2 c2 k2) (PySem.W.mg_of X G a2) k2 ((fun_mk (st := t_is_tape.st) l2 c2 k2).binds (ps := t_is_tape.ps) fun _ _ _ _ _ _ us hl => match us, hl with | [_], _ => rfl)
    · exact FactT.of_fn (t := t_word_of) (x := "word_of") rfl (fun_mk (st := t_word_of.st) l3 c3 k3) (PySem.W.mg_of X G a3) k3 ((fun_mk (st := t_word_of.st) l3 c3 k3).binds (ps := t_word_of.ps) fun _ _ _ _ _ _ us hl => match us, hl with | [_], _ => rfl)
    · exact FactT.of_fn (t := t_tape_line) (x := "tape_line") rfl (fun_mk (st := t_tape_line.st) l4 c4 k4) (PySem.W.mg_of X G a4) k4 ((fun_mk (st := t_tape_line.st) l4 c4 k4).binds (ps := t_tape_line.ps) fun _ _ _ _ _ _ us hl => match us, hl with | [_], _ => rfl)
    · exact FactT.of_fn (t := t_read_tape) (x := "read_tape") rfl (fun_mk (st := t_read_tape.st) l5 c5 k5) (PySem.W.mg_of X G a5) k5 ((fun_mk (st := t_read_tape.st) l5 c5 k5).binds (ps := t_read_tape.ps) fun _ _ _ _ _ _ us hl => match us, hl with | [_], _ => rfl)
    · exact FactT.of_fn (t := t_law_draws) (x := "_law_draws") rfl (fun_mk (st := t_law_draws.st) l6 c6 k6) (PySem.W.mg_of X G a6) k6 ((fun_mk (st := t_law_draws.st) l6 c6 k6).binds (ps := t_law_draws.ps) fun _ _ _ _ _ _ us hl => match us, hl with | [_, _], _ => rfl)
    · exact FactT.of_fn (t := t_law_is_number) (x := "_law_is_number") rfl (fun_mk (st := t_law_is_number.st) l7 c7 k7) (PySem.W.mg_of X G a7) k7 ((fun_mk (st := t_law_is_number.st) l7 c7 k7).binds (ps := t_law_is_number.ps) fun _ _ _ _ _ _ us hl => match us, hl with | [_], _ => rfl)
    · exact FactT.of_fn (t := t_law_word) (x := "_law_word") rfl (fun_mk (st := t_law_word.st) l8 c8 k8) (PySem.W.mg_of X G a8) k8 ((fun_mk (st := t_law_word.st) l8 c8 k8).binds (ps := t_law_word.ps) fun _ _ _ _ _ _ us hl => match us, hl with | [_], _ => rfl)
    · exact FactT.of_fn (t := t_law_spoilt) (x := "_law_spoilt") rfl (fun_mk (st := t_law_spoilt.st) l9 c9 k9) (PySem.W.mg_of X G a9) k9 ((fun_mk (st := t_law_spoilt.st) l9 c9 k9).binds (ps := t_law_spoilt.ps) fun _ _ _ _ _ _ us hl => match us, hl with | [_, _], _ => rfl)
    · exact FactT.of_fn (t := t_law_refused) (x := "_law_refused") rfl (fun_mk (st := t_law_refused.st) l10 c10 k10) (PySem.W.mg_of X G a10) k10 ((fun_mk (st := t_law_refused.st) l10 c10 k10).binds (ps := t_law_refused.ps) fun _ _ _ _ _ _ us hl => match us, hl with | [_], _ => rfl)
    · exact FactT.of_fn (t := t_law) (x := "law") rfl (fun_mk (st := t_law.st) l11 c11 k11) (PySem.W.mg_of X G a11) k11 ((fun_mk (st := t_law.st) l11 c11 k11).binds (ps := t_law.ps) fun _ _ _ _ _ _ us hl => match us, hl with | [_], _ => rfl)
  · simp only [glbs, List.forall_mem_cons]
    exact ⟨⟨_, .int 8, PySem.W.mg_of X G g0, ⟨_, rfl⟩, fun _ _ => .int _⟩, ⟨_, .int 7, PySem.W.mg_of X G g1, ⟨_, rfl⟩, fun _ _ => .int _⟩, ⟨_, .int 3, PySem.W.mg_of X G g2, ⟨_, rfl⟩, fun _ _ => .int _⟩, ⟨_, .int 1, PySem.W.mg_of X G g3, ⟨_, rfl⟩, fun _ _ => .int _⟩, ⟨_, .int 400, PySem.W.mg_of X G g4, ⟨_, rfl⟩, fun _ _ => .int _⟩, ⟨_, .int 4, PySem.W.mg_of X G g5, ⟨_, rfl⟩, fun _ _ => .int _⟩, ⟨_, .int 2, PySem.W.mg_of X G g6, ⟨_, rfl⟩, fun _ _ => .int _⟩, ⟨_, .int 6, PySem.W.mg_of X G g7, ⟨_, rfl⟩, fun _ _ => .int _⟩, ⟨_, .int 73, PySem.W.mg_of X G g8, ⟨_, rfl⟩, fun _ _ => .int _⟩, ⟨_, .int 5, PySem.W.mg_of X G g9, ⟨_, rfl⟩, fun _ _ => .int _⟩, ⟨ga10, _, _, PySem.W.mg_of X G g10, gl10, (by simp only [List.mem_toArray, List.forall_mem_cons]; exact ⟨⟨_, _, rfl, rfl⟩, ⟨_, _, rfl, rfl⟩, ⟨_, _, rfl, rfl⟩, ⟨_, _, rfl, rfl⟩, ⟨_, _, rfl, rfl⟩, ⟨_, _, rfl, rfl⟩, ⟨_, _, rfl, rfl⟩, fun _ h => nomatch h⟩), gy10, (fun i hd => by
      simp only [kv_WORDS, List.lookup_cons, List.lookup_nil] at hd
      by_cases e0 : i = 6
      · subst e0; cases hd
      rw [show (i == 6) = false from beq_eq_false_iff_ne.mpr e0] at hd
      by_cases e1 : i = 5
      · subst e1; cases hd
      rw [show (i == 5) = false from beq_eq_false_iff_ne.mpr e1] at hd
      by_cases e2 : i = 4
      · subst e2; cases hd
      rw [show (i == 4) = false from beq_eq_false_iff_ne.mpr e2] at hd
      by_cases e3 : i = 7
      · subst e3; cases hd
      rw [show (i == 7) = false from beq_eq_false_iff_ne.mpr e3] at hd
      by_cases e4 : i = 3
      · subst e4; cases hd
      rw [show (i == 3) = false from beq_eq_false_iff_ne.mpr e4] at hd
      by_cases e5 : i = 1
      · subst e5; cases hd
      rw [show (i == 1) = false from beq_eq_false_iff_ne.mpr e5] at hd
      by_cases e6 : i = 2
      · subst e6; cases hd
      rw [show (i == 2) = false from beq_eq_false_iff_ne.mpr e6] at hd
      simp [PySem.findBy, PySem.Value.isInt, Ne.symm e0, Ne.symm e1, Ne.symm e2, Ne.symm e3, Ne.symm e4, Ne.symm e5, Ne.symm e6]), fun i d hd => by
      simp only [kv_WORDS, List.lookup_cons, List.lookup_nil] at hd
      by_cases e0 : i = 6
      · subst e0; cases hd; exact ⟨_, .str "start", rfl, ⟨_, rfl⟩, fun _ _ => .str _⟩
      rw [show (i == 6) = false from beq_eq_false_iff_ne.mpr e0] at hd
      by_cases e1 : i = 5
      · subst e1; cases hd; exact ⟨_, .str "stop", rfl, ⟨_, rfl⟩, fun _ _ => .str _⟩
      rw [show (i == 5) = false from beq_eq_false_iff_ne.mpr e1] at hd
      by_cases e2 : i = 4
      · subst e2; cases hd; exact ⟨_, .str "port", rfl, ⟨_, rfl⟩, fun _ _ => .str _⟩
      rw [show (i == 4) = false from beq_eq_false_iff_ne.mpr e2] at hd
      by_cases e3 : i = 7
      · subst e3; cases hd; exact ⟨_, .str "end", rfl, ⟨_, rfl⟩, fun _ _ => .str _⟩
      rw [show (i == 7) = false from beq_eq_false_iff_ne.mpr e3] at hd
      by_cases e4 : i = 3
      · subst e4; cases hd; exact ⟨_, .str "forth", rfl, ⟨_, rfl⟩, fun _ _ => .str _⟩
      rw [show (i == 3) = false from beq_eq_false_iff_ne.mpr e4] at hd
      by_cases e5 : i = 1
      · subst e5; cases hd; exact ⟨_, .str "left", rfl, ⟨_, rfl⟩, fun _ _ => .str _⟩
      rw [show (i == 1) = false from beq_eq_false_iff_ne.mpr e5] at hd
      by_cases e6 : i = 2
      · subst e6; cases hd; exact ⟨_, .str "right", rfl, ⟨_, rfl⟩, fun _ _ => .str _⟩
      rw [show (i == 2) = false from beq_eq_false_iff_ne.mpr e6] at hd
      cases hd⟩, ⟨_, .int 24, PySem.W.mg_of X G g11, ⟨_, rfl⟩, fun _ _ => .int _⟩, fun _ h => nomatch h⟩
  · simp only [blts, List.forall_mem_cons]
    exact ⟨PySem.W.mg_none_of X G z0, PySem.W.mg_none_of X G z1, PySem.W.mg_none_of X G z2, PySem.W.mg_none_of X G z3, PySem.W.mg_none_of X G z4, PySem.W.mg_none_of X G z5, PySem.W.mg_none_of X G z6, PySem.W.mg_none_of X G z7, PySem.W.mg_none_of X G z8, fun _ h => nomatch h⟩
  · intro c x h
    rcases c with _ | c
    · cases h; exact ⟨CBadTape, [.type "ValueError", .type "Exception", .type "BaseException", .type "object"], "ValueError", "ValueError.__new__", "ValueError.__init__", by simp only [gam, gamX, exs, List.getElem?_cons_zero, List.getElem?_cons_succ, e0BadTape], F.excBase_ValueError, eqBadTape, PySem.W.mg_of X G e0BadTape, ekBadTape, esBadTape, etBadTape, ⟨eaBadTape, ebBadTape, esBadTape, edBadTape, efBadTape, en0, en1, emBadTape⟩⟩
    cases h
  · simp only [isa, List.forall_mem_cons]
    refine ⟨?_, ?_, ?_, ?_, fun _ h => nomatch h⟩
    · refine ⟨.ref CBadTape, .ref CBadTape, fun u h => h, rfl, .inl (PySem.W.mg_of X G e0BadTape), fun c b h => ?_⟩
      rcases c with _ | c
      · cases h; rw [show gam K 0 = .ref CBadTape by simp only [gam, gamX, exs, List.getElem?_cons_zero, List.getElem?_cons_succ, e0BadTape]]; exact isa_ref ydBadTape ytBadTape ysBadTape yrBadTape ei0BadTape
      cases h
    · refine ⟨.ref CNoRoom, .ref CNoRoom, fun u h => h, rfl, .inl (PySem.W.mg_of X G e0NoRoom), fun c b h => ?_⟩
      rcases c with _ | c
      · cases h; rw [show gam K 0 = .ref CBadTape by simp only [gam, gamX, exs, List.getElem?_cons_zero, List.getElem?_cons_succ, e0BadTape]]; exact isa_ref ydNoRoom ytNoRoom ysNoRoom yrNoRoom ei0NoRoom
      cases h
    · refine ⟨.ref CRametError, .ref CRametError, fun u h => h, rfl, .inl (PySem.W.mg_of X G e0RametError), fun c b h => ?_⟩
      rcases c with _ | c
      · cases h; rw [show gam K 0 = .ref CBadTape by simp only [gam, gamX, exs, List.getElem?_cons_zero, List.getElem?_cons_succ, e0BadTape]]; exact isa_ref ydRametError ytRametError ysRametError yrRametError ei0RametError
      cases h
    · refine ⟨.type "ValueError", .ty "ValueError", fun u h => h, rfl, .inr ⟨PySem.W.mg_none_of X G e0ValueError, by decide +kernel, by decide⟩, fun c b h => ?_⟩
      rcases c with _ | c
      · cases h; rw [show gam K 0 = .ref CBadTape by simp only [gam, gamX, exs, List.getElem?_cons_zero, List.getElem?_cons_succ, e0BadTape]]; exact isa_ty (by decide +kernel) ysValueError ei0ValueError
      cases h
  · simp only [atrs, List.forall_mem_cons]
    exact fun _ h => nomatch h
theorem facts2 {w : World} {K : PySem.W.Frag} {h : Heap} {mg : Str → Option Value} {fa : Addr} (X : K.In h) (G : h.Ns mainGlobals mg) (hfa : mg "law" = some (.ref fa))
    {f0 : Addr} (a0 : PySem.W.nsIn K mainGlobals "is_symbol" = some (some (.ref f0))) {od0 an0 : Option Addr} {sl0 : Array (Option Value)} {oc0 kV0 dc0 pm0 cd0 ct0 : Value} (l0 : K.lookup f0 = some ⟨oc0, od0, .func (PySem.W.fnOf "is_symbol" "is_symbol" (defArgs t_is_symbol.st) (defBody t_is_symbol.st) (defScope t_is_symbol.st) .none kV0 dc0 pm0 an0 cd0 ct0), sl0⟩) (c0 : PySem.W.codeIn K cd0 "is_symbol" = true) (k0 : PySem.W.keepIn K (.ref f0) = true)
    {f1 : Addr} (a1 : PySem.W.nsIn K mainGlobals "is_command" = some (some (.ref f1))) {od1 an1 : Option Addr} {sl1 : Array (Option Value)} {oc1 kV1 dc1 pm1 cd1 ct1 : Value} (l1 : K.lookup f1 = some ⟨oc1, od1, .func (PySem.W.fnOf "is_command" "is_command" (defArgs t_is_command.st) (defBody t_is_command.st) (defScope t_is_command.st) .none kV1 dc1 pm1 an1 cd1 ct1), sl1⟩) (c1 : PySem.W.codeIn K cd1 "is_command" = true) (k1 : PySem.W.keepIn K (.ref f1) = true)
    {f2 : Addr} (a2 : PySem.W.nsIn K mainGlobals "is_tape" = some (some (.ref f2))) {od2 an2 : Option Addr} {sl2 : Array (Option Value)} {oc2 kV2 dc2 pm2 cd2 ct2 : Value} (l2 : K.lookup f2 = some ⟨oc2, od2, .func (PySem.W.fnOf "is_tape" "is_tape" (defArgs t_is_tape.st) (defBody t_is_tape.st) (defScope t_is_tape.st) .none kV2 dc2 pm2 an2 cd2 ct2), sl2⟩) (c2 : PySem.W.codeIn K cd2 "is_tape" = true) (k2 : PySem.W.keepIn K (.ref f2) = true)
    {f3 : Addr} (a3 : PySem.W.nsIn K mainGlobals "word_of" = some (some (.ref f3))) {od3 an3 : Option Addr} {sl3 : Array (Option Value)} {oc3 kV3 dc3 pm3 cd3 ct3 : Value} (l3 : K.lookup f3 = some ⟨oc3, od3, .func (PySem.W.fnOf "word_of" "word_of" (defArgs t_word_of.st) (defBody t_word_of.st) (defScope t_word_of.st) .none kV3 dc3 pm3 an3 cd3 ct3), sl3⟩) (c3 : PySem.W.codeIn K cd3 "word_of" = true) (k3 : PySem.W.keepIn K (.ref f3) = true)
    {f4 : Addr} (a4 : PySem.W.nsIn K mainGlobals "tape_line" = some (some (.ref f4))) {od4 an4 : Option Addr} {sl4 : Array (Option Value)} {oc4 kV4 dc4 pm4 cd4 ct4 : Value} (l4 : K.lookup f4 = some ⟨oc4, od4, .func (PySem.W.fnOf "tape_line" "tape_line" (defArgs t_tape_line.st) (defBody t_tape_line.st) (defScope t_tape_line.st) .none kV4 dc4 pm4 an4 cd4 ct4), sl4⟩) (c4 : PySem.W.codeIn K cd4 "tape_line" = true) (k4 : PySem.W.keepIn K (.ref f4) = true)
    {f5 : Addr} (a5 : PySem.W.nsIn K mainGlobals "read_tape" = some (some (.ref f5))) {od5 an5 : Option Addr} {sl5 : Array (Option Value)} {oc5 kV5 dc5 pm5 cd5 ct5 : Value} (l5 : K.lookup f5 = some ⟨oc5, od5, .func (PySem.W.fnOf "read_tape" "read_tape" (defArgs t_read_tape.st) (defBody t_read_tape.st) (defScope t_read_tape.st) .none kV5 dc5 pm5 an5 cd5 ct5), sl5⟩) (c5 : PySem.W.codeIn K cd5 "read_tape" = true) (k5 : PySem.W.keepIn K (.ref f5) = true)
    {f6 : Addr} (a6 : PySem.W.nsIn K mainGlobals "_law_draws" = some (some (.ref f6))) {od6 an6 : Option Addr} {sl6 : Array (Option Value)} {oc6 kV6 dc6 pm6 cd6 ct6 : Value} (l6 : K.lookup f6 = some ⟨oc6, od6, .func (PySem.W.fnOf "_law_draws" "_law_draws" (defArgs t_law_draws.st) (defBody t_law_draws.st) (defScope t_law_draws.st) .none kV6 dc6 pm6 an6 cd6 ct6), sl6⟩) (c6 : PySem.W.codeIn K cd6 "_law_draws" = true) (k6 : PySem.W.keepIn K (.ref f6) = true)
    {f7 : Addr} (a7 : PySem.W.nsIn K mainGlobals "_law_is_number" = some (some (.ref f7))) {od7 an7 : Option Addr} {sl7 : Array (Option Value)} {oc7 kV7 dc7 pm7 cd7 ct7 : Value} (l7 : K.lookup f7 = some ⟨oc7, od7, .func (PySem.W.fnOf "_law_is_number" "_law_is_number" (defArgs t_law_is_number.st) (defBody t_law_is_number.st) (defScope t_law_is_number.st) .none kV7 dc7 pm7 an7 cd7 ct7), sl7⟩) (c7 : PySem.W.codeIn K cd7 "_law_is_number" = true) (k7 : PySem.W.keepIn K (.ref f7) = true)
    {f8 : Addr} (a8 : PySem.W.nsIn K mainGlobals "_law_word" = some (some (.ref f8))) {od8 an8 : Option Addr} {sl8 : Array (Option Value)} {oc8 kV8 dc8 pm8 cd8 ct8 : Value} (l8 : K.lookup f8 = some ⟨oc8, od8, .func (PySem.W.fnOf "_law_word" "_law_word" (defArgs t_law_word.st) (defBody t_law_word.st) (defScope t_law_word.st) .none kV8 dc8 pm8 an8 cd8 ct8), sl8⟩) (c8 : PySem.W.codeIn K cd8 "_law_word" = true) (k8 : PySem.W.keepIn K (.ref f8) = true)
    {f9 : Addr} (a9 : PySem.W.nsIn K mainGlobals "_law_spoilt" = some (some (.ref f9))) {od9 an9 : Option Addr} {sl9 : Array (Option Value)} {oc9 kV9 dc9 pm9 cd9 ct9 : Value} (l9 : K.lookup f9 = some ⟨oc9, od9, .func (PySem.W.fnOf "_law_spoilt" "_law_spoilt" (defArgs t_law_spoilt.st) (defBody t_law_spoilt.st) (defScope t_law_spoilt.st) .none kV9 dc9 pm9 an9 cd9 ct9), sl9⟩) (c9 : PySem.W.codeIn K cd9 "_law_spoilt" = true) (k9 : PySem.W.keepIn K (.ref f9) = true)
    {f10 : Addr} (a10 : PySem.W.nsIn K mainGlobals "_law_refused" = some (some (.ref f10))) {od10 an10 : Option Addr} {sl10 : Array (Option Value)} {oc10 kV10 dc10 pm10 cd10 ct10 : Value} (l10 : K.lookup f10 = some ⟨oc10, od10, .func (PySem.W.fnOf "_law_refused" "_law_refused" (defArgs t_law_refused.st) (defBody t_law_refused.st) (defScope t_law_refused.st) .none kV10 dc10 pm10 an10 cd10 ct10), sl10⟩) (c10 : PySem.W.codeIn K cd10 "_law_refused" = true) (k10 : PySem.W.keepIn K (.ref f10) = true)
    {f11 : Addr} (a11 : PySem.W.nsIn K mainGlobals "law" = some (some (.ref f11))) {od11 an11 : Option Addr} {sl11 : Array (Option Value)} {oc11 kV11 dc11 pm11 cd11 ct11 : Value} (l11 : K.lookup f11 = some ⟨oc11, od11, .func (PySem.W.fnOf "law" "law" (defArgs t_law.st) (defBody t_law.st) (defScope t_law.st) .none kV11 dc11 pm11 an11 cd11 ct11), sl11⟩) (c11 : PySem.W.codeIn K cd11 "law" = true) (k11 : PySem.W.keepIn K (.ref f11) = true)
    (z0 : PySem.W.nsIn K mainGlobals "abs" = some none)
    (z1 : PySem.W.nsIn K mainGlobals "all" = some none)
    (z2 : PySem.W.nsIn K mainGlobals "bool" = some none)
    (z3 : PySem.W.nsIn K mainGlobals "int" = some none)
    (z4 : PySem.W.nsIn K mainGlobals "isinstance" = some none)
    (z5 : PySem.W.nsIn K mainGlobals "len" = some none)
    (z6 : PySem.W.nsIn K mainGlobals "range" = some none)
    (z7 : PySem.W.nsIn K mainGlobals "str" = some none)
    (z8 : PySem.W.nsIn K mainGlobals "tuple" = some none)
    {CBadTape : Addr} (e0BadTape : PySem.W.nsIn K mainGlobals "BadTape" = some (some (.ref CBadTape)))
    {CNoRoom : Addr} (e0NoRoom : PySem.W.nsIn K mainGlobals "NoRoom" = some (some (.ref CNoRoom)))
    {CRametError : Addr} (e0RametError : PySem.W.nsIn K mainGlobals "RametError" = some (some (.ref CRametError)))
    (e0ValueError : PySem.W.nsIn K mainGlobals "ValueError" = some none)
    (eqBadTape : PySem.W.excIn K CBadTape [.type "ValueError", .type "Exception", .type "BaseException", .type "object"] "ValueError.__new__" = true)
    (ekBadTape : PySem.W.keepIn K (.ref CBadTape) = true)
    (esBadTape : PySem.W.subIn K (.ref CBadTape) (.type "BaseException") = some true)
    (etBadTape : PySem.W.typeIn K (.ref CBadTape) = some (.type "type"))
    (eaBadTape : PySem.W.findIn K (.ref CBadTape) "__getattribute__" = some (some (.builtin "BaseException.__getattribute__")))
    (ebBadTape : PySem.W.findIn K (.ref CBadTape) "__getattr__" = some none)
    (edBadTape : PySem.W.hasDictIn K CBadTape = true)
    (efBadTape : PySem.W.findIn K (.ref CBadTape) "__class__" = some (some (.builtin "object.__class__")))
    (emBadTape : PySem.W.mroIn K CBadTape (.type "object") = some true)
    (en0 : PySem.W.specialIn K (.builtin "object.__class__") "__get__" = some (some (.builtin "getset_descriptor.__get__"))) (en1 : PySem.W.takesIn K (.builtin "object.__class__") = some true)
    (ydBadTape : PySem.W.hasDictIn K CBadTape = true)
    (ytBadTape : PySem.W.typeIn K (.ref CBadTape) = some (.type "type"))
    (ysBadTape : PySem.W.subIn K (.ref CBadTape) (.type "BaseException") = some true)
    (yrBadTape : PySem.W.subIn K (.ref CBadTape) (.ref CBadTape) = some true)
    (ei0BadTape : PySem.W.subIn K (.ref CBadTape) (.ref CBadTape) = some true)
    (ydNoRoom : PySem.W.hasDictIn K CNoRoom = true)
    (ytNoRoom : PySem.W.typeIn K (.ref CNoRoom) = some (.type "type"))
    (ysNoRoom : PySem.W.subIn K (.ref CNoRoom) (.type "BaseException") = some true)
    (yrNoRoom : PySem.W.subIn K (.ref CNoRoom) (.ref CNoRoom) = some true)
    (ei0NoRoom : PySem.W.subIn K (.ref CBadTape) (.ref CNoRoom) = some false)
    (ydRametError : PySem.W.hasDictIn K CRametError = true)
    (ytRametError : PySem.W.typeIn K (.ref CRametError) = some (.type "type"))
    (ysRametError : PySem.W.subIn K (.ref CRametError) (.type "BaseException") = some true)
    (yrRametError : PySem.W.subIn K (.ref CRametError) (.ref CRametError) = some true)
    (ei0RametError : PySem.W.subIn K (.ref CBadTape) (.ref CRametError) = some true)
    (ysValueError : PySem.W.subIn K (.type "ValueError") (.type "BaseException") = some true)
    (ei0ValueError : PySem.W.subIn K (.ref CBadTape) (.type "ValueError") = some true)
    {gt0 : Tok} (g0 : PySem.W.nsIn K mainGlobals "DIGIT" = some (some (.int 8 gt0)))
    {gt1 : Tok} (g1 : PySem.W.nsIn K mainGlobals "END" = some (some (.int 7 gt1)))
    {gt2 : Tok} (g2 : PySem.W.nsIn K mainGlobals "FORTH" = some (some (.int 3 gt2)))
    {gt3 : Tok} (g3 : PySem.W.nsIn K mainGlobals "LEFT" = some (some (.int 1 gt3)))
    {gt4 : Tok} (g4 : PySem.W.nsIn K mainGlobals "MOST_SYMBOLS" = some (some (.int 400 gt4)))
    {gt5 : Tok} (g5 : PySem.W.nsIn K mainGlobals "PORT" = some (some (.int 4 gt5)))
    {gt6 : Tok} (g6 : PySem.W.nsIn K mainGlobals "RIGHT" = some (some (.int 2 gt6)))
    {gt7 : Tok} (g7 : PySem.W.nsIn K mainGlobals "START" = some (some (.int 6 gt7)))
    {gt8 : Tok} (g8 : PySem.W.nsIn K mainGlobals "STATES" = some (some (.int 73 gt8)))
    {gt9 : Tok} (g9 : PySem.W.nsIn K mainGlobals "STOP" = some (some (.int 5 gt9)))
    {ga10 : Addr} {gn10 : Nat} {gt10_0 : Tok} {gu10_0 : Tok} {gt10_1 : Tok} {gu10_1 : Tok} {gt10_2 : Tok} {gu10_2 : Tok} {gt10_3 : Tok} {gu10_3 : Tok} {gt10_4 : Tok} {gu10_4 : Tok} {gt10_5 : Tok} {gu10_5 : Tok} {gt10_6 : Tok} {gu10_6 : Tok} (g10 : PySem.W.nsIn K mainGlobals "WORDS" = some (some (.ref ga10))) (gl10 : K.lookup ga10 = some ⟨.type "dict", none, .dict #[⟨hashInt 6, .int 6 gt10_0, .str "start" gu10_0⟩, ⟨hashInt 5, .int 5 gt10_1, .str "stop" gu10_1⟩, ⟨hashInt 4, .int 4 gt10_2, .str "port" gu10_2⟩, ⟨hashInt 7, .int 7 gt10_3, .str "end" gu10_3⟩, ⟨hashInt 3, .int 3 gt10_4, .str "forth" gu10_4⟩, ⟨hashInt 1, .int 1 gt10_5, .str "left" gu10_5⟩, ⟨hashInt 2, .int 2 gt10_6, .str "right" gu10_6⟩] gn10, #[]⟩) (gy10 : (ga10 == sysModules) = false)
    {gt11 : Tok} (g11 : PySem.W.nsIn K mainGlobals "WRITE" = some (some (.int 24 gt11))) :
    Facts w K mg (gam K) Ts glbs blts exs isa atrs ∧ ∃ fd, Fun K t_law.x t_law.q t_law.st fa fd ∧ ∀ (s : Shared) (u : Value), BindsTo s fd ⟨[u], []⟩ [("_law_script", u)] := by
  have e := hfa.symm.trans (PySem.W.mg_of X G a11)
  cases e
  exact ⟨facts X G a0 l0 c0 k0 a1 l1 c1 k1 a2 l2 c2 k2 a3 l3 c3 k3 a4 l4 c4 k4 a5 l5 c5 k5 a6 l6 c6 k6 a7 l7 c7 k7 a8 l8 c8 k8 a9 l9 c9 k9 a10 l10 c10 k10 a11 l11 c11 k11 z0 z1 z2 z3 z4 z5 z6 z7 z8 e0BadTape e0NoRoom e0RametError e0ValueError eqBadTape ekBadTape esBadTape etBadTape eaBadTape ebBadTape edBadTape efBadTape emBadTape en0 en1 ydBadTape ytBadTape ysBadTape yrBadTape ei0BadTape ydNoRoom ytNoRoom ysNoRoom yrNoRoom ei0NoRoom ydRametError ytRametError ysRametError yrRametError ei0RametError ysValueError ei0ValueError g0 g1 g2 g3 g4 g5 g6 g7 g8 g9 g10 gl10 gy10 g11, _, fun_mk (st := t_law.st) l11 c11 k11, fun s u => .of_eq rfl⟩
end Lw
open PySem PySem.W PyProof.Rows
set_option maxRecDepth 100000 in
set_option maxHeartbeats 0 in
theorem PySem.Challenge.cw_ramet_k31_tapes_as_lines_holds : PySem.Challenge.rw_ramet_k31_tapes_as_lines.Holds := by
  w_on; o_law; k_head; (case hw => w_witness2)
  k_fill
  refine Ng.law_walk (l := PySem.Challenge.rw_ramet_k31_tapes_as_lines) (γ := Lw.gam) (Ts := Lw.Ts) (glb := Lw.glbs) (blt := Lw.blts) (k := 20) (f := 11) (t := Lw.t_law) (x := "_law_script") rfl rfl ⟨rfl, by decide, by decide⟩ (fun w h Y => PySem.W.kIn_of Y) Lw.texts_ok rfl (by intro c z; cases z) rfl ?F Lw.law_true
  case F =>
    intro w mg fa h KX G hmg
    refine' Lw.facts2 KX G hmg ?qy_a0 ?qy_l0 ?qy_c0 ?qy_k0 ?qy_a1 ?qy_l1 ?qy_c1 ?qy_k1 ?qy_a2 ?qy_l2 ?qy_c2 ?qy_k2 ?qy_a3 ?qy_l3 ?qy_c3 ?qy_k3 ?qy_a4 ?qy_l4 ?qy_c4 ?qy_k4 ?qy_a5 ?qy_l5 ?qy_c5 ?qy_k5 ?qy_a6 ?qy_l6 ?qy_c6 ?qy_k6 ?qy_a7 ?qy_l7 ?qy_c7 ?qy_k7 ?qy_a8 ?qy_l8 ?qy_c8 ?qy_k8 ?qy_a9 ?qy_l9 ?qy_c9 ?qy_k9 ?qy_a10 ?qy_l10 ?qy_c10 ?qy_k10 ?qy_a11 ?qy_l11 ?qy_c11 ?qy_k11 ?qy_z0 ?qy_z1 ?qy_z2 ?qy_z3 ?qy_z4 ?qy_z5 ?qy_z6 ?qy_z7 ?qy_z8 ?qy_e0BadTape ?qy_e0NoRoom ?qy_e0RametError ?qy_e0ValueError ?qy_eqBadTape ?qy_ekBadTape ?qy_esBadTape ?qy_etBadTape ?qy_eaBadTape ?qy_ebBadTape ?qy_edBadTape ?qy_efBadTape ?qy_emBadTape ?qy_en0 ?qy_en1 ?qy_ydBadTape ?qy_ytBadTape ?qy_ysBadTape ?qy_yrBadTape ?qy_ei0BadTape ?qy_ydNoRoom ?qy_ytNoRoom ?qy_ysNoRoom ?qy_yrNoRoom ?qy_ei0NoRoom ?qy_ydRametError ?qy_ytRametError ?qy_ysRametError ?qy_yrRametError ?qy_ei0RametError ?qy_ysValueError ?qy_ei0ValueError ?qy_g0 ?qy_g1 ?qy_g2 ?qy_g3 ?qy_g4 ?qy_g5 ?qy_g6 ?qy_g7 ?qy_g8 ?qy_g9 ?qy_g10 ?qy_gl10 ?qy_gy10 ?qy_g11
    (case qy_a0 => k_is)
    (case qy_l0 => k_is)
    (case qy_c0 => k_is)
    (case qy_k0 => k_is)
    (case qy_a1 => k_is)
    (case qy_l1 => k_is)
    (case qy_c1 => k_is)
    (case qy_k1 => k_is)
    (case qy_a2 => k_is)
    (case qy_l2 => k_is)
    (case qy_c2 => k_is)
    (case qy_k2 => k_is)
    (case qy_a3 => k_is)
    (case qy_l3 => k_is)
    (case qy_c3 => k_is)
    (case qy_k3 => k_is)
    (case qy_a4 => k_is)
    (case qy_l4 => k_is)
    (case qy_c4 => k_is)
    (case qy_k4 => k_is)
    (case qy_a5 => k_is)
    (case qy_l5 => k_is)
    (case qy_c5 => k_is)
    (case qy_k5 => k_is)
    (case qy_a6 => k_is)
    (case qy_l6 => k_is)
    (case qy_c6 => k_is)
    (case qy_k6 => k_is)
    (case qy_a7 => k_is)
    (case qy_l7 => k_is)
    (case qy_c7 => k_is)
    (case qy_k7 => k_is)
    (case qy_a8 => k_is)
    (case qy_l8 => k_is)
    (case qy_c8 => k_is)
    (case qy_k8 => k_is)
    (case qy_a9 => k_is)
    (case qy_l9 => k_is)
    (case qy_c9 => k_is)
    (case qy_k9 => k_is)
    (case qy_a10 => k_is)
    (case qy_l10 => k_is)
    (case qy_c10 => k_is)
    (case qy_k10 => k_is)
    (case qy_a11 => k_is)
    (case qy_l11 => k_is)
    (case qy_c11 => k_is)
    (case qy_k11 => k_is)
    (case qy_z0 => k_is)
    (case qy_z1 => k_is)
    (case qy_z2 => k_is)
    (case qy_z3 => k_is)
    (case qy_z4 => k_is)
    (case qy_z5 => k_is)
    (case qy_z6 => k_is)
    (case qy_z7 => k_is)
    (case qy_z8 => k_is)
    (case qy_e0BadTape => k_is)
    (case qy_e0NoRoom => k_is)
    (case qy_e0RametError => k_is)
    (case qy_e0ValueError => k_is)
    (case qy_eqBadTape => k_exc)
    (case qy_ekBadTape => k_is)
    (case qy_esBadTape => k_is)
    (case qy_etBadTape => k_is)
    (case qy_eaBadTape => k_is)
    (case qy_ebBadTape => k_is)
    (case qy_edBadTape => k_is)
    (case qy_efBadTape => k_is)
    (case qy_emBadTape => k_is)
    (case qy_en0 => k_is)
    (case qy_en1 => k_is)
    (case qy_ydBadTape => k_is)
    (case qy_ytBadTape => k_is)
    (case qy_ysBadTape => k_is)
    (case qy_yrBadTape => k_is)
    (case qy_ei0BadTape => k_is)
    (case qy_ydNoRoom => k_is)
    (case qy_ytNoRoom => k_is)
    (case qy_ysNoRoom => k_is)
    (case qy_yrNoRoom => k_is)
    (case qy_ei0NoRoom => k_is)
    (case qy_ydRametError => k_is)
    (case qy_ytRametError => k_is)
    (case qy_ysRametError => k_is)
    (case qy_yrRametError => k_is)
    (case qy_ei0RametError => k_is)
    (case qy_ysValueError => k_is)
    (case qy_ei0ValueError => k_is)
    (case qy_g0 => k_is)
    (case qy_g1 => k_is)
    (case qy_g2 => k_is)
    (case qy_g3 => k_is)
    (case qy_g4 => k_is)
    (case qy_g5 => k_is)
    (case qy_g6 => k_is)
    (case qy_g7 => k_is)
    (case qy_g8 => k_is)
    (case qy_g9 => k_is)
    (case qy_g10 => k_is)
    (case qy_gl10 => k_is)
    (case qy_gy10 => rfl)
    (case qy_g11 => k_is)

